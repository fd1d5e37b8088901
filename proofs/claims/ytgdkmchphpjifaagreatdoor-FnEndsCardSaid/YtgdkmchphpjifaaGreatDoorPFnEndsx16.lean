-- Printed by the kit's print and repaired by a program of this session.
import Derived.Test.YtgdkmchphpjifaaGreatDoorPFnEndsx0
import Derived.Test.YtgdkmchphpjifaaGreatDoorPFnEndsx3
import Derived.Test.YtgdkmchphpjifaaGreatDoorPFnEndsx4
import Derived.Test.YtgdkmchphpjifaaGreatDoorPFnEndsx5
import Derived.Test.YtgdkmchphpjifaaGreatDoorPFnEndsx6
import Derived.Test.YtgdkmchphpjifaaGreatDoorPFnEndsx11
import Derived.Test.YtgdkmchphpjifaaGreatDoorPFnEndsx12
import Derived.Test.YtgdkmchphpjifaaGreatDoorPFnEndsx13
import Derived.Test.YtgdkmchphpjifaaGreatDoorPFnEndsx14
import Derived.Test.YtgdkmchphpjifaaGreatDoorPFnEndsx15
namespace Go.Proofs.YtgdkmchphpjifaaGreatDoor.PFnEnds
open Go.RowKit Go.Proofs.YtgdkmchphpjifaaGreatDoorW.PrintWords Go.Proofs.YtgdkmchphpjifaaGreatDoorW.PrintLast Go.Proofs.YtgdkmchphpjifaaGreatDoorW.PrintMore
attribute [local go_sem] max2_int min2_int max_two min_two max_three min_three max_four min_four
set_option linter.unusedVariables false
set_option linter.unusedSimpArgs false

/-! ### spec_ParseBall: function 16 -/
def spec_ParseBall.f (k : Nat) (a0 : Int) (a1 : ByteArray) : Option (Int × Int × Int × Int) := (spec_l01Prime.f a0).bind fun t462 => (if t462 = true then ((spec_l01Read.f k a0 a1).bind fun bt463 => (if bt463.2.2.2 = true then (some (bt463.1, bt463.2.1, bt463.2.2.1, 0)) else (some (0, 0, 0, 6)))) else (some (0, 0, 0, 1)))
set_option maxHeartbeats 8000000 in
set_option maxRecDepth 100000 in
theorem spec_ParseBall.calls (k : Nat) (a0 : Int) (a1 : ByteArray) (r1 : Int) (r2 : Int) (r3 : Int) (r4 : Int) (w : World) (h : spec_ParseBall.f k a0 a1 = some (r1, r2, r3, r4)) :
  Calls Tryz.prog 16 #[.int .i64 a0, .string a1] w fun e w' => e = .returned (.tuple #[.agg #[.int .i64 r1, .int .i64 r2, .int .i64 r3], .int .i64 r4]) ∧ Below w.heap.size w w' := by
 have hu35 := Tryz.underlying35
 have HB := Aside0.mk (Below.refl w.heap.size w)
 unfold spec_ParseBall.f at h
 have H := h
 clear h
 replace H := zi H
 obtain ⟨t462, A3, H⟩ := H
 try dsimp only at H
 by_cases c4 : t462 = true
 ·subst c4
  rw [if_pos rfl] at H
  replace H := zi H
  obtain ⟨⟨t463, t464, t465, t466⟩, A5, H⟩ := H
  try dsimp only at H
  by_cases c6 : t466 = true
  ·subst c6
   rw [if_pos rfl] at H
   simp only [Option.some.injEq, Prod.mk.injEq] at H
   obtain ⟨rfl, rfl, rfl, rfl⟩ := H
   go_enter Tryz.func16, Tryz.ntmps16
   go_wp2_with (first | ((with_reducible refine zg 4 rfl ?_); refine z3 4 35 0 0 0 ?_; intro gb461 hg w7 BK461 hb; have GW461 := sg hg; replace HB := bs hb; clear hb hg) | ((with_reducible refine zf 46 rfl ?_); refine g1 (some 9) Tryz.func46 #[.int .i64 a0] ?_; (with_reducible refine (spec_l01Prime.calls a0 true _ A3.out).mono ?_); rintro e w' ⟨rfl, ⟨nd, rfl⟩⟩; refine ⟨_, rfl, ?_⟩; (try (rw [drewN_self w7]; generalize hq_ : World.drewN w7 _ = w7; have n0_ : Aside0 (w7.heap[gb461]? = some (.cells #[.int .i64 0, .int .i64 0, .int .i64 0] 35 (0, 0))) := ⟨by rw [← hq_]; exact (be BK461)⟩; have n1_ : Aside0 (Below w.heap.size w w7) := ⟨by rw [← hq_]; exact (bl)⟩; clear BK461 HB hq_; have BK461 := n0_; have HB := n1_; clear n0_ n1_))) | ((with_reducible refine zf 47 rfl ?_); refine g1 (some 15) Tryz.func47 #[.int .i64 a0, .string a1] ?_; (with_reducible refine (spec_l01Read.calls k a0 a1 t463 t464 t465 true _ A5.out).mono ?_); rintro e w8 ⟨rfl, hb⟩; refine ⟨_, rfl, ?_⟩; replace BK461 := bb BK461 hb; replace HB := bs hb; (try clear hb)) | ((with_reducible refine zg 6 rfl ?_); refine z3 6 35 0 0 0 ?_; intro gb467 hg w9 BK467 hb; have GW467 := sg hg; have NB461_467 := nl hg BK461; replace BK461 := bb BK461 hb; replace HB := bs hb; clear hb hg; obtain ⟨hnb10, hnc10⟩ := zm NB461_467; obtain ⟨hcz11_0, hcz11_1, hcz11_2, hfz11_0, hfz11_1, hfz11_2⟩ := cq3 BK467; obtain ⟨hcz12_0, hcz12_1, hcz12_2, hfz12_0, hfz12_1, hfz12_2⟩ := cq3 BK461))
   refine bodyPost_ret (results_ct rfl _ _ gb461 35 #[.int .i64 t463, .int .i64 t464, .int .i64 t465] (0, 0) _ rfl (bp) Tryz.underlying35 rfl (by kernel_rfl)) rfl ?_
   exact ⟨er, bl⟩
  ·replace c6 := Bool.eq_false_iff.mpr c6
   subst c6
   have H1 : (some (0, 0, 0, 6)) = some (r1, r2, r3, r4) := by rw [if_neg (show ¬ (false = true) by decide)] at H; exact H
   clear H
   have H := H1
   clear H1
   simp only [Option.some.injEq, Prod.mk.injEq] at H
   obtain ⟨rfl, rfl, rfl, rfl⟩ := H
   go_enter Tryz.func16, Tryz.ntmps16
   go_wp2_with (first | ((with_reducible refine zg 4 rfl ?_); refine z3 4 35 0 0 0 ?_; intro gb461 hg w13 BK461 hb; have GW461 := sg hg; replace HB := bs hb; clear hb hg) | ((with_reducible refine zf 46 rfl ?_); refine g1 (some 9) Tryz.func46 #[.int .i64 a0] ?_; (with_reducible refine (spec_l01Prime.calls a0 true _ A3.out).mono ?_); rintro e w' ⟨rfl, ⟨nd, rfl⟩⟩; refine ⟨_, rfl, ?_⟩; (try (rw [drewN_self w13]; generalize hq_ : World.drewN w13 _ = w13; have n0_ : Aside0 (w13.heap[gb461]? = some (.cells #[.int .i64 0, .int .i64 0, .int .i64 0] 35 (0, 0))) := ⟨by rw [← hq_]; exact (be BK461)⟩; have n1_ : Aside0 (Below w.heap.size w w13) := ⟨by rw [← hq_]; exact (bl)⟩; clear BK461 HB hq_; have BK461 := n0_; have HB := n1_; clear n0_ n1_))) | ((with_reducible refine zf 47 rfl ?_); refine g1 (some 15) Tryz.func47 #[.int .i64 a0, .string a1] ?_; (with_reducible refine (spec_l01Read.calls k a0 a1 t463 t464 t465 false _ A5.out).mono ?_); rintro e w14 ⟨rfl, hb⟩; refine ⟨_, rfl, ?_⟩; replace BK461 := bb BK461 hb; replace HB := bs hb; (try clear hb)) | ((with_reducible refine zg 6 rfl ?_); refine z3 6 35 0 0 0 ?_; intro gb467 hg w15 BK467 hb; have GW467 := sg hg; have NB461_467 := nl hg BK461; replace BK461 := bb BK461 hb; replace HB := bs hb; clear hb hg; obtain ⟨hnb16, hnc16⟩ := zm NB461_467; obtain ⟨hcz17_0, hcz17_1, hcz17_2, hfz17_0, hfz17_1, hfz17_2⟩ := cq3 BK467; obtain ⟨hcz18_0, hcz18_1, hcz18_2, hfz18_0, hfz18_1, hfz18_2⟩ := cq3 BK461))
   refine bodyPost_ret (results_ct rfl _ _ gb461 35 #[.int .i64 0, .int .i64 0, .int .i64 0] (0, 0) _ rfl (bp) Tryz.underlying35 rfl (by kernel_rfl)) rfl ?_
   exact ⟨er, bl⟩
 ·replace c4 := Bool.eq_false_iff.mpr c4
  subst c4
  have H1 : (some (0, 0, 0, 1)) = some (r1, r2, r3, r4) := by rw [if_neg (show ¬ (false = true) by decide)] at H; exact H
  clear H
  have H := H1
  clear H1
  simp only [Option.some.injEq, Prod.mk.injEq] at H
  obtain ⟨rfl, rfl, rfl, rfl⟩ := H
  go_enter Tryz.func16, Tryz.ntmps16
  go_wp2_with (first | ((with_reducible refine zg 4 rfl ?_); refine z3 4 35 0 0 0 ?_; intro gb461 hg w19 BK461 hb; have GW461 := sg hg; replace HB := bs hb; clear hb hg) | ((with_reducible refine zf 46 rfl ?_); refine g1 (some 9) Tryz.func46 #[.int .i64 a0] ?_; (with_reducible refine (spec_l01Prime.calls a0 false _ A3.out).mono ?_); rintro e w' ⟨rfl, ⟨nd, rfl⟩⟩; refine ⟨_, rfl, ?_⟩; (try (rw [drewN_self w19]; generalize hq_ : World.drewN w19 _ = w19; have n0_ : Aside0 (w19.heap[gb461]? = some (.cells #[.int .i64 0, .int .i64 0, .int .i64 0] 35 (0, 0))) := ⟨by rw [← hq_]; exact (be BK461)⟩; have n1_ : Aside0 (Below w.heap.size w w19) := ⟨by rw [← hq_]; exact (bl)⟩; clear BK461 HB hq_; have BK461 := n0_; have HB := n1_; clear n0_ n1_)); obtain ⟨hcz20_0, hcz20_1, hcz20_2, hfz20_0, hfz20_1, hfz20_2⟩ := cq3 BK461))
  refine bodyPost_ret (results_ct rfl _ _ gb461 35 #[.int .i64 0, .int .i64 0, .int .i64 0] (0, 0) _ rfl (bp) Tryz.underlying35 rfl (by kernel_rfl)) rfl ?_
  exact ⟨er, bl⟩

/-! ### spec_l01EndText: function 48 -/
def spec_l01EndText.f (k : Nat) (a0_0 : Int) (a0_1 : Int) : Option (ByteArray) := if a0_1 = 0 then (some (⟨#[105, 110, 102]⟩ : ByteArray)) else ((spec_l01Dec.f k a0_0).bind fun t469 => (if t469.size + 1 ≤ 9223372036854775807 then ((spec_l01Dec.f k a0_1).bind fun t470 => (if (t469 ++ (⟨#[47]⟩ : ByteArray)).size + t470.size ≤ 9223372036854775807 then (some ((t469 ++ (⟨#[47]⟩ : ByteArray)) ++ t470)) else (none))) else (none)))
def spec_l01EndText.T3 : Bool × List (List Nat × List Nat) := (true, [([], []), ([0], [0]), ([1], [1]), ([2], [2]), ([], []), ([4], [4]), ([5, 2], [5]), ([3, 6], [3, 6]), ([7, 6, 0, 1, 2, 3, 4, 5, 6, 7], [7])])
def spec_l01EndText.B3 : List Nat := [0, 1, 3, 7, 0, 16, 55, 127, 255]
theorem spec_l01EndText.tab3 : rtab .any (opsOf Tryz.f48 3) = spec_l01EndText.T3 := by kernel_rfl
theorem spec_l01EndText.bits3 : waitsOk spec_l01EndText.T3.2 spec_l01EndText.B3 = true := by kernel_rfl
set_option maxHeartbeats 8000000 in
set_option maxRecDepth 100000 in
theorem spec_l01EndText.calls (k : Nat) (a0_0 : Int) (a0_1 : Int) (r : ByteArray) (w : World) (h : spec_l01EndText.f k a0_0 a0_1 = some r) :
  Calls Tryz.prog 48 #[.agg #[.int .i64 a0_0, .int .i64 a0_1]] w fun e w' => e = .returned (.string r) ∧ Below w.heap.size w w' := by
 have hu27 := Tryz.underlying27
 have HB := Aside0.mk (Below.refl w.heap.size w)
 unfold spec_l01EndText.f at h
 have H := h
 clear h
 replace H := ii H
 rcases H with ⟨c2, H⟩ | ⟨c2, H⟩
 ·obtain ⟨c2b0, c2b1⟩ := zz c2
  clear c2
  obtain rfl := Option.some.inj H
  go_enter Tryz.func48, Tryz.ntmps48
  go_wp2_with (first | ((with_reducible refine zg 1 rfl ?_); refine zb 1 27 #[.int .i64 a0_0, .int .i64 a0_1] ?_; intro gb468 hg w3 BK468 hb; have GW468 := sg hg; replace HB := bs hb; clear hb hg; obtain ⟨hcz4_0, hcz4_1, hfz4_0, hfz4_1⟩ := z2 BK468))
  go_ret
  exact ⟨er, bl⟩
 ·obtain ⟨c2b0, c2b1⟩ := zy c2
  replace H := zi H
  obtain ⟨t469, A5, H⟩ := H
  try dsimp only at H
  replace H := ii H
  rcases H with ⟨c6, H⟩ | ⟨c6, H⟩
  ·have c6b0 := eq_true c6
   have c6b1 := decide_eq_true c6
   try have c6b2 : (9223372036854775807 < t469.size + 1) = False := eq_false (Nat.not_lt.2 c6)
   replace H := zi H
   obtain ⟨t470, A7, H⟩ := H
   try dsimp only at H
   replace H := ii H
   rcases H with ⟨c8, H⟩ | ⟨c8, H⟩
   ·have c8b0 := eq_true c8
    have c8b1 := decide_eq_true c8
    try have c8b2 : (9223372036854775807 < (t469 ++ (⟨#[47]⟩ : ByteArray)).size + t470.size) = False := eq_false (Nat.not_lt.2 c8)
    have c8b9 : (9223372036854775807 < t469.size + 1 + t470.size) = False := eq_false (by have h9_ := of_eq_false c8b2; simp only [ByteArray.size_append] at h9_; exact h9_)
    obtain rfl := Option.some.inj H
    go_enter Tryz.func48, Tryz.ntmps48
    try go_wp2_with (first | ((with_reducible refine zg 1 rfl ?_); refine zb 1 27 #[.int .i64 a0_0, .int .i64 a0_1] ?_; intro gb468 hg w9 BK468 hb; have GW468 := sg hg; replace HB := bs hb; clear hb hg; obtain ⟨hcz10_0, hcz10_1, hfz10_0, hfz10_1⟩ := z2 BK468))
    replace BK468 := Aside0.mk (blk_drew BK468.out)
    replace HB := Aside0.mk (below_drew1 HB.out)
    refine sw 9 (fun w' => w'.cell? ⟨gb468, 0, none⟩ = some (.int .i64 a0_0) ∧ w'.cell? ⟨gb468, 1, none⟩ = some (.int .i64 a0_1)) spec_l01EndText.tab3 spec_l01EndText.bits3 ⟨(blk_cell BK468.out 0).trans rfl, (blk_cell BK468.out 1).trans rfl⟩ (fun hHeld HT_ HW_ => ?_)
    generalize w9.drew = w11 at BK468 HB hHeld ⊢
    refine pu 0 (some 6) (tA 9 1) HT_ ?_
    refine pu 4 (some 10) (tA 9 17) HT_ ?_
    refine tk2 1 (some 7) (tA 9 19) HT_ HW_ hHeld ?_
    refine tk2 5 (some 11) (tA 9 51) HT_ HW_ hHeld ?_
    refine o1 2 (some 8) (tA 9 55) HT_ (fun K hK => ?_)
    refine gs Tryz.func67 #[.int .i64 a0_0] ?_
    with_reducible refine (spec_l01Dec.calls k a0_0 t469 _ A5.out).mono ?_
    rintro e w12 ⟨rfl, hb⟩
    refine ⟨_, rfl, ?_⟩
    replace BK468 := bb BK468 hb
    replace HB := bs hb
    (try clear hb)
    (try clear hb2)
    (try clear hk)
    (try clear hi)
    refine hK.out _ _ ⟨(blk_cell BK468.out 0).trans rfl, (blk_cell BK468.out 1).trans rfl⟩ (fun hHeld => ?_)
    clear hK K
    refine nm (some 8) ?_
    refine pu 3 (some 9) (tA 9 63) HT_ ?_
    refine o1 6 (some 12) (tA 9 127) HT_ (fun K hK => ?_)
    refine gs Tryz.func67 #[.int .i64 a0_1] ?_
    with_reducible refine (spec_l01Dec.calls k a0_1 t470 _ A7.out).mono ?_
    rintro e w13 ⟨rfl, hb⟩
    refine ⟨_, rfl, ?_⟩
    replace BK468 := bb BK468 hb
    replace HB := bs hb
    (try clear hb)
    (try clear hb2)
    (try clear hk)
    (try clear hi)
    refine hK.out _ _ ⟨(blk_cell BK468.out 0).trans rfl, (blk_cell BK468.out 1).trans rfl⟩ (fun hHeld => ?_)
    clear hK K
    refine nm (some 12) ?_
    refine pu 7 (some 13) (tA 9 255) HT_ ?_
    refine pu 8 (some 2) (tA 9 511) HT_ ?_
    refine done_ (done_of HT_.out (by kernel_rfl)) ?_
    try go_wp2
    go_ret
    exact ⟨er, bl⟩
   ·exact absurd H (by simp)
  ·exact absurd H (by simp)

/-! ### spec_l01DrawEnd: function 49 -/
def spec_l01DrawEnd.j0 : Nat → Int → Bool → List Int → Int → Int → Option (Int × Int × Int × Int)
 | 0, _, _, _, _, _ => none
 | k + 1, x8, x9, x1000, x1001, x1002 => if x9 = true then (some (1, 0, x1001, x1002)) else (if x8 = 2 then ((spec_l01Pick.f x1000 x1001 x1002 (([2, 0, 1000001] : List Int))).bind fun bt478 => ((spec_l01Pick.f x1000 bt478.2.1 bt478.2.2 (([0, 4, (-1)] : List Int))).bind fun bt484 => (some (bt478.1, bt484.1, bt484.2.1, bt484.2.2)))) else ((spec_l01Next.f x1000 x1001 x1002 20).bind fun bt487 => ((spec_l01Next.f x1000 bt487.2.1 bt487.2.2 200).bind fun bt490 => ((spec_l01Next.f x1000 bt490.2.1 bt490.2.2 2000001).bind fun bt493 => ((spec_l01Pick.f x1000 bt493.2.1 bt493.2.2 (([wrap64 (bt487.1 - 10), wrap64 (bt490.1 - 100), wrap64 (bt493.1 - 1000000)] : List Int))).bind fun bt499 => ((spec_l01Next.f x1000 bt499.2.1 bt499.2.2 20).bind fun bt502 => ((spec_l01Next.f x1000 bt502.2.1 bt502.2.2 8).bind fun bt505 => ((spec_l01Power.f k 2 bt505.1).bind fun t508 => ((spec_l01Next.f x1000 bt505.2.1 bt505.2.2 6).bind fun bt509 => ((spec_l01Power.f k 3 bt509.1).bind fun t512 => ((spec_l01Next.f x1000 bt509.2.1 bt509.2.2 1000000).bind fun bt513 => ((spec_l01Pick.f x1000 bt513.2.1 bt513.2.2 (([1, 1, wrap64 (1 + bt502.1), t508, t512, wrap64 (1 + bt513.1)] : List Int))).bind fun bt519 => ((spec_l01EndOf.f k bt499.1 bt519.1).bind fun bt522 => (some (bt522.1, bt522.2.1, bt519.2.1, bt519.2.2)))))))))))))))
def spec_l01DrawEnd.f (k : Nat) (s0_0 : List Int) (s0_1 : Int) (s0_2 : Int) : Option (Int × Int × Int × Int) := (spec_l01Next.f s0_0 s0_1 s0_2 30).bind fun bt472 => (if bt472.1 = 0 then (spec_l01DrawEnd.j0 k bt472.1 (bt472.1 == 0) s0_0 bt472.2.1 bt472.2.2) else (spec_l01DrawEnd.j0 k bt472.1 (bt472.1 == 1) s0_0 bt472.2.1 bt472.2.2))
set_option maxHeartbeats 8000000 in
set_option maxRecDepth 100000 in
theorem spec_l01DrawEnd.calls (k : Nat) (g : Nat) (s0_0 : List Int) (s0_1 : Int) (s0_2 : Int) (r1 : Int) (r2 : Int) (r3 : Int) (r4 : Int) (w0 w : World) (hI : IsS79 w0 w g s0_0 s0_1 s0_2) (hB : Below w0.heap.size w0 w) (h : spec_l01DrawEnd.f k s0_0 s0_1 s0_2 = some (r1, r2, r3, r4)) :
  Calls Tryz.prog 49 #[.pointer (some ⟨g, 0, none⟩)] w fun e w' => e = .returned (.agg #[.int .i64 r1, .int .i64 r2]) ∧ IsS79 w0 w' g s0_0 r3 r4 ∧ Below w0.heap.size w0 w' ∧ KeepBut w w' g none := by
 have hu27 := Tryz.underlying27
 have HI0 := Aside0.mk hI
 have HK := Aside0.mk (KeepBut.refl w g none)
 have HL := Aside0.mk hB.size
 clear hI
 have HW0 := Aside0.mk hB.size
 have HB := Aside0.mk hB
 clear hB
 unfold spec_l01DrawEnd.f at h
 have H := h
 clear h
 replace H := zi H
 obtain ⟨⟨t472, t473, t474⟩, A2, H⟩ := H
 try dsimp only at H
 have HC3 := Aside0.mk H
 clear H
 go_enter Tryz.func49, Tryz.ntmps49
 go_upto_if 9 with (first | ((with_reducible refine zg 2 rfl ?_); refine zb 2 27 #[.int .i64 0, .int .i64 0] ?_; intro gb471 hg w4 BK471 hb; have GW471 := Aside0.mk ((by rw [hg]; exact (keep_size (w := w) (g := g) (row := none) (kl)) : w.heap.size ≤ gb471)); have GE471 := Aside0.mk ((Nat.le_trans HW0.out (by rw [hg]; exact (keep_size (w := w) (g := g) (row := none) (kl)) : w.heap.size ≤ gb471) : w0.heap.size ≤ gb471)); have NB0_471 := Aside0.mk ((by rw [hg]; exact Nat.ne_of_lt (IsS79.lt (IsS79.a : IsS79 w0 _ g s0_0 s0_1 s0_2)) : g ≠ gb471)); have NB471_0 := Aside0.mk ((by rw [hg]; exact Nat.ne_of_gt (IsS79.lt (IsS79.a : IsS79 w0 _ g s0_0 s0_1 s0_2)) : gb471 ≠ g)); replace HK := Aside0.mk (KeepBut.trans (kl) (KeepBut.of_below hb g none) (.inl rfl)); replace HB := Aside0.mk (below_step IsS79.b hb); replace HI0 := Aside0.mk (IsS79.below (IsS79.a) hb); clear hb hg) | ((with_reducible refine zf 44 rfl ?_); refine g1 (some 8) Tryz.func44 #[.pointer (some ⟨g, 0, none⟩), .int .i64 30] ?_; (with_reducible refine (spec_l01Next.calls g s0_0 s0_1 s0_2 30 t472 t473 t474 w0 _ ?side1 ?side2 A2.out).mono ?_); (case side1 => exact IsS79.a); (case side2 => exact IsS79.b); rintro e w5 ⟨rfl, hi, hb, hk⟩; refine ⟨_, rfl, ?_⟩; replace BK471 := kb hk BK471 NB471_0; replace HK := Aside0.mk (KeepBut.trans (kl) hk (.inl rfl)); replace HI0 := Aside0.mk (hi); replace HB := Aside0.mk (hb); (try clear hb hk)))
 (try simp only [Act.put, zq, zr, zt])
 go_cut [9] (fun v9 wc => ∃ (kq : Nat) (x9_2 : Bool), v9 = .bool x9_2 ∧ Aside0 (spec_l01DrawEnd.j0 kq t472 x9_2 s0_0 t473 t474 = some (r1, r2, r3, r4)) ∧ Aside0 (kq ≤ k) ∧ Aside0 (wc.heap[gb471]? = some (.cells #[.int .i64 0, .int .i64 0] 27 (0, 0))) ∧ Aside0 (IsS79 w0 wc g s0_0 t473 t474) ∧ Aside0 (KeepBut w wc g none) ∧ Aside0 (Below w0.heap.size w0 wc))
 case first =>
  have H := HC3.out
  clear HC3
  replace H := ii H
  rcases H with ⟨c6, H⟩ | ⟨c6, H⟩
  ·obtain ⟨c6b0, c6b1⟩ := zz c6
   clear c6
   (first | rw [c6b0] | (simp only [i64_w, i32_w]; rw [c6b0]) | skip)
   have H' := Aside0.mk H
   clear H
   go_wp2
   go_meet
   case rel => exact ⟨_, ((t472 == 0)), (by first | rfl | (simp; done) | (simp [*]; done)), H', ⟨by first | omega | exact Nat.le_refl _⟩, ⟨be BK471⟩, ⟨IsS79.a⟩, ⟨kl⟩, ⟨IsS79.b⟩⟩
  ·obtain ⟨c6b0, c6b1⟩ := zy c6
   (first | rw [c6b0] | (simp only [i64_w, i32_w]; rw [c6b0]) | skip)
   have H' := Aside0.mk H
   clear H
   go_wp2
   go_meet
   case rel => exact ⟨_, ((t472 == 1)), (by first | rfl | (simp; done) | (simp [*]; done)), H', ⟨by first | omega | exact Nat.le_refl _⟩, ⟨be BK471⟩, ⟨IsS79.a⟩, ⟨kl⟩, ⟨IsS79.b⟩⟩
 case rest =>
  clear HC3
  obtain ⟨kq, x9_2, rfl, HA, HJ2, BK471, HI0, HK, HB⟩ := hcut
  cases kq with
  | zero => exact absurd HA.out (by simp [spec_l01DrawEnd.j0])
  | succ kj2 =>
   have H := HA.out
   clear HA
   simp only [spec_l01DrawEnd.j0] at H
   by_cases c7 : x9_2 = true
   ·subst c7
    rw [if_pos rfl] at H
    simp only [Option.some.injEq, Prod.mk.injEq] at H
    obtain ⟨rfl, rfl, rfl, rfl⟩ := H
    have hnb8 := NB471_0.out
    have hnc8 := NB0_471.out
    obtain ⟨hcz9_0, hcz9_1, hfz9_0, hfz9_1⟩ := z2 BK471
    go_wp2
    refine bodyPost_ret (results_cell_row rfl _ _ gb471 27 #[.int .i64 1, .int .i64 0] (0, 0) _ rfl (bp) Tryz.underlying27 rfl (by kernel_rfl)) rfl ?_
    exact ⟨er, IsS79.a, IsS79.b, kl⟩
   ·replace c7 := Bool.eq_false_iff.mpr c7
    subst c7
    have H1 : (if t472 = 2 then ((spec_l01Pick.f s0_0 t473 t474 (([2, 0, 1000001] : List Int))).bind fun bt478 => ((spec_l01Pick.f s0_0 bt478.2.1 bt478.2.2 (([0, 4, (-1)] : List Int))).bind fun bt484 => (some (bt478.1, bt484.1, bt484.2.1, bt484.2.2)))) else ((spec_l01Next.f s0_0 t473 t474 20).bind fun bt487 => ((spec_l01Next.f s0_0 bt487.2.1 bt487.2.2 200).bind fun bt490 => ((spec_l01Next.f s0_0 bt490.2.1 bt490.2.2 2000001).bind fun bt493 => ((spec_l01Pick.f s0_0 bt493.2.1 bt493.2.2 (([wrap64 (bt487.1 - 10), wrap64 (bt490.1 - 100), wrap64 (bt493.1 - 1000000)] : List Int))).bind fun bt499 => ((spec_l01Next.f s0_0 bt499.2.1 bt499.2.2 20).bind fun bt502 => ((spec_l01Next.f s0_0 bt502.2.1 bt502.2.2 8).bind fun bt505 => ((spec_l01Power.f kj2 2 bt505.1).bind fun t508 => ((spec_l01Next.f s0_0 bt505.2.1 bt505.2.2 6).bind fun bt509 => ((spec_l01Power.f kj2 3 bt509.1).bind fun t512 => ((spec_l01Next.f s0_0 bt509.2.1 bt509.2.2 1000000).bind fun bt513 => ((spec_l01Pick.f s0_0 bt513.2.1 bt513.2.2 (([1, 1, wrap64 (1 + bt502.1), t508, t512, wrap64 (1 + bt513.1)] : List Int))).bind fun bt519 => ((spec_l01EndOf.f kj2 bt499.1 bt519.1).bind fun bt522 => (some (bt522.1, bt522.2.1, bt519.2.1, bt519.2.2))))))))))))))) = some (r1, r2, r3, r4) := by rw [if_neg (show ¬ (false = true) by decide)] at H; exact H
    clear H
    have H := H1
    clear H1
    replace H := ii H
    rcases H with ⟨c10, H⟩ | ⟨c10, H⟩
    ·obtain ⟨c10b0, c10b1⟩ := zz c10
     clear c10
     obtain ⟨y475, hy475⟩ : ∃ y_ : List Int, y_ = (([2, 0, 1000001] : List Int)) := ⟨_, rfl⟩
     replace H : ((spec_l01Pick.f s0_0 t473 t474 y475).bind fun bt478 => ((spec_l01Pick.f s0_0 bt478.2.1 bt478.2.2 (([0, 4, (-1)] : List Int))).bind fun bt484 => (some (bt478.1, bt484.1, bt484.2.1, bt484.2.2)))) = some (r1, r2, r3, r4) := by first | exact hy475 ▸ H | exact H
     have Ny475 := Aside0.mk hy475
     clear hy475
     replace H := zi H
     obtain ⟨⟨t478, t479, t480⟩, A11, H⟩ := H
     try dsimp only at H
     obtain ⟨y481, hy481⟩ : ∃ y_ : List Int, y_ = (([0, 4, (-1)] : List Int)) := ⟨_, rfl⟩
     replace H : ((spec_l01Pick.f s0_0 t479 t480 y481).bind fun bt484 => (some (t478, bt484.1, bt484.2.1, bt484.2.2))) = some (r1, r2, r3, r4) := by first | exact hy481 ▸ H | exact H
     have Ny481 := Aside0.mk hy481
     clear hy481
     replace H := zi H
     obtain ⟨⟨t484, t485, t486⟩, A12, H⟩ := H
     try dsimp only at H
     simp only [Option.some.injEq, Prod.mk.injEq] at H
     obtain ⟨rfl, rfl, rfl, rfl⟩ := H
     go_wp2_with (first | ((with_reducible refine zg 16 rfl ?_); refine Kd.R_lit (Kd.int .i64) _ 2 ?hg (N := 16) ?hd (xs := ([2, 0, 1000001] : List Int)) (inner := [.int .i64 2, .int .i64 0, .int .i64 1000001]) (ok := fun _ => True) (okp := fun _ => True) ?hr ?hp (fun _ hk => hk) trivial (Below.refl _ _) (Nat.le_refl _) (by simp) ?_; (case hd => rfl); (case hg => rfl); (case hr => first | (go_simp; done) | (go_simp; rfl)); (case hp => exact (Reps.one (show Kd.M (Kd.int .i64) _ _ _ 2 [.int .i64 2] from rfl) (Reps.one (show Kd.M (Kd.int .i64) _ _ _ 0 [.int .i64 0] from rfl) (Reps.one (show Kd.M (Kd.int .i64) _ _ _ 1000001 [.int .i64 1000001] from rfl) (Reps.none _ _))))); intro v476 w13 ho14 hb hg_ hnew_; clear hg_ hnew_; (first | rw [← Ny475.out] at ho14 | (simp only [Int.reduceToNat] at ho14; rw [← Ny475.out] at ho14)); have HO477 := Aside0.mk (Kd.R_lower ho14 (keep_size (w := w) (g := g) (row := none) (kl))); replace BK471 := bb BK471 hb; replace HK := Aside0.mk (KeepBut.trans (kl) (KeepBut.of_below hb g none) (.inl rfl)); replace HB := Aside0.mk (below_step IsS79.b hb); replace HI0 := Aside0.mk (IsS79.below (IsS79.a) hb); clear hb ho14; obtain ⟨Ao15, co15, eo15⟩ := Kd.R_slice HO477.out; subst eo15) | ((with_reducible refine zf 28 rfl ?_); refine g1 (some 17) Tryz.func28 #[.pointer (some ⟨g, 0, none⟩), .slice Ao15 y475.length co15] ?_; (with_reducible refine (spec_l01Pick.calls g s0_0 t473 t474 _ _ y475 t478 t479 t480 w0 _ ?side1 ?side2 ?side3 ?side4 ?side5 A11.out).mono ?_); (case side1 => exact IsS79.a); (case side2 => exact IsS79.b); (case side3 => repeat (first | exact (Kd.R_reads' HO477.out).2.2 | (with_reducible refine Kd.C_alloc ?_ _) | (with_reducible refine Kd.C_drewN ?_ _) | (with_reducible refine Kd.C_drew ?_))); (case side4 => exact (Kd.R_reads' HO477.out).2.1); (case side5 => exact far_slice (IsS79.own_ne HI0.out HO477.out (by decide))); rintro e w16 ⟨rfl, hi, hb, hk⟩; refine ⟨_, rfl, ?_⟩; replace BK471 := kb hk BK471 NB471_0; replace HO477 := Aside0.mk (Kd.R_mono (Kd.R_keep (IsS79.apart (IsS79.a : IsS79 w0 _ g s0_0 t473 t474) (by (with_reducible repeat (first | apply Kd.R_alloc | apply Kd.R_drewN | apply Kd.R_drew)); exact HO477.out) (by decide)) hk (fun _ h => h.2)) (fun _ h => h.1)); replace HK := Aside0.mk (KeepBut.trans (kl) hk (.inl rfl)); replace HI0 := Aside0.mk (hi); replace HB := Aside0.mk (hb); (try clear hb hk)) | ((with_reducible refine zg 19 rfl ?_); refine Kd.R_lit (Kd.int .i64) _ 2 ?hg (N := 19) ?hd (xs := ([0, 4, (-1)] : List Int)) (inner := [.int .i64 0, .int .i64 4, .int .i64 (-1)]) (ok := fun _ => True) (okp := fun _ => True) ?hr ?hp (fun _ hk => hk) trivial (Below.refl _ _) (Nat.le_refl _) (by simp) ?_; (case hd => rfl); (case hg => rfl); (case hr => first | (go_simp; done) | (go_simp; rfl)); (case hp => exact (Reps.one (show Kd.M (Kd.int .i64) _ _ _ 0 [.int .i64 0] from rfl) (Reps.one (show Kd.M (Kd.int .i64) _ _ _ 4 [.int .i64 4] from rfl) (Reps.one (show Kd.M (Kd.int .i64) _ _ _ (-1) [.int .i64 (-1)] from rfl) (Reps.none _ _))))); intro v482 w17 ho18 hb hg_ hnew_; clear hg_ hnew_; (first | rw [← Ny481.out] at ho18 | (simp only [Int.reduceToNat] at ho18; rw [← Ny481.out] at ho18)); have HO483 := Aside0.mk (Kd.R_lower (Kd.R_new' ho18 (Kd.R_lt (by (with_reducible repeat (first | apply Kd.R_alloc | apply Kd.R_drewN | apply Kd.R_drew)); exact HO477.out))) (keep_size (w := w) (g := g) (row := none) (kl))); replace HO477 := Aside0.mk (Kd.R_elder' (by (with_reducible repeat (first | apply Kd.R_alloc | apply Kd.R_drewN | apply Kd.R_drew)); exact HO477.out) (Kd.R_base ho18) hb); replace BK471 := bb BK471 hb; replace HK := Aside0.mk (KeepBut.trans (kl) (KeepBut.of_below hb g none) (.inl rfl)); replace HB := Aside0.mk (below_step IsS79.b hb); replace HI0 := Aside0.mk (IsS79.below (IsS79.a) hb); clear hb ho18; obtain ⟨Ao19, co19, eo19⟩ := Kd.R_slice HO483.out; subst eo19) | ((with_reducible refine zf 28 rfl ?_); refine g1 (some 20) Tryz.func28 #[.pointer (some ⟨g, 0, none⟩), .slice Ao19 y481.length co19] ?_; (with_reducible refine (spec_l01Pick.calls g s0_0 t479 t480 _ _ y481 t484 t485 t486 w0 _ ?side1 ?side2 ?side3 ?side4 ?side5 A12.out).mono ?_); (case side1 => exact IsS79.a); (case side2 => exact IsS79.b); (case side3 => repeat (first | exact (Kd.R_reads' HO483.out).2.2 | (with_reducible refine Kd.C_alloc ?_ _) | (with_reducible refine Kd.C_drewN ?_ _) | (with_reducible refine Kd.C_drew ?_))); (case side4 => exact (Kd.R_reads' HO483.out).2.1); (case side5 => exact far_slice (IsS79.own_ne HI0.out HO483.out (by decide))); rintro e w20 ⟨rfl, hi, hb, hk⟩; refine ⟨_, rfl, ?_⟩; replace BK471 := kb hk BK471 NB471_0; replace HO477 := Aside0.mk (Kd.R_mono (Kd.R_keep (IsS79.apart (IsS79.a : IsS79 w0 _ g s0_0 t479 t480) (by (with_reducible repeat (first | apply Kd.R_alloc | apply Kd.R_drewN | apply Kd.R_drew)); exact HO477.out) (by decide)) hk (fun _ h => h.2)) (fun _ h => h.1)); replace HO483 := Aside0.mk (Kd.R_mono (Kd.R_keep (IsS79.apart (IsS79.a : IsS79 w0 _ g s0_0 t479 t480) (by (with_reducible repeat (first | apply Kd.R_alloc | apply Kd.R_drewN | apply Kd.R_drew)); exact HO483.out) (by decide)) hk (fun _ h => h.2)) (fun _ h => h.1)); replace HK := Aside0.mk (KeepBut.trans (kl) hk (.inl rfl)); replace HI0 := Aside0.mk (hi); replace HB := Aside0.mk (hb); (try clear hb hk); have hnb21 := NB471_0.out; have hnc21 := NB0_471.out; obtain ⟨hcz22_0, hcz22_1, hfz22_0, hfz22_1⟩ := z2 BK471))
     refine bodyPost_ret (results_cell_row rfl _ _ gb471 27 #[.int .i64 t478, .int .i64 t484] (0, 0) _ rfl (bp) Tryz.underlying27 rfl (by kernel_rfl)) rfl ?_
     exact ⟨er, IsS79.a, IsS79.b, kl⟩
    ·obtain ⟨c10b0, c10b1⟩ := zy c10
     replace H := zi H
     obtain ⟨⟨t487, t488, t489⟩, A23, H⟩ := H
     try dsimp only at H
     replace H := zi H
     obtain ⟨⟨t490, t491, t492⟩, A24, H⟩ := H
     try dsimp only at H
     replace H := zi H
     obtain ⟨⟨t493, t494, t495⟩, A25, H⟩ := H
     try dsimp only at H
     obtain ⟨y496, hy496⟩ : ∃ y_ : List Int, y_ = (([wrap64 (t487 - 10), wrap64 (t490 - 100), wrap64 (t493 - 1000000)] : List Int)) := ⟨_, rfl⟩
     replace H : ((spec_l01Pick.f s0_0 t494 t495 y496).bind fun bt499 => ((spec_l01Next.f s0_0 bt499.2.1 bt499.2.2 20).bind fun bt502 => ((spec_l01Next.f s0_0 bt502.2.1 bt502.2.2 8).bind fun bt505 => ((spec_l01Power.f kj2 2 bt505.1).bind fun t508 => ((spec_l01Next.f s0_0 bt505.2.1 bt505.2.2 6).bind fun bt509 => ((spec_l01Power.f kj2 3 bt509.1).bind fun t512 => ((spec_l01Next.f s0_0 bt509.2.1 bt509.2.2 1000000).bind fun bt513 => ((spec_l01Pick.f s0_0 bt513.2.1 bt513.2.2 (([1, 1, wrap64 (1 + bt502.1), t508, t512, wrap64 (1 + bt513.1)] : List Int))).bind fun bt519 => ((spec_l01EndOf.f kj2 bt499.1 bt519.1).bind fun bt522 => (some (bt522.1, bt522.2.1, bt519.2.1, bt519.2.2))))))))))) = some (r1, r2, r3, r4) := by first | exact hy496 ▸ H | exact H
     have Ny496 := Aside0.mk hy496
     clear hy496
     replace H := zi H
     obtain ⟨⟨t499, t500, t501⟩, A26, H⟩ := H
     try dsimp only at H
     replace H := zi H
     obtain ⟨⟨t502, t503, t504⟩, A27, H⟩ := H
     try dsimp only at H
     replace H := zi H
     obtain ⟨⟨t505, t506, t507⟩, A28, H⟩ := H
     try dsimp only at H
     replace H := zi H
     obtain ⟨t508, A29, H⟩ := H
     try dsimp only at H
     replace H := zi H
     obtain ⟨⟨t509, t510, t511⟩, A30, H⟩ := H
     try dsimp only at H
     replace H := zi H
     obtain ⟨t512, A31, H⟩ := H
     try dsimp only at H
     replace H := zi H
     obtain ⟨⟨t513, t514, t515⟩, A32, H⟩ := H
     try dsimp only at H
     obtain ⟨y516, hy516⟩ : ∃ y_ : List Int, y_ = (([1, 1, wrap64 (1 + t502), t508, t512, wrap64 (1 + t513)] : List Int)) := ⟨_, rfl⟩
     replace H : ((spec_l01Pick.f s0_0 t514 t515 y516).bind fun bt519 => ((spec_l01EndOf.f kj2 t499 bt519.1).bind fun bt522 => (some (bt522.1, bt522.2.1, bt519.2.1, bt519.2.2)))) = some (r1, r2, r3, r4) := by first | exact hy516 ▸ H | exact H
     have Ny516 := Aside0.mk hy516
     clear hy516
     replace H := zi H
     obtain ⟨⟨t519, t520, t521⟩, A33, H⟩ := H
     try dsimp only at H
     replace H := zi H
     obtain ⟨⟨t522, t523, t524⟩, A34, H⟩ := H
     try dsimp only at H
     simp only [Option.some.injEq, Prod.mk.injEq] at H
     obtain ⟨rfl, rfl, rfl, rfl⟩ := H
     go_wp2_with (first | ((with_reducible refine zf 44 rfl ?_); refine g1 (some 24) Tryz.func44 #[.pointer (some ⟨g, 0, none⟩), .int .i64 20] ?_; (with_reducible refine (spec_l01Next.calls g s0_0 t473 t474 20 t487 t488 t489 w0 _ ?side1 ?side2 A23.out).mono ?_); (case side1 => exact IsS79.a); (case side2 => exact IsS79.b); rintro e w35 ⟨rfl, hi, hb, hk⟩; refine ⟨_, rfl, ?_⟩; replace BK471 := kb hk BK471 NB471_0; replace HK := Aside0.mk (KeepBut.trans (kl) hk (.inl rfl)); replace HI0 := Aside0.mk (hi); replace HB := Aside0.mk (hb); (try clear hb hk)) | ((with_reducible refine zf 44 rfl ?_); refine g1 (some 27) Tryz.func44 #[.pointer (some ⟨g, 0, none⟩), .int .i64 200] ?_; (with_reducible refine (spec_l01Next.calls g s0_0 t488 t489 200 t490 t491 t492 w0 _ ?side1 ?side2 A24.out).mono ?_); (case side1 => exact IsS79.a); (case side2 => exact IsS79.b); rintro e w36 ⟨rfl, hi, hb, hk⟩; refine ⟨_, rfl, ?_⟩; replace BK471 := kb hk BK471 NB471_0; replace HK := Aside0.mk (KeepBut.trans (kl) hk (.inl rfl)); replace HI0 := Aside0.mk (hi); replace HB := Aside0.mk (hb); (try clear hb hk)) | ((with_reducible refine zf 44 rfl ?_); refine g1 (some 30) Tryz.func44 #[.pointer (some ⟨g, 0, none⟩), .int .i64 2000001] ?_; (with_reducible refine (spec_l01Next.calls g s0_0 t491 t492 2000001 t493 t494 t495 w0 _ ?side1 ?side2 A25.out).mono ?_); (case side1 => exact IsS79.a); (case side2 => exact IsS79.b); rintro e w37 ⟨rfl, hi, hb, hk⟩; refine ⟨_, rfl, ?_⟩; replace BK471 := kb hk BK471 NB471_0; replace HK := Aside0.mk (KeepBut.trans (kl) hk (.inl rfl)); replace HI0 := Aside0.mk (hi); replace HB := Aside0.mk (hb); (try clear hb hk)) | ((with_reducible refine zg 32 rfl ?_); refine Kd.R_lit (Kd.int .i64) _ 2 ?hg (N := 32) ?hd (xs := ([wrap64 (t487 - 10), wrap64 (t490 - 100), wrap64 (t493 - 1000000)] : List Int)) (inner := [.int .i64 (wrap64 (t487 - 10)), .int .i64 (wrap64 (t490 - 100)), .int .i64 (wrap64 (t493 - 1000000))]) (ok := fun _ => True) (okp := fun _ => True) ?hr ?hp (fun _ hk => hk) trivial (Below.refl _ _) (Nat.le_refl _) (by simp) ?_; (case hd => rfl); (case hg => rfl); (case hr => first | (go_simp; done) | (go_simp; rfl)); (case hp => exact (Reps.one (show Kd.M (Kd.int .i64) _ _ _ (wrap64 (t487 - 10)) [.int .i64 (wrap64 (t487 - 10))] from rfl) (Reps.one (show Kd.M (Kd.int .i64) _ _ _ (wrap64 (t490 - 100)) [.int .i64 (wrap64 (t490 - 100))] from rfl) (Reps.one (show Kd.M (Kd.int .i64) _ _ _ (wrap64 (t493 - 1000000)) [.int .i64 (wrap64 (t493 - 1000000))] from rfl) (Reps.none _ _))))); intro v497 w38 ho39 hb hg_ hnew_; clear hg_ hnew_; (first | rw [← Ny496.out] at ho39 | (simp only [Int.reduceToNat] at ho39; rw [← Ny496.out] at ho39)); have HO498 := Aside0.mk (Kd.R_lower ho39 (keep_size (w := w) (g := g) (row := none) (kl))); replace BK471 := bb BK471 hb; replace HK := Aside0.mk (KeepBut.trans (kl) (KeepBut.of_below hb g none) (.inl rfl)); replace HB := Aside0.mk (below_step IsS79.b hb); replace HI0 := Aside0.mk (IsS79.below (IsS79.a) hb); clear hb ho39; obtain ⟨Ao40, co40, eo40⟩ := Kd.R_slice HO498.out; subst eo40) | ((with_reducible refine zf 28 rfl ?_); refine g1 (some 33) Tryz.func28 #[.pointer (some ⟨g, 0, none⟩), .slice Ao40 y496.length co40] ?_; (with_reducible refine (spec_l01Pick.calls g s0_0 t494 t495 _ _ y496 t499 t500 t501 w0 _ ?side1 ?side2 ?side3 ?side4 ?side5 A26.out).mono ?_); (case side1 => exact IsS79.a); (case side2 => exact IsS79.b); (case side3 => repeat (first | exact (Kd.R_reads' HO498.out).2.2 | (with_reducible refine Kd.C_alloc ?_ _) | (with_reducible refine Kd.C_drewN ?_ _) | (with_reducible refine Kd.C_drew ?_))); (case side4 => exact (Kd.R_reads' HO498.out).2.1); (case side5 => exact far_slice (IsS79.own_ne HI0.out HO498.out (by decide))); rintro e w41 ⟨rfl, hi, hb, hk⟩; refine ⟨_, rfl, ?_⟩; replace BK471 := kb hk BK471 NB471_0; replace HO498 := Aside0.mk (Kd.R_mono (Kd.R_keep (IsS79.apart (IsS79.a : IsS79 w0 _ g s0_0 t494 t495) (by (with_reducible repeat (first | apply Kd.R_alloc | apply Kd.R_drewN | apply Kd.R_drew)); exact HO498.out) (by decide)) hk (fun _ h => h.2)) (fun _ h => h.1)); replace HK := Aside0.mk (KeepBut.trans (kl) hk (.inl rfl)); replace HI0 := Aside0.mk (hi); replace HB := Aside0.mk (hb); (try clear hb hk)) | ((with_reducible refine zf 44 rfl ?_); refine g1 (some 36) Tryz.func44 #[.pointer (some ⟨g, 0, none⟩), .int .i64 20] ?_; (with_reducible refine (spec_l01Next.calls g s0_0 t500 t501 20 t502 t503 t504 w0 _ ?side1 ?side2 A27.out).mono ?_); (case side1 => exact IsS79.a); (case side2 => exact IsS79.b); rintro e w42 ⟨rfl, hi, hb, hk⟩; refine ⟨_, rfl, ?_⟩; replace BK471 := kb hk BK471 NB471_0; replace HO498 := Aside0.mk (Kd.R_mono (Kd.R_keep (IsS79.apart (IsS79.a : IsS79 w0 _ g s0_0 t500 t501) (by (with_reducible repeat (first | apply Kd.R_alloc | apply Kd.R_drewN | apply Kd.R_drew)); exact HO498.out) (by decide)) hk (fun _ h => h.2)) (fun _ h => h.1)); replace HK := Aside0.mk (KeepBut.trans (kl) hk (.inl rfl)); replace HI0 := Aside0.mk (hi); replace HB := Aside0.mk (hb); (try clear hb hk)) | ((with_reducible refine zf 44 rfl ?_); refine g1 (some 39) Tryz.func44 #[.pointer (some ⟨g, 0, none⟩), .int .i64 8] ?_; (with_reducible refine (spec_l01Next.calls g s0_0 t503 t504 8 t505 t506 t507 w0 _ ?side1 ?side2 A28.out).mono ?_); (case side1 => exact IsS79.a); (case side2 => exact IsS79.b); rintro e w43 ⟨rfl, hi, hb, hk⟩; refine ⟨_, rfl, ?_⟩; replace BK471 := kb hk BK471 NB471_0; replace HO498 := Aside0.mk (Kd.R_mono (Kd.R_keep (IsS79.apart (IsS79.a : IsS79 w0 _ g s0_0 t503 t504) (by (with_reducible repeat (first | apply Kd.R_alloc | apply Kd.R_drewN | apply Kd.R_drew)); exact HO498.out) (by decide)) hk (fun _ h => h.2)) (fun _ h => h.1)); replace HK := Aside0.mk (KeepBut.trans (kl) hk (.inl rfl)); replace HI0 := Aside0.mk (hi); replace HB := Aside0.mk (hb); (try clear hb hk)) | ((with_reducible refine zf 57 rfl ?_); refine g1 (some 40) Tryz.func57 #[.int .i64 2, .int .i64 t505] ?_; (with_reducible refine (spec_l01Power.calls kj2 2 t505 t508 _ A29.out).mono ?_); rintro e w' ⟨rfl, ⟨nd, rfl⟩⟩; refine ⟨_, rfl, ?_⟩; (try (rw [drewN_self w43]; generalize hq_ : World.drewN w43 _ = w43; have n0_ : Aside0 (Kd.R (Kd.int .i64) 2 w43 w.heap.size (fun _ => True) (.slice Ao40 y496.length co40) y496) := ⟨by rw [← hq_]; exact (by (with_reducible repeat (first | apply Kd.R_alloc | apply Kd.R_drewN | apply Kd.R_drew)); exact HO498.out)⟩; have n1_ : Aside0 (w43.heap[gb471]? = some (.cells #[.int .i64 0, .int .i64 0] 27 (0, 0))) := ⟨by rw [← hq_]; exact (be BK471)⟩; have n2_ : Aside0 (IsS79 w0 w43 g s0_0 t506 t507) := ⟨by rw [← hq_]; exact (IsS79.a)⟩; have n3_ : Aside0 (KeepBut w w43 g none) := ⟨by rw [← hq_]; exact (kl)⟩; have n4_ : Aside0 (Below w0.heap.size w0 w43) := ⟨by rw [← hq_]; exact (IsS79.b)⟩; clear HO498 BK471 HI0 HK HB hq_; have HO498 := n0_; have BK471 := n1_; have HI0 := n2_; have HK := n3_; have HB := n4_; clear n0_ n1_ n2_ n3_ n4_))) | ((with_reducible refine zf 44 rfl ?_); refine g1 (some 42) Tryz.func44 #[.pointer (some ⟨g, 0, none⟩), .int .i64 6] ?_; (with_reducible refine (spec_l01Next.calls g s0_0 t506 t507 6 t509 t510 t511 w0 _ ?side1 ?side2 A30.out).mono ?_); (case side1 => exact IsS79.a); (case side2 => exact IsS79.b); rintro e w44 ⟨rfl, hi, hb, hk⟩; refine ⟨_, rfl, ?_⟩; replace BK471 := kb hk BK471 NB471_0; replace HO498 := Aside0.mk (Kd.R_mono (Kd.R_keep (IsS79.apart (IsS79.a : IsS79 w0 _ g s0_0 t506 t507) (by (with_reducible repeat (first | apply Kd.R_alloc | apply Kd.R_drewN | apply Kd.R_drew)); exact HO498.out) (by decide)) hk (fun _ h => h.2)) (fun _ h => h.1)); replace HK := Aside0.mk (KeepBut.trans (kl) hk (.inl rfl)); replace HI0 := Aside0.mk (hi); replace HB := Aside0.mk (hb); (try clear hb hk)) | ((with_reducible refine zf 57 rfl ?_); refine g1 (some 43) Tryz.func57 #[.int .i64 3, .int .i64 t509] ?_; (with_reducible refine (spec_l01Power.calls kj2 3 t509 t512 _ A31.out).mono ?_); rintro e w' ⟨rfl, ⟨nd, rfl⟩⟩; refine ⟨_, rfl, ?_⟩; (try (rw [drewN_self w44]; generalize hq_ : World.drewN w44 _ = w44; have n0_ : Aside0 (Kd.R (Kd.int .i64) 2 w44 w.heap.size (fun _ => True) (.slice Ao40 y496.length co40) y496) := ⟨by rw [← hq_]; exact (by (with_reducible repeat (first | apply Kd.R_alloc | apply Kd.R_drewN | apply Kd.R_drew)); exact HO498.out)⟩; have n1_ : Aside0 (w44.heap[gb471]? = some (.cells #[.int .i64 0, .int .i64 0] 27 (0, 0))) := ⟨by rw [← hq_]; exact (be BK471)⟩; have n2_ : Aside0 (IsS79 w0 w44 g s0_0 t510 t511) := ⟨by rw [← hq_]; exact (IsS79.a)⟩; have n3_ : Aside0 (KeepBut w w44 g none) := ⟨by rw [← hq_]; exact (kl)⟩; have n4_ : Aside0 (Below w0.heap.size w0 w44) := ⟨by rw [← hq_]; exact (IsS79.b)⟩; clear HO498 BK471 HI0 HK HB hq_; have HO498 := n0_; have BK471 := n1_; have HI0 := n2_; have HK := n3_; have HB := n4_; clear n0_ n1_ n2_ n3_ n4_))) | ((with_reducible refine zf 44 rfl ?_); refine g1 (some 45) Tryz.func44 #[.pointer (some ⟨g, 0, none⟩), .int .i64 1000000] ?_; (with_reducible refine (spec_l01Next.calls g s0_0 t510 t511 1000000 t513 t514 t515 w0 _ ?side1 ?side2 A32.out).mono ?_); (case side1 => exact IsS79.a); (case side2 => exact IsS79.b); rintro e w45 ⟨rfl, hi, hb, hk⟩; refine ⟨_, rfl, ?_⟩; replace BK471 := kb hk BK471 NB471_0; replace HO498 := Aside0.mk (Kd.R_mono (Kd.R_keep (IsS79.apart (IsS79.a : IsS79 w0 _ g s0_0 t510 t511) (by (with_reducible repeat (first | apply Kd.R_alloc | apply Kd.R_drewN | apply Kd.R_drew)); exact HO498.out) (by decide)) hk (fun _ h => h.2)) (fun _ h => h.1)); replace HK := Aside0.mk (KeepBut.trans (kl) hk (.inl rfl)); replace HI0 := Aside0.mk (hi); replace HB := Aside0.mk (hb); (try clear hb hk)) | ((with_reducible refine zg 47 rfl ?_); refine Kd.R_lit (Kd.int .i64) _ 2 ?hg (N := 47) ?hd (xs := ([1, 1, wrap64 (1 + t502), t508, t512, wrap64 (1 + t513)] : List Int)) (inner := [.int .i64 1, .int .i64 1, .int .i64 (wrap64 (1 + t502)), .int .i64 t508, .int .i64 t512, .int .i64 (wrap64 (1 + t513))]) (ok := fun _ => True) (okp := fun _ => True) ?hr ?hp (fun _ hk => hk) trivial (Below.refl _ _) (Nat.le_refl _) (by simp) ?_; (case hd => rfl); (case hg => rfl); (case hr => first | (go_simp; done) | (go_simp; rfl)); (case hp => exact (Reps.one (show Kd.M (Kd.int .i64) _ _ _ 1 [.int .i64 1] from rfl) (Reps.one (show Kd.M (Kd.int .i64) _ _ _ 1 [.int .i64 1] from rfl) (Reps.one (show Kd.M (Kd.int .i64) _ _ _ (wrap64 (1 + t502)) [.int .i64 (wrap64 (1 + t502))] from rfl) (Reps.one (show Kd.M (Kd.int .i64) _ _ _ t508 [.int .i64 t508] from rfl) (Reps.one (show Kd.M (Kd.int .i64) _ _ _ t512 [.int .i64 t512] from rfl) (Reps.one (show Kd.M (Kd.int .i64) _ _ _ (wrap64 (1 + t513)) [.int .i64 (wrap64 (1 + t513))] from rfl) (Reps.none _ _)))))))); intro v517 w46 ho47 hb hg_ hnew_; clear hg_ hnew_; (first | rw [← Ny516.out] at ho47 | (simp only [Int.reduceToNat] at ho47; rw [← Ny516.out] at ho47)); have HO518 := Aside0.mk (Kd.R_lower (Kd.R_new' ho47 (Kd.R_lt (by (with_reducible repeat (first | apply Kd.R_alloc | apply Kd.R_drewN | apply Kd.R_drew)); exact HO498.out))) (keep_size (w := w) (g := g) (row := none) (kl))); replace HO498 := Aside0.mk (Kd.R_elder' (by (with_reducible repeat (first | apply Kd.R_alloc | apply Kd.R_drewN | apply Kd.R_drew)); exact HO498.out) (Kd.R_base ho47) hb); replace BK471 := bb BK471 hb; replace HK := Aside0.mk (KeepBut.trans (kl) (KeepBut.of_below hb g none) (.inl rfl)); replace HB := Aside0.mk (below_step IsS79.b hb); replace HI0 := Aside0.mk (IsS79.below (IsS79.a) hb); clear hb ho47; obtain ⟨Ao48, co48, eo48⟩ := Kd.R_slice HO518.out; subst eo48) | ((with_reducible refine zf 28 rfl ?_); refine g1 (some 48) Tryz.func28 #[.pointer (some ⟨g, 0, none⟩), .slice Ao48 y516.length co48] ?_; (with_reducible refine (spec_l01Pick.calls g s0_0 t514 t515 _ _ y516 t519 t520 t521 w0 _ ?side1 ?side2 ?side3 ?side4 ?side5 A33.out).mono ?_); (case side1 => exact IsS79.a); (case side2 => exact IsS79.b); (case side3 => repeat (first | exact (Kd.R_reads' HO518.out).2.2 | (with_reducible refine Kd.C_alloc ?_ _) | (with_reducible refine Kd.C_drewN ?_ _) | (with_reducible refine Kd.C_drew ?_))); (case side4 => exact (Kd.R_reads' HO518.out).2.1); (case side5 => exact far_slice (IsS79.own_ne HI0.out HO518.out (by decide))); rintro e w49 ⟨rfl, hi, hb, hk⟩; refine ⟨_, rfl, ?_⟩; replace BK471 := kb hk BK471 NB471_0; replace HO498 := Aside0.mk (Kd.R_mono (Kd.R_keep (IsS79.apart (IsS79.a : IsS79 w0 _ g s0_0 t514 t515) (by (with_reducible repeat (first | apply Kd.R_alloc | apply Kd.R_drewN | apply Kd.R_drew)); exact HO498.out) (by decide)) hk (fun _ h => h.2)) (fun _ h => h.1)); replace HO518 := Aside0.mk (Kd.R_mono (Kd.R_keep (IsS79.apart (IsS79.a : IsS79 w0 _ g s0_0 t514 t515) (by (with_reducible repeat (first | apply Kd.R_alloc | apply Kd.R_drewN | apply Kd.R_drew)); exact HO518.out) (by decide)) hk (fun _ h => h.2)) (fun _ h => h.1)); replace HK := Aside0.mk (KeepBut.trans (kl) hk (.inl rfl)); replace HI0 := Aside0.mk (hi); replace HB := Aside0.mk (hb); (try clear hb hk)) | ((with_reducible refine zf 33 rfl ?_); refine g1 (some 52) Tryz.func33 #[.int .i64 t499, .int .i64 t519] ?_; (with_reducible refine (spec_l01EndOf.calls kj2 t499 t519 t522 t523 t524 _ A34.out).mono ?_); rintro e w50 ⟨rfl, hb⟩; refine ⟨_, rfl, ?_⟩; replace HO498 := Aside0.mk (Kd.R_below (by (with_reducible repeat (first | apply Kd.R_alloc | apply Kd.R_drewN | apply Kd.R_drew)); exact HO498.out) hb); replace HO518 := Aside0.mk (Kd.R_below (by (with_reducible repeat (first | apply Kd.R_alloc | apply Kd.R_drewN | apply Kd.R_drew)); exact HO518.out) hb); replace BK471 := bb BK471 hb; replace HK := Aside0.mk (KeepBut.trans (kl) (KeepBut.of_below hb g none) (.inl rfl)); replace HB := Aside0.mk (below_step IsS79.b hb); replace HI0 := Aside0.mk (IsS79.below (IsS79.a) hb); (try clear hb)) | ((with_reducible refine zg 5 rfl ?_); refine zb 5 27 #[.int .i64 0, .int .i64 0] ?_; intro gb525 hg w51 BK525 hb; have GW525 := Aside0.mk ((by rw [hg]; exact (keep_size (w := w) (g := g) (row := none) (kl)) : w.heap.size ≤ gb525)); have GE525 := Aside0.mk ((Nat.le_trans HW0.out (by rw [hg]; exact (keep_size (w := w) (g := g) (row := none) (kl)) : w.heap.size ≤ gb525) : w0.heap.size ≤ gb525)); have NB471_525 := nl hg BK471; have NB0_525 := Aside0.mk ((by rw [hg]; exact Nat.ne_of_lt (IsS79.lt (IsS79.a : IsS79 w0 _ g s0_0 t520 t521)) : g ≠ gb525)); have NB525_0 := Aside0.mk ((by rw [hg]; exact Nat.ne_of_gt (IsS79.lt (IsS79.a : IsS79 w0 _ g s0_0 t520 t521)) : gb525 ≠ g)); replace HO498 := Aside0.mk (Kd.R_below (by (with_reducible repeat (first | apply Kd.R_alloc | apply Kd.R_drewN | apply Kd.R_drew)); exact HO498.out) hb); replace HO518 := Aside0.mk (Kd.R_below (by (with_reducible repeat (first | apply Kd.R_alloc | apply Kd.R_drewN | apply Kd.R_drew)); exact HO518.out) hb); replace BK471 := bb BK471 hb; replace HK := Aside0.mk (KeepBut.trans (kl) (KeepBut.of_below hb g none) (.inl rfl)); replace HB := Aside0.mk (below_step IsS79.b hb); replace HI0 := Aside0.mk (IsS79.below (IsS79.a) hb); clear hb hg; obtain ⟨hnb52, hnc52⟩ := zm NB471_525; have hnb53 := NB525_0.out; have hnc53 := NB0_525.out; obtain ⟨hcz54_0, hcz54_1, hfz54_0, hfz54_1⟩ := z2 BK525; have hnb55 := NB471_0.out; have hnc55 := NB0_471.out; obtain ⟨hcz56_0, hcz56_1, hfz56_0, hfz56_1⟩ := z2 BK471))
     refine bodyPost_ret (results_cell_row rfl _ _ gb471 27 #[.int .i64 t522, .int .i64 t523] (0, 0) _ rfl (bp) Tryz.underlying27 rfl (by kernel_rfl)) rfl ?_
     exact ⟨er, IsS79.a, IsS79.b, kl⟩

/-! ### spec_DrawParseEnd: function 17 -/
def spec_DrawParseEnd.l0 : Nat → ByteArray → List Int → Int → Int → Option (ByteArray)
 | 0, _, _, _, _ => none
 | k + 1, x4, x530000, x530001, x530002 => (spec_l01Next.f x530000 x530001 x530002 3).bind fun bt535 => (if bt535.1 = 0 then ((spec_l01Damage.f x530000 bt535.2.1 bt535.2.2 x4).bind fun bt538 => (spec_DrawParseEnd.l0 k bt538.1 x530000 bt538.2.1 bt538.2.2)) else (some x4))
def spec_DrawParseEnd.f (k : Nat) (l0 : List Int) : Option (ByteArray) := (spec_l01From.f k l0).bind fun bt526 => ((spec_l01DrawEnd.f k bt526.1 bt526.2.1 bt526.2.2).bind fun bt530 => ((spec_l01EndText.f k bt530.1 bt530.2.1).bind fun t534 => (spec_DrawParseEnd.l0 k t534 bt526.1 bt530.2.2.1 bt530.2.2.2)))
set_option maxHeartbeats 8000000 in
set_option maxRecDepth 100000 in
theorem spec_DrawParseEnd.calls (k : Nat) (A0 : Option Addr) (c0 : Nat) (l0 : List Int) (r : ByteArray) (w : World) (hr0 : Kd.C (Kd.int .u8) w A0 l0.length l0) (hc0 : l0.length ≤ c0) (h : spec_DrawParseEnd.f k l0 = some r) :
  Calls Tryz.prog 17 #[.slice A0 l0.length c0] w fun e w' => e = .returned (.string r) ∧ Below w.heap.size w w' := by
 have HR0 := Aside0.mk hr0
 have HC0 := Aside0.mk hc0
 clear hr0 hc0
 have HB := Aside0.mk (Below.refl w.heap.size w)
 unfold spec_DrawParseEnd.f at h
 have H := h
 clear h
 replace H := zi H
 obtain ⟨⟨t526, t527, t528⟩, A2, H⟩ := H
 try dsimp only at H
 replace H := zi H
 obtain ⟨⟨t530, t531, t532, t533⟩, A3, H⟩ := H
 try dsimp only at H
 replace H := zi H
 obtain ⟨t534, A4, H⟩ := H
 try dsimp only at H
 have H' := Aside0.mk H
 clear H
 go_enter Tryz.func17, Tryz.ntmps17
 go_wp2_with (first | ((with_reducible refine zf 26 rfl ?_); refine g1 (some 6) Tryz.func26 #[.slice A0 l0.length c0] ?_; (with_reducible refine (spec_l01From.calls k _ _ l0 t526 t527 t528 w _ ?side1 ?side2 ?side3 A2.out).mono ?_); (case side1 => exact bl); (case side2 => exact HR0.out); (case side3 => exact HC0.out); rintro e w5 ⟨g529, rfl, hi, hb, hb2⟩; refine ⟨_, rfl, ?_⟩; have HI529 := Aside0.mk (hi); replace HB := Aside0.mk (hb); (try clear hb); (try clear hb2); (try clear hk); (try clear hi)) | ((with_reducible refine zf 49 rfl ?_); refine g1 (some 8) Tryz.func49 #[.pointer (some ⟨g529, 0, none⟩)] ?_; (with_reducible refine (spec_l01DrawEnd.calls k g529 t526 t527 t528 t530 t531 t532 t533 w _ ?side1 ?side2 A3.out).mono ?_); (case side1 => repeat (first | (with_reducible first | exact HI529.out | apply IsS79.alloc | apply IsS79.drewN | apply IsS79.drew | apply IsS79.set_1 | apply IsS79.set_2) | exact HI529.out)); (case side2 => repeat (first | (with_reducible first | exact HB.out | apply below_alloc | apply pw_below_drewN | apply below_drew1 | refine below_set ?_ (IsS79.ge HI529.out)) | exact HB.out)); rintro e w6 ⟨rfl, hi, hb, hk⟩; refine ⟨_, rfl, ?_⟩; replace HI529 := Aside0.mk (hi); replace HB := Aside0.mk (hb); (try clear hb hk)) | ((with_reducible refine zf 48 rfl ?_); refine g1 (some 9) Tryz.func48 #[.agg #[.int .i64 t530, .int .i64 t531]] ?_; (with_reducible refine (spec_l01EndText.calls k t530 t531 t534 _ A4.out).mono ?_); rintro e w7 ⟨rfl, hb⟩; refine ⟨_, rfl, ?_⟩; replace HB := Aside0.mk (below_step (by repeat (first | (with_reducible first | exact HB.out | apply below_alloc | apply pw_below_drewN | apply below_drew1 | refine below_set ?_ (IsS79.ge HI529.out)) | exact HB.out)) hb); replace HI529 := Aside0.mk (IsS79.below (by repeat (first | (with_reducible first | exact HI529.out | apply IsS79.alloc | apply IsS79.drewN | apply IsS79.drew | apply IsS79.set_1 | apply IsS79.set_2) | exact HI529.out)) hb); (try clear hb)))
 go_loopg [4] k (fun kq v4 w' => ∃ (x4_1 : ByteArray) (x530001_1 : Int) (x530002_1 : Int), v4 = .string x4_1 ∧ Aside0 (spec_DrawParseEnd.l0 kq x4_1 t526 x530001_1 x530002_1 = some r) ∧ Aside0 (kq ≤ k) ∧ Aside0 (IsS79 w w' g529 t526 x530001_1 x530002_1) ∧ Aside0 (Below w.heap.size w w'))
 case atStart => exact ⟨(t534), (t532), (t533), (by first | rfl | (simp; done) | (simp [*]; done)), H', ⟨Nat.le_refl _⟩, ⟨by repeat (first | (with_reducible first | exact HI529.out | apply IsS79.alloc | apply IsS79.drewN | apply IsS79.drew | apply IsS79.set_1 | apply IsS79.set_2) | exact HI529.out)⟩, ⟨by repeat (first | (with_reducible first | exact HB.out | apply below_alloc | apply pw_below_drewN | apply below_drew1 | refine below_set ?_ (IsS79.ge HI529.out)) | exact HB.out)⟩⟩
 case round =>
  clear H'
  obtain ⟨x4_1, x530001_1, x530002_1, rfl, HA, HK1, HI529, HB⟩ := hrel
  cases gk with
  | zero => exact absurd HA.out (by simp [spec_DrawParseEnd.l0])
  | succ k1 =>
   have H := HA.out
   clear HA
   simp only [spec_DrawParseEnd.l0] at H
   replace H := zi H
   obtain ⟨⟨t535, t536, t537⟩, A8, H⟩ := H
   try dsimp only at H
   replace H := ii H
   rcases H with ⟨c9, H⟩ | ⟨c9, H⟩
   ·obtain ⟨c9b0, c9b1⟩ := zz c9
    clear c9
    replace H := zi H
    obtain ⟨⟨t538, t539, t540⟩, A10, H⟩ := H
    try dsimp only at H
    have H' := Aside0.mk H
    clear H
    go_wp2_with (first | ((with_reducible refine zf 44 rfl ?_); refine g1 (some 11) Tryz.func44 #[.pointer (some ⟨g529, 0, none⟩), .int .i64 3] ?_; (with_reducible refine (spec_l01Next.calls g529 t526 x530001_1 x530002_1 3 t535 t536 t537 w _ ?side1 ?side2 A8.out).mono ?_); (case side1 => repeat (first | (with_reducible first | exact HI529.out | apply IsS79.alloc | apply IsS79.drewN | apply IsS79.drew | apply IsS79.set_1 | apply IsS79.set_2) | exact HI529.out)); (case side2 => repeat (first | (with_reducible first | exact HB.out | apply below_alloc | apply pw_below_drewN | apply below_drew1 | refine below_set ?_ (IsS79.ge HI529.out)) | exact HB.out)); rintro e w11 ⟨rfl, hi, hb, hk⟩; refine ⟨_, rfl, ?_⟩; replace HI529 := Aside0.mk (hi); replace HB := Aside0.mk (hb); (try clear hb hk)) | ((with_reducible refine zf 45 rfl ?_); refine g1 (some 15) Tryz.func45 #[.pointer (some ⟨g529, 0, none⟩), .string x4_1] ?_; (with_reducible refine (spec_l01Damage.calls g529 t526 t536 t537 x4_1 t538 t539 t540 w _ ?side1 ?side2 A10.out).mono ?_); (case side1 => repeat (first | (with_reducible first | exact HI529.out | apply IsS79.alloc | apply IsS79.drewN | apply IsS79.drew | apply IsS79.set_1 | apply IsS79.set_2) | exact HI529.out)); (case side2 => repeat (first | (with_reducible first | exact HB.out | apply below_alloc | apply pw_below_drewN | apply below_drew1 | refine below_set ?_ (IsS79.ge HI529.out)) | exact HB.out)); rintro e w12 ⟨rfl, hi, hb, hk⟩; refine ⟨_, rfl, ?_⟩; replace HI529 := Aside0.mk (hi); replace HB := Aside0.mk (hb); (try clear hb hk)))
    go_roundg k1
    case measure => have := HK1.out; omega
    case rel => exact ⟨(t538), (t539), (t540), (by first | rfl | (simp; done) | (simp [*]; done)), H', ⟨by have := HK1.out; omega⟩, ⟨by repeat (first | (with_reducible first | exact HI529.out | apply IsS79.alloc | apply IsS79.drewN | apply IsS79.drew | apply IsS79.set_1 | apply IsS79.set_2) | exact HI529.out)⟩, ⟨by repeat (first | (with_reducible first | exact HB.out | apply below_alloc | apply pw_below_drewN | apply below_drew1 | refine below_set ?_ (IsS79.ge HI529.out)) | exact HB.out)⟩⟩
   ·obtain ⟨c9b0, c9b1⟩ := zy c9
    obtain rfl := Option.some.inj H
    go_wp2_with (first | ((with_reducible refine zf 44 rfl ?_); refine g1 (some 11) Tryz.func44 #[.pointer (some ⟨g529, 0, none⟩), .int .i64 3] ?_; (with_reducible refine (spec_l01Next.calls g529 t526 x530001_1 x530002_1 3 t535 t536 t537 w _ ?side1 ?side2 A8.out).mono ?_); (case side1 => repeat (first | (with_reducible first | exact HI529.out | apply IsS79.alloc | apply IsS79.drewN | apply IsS79.drew | apply IsS79.set_1 | apply IsS79.set_2) | exact HI529.out)); (case side2 => repeat (first | (with_reducible first | exact HB.out | apply below_alloc | apply pw_below_drewN | apply below_drew1 | refine below_set ?_ (IsS79.ge HI529.out)) | exact HB.out)); rintro e w13 ⟨rfl, hi, hb, hk⟩; refine ⟨_, rfl, ?_⟩; replace HI529 := Aside0.mk (hi); replace HB := Aside0.mk (hb); (try clear hb hk)))
    go_ret
    exact ⟨er, by repeat (first | (with_reducible first | exact HB.out | apply below_alloc | apply pw_below_drewN | apply below_drew1 | refine below_set ?_ (IsS79.ge HI529.out)) | exact HB.out)⟩

/-! ### spec_l01End: function 55 -/
def spec_l01End.f (k : Nat) (a0_0 : Int) (a0_1 : Int) : Option (Bool) := if a0_1 = 0 then (some (a0_0 == 1)) else ((spec_l01In.f a0_1 1 1000000).bind fun t542 => (if t542 = true then ((spec_l01In.f a0_0 (-1000000) 1000000).bind fun t543 => (if t543 = true then ((spec_l01Gcd.f k a0_0 a0_1).bind fun t544 => (some (t544 == 1))) else (some false))) else (some false)))
set_option maxHeartbeats 8000000 in
set_option maxRecDepth 100000 in
theorem spec_l01End.calls (k : Nat) (a0_0 : Int) (a0_1 : Int) (r : Bool) (w : World) (h : spec_l01End.f k a0_0 a0_1 = some r) :
  Calls Tryz.prog 55 #[.agg #[.int .i64 a0_0, .int .i64 a0_1]] w fun e w' => e = .returned (.bool r) ∧ Below w.heap.size w w' := by
 have hu27 := Tryz.underlying27
 have HB := Aside0.mk (Below.refl w.heap.size w)
 unfold spec_l01End.f at h
 have H := h
 clear h
 replace H := ii H
 rcases H with ⟨c2, H⟩ | ⟨c2, H⟩
 ·obtain ⟨c2b0, c2b1⟩ := zz c2
  clear c2
  obtain rfl := Option.some.inj H
  go_enter Tryz.func55, Tryz.ntmps55
  go_wp2_with (first | ((with_reducible refine zg 1 rfl ?_); refine zb 1 27 #[.int .i64 a0_0, .int .i64 a0_1] ?_; intro gb541 hg w3 BK541 hb; have GW541 := sg hg; replace HB := bs hb; clear hb hg; obtain ⟨hcz4_0, hcz4_1, hfz4_0, hfz4_1⟩ := z2 BK541))
  go_ret
  exact ⟨er, bl⟩
 ·obtain ⟨c2b0, c2b1⟩ := zy c2
  replace H := zi H
  obtain ⟨t542, A5, H⟩ := H
  try dsimp only at H
  by_cases c6 : t542 = true
  ·subst c6
   rw [if_pos rfl] at H
   replace H := zi H
   obtain ⟨t543, A7, H⟩ := H
   try dsimp only at H
   by_cases c8 : t543 = true
   ·subst c8
    rw [if_pos rfl] at H
    replace H := zi H
    obtain ⟨t544, A9, H⟩ := H
    try dsimp only at H
    obtain rfl := Option.some.inj H
    go_enter Tryz.func55, Tryz.ntmps55
    go_wp2_with (first | ((with_reducible refine zg 1 rfl ?_); refine zb 1 27 #[.int .i64 a0_0, .int .i64 a0_1] ?_; intro gb541 hg w10 BK541 hb; have GW541 := sg hg; replace HB := bs hb; clear hb hg; obtain ⟨hcz11_0, hcz11_1, hfz11_0, hfz11_1⟩ := z2 BK541) | ((with_reducible refine zf 32 rfl ?_); refine g1 (some 11) Tryz.func32 #[.int .i64 a0_1, .int .i64 1, .int .i64 1000000] ?_; (with_reducible refine (spec_l01In.calls a0_1 1 1000000 true _ A5.out).mono ?_); rintro e w' ⟨rfl, ⟨nd, rfl⟩⟩; refine ⟨_, rfl, ?_⟩) | (go_at_call 32; (with_reducible refine (spec_l01In.calls a0_0 (-1000000) 1000000 true _ A7.out).mono ?_); rintro e w' ⟨rfl, ⟨nd, rfl⟩⟩) | (go_at_call 58; (with_reducible refine (spec_l01Gcd.calls k a0_0 a0_1 t544 _ A9.out).mono ?_); rintro e w12 ⟨rfl, hb⟩; replace BK541 := bb BK541 hb; replace HB := bs hb; (try clear hb)))
    go_ret
    exact ⟨er, bl⟩
   ·replace c8 := Bool.eq_false_iff.mpr c8
    subst c8
    have H1 : (some false) = some r := by rw [if_neg (show ¬ (false = true) by decide)] at H; exact H
    clear H
    have H := H1
    clear H1
    obtain rfl := Option.some.inj H
    go_enter Tryz.func55, Tryz.ntmps55
    go_wp2_with (first | ((with_reducible refine zg 1 rfl ?_); refine zb 1 27 #[.int .i64 a0_0, .int .i64 a0_1] ?_; intro gb541 hg w13 BK541 hb; have GW541 := sg hg; replace HB := bs hb; clear hb hg; obtain ⟨hcz14_0, hcz14_1, hfz14_0, hfz14_1⟩ := z2 BK541) | ((with_reducible refine zf 32 rfl ?_); refine g1 (some 11) Tryz.func32 #[.int .i64 a0_1, .int .i64 1, .int .i64 1000000] ?_; (with_reducible refine (spec_l01In.calls a0_1 1 1000000 true _ A5.out).mono ?_); rintro e w' ⟨rfl, ⟨nd, rfl⟩⟩; refine ⟨_, rfl, ?_⟩) | (go_at_call 32; (with_reducible refine (spec_l01In.calls a0_0 (-1000000) 1000000 false _ A7.out).mono ?_); rintro e w' ⟨rfl, ⟨nd, rfl⟩⟩))
    go_ret
    exact ⟨er, bl⟩
  ·replace c6 := Bool.eq_false_iff.mpr c6
   subst c6
   have H1 : (some false) = some r := by rw [if_neg (show ¬ (false = true) by decide)] at H; exact H
   clear H
   have H := H1
   clear H1
   obtain rfl := Option.some.inj H
   go_enter Tryz.func55, Tryz.ntmps55
   go_wp2_with (first | ((with_reducible refine zg 1 rfl ?_); refine zb 1 27 #[.int .i64 a0_0, .int .i64 a0_1] ?_; intro gb541 hg w15 BK541 hb; have GW541 := sg hg; replace HB := bs hb; clear hb hg; obtain ⟨hcz16_0, hcz16_1, hfz16_0, hfz16_1⟩ := z2 BK541) | ((with_reducible refine zf 32 rfl ?_); refine g1 (some 11) Tryz.func32 #[.int .i64 a0_1, .int .i64 1, .int .i64 1000000] ?_; (with_reducible refine (spec_l01In.calls a0_1 1 1000000 false _ A5.out).mono ?_); rintro e w' ⟨rfl, ⟨nd, rfl⟩⟩; refine ⟨_, rfl, ?_⟩))
   go_ret
   exact ⟨er, bl⟩

/-! ### spec_l01ReadEnd: function 50 -/
def spec_l01ReadEnd.f (k : Nat) (a0 : ByteArray) : Option (Int × Int × Bool) := if a0.toList = ([105, 110, 102] : List UInt8) then (some (1, 0, true)) else ((spec_l01Split.f k a0 47).bind fun t546 => (if (t546.length : Int) = 2 then (if 0 < (t546.length : Int) then ((spec_l01Signed.f k (rdOf ByteArray.empty t546 0)).bind fun bt550 => (if 1 < (t546.length : Int) then ((spec_l01Number.f k (rdOf ByteArray.empty t546 1)).bind fun t553 => (if bt550.2 = true then (if t553 < 1 then (some (0, 0, false)) else ((spec_l01End.f k bt550.1 t553).bind fun t555 => (if t555 = true then (some (bt550.1, t553, true)) else (some (0, 0, false))))) else (some (0, 0, false)))) else (none))) else (none)) else (some (0, 0, false))))
set_option maxHeartbeats 8000000 in
set_option maxRecDepth 100000 in
theorem spec_l01ReadEnd.calls (k : Nat) (a0 : ByteArray) (r1 : Int) (r2 : Int) (r3 : Bool) (w : World) (h : spec_l01ReadEnd.f k a0 = some (r1, r2, r3)) :
  Calls Tryz.prog 50 #[.string a0] w fun e w' => e = .returned (.tuple #[.agg #[.int .i64 r1, .int .i64 r2], .bool r3]) ∧ Below w.heap.size w w' := by
 have hu27 := Tryz.underlying27
 have HB := Aside0.mk (Below.refl w.heap.size w)
 unfold spec_l01ReadEnd.f at h
 have H := h
 clear h
 replace H := ii H
 rcases H with ⟨c2, H⟩ | ⟨c2, H⟩
 ·obtain ⟨c2b0, c2b1⟩ := zz c2
  clear c2
  simp only [Option.some.injEq, Prod.mk.injEq] at H
  obtain ⟨rfl, rfl, rfl⟩ := H
  go_enter Tryz.func50, Tryz.ntmps50
  go_wp2_with (first | ((with_reducible refine zg 2 rfl ?_); refine zb 2 27 #[.int .i64 0, .int .i64 0] ?_; intro gb545 hg w3 BK545 hb; have GW545 := sg hg; replace HB := bs hb; clear hb hg; obtain ⟨hcz4_0, hcz4_1, hfz4_0, hfz4_1⟩ := z2 BK545))
  refine bodyPost_ret (results_ct rfl _ _ gb545 27 #[.int .i64 1, .int .i64 0] (0, 0) _ rfl (bp) Tryz.underlying27 rfl (by kernel_rfl)) rfl ?_
  exact ⟨er, bl⟩
 ·obtain ⟨c2b0, c2b1⟩ := zy c2
  replace H := zi H
  obtain ⟨t546, A5, H⟩ := H
  try dsimp only at H
  replace H := ii H
  rcases H with ⟨c6, H⟩ | ⟨c6, H⟩
  ·obtain ⟨c6b0, c6b1⟩ := zz c6
   clear c6
   replace H := ii H
   rcases H with ⟨c7, H⟩ | ⟨c7, H⟩
   ·have c7b0 := decide_eq_true c7
    have c7b1 : decide (0 < t546.length) = true := decide_eq_true (by omega)
    clear c7
    replace H := zi H
    obtain ⟨⟨t550, t551⟩, A8, H⟩ := H
    try dsimp only at H
    replace H := ii H
    rcases H with ⟨c9, H⟩ | ⟨c9, H⟩
    ·have c9b0 := decide_eq_true c9
     have c9b1 : decide (1 < t546.length) = true := decide_eq_true (by omega)
     clear c9
     replace H := zi H
     obtain ⟨t553, A10, H⟩ := H
     try dsimp only at H
     by_cases c11 : t551 = true
     ·subst c11
      rw [if_pos rfl] at H
      replace H := ii H
      rcases H with ⟨c12, H⟩ | ⟨c12, H⟩
      ·have c12b0 := decide_eq_true c12
       clear c12
       simp only [Option.some.injEq, Prod.mk.injEq] at H
       obtain ⟨rfl, rfl, rfl⟩ := H
       go_enter Tryz.func50, Tryz.ntmps50
       go_wp2_with (first | ((with_reducible refine zg 2 rfl ?_); refine zb 2 27 #[.int .i64 0, .int .i64 0] ?_; intro gb545 hg w13 BK545 hb; have GW545 := sg hg; replace HB := bs hb; clear hb hg) | ((with_reducible refine zf 68 rfl ?_); refine g1 (some 12) Tryz.func68 #[.string a0, .int .u8 47] ?_; (with_reducible refine (spec_l01Split.calls k a0 47 t546 _ A5.out).mono ?_); rintro e w14 ⟨v547, rfl, ho0, hb⟩; refine ⟨_, rfl, ?_⟩; have HO548 := Aside0.mk (Kd.R_lower ho0 (below_size (bl))); replace BK545 := bb BK545 hb; replace HB := bs hb; (try clear hb); (try clear hb2); (try clear hk); (try clear hi); (try clear ho0); obtain ⟨Ao15, co15, eo15⟩ := Kd.R_slice HO548.out; subst eo15; have p549 : 0 ≤ (0 : Int) := (by omega); have q549 : 0 < (t546.length : Int) := of_decide_eq_true (by first | (with_reducible assumption) | assumption); obtain ⟨ad549, e549, hx549_0⟩ := Kd.at_string (Kd.R_reads' HO548.out).2.2 0 p549 q549; cases e549; have qi549 : (0 < t546.length) = True := eq_true (by omega); (try rw [show ((0 : Int)).toNat = 0 from rfl] at hx549_0); (try rw [Addr.add_zero'] at hx549_0); replace p549 := eq_true p549; replace q549 := eq_true q549) | ((with_reducible refine zf 69 rfl ?_); refine g1 (some 21) Tryz.func69 #[.string (rdOf ByteArray.empty t546 0)] ?_; (with_reducible refine (spec_l01Signed.calls k (rdOf ByteArray.empty t546 0) t550 true _ A8.out).mono ?_); rintro e w' ⟨rfl, ⟨nd, rfl⟩⟩; refine ⟨_, rfl, ?_⟩; (try (rw [drewN_self w14]; generalize hq_ : World.drewN w14 _ = w14; have n0_ : Aside0 (Kd.R Kd.string 9 w14 w.heap.size (fun _ => True) (.slice (some ad549) t546.length co15) t546) := ⟨by rw [← hq_]; exact (by (with_reducible repeat (first | apply Kd.R_alloc | apply Kd.R_drewN | apply Kd.R_drew)); exact HO548.out)⟩; have n1_ : Aside0 (w14.heap[gb545]? = some (.cells #[.int .i64 0, .int .i64 0] 27 (0, 0))) := ⟨by rw [← hq_]; exact (be BK545)⟩; have n2_ : Aside0 (Below w.heap.size w w14) := ⟨by rw [← hq_]; exact (bl)⟩; clear HO548 BK545 HB hq_; have HO548 := n0_; have BK545 := n1_; have HB := n2_; clear n0_ n1_ n2_)); have p552 : 0 ≤ (1 : Int) := (by omega); have q552 : 1 < (t546.length : Int) := of_decide_eq_true (by first | (with_reducible assumption) | assumption); obtain ⟨ad552, e552, hx552_0⟩ := Kd.at_string (Kd.R_reads' HO548.out).2.2 1 p552 q552; obtain rfl : ad549 = ad552 := (by injection e552); (try simp only [show (1 : Int).toNat = 1 from rfl, Nat.reduceMul, Nat.reduceEqDiff, Go.Addr.add, ↓reduceIte] at hx552_0); have qi552 : (1 < t546.length) = True := eq_true (by omega); (try rw [show ((1 : Int)).toNat = 1 from rfl] at hx552_0); replace p552 := eq_true p552; replace q552 := eq_true q552) | ((with_reducible refine zf 70 rfl ?_); refine g1 (some 28) Tryz.func70 #[.string (rdOf ByteArray.empty t546 1)] ?_; (with_reducible refine (spec_l01Number.calls k (rdOf ByteArray.empty t546 1) t553 _ A10.out).mono ?_); rintro e w' ⟨rfl, ⟨nd, rfl⟩⟩; refine ⟨_, rfl, ?_⟩; (try (rw [drewN_self w14]; generalize hq_ : World.drewN w14 _ = w14; have n0_ : Aside0 (Kd.R Kd.string 9 w14 w.heap.size (fun _ => True) (.slice (some ad549) t546.length co15) t546) := ⟨by rw [← hq_]; exact (by (with_reducible repeat (first | apply Kd.R_alloc | apply Kd.R_drewN | apply Kd.R_drew)); exact HO548.out)⟩; have n1_ : Aside0 (w14.heap[gb545]? = some (.cells #[.int .i64 0, .int .i64 0] 27 (0, 0))) := ⟨by rw [← hq_]; exact (be BK545)⟩; have n2_ : Aside0 (Below w.heap.size w w14) := ⟨by rw [← hq_]; exact (bl)⟩; clear HO548 BK545 HB hq_; have HO548 := n0_; have BK545 := n1_; have HB := n2_; clear n0_ n1_ n2_))) | ((with_reducible refine zg 7 rfl ?_); refine zb 7 27 #[.int .i64 0, .int .i64 0] ?_; intro gb554 hg w16 BK554 hb; have GW554 := sg hg; have NB545_554 := nl hg BK545; replace HO548 := Aside0.mk (Kd.R_below (by (with_reducible repeat (first | apply Kd.R_alloc | apply Kd.R_drewN | apply Kd.R_drew)); exact HO548.out) hb); replace BK545 := bb BK545 hb; replace HB := bs hb; clear hb hg; obtain ⟨hnb17, hnc17⟩ := zm NB545_554; obtain ⟨hcz18_0, hcz18_1, hfz18_0, hfz18_1⟩ := z2 BK554; obtain ⟨hcz19_0, hcz19_1, hfz19_0, hfz19_1⟩ := z2 BK545))
       refine bodyPost_ret (results_ct rfl _ _ gb545 27 #[.int .i64 0, .int .i64 0] (0, 0) _ rfl (bp) Tryz.underlying27 rfl (by kernel_rfl)) rfl ?_
       exact ⟨er, bl⟩
      ·have c12b0 := decide_eq_false c12
       clear c12
       replace H := zi H
       obtain ⟨t555, A20, H⟩ := H
       try dsimp only at H
       by_cases c21 : t555 = true
       ·subst c21
        rw [if_pos rfl] at H
        simp only [Option.some.injEq, Prod.mk.injEq] at H
        obtain ⟨rfl, rfl, rfl⟩ := H
        go_enter Tryz.func50, Tryz.ntmps50
        go_wp2_with (first | ((with_reducible refine zg 2 rfl ?_); refine zb 2 27 #[.int .i64 0, .int .i64 0] ?_; intro gb545 hg w22 BK545 hb; have GW545 := sg hg; replace HB := bs hb; clear hb hg) | ((with_reducible refine zf 68 rfl ?_); refine g1 (some 12) Tryz.func68 #[.string a0, .int .u8 47] ?_; (with_reducible refine (spec_l01Split.calls k a0 47 t546 _ A5.out).mono ?_); rintro e w23 ⟨v547, rfl, ho0, hb⟩; refine ⟨_, rfl, ?_⟩; have HO548 := Aside0.mk (Kd.R_lower ho0 (below_size (bl))); replace BK545 := bb BK545 hb; replace HB := bs hb; (try clear hb); (try clear hb2); (try clear hk); (try clear hi); (try clear ho0); obtain ⟨Ao24, co24, eo24⟩ := Kd.R_slice HO548.out; subst eo24; have p549 : 0 ≤ (0 : Int) := (by omega); have q549 : 0 < (t546.length : Int) := of_decide_eq_true (by first | (with_reducible assumption) | assumption); obtain ⟨ad549, e549, hx549_0⟩ := Kd.at_string (Kd.R_reads' HO548.out).2.2 0 p549 q549; cases e549; have qi549 : (0 < t546.length) = True := eq_true (by omega); (try rw [show ((0 : Int)).toNat = 0 from rfl] at hx549_0); (try rw [Addr.add_zero'] at hx549_0); replace p549 := eq_true p549; replace q549 := eq_true q549) | ((with_reducible refine zf 69 rfl ?_); refine g1 (some 21) Tryz.func69 #[.string (rdOf ByteArray.empty t546 0)] ?_; (with_reducible refine (spec_l01Signed.calls k (rdOf ByteArray.empty t546 0) t550 true _ A8.out).mono ?_); rintro e w' ⟨rfl, ⟨nd, rfl⟩⟩; refine ⟨_, rfl, ?_⟩; (try (rw [drewN_self w23]; generalize hq_ : World.drewN w23 _ = w23; have n0_ : Aside0 (Kd.R Kd.string 9 w23 w.heap.size (fun _ => True) (.slice (some ad549) t546.length co24) t546) := ⟨by rw [← hq_]; exact (by (with_reducible repeat (first | apply Kd.R_alloc | apply Kd.R_drewN | apply Kd.R_drew)); exact HO548.out)⟩; have n1_ : Aside0 (w23.heap[gb545]? = some (.cells #[.int .i64 0, .int .i64 0] 27 (0, 0))) := ⟨by rw [← hq_]; exact (be BK545)⟩; have n2_ : Aside0 (Below w.heap.size w w23) := ⟨by rw [← hq_]; exact (bl)⟩; clear HO548 BK545 HB hq_; have HO548 := n0_; have BK545 := n1_; have HB := n2_; clear n0_ n1_ n2_)); have p552 : 0 ≤ (1 : Int) := (by omega); have q552 : 1 < (t546.length : Int) := of_decide_eq_true (by first | (with_reducible assumption) | assumption); obtain ⟨ad552, e552, hx552_0⟩ := Kd.at_string (Kd.R_reads' HO548.out).2.2 1 p552 q552; obtain rfl : ad549 = ad552 := (by injection e552); (try simp only [show (1 : Int).toNat = 1 from rfl, Nat.reduceMul, Nat.reduceEqDiff, Go.Addr.add, ↓reduceIte] at hx552_0); have qi552 : (1 < t546.length) = True := eq_true (by omega); (try rw [show ((1 : Int)).toNat = 1 from rfl] at hx552_0); replace p552 := eq_true p552; replace q552 := eq_true q552) | ((with_reducible refine zf 70 rfl ?_); refine g1 (some 28) Tryz.func70 #[.string (rdOf ByteArray.empty t546 1)] ?_; (with_reducible refine (spec_l01Number.calls k (rdOf ByteArray.empty t546 1) t553 _ A10.out).mono ?_); rintro e w' ⟨rfl, ⟨nd, rfl⟩⟩; refine ⟨_, rfl, ?_⟩; (try (rw [drewN_self w23]; generalize hq_ : World.drewN w23 _ = w23; have n0_ : Aside0 (Kd.R Kd.string 9 w23 w.heap.size (fun _ => True) (.slice (some ad549) t546.length co24) t546) := ⟨by rw [← hq_]; exact (by (with_reducible repeat (first | apply Kd.R_alloc | apply Kd.R_drewN | apply Kd.R_drew)); exact HO548.out)⟩; have n1_ : Aside0 (w23.heap[gb545]? = some (.cells #[.int .i64 0, .int .i64 0] 27 (0, 0))) := ⟨by rw [← hq_]; exact (be BK545)⟩; have n2_ : Aside0 (Below w.heap.size w w23) := ⟨by rw [← hq_]; exact (bl)⟩; clear HO548 BK545 HB hq_; have HO548 := n0_; have BK545 := n1_; have HB := n2_; clear n0_ n1_ n2_))) | ((with_reducible refine zg 7 rfl ?_); refine zb 7 27 #[.int .i64 0, .int .i64 0] ?_; intro gb554 hg w25 BK554 hb; have GW554 := sg hg; have NB545_554 := nl hg BK545; replace HO548 := Aside0.mk (Kd.R_below (by (with_reducible repeat (first | apply Kd.R_alloc | apply Kd.R_drewN | apply Kd.R_drew)); exact HO548.out) hb); replace BK545 := bb BK545 hb; replace HB := bs hb; clear hb hg; obtain ⟨hnb26, hnc26⟩ := zm NB545_554; obtain ⟨hcz27_0, hcz27_1, hfz27_0, hfz27_1⟩ := z2 BK554) | (go_at_call 55; (with_reducible refine (spec_l01End.calls k t550 t553 true _ A20.out).mono ?_); rintro e w28 ⟨rfl, hb⟩; replace HO548 := Aside0.mk (Kd.R_below (by (with_reducible repeat (first | apply Kd.R_alloc | apply Kd.R_drewN | apply Kd.R_drew)); exact (Kd.R_mono (Kd.R_far (p := ⟨gb554, 1, none⟩) (Kd.R_far (p := ⟨gb554, 0, none⟩) (Kd.R_types HO548.out BK554.out (by decide)) (fun _ hk => hk.2) (.int .i64 t550)) (fun _ hk => hk.2) (.int .i64 t553)) (fun _ h_ => h_.1))) hb); replace BK545 := Aside0.mk (blk_below (g := gb545) (o := .cells #[.int .i64 0, .int .i64 0] 27 (0, 0)) (bp) hb); replace BK554 := Aside0.mk (blk_below (g := gb554) (o := .cells #[.int .i64 t550, .int .i64 t553] 27 (0, 0)) (bp) hb); replace HB := bs hb; (try clear hb); obtain ⟨hcz29_0, hcz29_1, hfz29_0, hfz29_1⟩ := z2 BK554; obtain ⟨hcz30_0, hcz30_1, hfz30_0, hfz30_1⟩ := z2 BK545))
        refine bodyPost_ret (results_ct rfl _ _ gb545 27 #[.int .i64 t550, .int .i64 t553] (0, 0) _ rfl (bp) Tryz.underlying27 rfl (by kernel_rfl)) rfl ?_
        exact ⟨er, bl⟩
       ·replace c21 := Bool.eq_false_iff.mpr c21
        subst c21
        have H1 : (some (0, 0, false)) = some (r1, r2, r3) := by rw [if_neg (show ¬ (false = true) by decide)] at H; exact H
        clear H
        have H := H1
        clear H1
        simp only [Option.some.injEq, Prod.mk.injEq] at H
        obtain ⟨rfl, rfl, rfl⟩ := H
        go_enter Tryz.func50, Tryz.ntmps50
        go_wp2_with (first | ((with_reducible refine zg 2 rfl ?_); refine zb 2 27 #[.int .i64 0, .int .i64 0] ?_; intro gb545 hg w31 BK545 hb; have GW545 := sg hg; replace HB := bs hb; clear hb hg) | ((with_reducible refine zf 68 rfl ?_); refine g1 (some 12) Tryz.func68 #[.string a0, .int .u8 47] ?_; (with_reducible refine (spec_l01Split.calls k a0 47 t546 _ A5.out).mono ?_); rintro e w32 ⟨v547, rfl, ho0, hb⟩; refine ⟨_, rfl, ?_⟩; have HO548 := Aside0.mk (Kd.R_lower ho0 (below_size (bl))); replace BK545 := bb BK545 hb; replace HB := bs hb; (try clear hb); (try clear hb2); (try clear hk); (try clear hi); (try clear ho0); obtain ⟨Ao33, co33, eo33⟩ := Kd.R_slice HO548.out; subst eo33; have p549 : 0 ≤ (0 : Int) := (by omega); have q549 : 0 < (t546.length : Int) := of_decide_eq_true (by first | (with_reducible assumption) | assumption); obtain ⟨ad549, e549, hx549_0⟩ := Kd.at_string (Kd.R_reads' HO548.out).2.2 0 p549 q549; cases e549; have qi549 : (0 < t546.length) = True := eq_true (by omega); (try rw [show ((0 : Int)).toNat = 0 from rfl] at hx549_0); (try rw [Addr.add_zero'] at hx549_0); replace p549 := eq_true p549; replace q549 := eq_true q549) | ((with_reducible refine zf 69 rfl ?_); refine g1 (some 21) Tryz.func69 #[.string (rdOf ByteArray.empty t546 0)] ?_; (with_reducible refine (spec_l01Signed.calls k (rdOf ByteArray.empty t546 0) t550 true _ A8.out).mono ?_); rintro e w' ⟨rfl, ⟨nd, rfl⟩⟩; refine ⟨_, rfl, ?_⟩; (try (rw [drewN_self w32]; generalize hq_ : World.drewN w32 _ = w32; have n0_ : Aside0 (Kd.R Kd.string 9 w32 w.heap.size (fun _ => True) (.slice (some ad549) t546.length co33) t546) := ⟨by rw [← hq_]; exact (by (with_reducible repeat (first | apply Kd.R_alloc | apply Kd.R_drewN | apply Kd.R_drew)); exact HO548.out)⟩; have n1_ : Aside0 (w32.heap[gb545]? = some (.cells #[.int .i64 0, .int .i64 0] 27 (0, 0))) := ⟨by rw [← hq_]; exact (be BK545)⟩; have n2_ : Aside0 (Below w.heap.size w w32) := ⟨by rw [← hq_]; exact (bl)⟩; clear HO548 BK545 HB hq_; have HO548 := n0_; have BK545 := n1_; have HB := n2_; clear n0_ n1_ n2_)); have p552 : 0 ≤ (1 : Int) := (by omega); have q552 : 1 < (t546.length : Int) := of_decide_eq_true (by first | (with_reducible assumption) | assumption); obtain ⟨ad552, e552, hx552_0⟩ := Kd.at_string (Kd.R_reads' HO548.out).2.2 1 p552 q552; obtain rfl : ad549 = ad552 := (by injection e552); (try simp only [show (1 : Int).toNat = 1 from rfl, Nat.reduceMul, Nat.reduceEqDiff, Go.Addr.add, ↓reduceIte] at hx552_0); have qi552 : (1 < t546.length) = True := eq_true (by omega); (try rw [show ((1 : Int)).toNat = 1 from rfl] at hx552_0); replace p552 := eq_true p552; replace q552 := eq_true q552) | ((with_reducible refine zf 70 rfl ?_); refine g1 (some 28) Tryz.func70 #[.string (rdOf ByteArray.empty t546 1)] ?_; (with_reducible refine (spec_l01Number.calls k (rdOf ByteArray.empty t546 1) t553 _ A10.out).mono ?_); rintro e w' ⟨rfl, ⟨nd, rfl⟩⟩; refine ⟨_, rfl, ?_⟩; (try (rw [drewN_self w32]; generalize hq_ : World.drewN w32 _ = w32; have n0_ : Aside0 (Kd.R Kd.string 9 w32 w.heap.size (fun _ => True) (.slice (some ad549) t546.length co33) t546) := ⟨by rw [← hq_]; exact (by (with_reducible repeat (first | apply Kd.R_alloc | apply Kd.R_drewN | apply Kd.R_drew)); exact HO548.out)⟩; have n1_ : Aside0 (w32.heap[gb545]? = some (.cells #[.int .i64 0, .int .i64 0] 27 (0, 0))) := ⟨by rw [← hq_]; exact (be BK545)⟩; have n2_ : Aside0 (Below w.heap.size w w32) := ⟨by rw [← hq_]; exact (bl)⟩; clear HO548 BK545 HB hq_; have HO548 := n0_; have BK545 := n1_; have HB := n2_; clear n0_ n1_ n2_))) | ((with_reducible refine zg 7 rfl ?_); refine zb 7 27 #[.int .i64 0, .int .i64 0] ?_; intro gb554 hg w34 BK554 hb; have GW554 := sg hg; have NB545_554 := nl hg BK545; replace HO548 := Aside0.mk (Kd.R_below (by (with_reducible repeat (first | apply Kd.R_alloc | apply Kd.R_drewN | apply Kd.R_drew)); exact HO548.out) hb); replace BK545 := bb BK545 hb; replace HB := bs hb; clear hb hg; obtain ⟨hnb35, hnc35⟩ := zm NB545_554; obtain ⟨hcz36_0, hcz36_1, hfz36_0, hfz36_1⟩ := z2 BK554) | (go_at_call 55; (with_reducible refine (spec_l01End.calls k t550 t553 false _ A20.out).mono ?_); rintro e w37 ⟨rfl, hb⟩; replace HO548 := Aside0.mk (Kd.R_below (by (with_reducible repeat (first | apply Kd.R_alloc | apply Kd.R_drewN | apply Kd.R_drew)); exact (Kd.R_mono (Kd.R_far (p := ⟨gb554, 1, none⟩) (Kd.R_far (p := ⟨gb554, 0, none⟩) (Kd.R_types HO548.out BK554.out (by decide)) (fun _ hk => hk.2) (.int .i64 t550)) (fun _ hk => hk.2) (.int .i64 t553)) (fun _ h_ => h_.1))) hb); replace BK545 := Aside0.mk (blk_below (g := gb545) (o := .cells #[.int .i64 0, .int .i64 0] 27 (0, 0)) (bp) hb); replace BK554 := Aside0.mk (blk_below (g := gb554) (o := .cells #[.int .i64 t550, .int .i64 t553] 27 (0, 0)) (bp) hb); replace HB := bs hb; (try clear hb); obtain ⟨hcz38_0, hcz38_1, hfz38_0, hfz38_1⟩ := z2 BK545))
        refine bodyPost_ret (results_ct rfl _ _ gb545 27 #[.int .i64 0, .int .i64 0] (0, 0) _ rfl (bp) Tryz.underlying27 rfl (by kernel_rfl)) rfl ?_
        exact ⟨er, bl⟩
     ·replace c11 := Bool.eq_false_iff.mpr c11
      subst c11
      have H1 : (some (0, 0, false)) = some (r1, r2, r3) := by rw [if_neg (show ¬ (false = true) by decide)] at H; exact H
      clear H
      have H := H1
      clear H1
      simp only [Option.some.injEq, Prod.mk.injEq] at H
      obtain ⟨rfl, rfl, rfl⟩ := H
      go_enter Tryz.func50, Tryz.ntmps50
      go_wp2_with (first | ((with_reducible refine zg 2 rfl ?_); refine zb 2 27 #[.int .i64 0, .int .i64 0] ?_; intro gb545 hg w39 BK545 hb; have GW545 := sg hg; replace HB := bs hb; clear hb hg) | ((with_reducible refine zf 68 rfl ?_); refine g1 (some 12) Tryz.func68 #[.string a0, .int .u8 47] ?_; (with_reducible refine (spec_l01Split.calls k a0 47 t546 _ A5.out).mono ?_); rintro e w40 ⟨v547, rfl, ho0, hb⟩; refine ⟨_, rfl, ?_⟩; have HO548 := Aside0.mk (Kd.R_lower ho0 (below_size (bl))); replace BK545 := bb BK545 hb; replace HB := bs hb; (try clear hb); (try clear hb2); (try clear hk); (try clear hi); (try clear ho0); obtain ⟨Ao41, co41, eo41⟩ := Kd.R_slice HO548.out; subst eo41; have p549 : 0 ≤ (0 : Int) := (by omega); have q549 : 0 < (t546.length : Int) := of_decide_eq_true (by first | (with_reducible assumption) | assumption); obtain ⟨ad549, e549, hx549_0⟩ := Kd.at_string (Kd.R_reads' HO548.out).2.2 0 p549 q549; cases e549; have qi549 : (0 < t546.length) = True := eq_true (by omega); (try rw [show ((0 : Int)).toNat = 0 from rfl] at hx549_0); (try rw [Addr.add_zero'] at hx549_0); replace p549 := eq_true p549; replace q549 := eq_true q549) | ((with_reducible refine zf 69 rfl ?_); refine g1 (some 21) Tryz.func69 #[.string (rdOf ByteArray.empty t546 0)] ?_; (with_reducible refine (spec_l01Signed.calls k (rdOf ByteArray.empty t546 0) t550 false _ A8.out).mono ?_); rintro e w' ⟨rfl, ⟨nd, rfl⟩⟩; refine ⟨_, rfl, ?_⟩; (try (rw [drewN_self w40]; generalize hq_ : World.drewN w40 _ = w40; have n0_ : Aside0 (Kd.R Kd.string 9 w40 w.heap.size (fun _ => True) (.slice (some ad549) t546.length co41) t546) := ⟨by rw [← hq_]; exact (by (with_reducible repeat (first | apply Kd.R_alloc | apply Kd.R_drewN | apply Kd.R_drew)); exact HO548.out)⟩; have n1_ : Aside0 (w40.heap[gb545]? = some (.cells #[.int .i64 0, .int .i64 0] 27 (0, 0))) := ⟨by rw [← hq_]; exact (be BK545)⟩; have n2_ : Aside0 (Below w.heap.size w w40) := ⟨by rw [← hq_]; exact (bl)⟩; clear HO548 BK545 HB hq_; have HO548 := n0_; have BK545 := n1_; have HB := n2_; clear n0_ n1_ n2_)); have p552 : 0 ≤ (1 : Int) := (by omega); have q552 : 1 < (t546.length : Int) := of_decide_eq_true (by first | (with_reducible assumption) | assumption); obtain ⟨ad552, e552, hx552_0⟩ := Kd.at_string (Kd.R_reads' HO548.out).2.2 1 p552 q552; obtain rfl : ad549 = ad552 := (by injection e552); (try simp only [show (1 : Int).toNat = 1 from rfl, Nat.reduceMul, Nat.reduceEqDiff, Go.Addr.add, ↓reduceIte] at hx552_0); have qi552 : (1 < t546.length) = True := eq_true (by omega); (try rw [show ((1 : Int)).toNat = 1 from rfl] at hx552_0); replace p552 := eq_true p552; replace q552 := eq_true q552) | ((with_reducible refine zf 70 rfl ?_); refine g1 (some 28) Tryz.func70 #[.string (rdOf ByteArray.empty t546 1)] ?_; (with_reducible refine (spec_l01Number.calls k (rdOf ByteArray.empty t546 1) t553 _ A10.out).mono ?_); rintro e w' ⟨rfl, ⟨nd, rfl⟩⟩; refine ⟨_, rfl, ?_⟩; (try (rw [drewN_self w40]; generalize hq_ : World.drewN w40 _ = w40; have n0_ : Aside0 (Kd.R Kd.string 9 w40 w.heap.size (fun _ => True) (.slice (some ad549) t546.length co41) t546) := ⟨by rw [← hq_]; exact (by (with_reducible repeat (first | apply Kd.R_alloc | apply Kd.R_drewN | apply Kd.R_drew)); exact HO548.out)⟩; have n1_ : Aside0 (w40.heap[gb545]? = some (.cells #[.int .i64 0, .int .i64 0] 27 (0, 0))) := ⟨by rw [← hq_]; exact (be BK545)⟩; have n2_ : Aside0 (Below w.heap.size w w40) := ⟨by rw [← hq_]; exact (bl)⟩; clear HO548 BK545 HB hq_; have HO548 := n0_; have BK545 := n1_; have HB := n2_; clear n0_ n1_ n2_))) | ((with_reducible refine zg 7 rfl ?_); refine zb 7 27 #[.int .i64 0, .int .i64 0] ?_; intro gb554 hg w42 BK554 hb; have GW554 := sg hg; have NB545_554 := nl hg BK545; replace HO548 := Aside0.mk (Kd.R_below (by (with_reducible repeat (first | apply Kd.R_alloc | apply Kd.R_drewN | apply Kd.R_drew)); exact HO548.out) hb); replace BK545 := bb BK545 hb; replace HB := bs hb; clear hb hg; obtain ⟨hnb43, hnc43⟩ := zm NB545_554; obtain ⟨hcz44_0, hcz44_1, hfz44_0, hfz44_1⟩ := z2 BK554; obtain ⟨hcz45_0, hcz45_1, hfz45_0, hfz45_1⟩ := z2 BK545))
      refine bodyPost_ret (results_ct rfl _ _ gb545 27 #[.int .i64 0, .int .i64 0] (0, 0) _ rfl (bp) Tryz.underlying27 rfl (by kernel_rfl)) rfl ?_
      exact ⟨er, bl⟩
    ·exact absurd H (by simp)
   ·exact absurd H (by simp)
  ·obtain ⟨c6b0, c6b1⟩ := zy c6
   simp only [Option.some.injEq, Prod.mk.injEq] at H
   obtain ⟨rfl, rfl, rfl⟩ := H
   go_enter Tryz.func50, Tryz.ntmps50
   go_wp2_with (first | ((with_reducible refine zg 2 rfl ?_); refine zb 2 27 #[.int .i64 0, .int .i64 0] ?_; intro gb545 hg w46 BK545 hb; have GW545 := sg hg; replace HB := bs hb; clear hb hg) | ((with_reducible refine zf 68 rfl ?_); refine g1 (some 12) Tryz.func68 #[.string a0, .int .u8 47] ?_; (with_reducible refine (spec_l01Split.calls k a0 47 t546 _ A5.out).mono ?_); rintro e w47 ⟨v547, rfl, ho0, hb⟩; refine ⟨_, rfl, ?_⟩; have HO548 := Aside0.mk (Kd.R_lower ho0 (below_size (bl))); replace BK545 := bb BK545 hb; replace HB := bs hb; (try clear hb); (try clear hb2); (try clear hk); (try clear hi); (try clear ho0); obtain ⟨Ao48, co48, eo48⟩ := Kd.R_slice HO548.out; subst eo48; obtain ⟨hcz49_0, hcz49_1, hfz49_0, hfz49_1⟩ := z2 BK545))
   refine bodyPost_ret (results_ct rfl _ _ gb545 27 #[.int .i64 0, .int .i64 0] (0, 0) _ rfl (bp) Tryz.underlying27 rfl (by kernel_rfl)) rfl ?_
   exact ⟨er, bl⟩

/-! ### spec_ParseEnd: function 18 -/
def spec_ParseEnd.f (k : Nat) (a0 : ByteArray) : Option (Int × Int × Int) := (spec_l01ReadEnd.f k a0).bind fun bt557 => (if bt557.2.2 = true then (some (bt557.1, bt557.2.1, 0)) else (some (0, 0, 6)))
set_option maxHeartbeats 8000000 in
set_option maxRecDepth 100000 in
theorem spec_ParseEnd.calls (k : Nat) (a0 : ByteArray) (r1 : Int) (r2 : Int) (r3 : Int) (w : World) (h : spec_ParseEnd.f k a0 = some (r1, r2, r3)) :
  Calls Tryz.prog 18 #[.string a0] w fun e w' => e = .returned (.tuple #[.agg #[.int .i64 r1, .int .i64 r2], .int .i64 r3]) ∧ Below w.heap.size w w' := by
 have hu27 := Tryz.underlying27
 have HB := Aside0.mk (Below.refl w.heap.size w)
 unfold spec_ParseEnd.f at h
 have H := h
 clear h
 replace H := zi H
 obtain ⟨⟨t557, t558, t559⟩, A2, H⟩ := H
 try dsimp only at H
 by_cases c3 : t559 = true
 ·subst c3
  rw [if_pos rfl] at H
  simp only [Option.some.injEq, Prod.mk.injEq] at H
  obtain ⟨rfl, rfl, rfl⟩ := H
  go_enter Tryz.func18, Tryz.ntmps18
  go_wp2_with (first | ((with_reducible refine zg 2 rfl ?_); refine zb 2 27 #[.int .i64 0, .int .i64 0] ?_; intro gb556 hg w4 BK556 hb; have GW556 := sg hg; replace HB := bs hb; clear hb hg) | ((with_reducible refine zf 50 rfl ?_); refine g1 (some 8) Tryz.func50 #[.string a0] ?_; (with_reducible refine (spec_l01ReadEnd.calls k a0 t557 t558 true _ A2.out).mono ?_); rintro e w5 ⟨rfl, hb⟩; refine ⟨_, rfl, ?_⟩; replace BK556 := bb BK556 hb; replace HB := bs hb; (try clear hb)) | ((with_reducible refine zg 4 rfl ?_); refine zb 4 27 #[.int .i64 0, .int .i64 0] ?_; intro gb560 hg w6 BK560 hb; have GW560 := sg hg; have NB556_560 := nl hg BK556; replace BK556 := bb BK556 hb; replace HB := bs hb; clear hb hg; obtain ⟨hnb7, hnc7⟩ := zm NB556_560; obtain ⟨hcz8_0, hcz8_1, hfz8_0, hfz8_1⟩ := z2 BK560; obtain ⟨hcz9_0, hcz9_1, hfz9_0, hfz9_1⟩ := z2 BK556))
  refine bodyPost_ret (results_ct rfl _ _ gb556 27 #[.int .i64 t557, .int .i64 t558] (0, 0) _ rfl (bp) Tryz.underlying27 rfl (by kernel_rfl)) rfl ?_
  exact ⟨er, bl⟩
 ·replace c3 := Bool.eq_false_iff.mpr c3
  subst c3
  have H1 : (some (0, 0, 6)) = some (r1, r2, r3) := by rw [if_neg (show ¬ (false = true) by decide)] at H; exact H
  clear H
  have H := H1
  clear H1
  simp only [Option.some.injEq, Prod.mk.injEq] at H
  obtain ⟨rfl, rfl, rfl⟩ := H
  go_enter Tryz.func18, Tryz.ntmps18
  go_wp2_with (first | ((with_reducible refine zg 2 rfl ?_); refine zb 2 27 #[.int .i64 0, .int .i64 0] ?_; intro gb556 hg w10 BK556 hb; have GW556 := sg hg; replace HB := bs hb; clear hb hg) | ((with_reducible refine zf 50 rfl ?_); refine g1 (some 8) Tryz.func50 #[.string a0] ?_; (with_reducible refine (spec_l01ReadEnd.calls k a0 t557 t558 false _ A2.out).mono ?_); rintro e w11 ⟨rfl, hb⟩; refine ⟨_, rfl, ?_⟩; replace BK556 := bb BK556 hb; replace HB := bs hb; (try clear hb)) | ((with_reducible refine zg 4 rfl ?_); refine zb 4 27 #[.int .i64 0, .int .i64 0] ?_; intro gb560 hg w12 BK560 hb; have GW560 := sg hg; have NB556_560 := nl hg BK556; replace BK556 := bb BK556 hb; replace HB := bs hb; clear hb hg; obtain ⟨hnb13, hnc13⟩ := zm NB556_560; obtain ⟨hcz14_0, hcz14_1, hfz14_0, hfz14_1⟩ := z2 BK560; obtain ⟨hcz15_0, hcz15_1, hfz15_0, hfz15_1⟩ := z2 BK556))
  refine bodyPost_ret (results_ct rfl _ _ gb556 27 #[.int .i64 0, .int .i64 0] (0, 0) _ rfl (bp) Tryz.underlying27 rfl (by kernel_rfl)) rfl ?_
  exact ⟨er, bl⟩

end Go.Proofs.YtgdkmchphpjifaaGreatDoor.PFnEnds

-- Printed by the kit's print and repaired by a program of this session.
import Derived.Test.YtkfodnlogflcpaaPFnLatticesx0
import Derived.Test.YtkfodnlogflcpaaPFnLatticesx3
import Derived.Test.YtkfodnlogflcpaaPFnLatticesx6
import Derived.Test.YtkfodnlogflcpaaPFnLatticesx14
namespace Go.Proofs.Ytkfodnlogflcpaa.PFnLattices
open Go.RowKit Go.Proofs.YtkfodnlogflcpaaW.PrintWords Go.Proofs.YtkfodnlogflcpaaW.PrintLast Go.Proofs.YtkfodnlogflcpaaW.PrintMore
attribute [local go_sem] max2_int min2_int max_two min_two max_three min_three max_four min_four
set_option linter.unusedVariables false
set_option linter.unusedSimpArgs false

/-! ### spec_DrawLatticeOfBall: function 26 -/
def spec_DrawLatticeOfBall.f (k : Nat) (l0 : List Int) : Option (Int × Int × Int × Int) := (spec_l01From.f k l0).bind fun bt540 => ((spec_l01Spoil.f k bt540.1 bt540.2.1 bt540.2.2).bind fun bt544 => (some (bt544.1, bt544.2.1, bt544.2.2.1, bt544.2.2.2.1)))
set_option maxHeartbeats 8000000 in
set_option maxRecDepth 100000 in
theorem spec_DrawLatticeOfBall.calls (k : Nat) (A0 : Option Addr) (c0 : Nat) (l0 : List Int) (r1 : Int) (r2 : Int) (r3 : Int) (r4 : Int) (w : World) (hr0 : Kd.C (Kd.int .u8) w A0 l0.length l0) (hc0 : l0.length ≤ c0) (h : spec_DrawLatticeOfBall.f k l0 = some (r1, r2, r3, r4)) :
  Calls Try.prog 26 #[.slice A0 l0.length c0] w fun e w' => e = .returned (.tuple #[.int .i64 r1, .agg #[.int .i64 r2, .int .i64 r3, .int .i64 r4]]) ∧ Below w.heap.size w w' := by
 have hu50 := Try.underlying50
 have HR0 := Aside0.mk hr0
 have HC0 := Aside0.mk hc0
 clear hr0 hc0
 have HB := Aside0.mk (Below.refl w.heap.size w)
 unfold spec_DrawLatticeOfBall.f at h
 have H := h
 clear h
 replace H := zi H
 obtain ⟨⟨t540, t541, t542⟩, A2, H⟩ := H
 try dsimp only at H
 replace H := zi H
 obtain ⟨⟨t544, t545, t546, t547, t548, t549⟩, A3, H⟩ := H
 try dsimp only at H
 simp only [Option.some.injEq, Prod.mk.injEq] at H
 obtain ⟨rfl, rfl, rfl, rfl⟩ := H
 go_enter Try.func26, Try.ntmps26
 try go_wp2_with (first | ((with_reducible refine zg 3 rfl ?_); refine z3 3 50 0 0 0 ?_; intro gb539 hg w4 BK539 hb; have GW539 := sg hg; replace HB := bs hb; clear hb hg) | ((with_reducible refine zf 45 rfl ?_); refine g1 (some 8) Try.func45 #[.slice A0 l0.length c0] ?_; (with_reducible refine (spec_l01From.calls k _ _ l0 t540 t541 t542 w _ ?side1 ?side2 ?side3 A2.out).mono ?_); (case side1 => exact bl); (case side2 => exact HR0.out); (case side3 => exact HC0.out); rintro e w5 ⟨g543, rfl, hi, hb, hb2⟩; refine ⟨_, rfl, ?_⟩; have HI543 := Aside0.mk (hi); have NB543_539 := Aside0.mk (IsS101.ne_blk hi (blk_below (g := gb539) (o := .cells #[.int .i64 0, .int .i64 0, .int .i64 0] 50 (0, 0)) (be BK539) hb2) (by decide)); have NB539_543 := Aside0.mk (Ne.symm (IsS101.ne_blk hi (blk_below (g := gb539) (o := .cells #[.int .i64 0, .int .i64 0, .int .i64 0] 50 (0, 0)) (be BK539) hb2) (by decide))); replace BK539 := Aside0.mk (blk_below (g := gb539) (o := .cells #[.int .i64 0, .int .i64 0, .int .i64 0] 50 (0, 0)) (be BK539) hb2); replace HB := Aside0.mk (hb); (try clear hb); (try clear hb2); (try clear hk); (try clear hi)) | ((with_reducible refine zf 65 rfl ?_); refine g1 (some 9) Try.func65 #[.pointer (some ⟨g543, 0, none⟩)] ?_; (with_reducible refine (spec_l01Spoil.calls k g543 t540 t541 t542 t544 t545 t546 t547 t548 t549 w _ ?side1 ?side2 A3.out).mono ?_); (case side1 => exact is101); (case side2 => exact ib101); rintro e w6 ⟨rfl, hi, hb, hk⟩; refine ⟨_, rfl, ?_⟩; replace BK539 := kb hk BK539 NB539_543; replace HI543 := Aside0.mk (hi); replace HB := Aside0.mk (hb); (try clear hb hk)) | ((with_reducible refine zg 5 rfl ?_); refine z3 5 50 0 0 0 ?_; intro gb550 hg w7 BK550 hb; have GW550 := Aside0.mk ((by rw [hg]; exact (below_size (ib101)) : w.heap.size ≤ gb550)); have GE550 := Aside0.mk ((by rw [hg]; exact (below_size (ib101)) : w.heap.size ≤ gb550)); have NB539_550 := nl hg BK539; have NB543_550 := Aside0.mk ((by rw [hg]; exact Nat.ne_of_lt (IsS101.lt (show IsS101 w _ g543 t540 t548 t549 from by exact is101)) : g543 ≠ gb550)); have NB550_543 := Aside0.mk ((by rw [hg]; exact Nat.ne_of_gt (IsS101.lt (show IsS101 w _ g543 t540 t548 t549 from by exact is101)) : gb550 ≠ g543)); replace BK539 := bb BK539 hb; replace HB := Aside0.mk (below_step (ib101) hb); replace HI543 := Aside0.mk (IsS101.below (is101) hb); clear hb hg; obtain ⟨hnb8, hnc8⟩ := zm NB539_550; have hnb9 := NB550_543.out; have hnc9 := NB543_550.out; obtain ⟨hcz10_0, hcz10_1, hcz10_2, hfz10_0, hfz10_1, hfz10_2⟩ := cq3 BK550))
 have n0_ : Aside0 ((((w7.setCell ⟨gb550, 0, none⟩ (.int .i64 t545)).setCell ⟨gb550, 1, none⟩ (.int .i64 t546)).setCell ⟨gb550, 2, none⟩ (.int .i64 t547)).heap[gb539]? = some (.cells #[.int .i64 0, .int .i64 0, .int .i64 0] 50 (0, 0))) := ⟨bp⟩
 have n1_ : Aside0 ((((w7.setCell ⟨gb550, 0, none⟩ (.int .i64 t545)).setCell ⟨gb550, 1, none⟩ (.int .i64 t546)).setCell ⟨gb550, 2, none⟩ (.int .i64 t547)).heap[gb550]? = some (.cells #[.int .i64 t545, .int .i64 t546, .int .i64 t547] 50 (0, 0))) := ⟨bp⟩
 have n2_ : Aside0 (IsS101 w (((w7.setCell ⟨gb550, 0, none⟩ (.int .i64 t545)).setCell ⟨gb550, 1, none⟩ (.int .i64 t546)).setCell ⟨gb550, 2, none⟩ (.int .i64 t547)) g543 t540 t548 t549) := ⟨by exact is101⟩
 have n3_ : Aside0 (Below w.heap.size w (((w7.setCell ⟨gb550, 0, none⟩ (.int .i64 t545)).setCell ⟨gb550, 1, none⟩ (.int .i64 t546)).setCell ⟨gb550, 2, none⟩ (.int .i64 t547))) := ⟨by exact ib101⟩
 (try clear BK539)
 (try clear BK550)
 (try clear HI543)
 (try clear HB)
 generalize (((w7.setCell ⟨gb550, 0, none⟩ (.int .i64 t545)).setCell ⟨gb550, 1, none⟩ (.int .i64 t546)).setCell ⟨gb550, 2, none⟩ (.int .i64 t547)) = w11 at n0_ n1_ n2_ n3_ ⊢
 have BK539 := n0_
 have BK550 := n1_
 have HI543 := n2_
 have HB := n3_
 clear n0_ n1_ n2_ n3_
 replace BK539 := Aside0.mk (blk_drew BK539.out)
 replace BK550 := Aside0.mk (blk_drew BK550.out)
 replace HI543 := Aside0.mk (IsS101.drew HI543.out)
 replace HB := Aside0.mk (below_drew1 HB.out)
 refine start_ (n := 4) (S := fun w' => w'.cell? ⟨gb550, 0, none⟩ = some (.int .i64 t545) ∧ w'.cell? ⟨gb550, 1, none⟩ = some (.int .i64 t546) ∧ w'.cell? ⟨gb550, 2, none⟩ = some (.int .i64 t547)) (ds := []) #[false, false, false, false] (by kernel_rfl) rfl rfl ⟨(blk_cell BK550.out 0).trans rfl, (blk_cell BK550.out 1).trans rfl, (blk_cell BK550.out 2).trans rfl⟩ (fun hHeld => ?_)
 generalize w11.drew = w12 at BK539 BK550 HI543 HB hHeld ⊢
 refine pr 0 (some 12) (tA 4 1) ?_
 refine pr 2 (some 2) (tA 4 5) ?_
 refine tr3 1 (some 13) (tA 4 7) hHeld ?_
 refine one_ (i := 3) (N := none) #[true, true, true, true] rfl rfl (by kernel_rfl) (by decide) (fun K hK => ?_)
 have hs13 : w12.cell? ⟨gb539, 0, none⟩ = some (.int .i64 0) := (blk_cell BK539.out 0).trans rfl
 have hfs13 := blk_frozen BK539.out 0
 obtain ⟨hns13_1, hms13_1⟩ := zm NB539_550
 have hs14 : w12.cell? ⟨gb539, 1, none⟩ = some (.int .i64 0) := (blk_cell BK539.out 1).trans rfl
 have hfs14 := blk_frozen BK539.out 1
 obtain ⟨hns14_1, hms14_1⟩ := zm NB539_550
 have hs15 : w12.cell? ⟨gb539, 2, none⟩ = some (.int .i64 0) := (blk_cell BK539.out 2).trans rfl
 have hfs15 := blk_frozen BK539.out 2
 obtain ⟨hns15_1, hms15_1⟩ := zm NB539_550
 refine skip_ (w1 := ?_) (by rfl) rfl ?_ ?_
 rotate_left
 ·go_simp
  rfl
 refine hK.out _ _ (m3 hHeld (fun e => cs gb539 NB539_550 (cs gb539 NB539_550 (cs gb539 NB539_550 e)))) (fun hHeld => ?_)
 clear hK K
 refine done_ (by kernel_rfl) ?_
 try go_wp2
 refine bodyPost_ret (results_tc rfl _ _ gb539 50 #[.int .i64 t545, .int .i64 t546, .int .i64 t547] (0, 0) _ rfl (bp) Try.underlying50 rfl (by kernel_rfl)) rfl ?_
 exact ⟨er, by exact ib101⟩

/-! ### spec_l01Is: function 86 -/
def spec_l01Is.j0 : Nat → Int → Bool → Int → Int → Int → Option (Bool)
 | 0, _, _, _, _, _ => none
 | k + 1, x0, x20, x552000, x552001, x552002 => if x20 = true then (some false) else (if (wrap64 (x552000 + x552002)) ≤ 0 then (if x552001 = 0 then (some (x552002 == 0)) else (some false)) else ((spec_l01Power.f k x0 (wrap64 (x552000 + x552002))).bind fun t555 => ((spec_l01In.f x552001 0 (wrap64 (t555 - 1))).bind fun t556 => (if t556 = true then (if x552002 = 0 then (some true) else (if x0 = 0 then (none) else (some ((Int.tmod x552001 x0) != 0)))) else (some false)))))
def spec_l01Is.f (k : Nat) (a0 : Int) (a1_0 : Int) (a1_1 : Int) (a1_2 : Int) : Option (Bool) := (spec_l01Prime.f a0).bind fun t552 => (if t552 = true then ((spec_l01In.f a1_0 (-6) 6).bind fun t553 => (if t553 = true then ((spec_l01In.f a1_2 0 6).bind fun t554 => (spec_l01Is.j0 k a0 (!t554) a1_0 a1_1 a1_2)) else (spec_l01Is.j0 k a0 true a1_0 a1_1 a1_2))) else (spec_l01Is.j0 k a0 true a1_0 a1_1 a1_2))
set_option maxHeartbeats 8000000 in
set_option maxRecDepth 100000 in
theorem spec_l01Is.calls (k : Nat) (a0 : Int) (a1_0 : Int) (a1_1 : Int) (a1_2 : Int) (r : Bool) (w : World) (h : spec_l01Is.f k a0 a1_0 a1_1 a1_2 = some r) :
  Calls Try.prog 86 #[.int .i64 a0, .agg #[.int .i64 a1_0, .int .i64 a1_1, .int .i64 a1_2]] w fun e w' => e = .returned (.bool r) ∧ Below w.heap.size w w' := by
 have hu50 := Try.underlying50
 have HB := Aside0.mk (Below.refl w.heap.size w)
 unfold spec_l01Is.f at h
 have H := h
 clear h
 have HC3 := Aside0.mk H
 clear H
 go_enter Try.func86, Try.ntmps86
 go_upto_region 1 with (first | ((with_reducible refine zg 3 rfl ?_); refine z3 3 50 a1_0 a1_1 a1_2 ?_; intro gb551 hg w4 BK551 hb; have GW551 := sg hg; replace HB := bs hb; clear hb hg))
 (try simp only [Act.put, zq, zr, zt])
 go_cut [20] (fun v20 wc => ∃ (kq : Nat) (x20_2 : Bool), v20 = .bool x20_2 ∧ Aside0 (spec_l01Is.j0 kq a0 x20_2 a1_0 a1_1 a1_2 = some r) ∧ Aside0 (kq ≤ k) ∧ Aside0 (wc.heap[gb551]? = some (.cells #[.int .i64 a1_0, .int .i64 a1_1, .int .i64 a1_2] 50 (0, 0))) ∧ Aside0 (Below w.heap.size w wc))
 case first =>
  have H := HC3.out
  clear HC3
  replace H := zi H
  obtain ⟨t552, A5, H⟩ := H
  try dsimp only at H
  by_cases c6 : t552 = true
  ·subst c6
   rw [if_pos rfl] at H
   replace H := zi H
   obtain ⟨t553, A7, H⟩ := H
   try dsimp only at H
   by_cases c8 : t553 = true
   ·subst c8
    rw [if_pos rfl] at H
    replace H := zi H
    obtain ⟨t554, A9, H⟩ := H
    try dsimp only at H
    have H' := Aside0.mk H
    clear H
    go_wp2_with (first | (go_at_call 54; (with_reducible refine (spec_l01Prime.calls a0 true _ A5.out).mono ?_); rintro e w' ⟨rfl, ⟨nd, rfl⟩⟩; (try first | exact zd | exact ze); obtain ⟨hcz10_0, hcz10_1, hcz10_2, hfz10_0, hfz10_1, hfz10_2⟩ := cq3 BK551) | (go_at_call 33; (with_reducible refine (spec_l01In.calls a1_0 (-6) 6 true _ A7.out).mono ?_); rintro e w' ⟨rfl, ⟨nd, rfl⟩⟩; (try first | exact zd | exact ze)) | (go_at_call 33; (with_reducible refine (spec_l01In.calls a1_2 0 6 t554 _ A9.out).mono ?_); rintro e w' ⟨rfl, ⟨nd, rfl⟩⟩; (try first | exact zd | exact ze)))
    go_meet
    case rel => exact ⟨_, (!t554), (by first | rfl | (simp; done) | (simp [*]; done)), H', ⟨by first | omega | exact Nat.le_refl _⟩, ⟨be BK551⟩, ⟨bl⟩⟩
   ·replace c8 := Bool.eq_false_iff.mpr c8
    subst c8
    have H1 : (spec_l01Is.j0 k a0 true a1_0 a1_1 a1_2) = some r := by rw [if_neg (show ¬ (false = true) by decide)] at H; exact H
    clear H
    have H := H1
    clear H1
    have H' := Aside0.mk H
    clear H
    go_wp2_with (first | (go_at_call 54; (with_reducible refine (spec_l01Prime.calls a0 true _ A5.out).mono ?_); rintro e w' ⟨rfl, ⟨nd, rfl⟩⟩; (try first | exact zd | exact ze); obtain ⟨hcz11_0, hcz11_1, hcz11_2, hfz11_0, hfz11_1, hfz11_2⟩ := cq3 BK551) | (go_at_call 33; (with_reducible refine (spec_l01In.calls a1_0 (-6) 6 false _ A7.out).mono ?_); rintro e w' ⟨rfl, ⟨nd, rfl⟩⟩; (try first | exact zd | exact ze)))
    go_meet
    case rel => exact ⟨_, (true), (by first | rfl | (simp; done) | (simp [*]; done)), H', ⟨by first | omega | exact Nat.le_refl _⟩, ⟨be BK551⟩, ⟨bl⟩⟩
  ·replace c6 := Bool.eq_false_iff.mpr c6
   subst c6
   have H1 : (spec_l01Is.j0 k a0 true a1_0 a1_1 a1_2) = some r := by rw [if_neg (show ¬ (false = true) by decide)] at H; exact H
   clear H
   have H := H1
   clear H1
   have H' := Aside0.mk H
   clear H
   go_wp2_with (first | (go_at_call 54; (with_reducible refine (spec_l01Prime.calls a0 false _ A5.out).mono ?_); rintro e w' ⟨rfl, ⟨nd, rfl⟩⟩; (try first | exact zd | exact ze)))
   go_meet
   case rel => exact ⟨_, (true), (by first | rfl | (simp; done) | (simp [*]; done)), H', ⟨by first | omega | exact Nat.le_refl _⟩, ⟨be BK551⟩, ⟨bl⟩⟩
 case rest =>
  clear HC3
  obtain ⟨kq, x20_2, rfl, HA, HJ2, BK551, HB⟩ := hcut
  cases kq with
  | zero => exact absurd HA.out (by simp [spec_l01Is.j0])
  | succ kj2 =>
   have H := HA.out
   clear HA
   simp only [spec_l01Is.j0] at H
   by_cases c12 : x20_2 = true
   ·subst c12
    rw [if_pos rfl] at H
    obtain rfl := Option.some.inj H
    go_wp2
    go_ret
    exact ⟨er, bl⟩
   ·replace c12 := Bool.eq_false_iff.mpr c12
    subst c12
    have H1 : (if (wrap64 (a1_0 + a1_2)) ≤ 0 then (if a1_1 = 0 then (some (a1_2 == 0)) else (some false)) else ((spec_l01Power.f kj2 a0 (wrap64 (a1_0 + a1_2))).bind fun t555 => ((spec_l01In.f a1_1 0 (wrap64 (t555 - 1))).bind fun t556 => (if t556 = true then (if a1_2 = 0 then (some true) else (if a0 = 0 then (none) else (some ((Int.tmod a1_1 a0) != 0)))) else (some false))))) = some r := by rw [if_neg (show ¬ (false = true) by decide)] at H; exact H
    clear H
    have H := H1
    clear H1
    replace H := ii H
    rcases H with ⟨c13, H⟩ | ⟨c13, H⟩
    ·have c13b0 := decide_eq_true c13
     clear c13
     replace H := ii H
     rcases H with ⟨c14, H⟩ | ⟨c14, H⟩
     ·obtain ⟨c14b0, c14b1⟩ := zz c14
      clear c14
      obtain rfl := Option.some.inj H
      obtain ⟨hcz15_0, hcz15_1, hcz15_2, hfz15_0, hfz15_1, hfz15_2⟩ := cq3 BK551
      go_wp2
      go_ret
      exact ⟨er, bl⟩
     ·obtain ⟨c14b0, c14b1⟩ := zy c14
      obtain rfl := Option.some.inj H
      obtain ⟨hcz16_0, hcz16_1, hcz16_2, hfz16_0, hfz16_1, hfz16_2⟩ := cq3 BK551
      go_wp2
      go_ret
      exact ⟨er, bl⟩
    ·have c13b0 := decide_eq_false c13
     clear c13
     replace H := zi H
     obtain ⟨t555, A17, H⟩ := H
     try dsimp only at H
     replace H := zi H
     obtain ⟨t556, A18, H⟩ := H
     try dsimp only at H
     by_cases c19 : t556 = true
     ·subst c19
      rw [if_pos rfl] at H
      replace H := ii H
      rcases H with ⟨c20, H⟩ | ⟨c20, H⟩
      ·obtain ⟨c20b0, c20b1⟩ := zz c20
       clear c20
       obtain rfl := Option.some.inj H
       obtain ⟨hcz21_0, hcz21_1, hcz21_2, hfz21_0, hfz21_1, hfz21_2⟩ := cq3 BK551
       go_wp2_with (first | (go_at_call 34; (with_reducible refine (spec_l01Power.calls kj2 a0 (wrap64 (a1_0 + a1_2)) t555 _ A17.out).mono ?_); rintro e w' ⟨rfl, ⟨nd, rfl⟩⟩; (try first | exact zd | exact ze)) | (go_at_call 33; (with_reducible refine (spec_l01In.calls a1_1 0 (wrap64 (t555 - 1)) true _ A18.out).mono ?_); rintro e w' ⟨rfl, ⟨nd, rfl⟩⟩; (try first | exact zd | exact ze)))
       repeat (go_quiet (first | (go_at_call 34; (with_reducible refine (spec_l01Power.calls kj2 a0 (wrap64 (a1_0 + a1_2)) t555 _ A17.out).mono ?_); rintro e w' ⟨rfl, ⟨nd, rfl⟩⟩; (try first | exact zd | exact ze)) | (go_at_call 33; (with_reducible refine (spec_l01In.calls a1_1 0 (wrap64 (t555 - 1)) true _ A18.out).mono ?_); rintro e w' ⟨rfl, ⟨nd, rfl⟩⟩; (try first | exact zd | exact ze))); try go_wp2_with (first | (go_at_call 34; (with_reducible refine (spec_l01Power.calls kj2 a0 (wrap64 (a1_0 + a1_2)) t555 _ A17.out).mono ?_); rintro e w' ⟨rfl, ⟨nd, rfl⟩⟩; (try first | exact zd | exact ze)) | (go_at_call 33; (with_reducible refine (spec_l01In.calls a1_1 0 (wrap64 (t555 - 1)) true _ A18.out).mono ?_); rintro e w' ⟨rfl, ⟨nd, rfl⟩⟩; (try first | exact zd | exact ze))))
       go_ret
       exact ⟨er, bl⟩
      ·obtain ⟨c20b0, c20b1⟩ := zy c20
       replace H := ii H
       rcases H with ⟨c22, H⟩ | ⟨c22, H⟩
       ·exact absurd H (by simp)
       ·obtain ⟨c22b0, c22b1⟩ := zy c22
        obtain rfl := Option.some.inj H
        obtain ⟨hcz23_0, hcz23_1, hcz23_2, hfz23_0, hfz23_1, hfz23_2⟩ := cq3 BK551
        go_wp2_with (first | (go_at_call 34; (with_reducible refine (spec_l01Power.calls kj2 a0 (wrap64 (a1_0 + a1_2)) t555 _ A17.out).mono ?_); rintro e w' ⟨rfl, ⟨nd, rfl⟩⟩; (try first | exact zd | exact ze)) | (go_at_call 33; (with_reducible refine (spec_l01In.calls a1_1 0 (wrap64 (t555 - 1)) true _ A18.out).mono ?_); rintro e w' ⟨rfl, ⟨nd, rfl⟩⟩; (try first | exact zd | exact ze)))
        repeat (go_quiet (first | (go_at_call 34; (with_reducible refine (spec_l01Power.calls kj2 a0 (wrap64 (a1_0 + a1_2)) t555 _ A17.out).mono ?_); rintro e w' ⟨rfl, ⟨nd, rfl⟩⟩; (try first | exact zd | exact ze)) | (go_at_call 33; (with_reducible refine (spec_l01In.calls a1_1 0 (wrap64 (t555 - 1)) true _ A18.out).mono ?_); rintro e w' ⟨rfl, ⟨nd, rfl⟩⟩; (try first | exact zd | exact ze))); try go_wp2_with (first | (go_at_call 34; (with_reducible refine (spec_l01Power.calls kj2 a0 (wrap64 (a1_0 + a1_2)) t555 _ A17.out).mono ?_); rintro e w' ⟨rfl, ⟨nd, rfl⟩⟩; (try first | exact zd | exact ze)) | (go_at_call 33; (with_reducible refine (spec_l01In.calls a1_1 0 (wrap64 (t555 - 1)) true _ A18.out).mono ?_); rintro e w' ⟨rfl, ⟨nd, rfl⟩⟩; (try first | exact zd | exact ze))))
        go_ret
        exact ⟨er, bl⟩
     ·replace c19 := Bool.eq_false_iff.mpr c19
      subst c19
      have H1 : (some false) = some r := by rw [if_neg (show ¬ (false = true) by decide)] at H; exact H
      clear H
      have H := H1
      clear H1
      obtain rfl := Option.some.inj H
      obtain ⟨hcz24_0, hcz24_1, hcz24_2, hfz24_0, hfz24_1, hfz24_2⟩ := cq3 BK551
      go_wp2_with (first | (go_at_call 34; (with_reducible refine (spec_l01Power.calls kj2 a0 (wrap64 (a1_0 + a1_2)) t555 _ A17.out).mono ?_); rintro e w' ⟨rfl, ⟨nd, rfl⟩⟩; (try first | exact zd | exact ze)) | (go_at_call 33; (with_reducible refine (spec_l01In.calls a1_1 0 (wrap64 (t555 - 1)) false _ A18.out).mono ?_); rintro e w' ⟨rfl, ⟨nd, rfl⟩⟩; (try first | exact zd | exact ze)))
      repeat (go_quiet (first | (go_at_call 34; (with_reducible refine (spec_l01Power.calls kj2 a0 (wrap64 (a1_0 + a1_2)) t555 _ A17.out).mono ?_); rintro e w' ⟨rfl, ⟨nd, rfl⟩⟩; (try first | exact zd | exact ze)) | (go_at_call 33; (with_reducible refine (spec_l01In.calls a1_1 0 (wrap64 (t555 - 1)) false _ A18.out).mono ?_); rintro e w' ⟨rfl, ⟨nd, rfl⟩⟩; (try first | exact zd | exact ze))); try go_wp2_with (first | (go_at_call 34; (with_reducible refine (spec_l01Power.calls kj2 a0 (wrap64 (a1_0 + a1_2)) t555 _ A17.out).mono ?_); rintro e w' ⟨rfl, ⟨nd, rfl⟩⟩; (try first | exact zd | exact ze)) | (go_at_call 33; (with_reducible refine (spec_l01In.calls a1_1 0 (wrap64 (t555 - 1)) false _ A18.out).mono ?_); rintro e w' ⟨rfl, ⟨nd, rfl⟩⟩; (try first | exact zd | exact ze))))
      go_ret
      exact ⟨er, bl⟩

/-! ### spec_l01Code: function 66 -/
def spec_l01Code.l0 : Nat → Int → List (S50) → Int → Option (Int)
 | 0, _, _, _ => none
 | k + 1, x0, x1, x5 => if x5 < (x1.length : Int) then (if 0 ≤ x5 then ((spec_l01Is.f k x0 ((rd_T50 x1 x5).f0) ((rd_T50 x1 x5).f1) ((rd_T50 x1 x5).f2)).bind fun t559 => (if t559 = true then (spec_l01Code.l0 k x0 x1 (wrap64 (x5 + 1))) else (some 1))) else (none)) else (some 0)
def spec_l01Code.f (k : Nat) (a0 : Int) (l1 : List (S50)) : Option (Int) := (spec_l01Prime.f a0).bind fun t557 => (if t557 = true then (spec_l01Code.l0 k a0 l1 0) else (some 1))
set_option maxHeartbeats 8000000 in
set_option maxRecDepth 100000 in
theorem spec_l01Code.calls (k : Nat) (a0 : Int) (A1 : Option Addr) (c1 : Nat) (l1 : List (S50)) (r : Int) (w : World) (hr1 : Kd.C k50 w A1 l1.length l1) (hc1 : l1.length ≤ c1) (h : spec_l01Code.f k a0 l1 = some r) :
  Calls Try.prog 66 #[.int .i64 a0, .slice A1 l1.length c1] w fun e w' => e = .returned (.int .i64 r) ∧ Below w.heap.size w w' := by
 have hu50 := Try.underlying50
 have HR1 := Aside0.mk hr1
 have HC1 := Aside0.mk hc1
 clear hr1 hc1
 have HB := Aside0.mk (Below.refl w.heap.size w)
 unfold spec_l01Code.f at h
 have H := h
 clear h
 replace H := zi H
 obtain ⟨t557, A3, H⟩ := H
 try dsimp only at H
 by_cases c4 : t557 = true
 ·subst c4
  rw [if_pos rfl] at H
  have H' := Aside0.mk H
  clear H
  go_enter Try.func66, Try.ntmps66
  go_wp2_with (first | ((with_reducible refine zf 54 rfl ?_); refine g1 (some 7) Try.func54 #[.int .i64 a0] ?_; (with_reducible refine (spec_l01Prime.calls a0 true _ A3.out).mono ?_); rintro e w' ⟨rfl, ⟨nd, rfl⟩⟩; refine ⟨_, rfl, ?_⟩))
  go_loopg [5] k (fun kq v5 w' => ∃ (x5_1 : Int), v5 = .int .i64 x5_1 ∧ Aside0 (spec_l01Code.l0 kq a0 l1 x5_1 = some r) ∧ Aside0 (kq ≤ k) ∧ Aside0 (Below w.heap.size w w'))
  case atStart => exact ⟨(0), (by first | rfl | (simp; done) | (simp [*]; done)), H', ⟨Nat.le_refl _⟩, ⟨bl⟩⟩
  case round =>
   clear H'
   obtain ⟨x5_1, rfl, HA, HK1, HB⟩ := hrel
   cases gk with
   | zero => exact absurd HA.out (by simp [spec_l01Code.l0])
   | succ k1 =>
    have H := HA.out
    clear HA
    simp only [spec_l01Code.l0] at H
    replace H := ii H
    rcases H with ⟨c5, H⟩ | ⟨c5, H⟩
    ·have c5b0 := decide_eq_true c5
     clear c5
     replace H := ii H
     rcases H with ⟨c6, H⟩ | ⟨c6, H⟩
     ·have c6b0 := decide_eq_true c6
      clear c6
      replace H := zi H
      obtain ⟨t559, A7, H⟩ := H
      try dsimp only at H
      by_cases c8 : t559 = true
      ·subst c8
       rw [if_pos rfl] at H
       have H' := Aside0.mk H
       clear H
       have p558 : 0 ≤ (x5_1 : Int) := za
       have q558 : x5_1 < (l1.length : Int) := za
       obtain ⟨ad558, e558, hx558_0, hx558_1, hx558_2⟩ := at_T50 HR1.out x5_1 p558 q558
       cases e558
       replace hx558_0 := (HB.out.cell (World.block_lt_of_cell? w _ hx558_0)).trans hx558_0
       replace hx558_1 := (HB.out.cell (World.block_lt_of_cell? w _ hx558_1)).trans hx558_1
       replace hx558_2 := (HB.out.cell (World.block_lt_of_cell? w _ hx558_2)).trans hx558_2
       replace p558 := eq_true p558
       replace q558 := eq_true q558
       go_wp2_with (first | ((with_reducible refine zf 86 rfl ?_); refine g1 (some 20) Try.func86 #[.int .i64 a0, .agg #[.int .i64 ((rd_T50 l1 x5_1).f0), .int .i64 ((rd_T50 l1 x5_1).f1), .int .i64 ((rd_T50 l1 x5_1).f2)]] ?_; (with_reducible refine (spec_l01Is.calls k1 a0 ((rd_T50 l1 x5_1).f0) ((rd_T50 l1 x5_1).f1) ((rd_T50 l1 x5_1).f2) true _ A7.out).mono ?_); rintro e w9 ⟨rfl, hb⟩; refine ⟨_, rfl, ?_⟩; replace HB := bs hb; (try clear hb)))
       go_roundg k1
       case measure => have := HK1.out; omega
       case rel => exact ⟨(wrap64 (x5_1 + 1)), (by first | rfl | (simp; done) | (simp [*]; done)), H', ⟨by have := HK1.out; omega⟩, ⟨bl⟩⟩
      ·replace c8 := Bool.eq_false_iff.mpr c8
       subst c8
       have H1 : (some 1) = some r := by rw [if_neg (show ¬ (false = true) by decide)] at H; exact H
       clear H
       have H := H1
       clear H1
       obtain rfl := Option.some.inj H
       have p558 : 0 ≤ (x5_1 : Int) := za
       have q558 : x5_1 < (l1.length : Int) := za
       obtain ⟨ad558, e558, hx558_0, hx558_1, hx558_2⟩ := at_T50 HR1.out x5_1 p558 q558
       cases e558
       replace hx558_0 := (HB.out.cell (World.block_lt_of_cell? w _ hx558_0)).trans hx558_0
       replace hx558_1 := (HB.out.cell (World.block_lt_of_cell? w _ hx558_1)).trans hx558_1
       replace hx558_2 := (HB.out.cell (World.block_lt_of_cell? w _ hx558_2)).trans hx558_2
       replace p558 := eq_true p558
       replace q558 := eq_true q558
       go_wp2_with (first | ((with_reducible refine zf 86 rfl ?_); refine g1 (some 20) Try.func86 #[.int .i64 a0, .agg #[.int .i64 ((rd_T50 l1 x5_1).f0), .int .i64 ((rd_T50 l1 x5_1).f1), .int .i64 ((rd_T50 l1 x5_1).f2)]] ?_; (with_reducible refine (spec_l01Is.calls k1 a0 ((rd_T50 l1 x5_1).f0) ((rd_T50 l1 x5_1).f1) ((rd_T50 l1 x5_1).f2) false _ A7.out).mono ?_); rintro e w10 ⟨rfl, hb⟩; refine ⟨_, rfl, ?_⟩; replace HB := bs hb; (try clear hb)))
       go_ret
       exact ⟨er, bl⟩
     ·exact absurd H (by simp)
    ·have c5b0 := decide_eq_false c5
     clear c5
     obtain rfl := Option.some.inj H
     go_wp2
     go_ret
     exact ⟨er, bl⟩
 ·replace c4 := Bool.eq_false_iff.mpr c4
  subst c4
  have H1 : (some 1) = some r := by rw [if_neg (show ¬ (false = true) by decide)] at H; exact H
  clear H
  have H := H1
  clear H1
  obtain rfl := Option.some.inj H
  go_enter Try.func66, Try.ntmps66
  go_wp2_with (first | ((with_reducible refine zf 54 rfl ?_); refine g1 (some 7) Try.func54 #[.int .i64 a0] ?_; (with_reducible refine (spec_l01Prime.calls a0 false _ A3.out).mono ?_); rintro e w' ⟨rfl, ⟨nd, rfl⟩⟩; refine ⟨_, rfl, ?_⟩))
  go_ret
  exact ⟨er, bl⟩

/-! ### spec_l03OfBall: function 67 -/
def spec_l03OfBall.f (k : Nat) (a0 : Int) (a1_0 : Int) (a1_1 : Int) (a1_2 : Int) : Option (Int × Int × Int) := (spec_l01Power.f k a0 (wrap64 ((mx (mx a1_2 (wrap64 (-a1_0))) 0) - a1_2))).bind fun t562 => (some (wrap64 (a1_0 + (mx (mx a1_2 (wrap64 (-a1_0))) 0)), wrap64 (a1_1 * t562), mx (mx a1_2 (wrap64 (-a1_0))) 0))
def spec_l03OfBall.T2 : Bool × List (List Nat × List Nat) := (true, [([], []), ([0], [0]), ([], []), ([1, 2], [1, 2]), ([], []), ([4], [4]), ([], []), ([], []), ([], []), ([8], [8]), ([7, 9], [7, 9]), ([6, 10], [6, 10]), ([5, 11], [5, 11]), ([], []), ([3, 12, 13], [3, 12, 13]), ([14, 11, 0, 1, 2, 3, 4, 5, 6, 7, 8, 9, 10, 11, 12, 13, 14], [14])])
def spec_l03OfBall.B2 : List Nat := [0, 1, 0, 7, 0, 16, 0, 0, 0, 256, 896, 1984, 4080, 0, 16383, 32767]
theorem spec_l03OfBall.tab2 : rtab .any (opsOf Try.f67 2) = spec_l03OfBall.T2 := by kernel_rfl
theorem spec_l03OfBall.bits2 : waitsOk spec_l03OfBall.T2.2 spec_l03OfBall.B2 = true := by kernel_rfl
set_option maxHeartbeats 8000000 in
set_option maxRecDepth 100000 in
theorem spec_l03OfBall.calls (k : Nat) (a0 : Int) (a1_0 : Int) (a1_1 : Int) (a1_2 : Int) (r1 : Int) (r2 : Int) (r3 : Int) (w : World) (h : spec_l03OfBall.f k a0 a1_0 a1_1 a1_2 = some (r1, r2, r3)) :
  Calls Try.prog 67 #[.int .i64 a0, .agg #[.int .i64 a1_0, .int .i64 a1_1, .int .i64 a1_2]] w fun e w' => e = .returned (.agg #[.int .i64 r1, .int .i64 r2, .int .i64 r3]) ∧ Below w.heap.size w w' := by
 have hu50 := Try.underlying50
 have hu27 := Try.underlying27
 have HB := Aside0.mk (Below.refl w.heap.size w)
 unfold spec_l03OfBall.f at h
 have H := h
 clear h
 obtain ⟨ji3, hji3⟩ : ∃ j_ : Int, (mx a1_2 (wrap64 (-a1_0))) = j_ := ⟨_, rfl⟩
 replace H : ((spec_l01Power.f k a0 (wrap64 ((mx (ji3) 0) - a1_2))).bind fun t562 => (some (wrap64 (a1_0 + (mx (ji3) 0)), wrap64 (a1_1 * t562), mx (ji3) 0))) = some (r1, r2, r3) := by first | (rw [hji3] at H; exact H) | (simp only [hji3] at H ⊢; exact H)
 have hji3_ : (if a1_2 < (wrap64 (-a1_0)) then (wrap64 (-a1_0)) else a1_2) = ji3 := hji3
 obtain ⟨ji4, hji4⟩ : ∃ j_ : Int, (mx (ji3) 0) = j_ := ⟨_, rfl⟩
 replace H : ((spec_l01Power.f k a0 (wrap64 ((ji4) - a1_2))).bind fun t562 => (some (wrap64 (a1_0 + (ji4)), wrap64 (a1_1 * t562), ji4))) = some (r1, r2, r3) := by first | (rw [hji4] at H; exact H) | (simp only [hji4] at H ⊢; exact H)
 have hji4_ : (if (ji3) < 0 then 0 else (ji3)) = ji4 := hji4
 replace H := zi H
 obtain ⟨t562, A5, H⟩ := H
 try dsimp only at H
 simp only [Option.some.injEq, Prod.mk.injEq] at H
 obtain ⟨rfl, rfl, rfl⟩ := H
 go_enter Try.func67, Try.ntmps67
 try go_wp2_with (first | ((with_reducible refine zg 3 rfl ?_); refine z3 3 50 a1_0 a1_1 a1_2 ?_; intro gb560 hg w6 BK560 hb; have GW560 := sg hg; replace HB := bs hb; clear hb hg) | ((with_reducible refine zg 4 rfl ?_); refine z3 4 27 0 0 0 ?_; intro gb561 hg w7 BK561 hb; have GW561 := sg hg; have NB560_561 := nl hg BK560; replace BK560 := bb BK560 hb; replace HB := bs hb; clear hb hg; obtain ⟨hnb8, hnc8⟩ := zn NB560_561; obtain ⟨hcz9_0, hcz9_1, hcz9_2, hfz9_0, hfz9_1, hfz9_2⟩ := cq3 BK560))
 replace BK560 := Aside0.mk (blk_drew BK560.out)
 replace BK561 := Aside0.mk (blk_drew BK561.out)
 replace HB := Aside0.mk (below_drew1 HB.out)
 refine sw 16 (fun w' => w'.cell? ⟨gb560, 0, none⟩ = some (.int .i64 a1_0) ∧ w'.cell? ⟨gb560, 1, none⟩ = some (.int .i64 a1_1) ∧ w'.cell? ⟨gb560, 2, none⟩ = some (.int .i64 a1_2)) spec_l03OfBall.tab2 spec_l03OfBall.bits2 (e3 BK560) (fun hHeld HT_ HW_ => ?_)
 generalize w7.drew = w10 at BK560 BK561 HB hHeld ⊢
 refine pu 0 (some 12) (tA 16 1) HT_ ?_
 refine pu 2 (some 14) (tA 16 5) HT_ ?_
 refine pu 4 (some 16) (tA 16 21) HT_ ?_
 refine pu 6 (some 18) (tA 16 85) HT_ ?_
 refine pu 7 (some 19) (tA 16 213) HT_ ?_
 refine pu 8 (some 20) (tA 16 469) HT_ ?_
 refine pu 13 (some 25) (tA 16 8661) HT_ ?_
 refine tk3 1 (some 13) (tA 16 8663) HT_ HW_ hHeld ?_
 refine pu 3 (some 15) (tA 16 8671) HT_ ?_
 refine tk3 5 (some 17) (tA 16 8703) HT_ HW_ hHeld ?_
 refine tk3 9 (some 21) (tA 16 9215) HT_ HW_ hHeld ?_
 refine pu 10 (some 22) (tA 16 10239) HT_ ?_
 refine o1 11 (some 23) (tA 16 12287) HT_ (fun K hK => ?_)
 refine goes_ Try.func34 (by kernel_rfl) rfl #[.int .i64 a0, .int .i64 (wrap64 ((ji4) - a1_2))] (by rfl) rfl rfl (by (try simp only [List.map_toArray, List.map_cons, List.map_nil]); first | done | (simp only [hji4]; rfl) | rfl | (simp only [List.length_drop, List.length_take]; rfl)) ?_
 with_reducible refine (spec_l01Power.calls k a0 (wrap64 ((ji4) - a1_2)) t562 _ A5.out).mono ?_
 rintro e w' ⟨rfl, ⟨nd, rfl⟩⟩
 refine ⟨_, rfl, ?_⟩
 refine hK.out _ _ (e3 BK560) (fun hHeld => ?_)
 clear hK K
 refine nm (some 23) ?_
 refine pu 12 (some 24) (tA 16 16383) HT_ ?_
 refine pu 14 (some 26) (tA 16 32767) HT_ ?_
 refine o1 15 none (tA 16 65535) HT_ (fun K hK => ?_)
 have hs11 : w10.cell? ⟨gb561, 0, none⟩ = some (.int .i64 0) := (blk_cell BK561.out 0).trans rfl
 have hfs11 := blk_frozen BK561.out 0
 obtain ⟨hns11_0, hms11_0⟩ := zn NB560_561
 have hs12 : w10.cell? ⟨gb561, 1, none⟩ = some (.int .i64 0) := (blk_cell BK561.out 1).trans rfl
 have hfs12 := blk_frozen BK561.out 1
 obtain ⟨hns12_0, hms12_0⟩ := zn NB560_561
 have hs13 : w10.cell? ⟨gb561, 2, none⟩ = some (.int .i64 0) := (blk_cell BK561.out 2).trans rfl
 have hfs13 := blk_frozen BK561.out 2
 obtain ⟨hns13_0, hms13_0⟩ := zn NB560_561
 refine skip_ (w1 := ?_) (by rfl) rfl ?_ ?_
 rotate_left
 ·go_simp
  rfl
 refine hK.out _ _ (m3 hHeld (fun e => cf gb561 NB560_561 (cf gb561 NB560_561 (cf gb561 NB560_561 e)))) (fun hHeld => ?_)
 clear hK K
 refine done_ (done_of HT_.out (by kernel_rfl)) ?_
 try go_wp2
 refine bodyPost_ret (results_cell_row rfl _ _ gb561 27 #[.int .i64 (wrap64 (a1_0 + (ji4))), .int .i64 (wrap64 (a1_1 * t562)), .int .i64 ji4] (0, 0) _ rfl (bp) Try.underlying27 rfl (by kernel_rfl)) rfl ?_
 exact ⟨by first | rfl | (simp [errW_none, errW_some] <;> rfl) | (simp only [← hji3, ← hji4]; first | rfl | (simp [errW_none, errW_some] <;> rfl)) | (simp [*, errW_none, errW_some] <;> rfl), bl⟩

/-! ### spec_LatticeOfBall: function 27 -/
def spec_LatticeOfBall.f (k : Nat) (a0 : Int) (a1_0 : Int) (a1_1 : Int) (a1_2 : Int) : Option (Int × Int × Int × Int) := (spec_l01Code.f k a0 (([(⟨a1_0, a1_1, a1_2⟩ : S50)] : List (S50)))).bind fun t568 => (if t568 = 0 then ((spec_l03OfBall.f k a0 a1_0 a1_1 a1_2).bind fun bt569 => (some (bt569.1, bt569.2.1, bt569.2.2, 0))) else (some (0, 0, 0, t568)))
set_option maxHeartbeats 8000000 in
set_option maxRecDepth 100000 in
theorem spec_LatticeOfBall.calls (k : Nat) (a0 : Int) (a1_0 : Int) (a1_1 : Int) (a1_2 : Int) (r1 : Int) (r2 : Int) (r3 : Int) (r4 : Int) (w : World) (h : spec_LatticeOfBall.f k a0 a1_0 a1_1 a1_2 = some (r1, r2, r3, r4)) :
  Calls Try.prog 27 #[.int .i64 a0, .agg #[.int .i64 a1_0, .int .i64 a1_1, .int .i64 a1_2]] w fun e w' => e = .returned (.tuple #[.agg #[.int .i64 r1, .int .i64 r2, .int .i64 r3], .int .i64 r4]) ∧ Below w.heap.size w w' := by
 have hu50 := Try.underlying50
 have hu27 := Try.underlying27
 have HB := Aside0.mk (Below.refl w.heap.size w)
 unfold spec_LatticeOfBall.f at h
 have H := h
 clear h
 obtain ⟨y565, hy565⟩ : ∃ y_ : List (S50), y_ = (([(⟨a1_0, a1_1, a1_2⟩ : S50)] : List (S50))) := ⟨_, rfl⟩
 replace H : ((spec_l01Code.f k a0 y565).bind fun t568 => (if t568 = 0 then ((spec_l03OfBall.f k a0 a1_0 a1_1 a1_2).bind fun bt569 => (some (bt569.1, bt569.2.1, bt569.2.2, 0))) else (some (0, 0, 0, t568)))) = some (r1, r2, r3, r4) := by first | exact hy565 ▸ H | exact H
 have Ny565 := Aside0.mk hy565
 clear hy565
 replace H := zi H
 obtain ⟨t568, A3, H⟩ := H
 try dsimp only at H
 replace H := ii H
 rcases H with ⟨c4, H⟩ | ⟨c4, H⟩
 ·obtain ⟨c4b0, c4b1⟩ := zz c4
  clear c4
  replace H := zi H
  obtain ⟨⟨t569, t570, t571⟩, A5, H⟩ := H
  try dsimp only at H
  simp only [Option.some.injEq, Prod.mk.injEq] at H
  obtain ⟨rfl, rfl, rfl, rfl⟩ := H
  go_enter Try.func27, Try.ntmps27
  go_wp2_with (first | ((with_reducible refine zg 3 rfl ?_); refine z3 3 50 a1_0 a1_1 a1_2 ?_; intro gb563 hg w6 BK563 hb; have GW563 := sg hg; replace HB := bs hb; clear hb hg) | ((with_reducible refine zg 4 rfl ?_); refine z3 4 27 0 0 0 ?_; intro gb564 hg w7 BK564 hb; have GW564 := sg hg; have NB563_564 := nl hg BK563; replace BK563 := bb BK563 hb; replace HB := bs hb; clear hb hg; obtain ⟨hnb8, hnc8⟩ := zn NB563_564; obtain ⟨hcz9_0, hcz9_1, hcz9_2, hfz9_0, hfz9_1, hfz9_2⟩ := cq3 BK563) | ((with_reducible refine zg 9 rfl ?_); refine Kd.R_lit k50 _ 50 ?hg (N := 9) ?hd (xs := ([(⟨a1_0, a1_1, a1_2⟩ : S50)] : List (S50))) (inner := [.int .i64 a1_0, .int .i64 a1_1, .int .i64 a1_2]) (ok := fun _ => True) (okp := fun _ => True) ?hr ?hp (fun _ hk => hk) trivial (Below.refl _ _) (Nat.le_refl _) (by simp) ?_; (case hd => rfl); (case hg => rfl); (case hr => first | (go_simp; done) | (go_simp; rfl)); (case hp => exact (Reps.c3 (show Kd.M k50 _ _ _ (⟨a1_0, a1_1, a1_2⟩ : S50) [.int .i64 a1_0, .int .i64 a1_1, .int .i64 a1_2] from (k50_mkM _ _ _ (⟨a1_0, a1_1, a1_2⟩ : S50) )) (Reps.none _ _))); intro v566 w10 ho11 hb hg_ hnew_; clear hg_ hnew_; (first | rw [← Ny565.out] at ho11 | (simp only [Int.reduceToNat] at ho11; rw [← Ny565.out] at ho11)); have HO567 := Aside0.mk (Kd.R_lower (Kd.R_newB ho11 (g := gb563) (o := .cells #[.int .i64 a1_0, .int .i64 a1_1, .int .i64 a1_2] 50 (0, 0)) (be BK563)) (below_size (bl))); replace BK563 := bb BK563 hb; replace BK564 := bb BK564 hb; replace HB := bs hb; clear hb ho11; obtain ⟨Ao12, co12, eo12⟩ := Kd.R_slice HO567.out; subst eo12) | ((with_reducible refine zf 66 rfl ?_); refine g1 (some 10) Try.func66 #[.int .i64 a0, .slice Ao12 y565.length co12] ?_; (with_reducible refine (spec_l01Code.calls k a0 _ _ y565 t568 _ ?side1 ?side2 A3.out).mono ?_); (case side1 => repeat (first | exact (Kd.R_reads' HO567.out).2.2 | (with_reducible refine Kd.C_alloc ?_ _) | (with_reducible refine Kd.C_drewN ?_ _) | (with_reducible refine Kd.C_drew ?_))); (case side2 => exact (Kd.R_reads' HO567.out).2.1); rintro e w13 ⟨rfl, hb⟩; refine ⟨_, rfl, ?_⟩; replace HO567 := Aside0.mk (Kd.R_below (by (with_reducible repeat (first | apply Kd.R_alloc | apply Kd.R_drewN | apply Kd.R_drew)); exact HO567.out) hb); replace BK563 := bb BK563 hb; replace BK564 := bb BK564 hb; replace HB := bs hb; (try clear hb); obtain ⟨hcz14_0, hcz14_1, hcz14_2, hfz14_0, hfz14_1, hfz14_2⟩ := cq3 BK563) | ((with_reducible refine zf 67 rfl ?_); refine g1 (some 17) Try.func67 #[.int .i64 a0, .agg #[.int .i64 a1_0, .int .i64 a1_1, .int .i64 a1_2]] ?_; (with_reducible refine (spec_l03OfBall.calls k a0 a1_0 a1_1 a1_2 t569 t570 t571 _ A5.out).mono ?_); rintro e w15 ⟨rfl, hb⟩; refine ⟨_, rfl, ?_⟩; replace HO567 := Aside0.mk (Kd.R_below (by (with_reducible repeat (first | apply Kd.R_alloc | apply Kd.R_drewN | apply Kd.R_drew)); exact HO567.out) hb); replace BK563 := bb BK563 hb; replace BK564 := bb BK564 hb; replace HB := bs hb; (try clear hb); obtain ⟨hcz16_0, hcz16_1, hcz16_2, hfz16_0, hfz16_1, hfz16_2⟩ := cq3 BK564))
  refine bodyPost_ret (results_ct rfl _ _ gb564 27 #[.int .i64 t569, .int .i64 t570, .int .i64 t571] (0, 0) _ rfl (bp) Try.underlying27 rfl (by kernel_rfl)) rfl ?_
  exact ⟨er, bl⟩
 ·obtain ⟨c4b0, c4b1⟩ := zy c4
  simp only [Option.some.injEq, Prod.mk.injEq] at H
  obtain ⟨rfl, rfl, rfl, rfl⟩ := H
  go_enter Try.func27, Try.ntmps27
  go_wp2_with (first | ((with_reducible refine zg 3 rfl ?_); refine z3 3 50 a1_0 a1_1 a1_2 ?_; intro gb563 hg w17 BK563 hb; have GW563 := sg hg; replace HB := bs hb; clear hb hg) | ((with_reducible refine zg 4 rfl ?_); refine z3 4 27 0 0 0 ?_; intro gb564 hg w18 BK564 hb; have GW564 := sg hg; have NB563_564 := nl hg BK563; replace BK563 := bb BK563 hb; replace HB := bs hb; clear hb hg; obtain ⟨hnb19, hnc19⟩ := zn NB563_564; obtain ⟨hcz20_0, hcz20_1, hcz20_2, hfz20_0, hfz20_1, hfz20_2⟩ := cq3 BK563) | ((with_reducible refine zg 9 rfl ?_); refine Kd.R_lit k50 _ 50 ?hg (N := 9) ?hd (xs := ([(⟨a1_0, a1_1, a1_2⟩ : S50)] : List (S50))) (inner := [.int .i64 a1_0, .int .i64 a1_1, .int .i64 a1_2]) (ok := fun _ => True) (okp := fun _ => True) ?hr ?hp (fun _ hk => hk) trivial (Below.refl _ _) (Nat.le_refl _) (by simp) ?_; (case hd => rfl); (case hg => rfl); (case hr => first | (go_simp; done) | (go_simp; rfl)); (case hp => exact (Reps.c3 (show Kd.M k50 _ _ _ (⟨a1_0, a1_1, a1_2⟩ : S50) [.int .i64 a1_0, .int .i64 a1_1, .int .i64 a1_2] from (k50_mkM _ _ _ (⟨a1_0, a1_1, a1_2⟩ : S50) )) (Reps.none _ _))); intro v566 w21 ho22 hb hg_ hnew_; clear hg_ hnew_; (first | rw [← Ny565.out] at ho22 | (simp only [Int.reduceToNat] at ho22; rw [← Ny565.out] at ho22)); have HO567 := Aside0.mk (Kd.R_lower (Kd.R_newB ho22 (g := gb563) (o := .cells #[.int .i64 a1_0, .int .i64 a1_1, .int .i64 a1_2] 50 (0, 0)) (be BK563)) (below_size (bl))); replace BK563 := bb BK563 hb; replace BK564 := bb BK564 hb; replace HB := bs hb; clear hb ho22; obtain ⟨Ao23, co23, eo23⟩ := Kd.R_slice HO567.out; subst eo23) | ((with_reducible refine zf 66 rfl ?_); refine g1 (some 10) Try.func66 #[.int .i64 a0, .slice Ao23 y565.length co23] ?_; (with_reducible refine (spec_l01Code.calls k a0 _ _ y565 t568 _ ?side1 ?side2 A3.out).mono ?_); (case side1 => repeat (first | exact (Kd.R_reads' HO567.out).2.2 | (with_reducible refine Kd.C_alloc ?_ _) | (with_reducible refine Kd.C_drewN ?_ _) | (with_reducible refine Kd.C_drew ?_))); (case side2 => exact (Kd.R_reads' HO567.out).2.1); rintro e w24 ⟨rfl, hb⟩; refine ⟨_, rfl, ?_⟩; replace HO567 := Aside0.mk (Kd.R_below (by (with_reducible repeat (first | apply Kd.R_alloc | apply Kd.R_drewN | apply Kd.R_drew)); exact HO567.out) hb); replace BK563 := bb BK563 hb; replace BK564 := bb BK564 hb; replace HB := bs hb; (try clear hb); obtain ⟨hcz25_0, hcz25_1, hcz25_2, hfz25_0, hfz25_1, hfz25_2⟩ := cq3 BK564))
  refine bodyPost_ret (results_ct rfl _ _ gb564 27 #[.int .i64 0, .int .i64 0, .int .i64 0] (0, 0) _ rfl (bp) Try.underlying27 rfl (by kernel_rfl)) rfl ?_
  exact ⟨er, bl⟩

/-! ### spec_l01Own: function 70 -/
def spec_l01Own.f (l0 : List Int) : Option (List Int) := (some (([] : List Int) : List Int)).bind fun y572 => (if y572.length + l0.length < 17592186044416 then (some (y572 ++ l0)) else (none))
set_option maxHeartbeats 8000000 in
set_option maxRecDepth 100000 in
theorem spec_l01Own.calls (A0 : Option Addr) (c0 : Nat) (l0 : List Int) (r : List Int) (w : World) (hr0 : Kd.C (Kd.int .i64) w A0 l0.length l0) (hc0 : l0.length ≤ c0) (h : spec_l01Own.f l0 = some r) :
  Calls Try.prog 70 #[.slice A0 l0.length c0] w fun e w' => ∃ v0_ : Value, e = .returned (v0_) ∧ Kd.R (Kd.int .i64) 2 w' w.heap.size (fun _ => True) v0_ r ∧ Below w.heap.size w w' := by
 have HR0 := Aside0.mk hr0
 have HC0 := Aside0.mk hc0
 clear hr0 hc0
 have HB := Aside0.mk (Below.refl w.heap.size w)
 unfold spec_l01Own.f at h
 have H := h
 clear h
 obtain ⟨y572, hy572⟩ : ∃ y_ : List Int, y_ = (([] : List Int)) := ⟨_, rfl⟩
 replace H : (if y572.length + l0.length < 17592186044416 then (some (y572 ++ l0)) else (none)) = some r := by first | exact hy572 ▸ H | exact H
 have Ny572 := Aside0.mk hy572
 clear hy572
 replace H := ii H
 rcases H with ⟨c2, H⟩ | ⟨c2, H⟩
 ·have LMc2 := Aside0.mk c2
  clear c2
  obtain ⟨y575, hy575⟩ : ∃ y_ : List Int, y_ = (y572 ++ l0) := ⟨_, rfl⟩
  replace H : (some y575) = some r := by first | exact hy575 ▸ H | exact H
  have Ny575 := Aside0.mk hy575
  clear hy575
  obtain rfl := Option.some.inj H
  go_enter Try.func70, Try.ntmps70
  go_wp2_with (first | ((with_reducible refine zg 3 rfl ?_); refine Kd.R_lit (Kd.int .i64) _ 2 ?hg (N := 3) ?hd (xs := ([] : List Int)) (inner := []) (ok := fun _ => True) (okp := fun _ => True) ?hr ?hp (fun _ hk => hk) trivial (Below.refl _ _) (Nat.le_refl _) (by simp) ?_; (case hd => rfl); (case hg => rfl); (case hr => first | (go_simp; done) | (go_simp; rfl)); (case hp => exact (Reps.none _ _)); intro v573 w3 ho4 hb hg_ hnew_; clear hg_ hnew_; (first | rw [← Ny572.out] at ho4 | (simp only [Int.reduceToNat] at ho4; rw [← Ny572.out] at ho4)); have HO574 := Aside0.mk (Kd.R_lower ho4 (below_size (bl))); replace HB := bs hb; clear hb ho4) | ((with_reducible refine gate_builtin (b := .append) (xs := #[.tmp 3, .tmp 4]) rfl ?_); at_builtin; refine Kd.R_append_rows (Kd.int .i64) (w0 := w) w.heap.size rfl (.tmp 3) (.tmp 4) 63 2 (.int .i64 0) 8 rfl Try.underlying63 info2 rfl (by decide) (by omega) v573 y572 l0 _ _ _ (fun _ => True) (fun _ => False) rfl rfl ?aO ?aR (fun _ _ h => h) (fun _ h => h.elim) ?aF ?aB ?aS ?aL ?_; (case aR => repeat (first | exact (Kd.C_below HR0.out HB.out) | (with_reducible refine Kd.C_alloc ?_ _) | (with_reducible refine Kd.C_drewN ?_ _) | (with_reducible refine Kd.C_drew ?_))); (case aB => exact (bl)); (case aF => exact (fun _ _ => trivial)); (case aO => exact (by (with_reducible repeat (first | apply Kd.R_alloc | apply Kd.R_drewN | apply Kd.R_drew)); exact HO574.out)); (case aS => exact (below_size (bl))); (case aL => have := LMc2.out; omega); intro v576 w5 ho hb hg hat; rw [← Ny575.out] at ho; have n0_ := Aside0.mk (hb); have n1_ := Aside0.mk (ho); clear HB; clear HO574; have HB := n0_; have HO577 := n1_; clear n0_ n1_; clear ho hb hg hat))
  go_ret
  exact ⟨_, er, by (with_reducible repeat (first | apply Kd.R_alloc | apply Kd.R_drewN | apply Kd.R_drew)); exact HO577.out, bl⟩
 ·exact absurd H (by simp)

end Go.Proofs.Ytkfodnlogflcpaa.PFnLattices

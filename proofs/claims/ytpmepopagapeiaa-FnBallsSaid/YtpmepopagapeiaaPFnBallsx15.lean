-- Printed by the kit's print and repaired by a program of this session.
import Derived.Test.YtpmepopagapeiaaPFnBallsx0
import Derived.Test.YtpmepopagapeiaaPFnBallsx4
import Derived.Test.YtpmepopagapeiaaPFnBallsx5
import Derived.Test.YtpmepopagapeiaaPFnBallsx8
import Derived.Test.YtpmepopagapeiaaPFnBallsx9
import Derived.Test.YtpmepopagapeiaaPFnBallsx11
import Derived.Test.YtpmepopagapeiaaPFnBallsx14
namespace Go.Proofs.Ytpmepopagapeiaa.PFnBalls
open Go.RowKit Go.Proofs.YtpmepopagapeiaaW.PrintWords Go.Proofs.YtpmepopagapeiaaW.PrintLast Go.Proofs.YtpmepopagapeiaaW.PrintMore
attribute [local go_sem] max2_int min2_int max_two min_two max_three min_three max_four min_four
set_option linter.unusedVariables false
set_option linter.unusedSimpArgs false

/-! ### spec_l01Two: function 92 -/
mutual
def spec_l01Two.j0 : Nat → Int → Int → List Int → Int → Int → Int → Int → Int → Option (Int × Int × Int × Int × Int × Int × Int)
 | 0, _, _, _, _, _, _, _, _ => none
 | k + 1, x6, x8, x483000, x483001, x483002, x490000, x490001, x490002 => (spec_l01Draw.f k x483000 x483001 x483002 x8).bind fun bt491 => ((spec_l01Bad.f x483000 bt491.2.2.2.1 bt491.2.2.2.2 bt491.1 bt491.2.1 bt491.2.2.1).bind fun bt496 => ((spec_l01Next.f x483000 bt496.2.2.2.1 bt496.2.2.2.2 3).bind fun bt502 => (if bt502.1 = 0 then ((spec_l01Is.f k x8 x490000 x490001 x490002).bind fun t505 => (spec_l01Two.j1 k x6 x8 t505 x483000 bt502.2.1 bt502.2.2 x490000 x490001 x490002 bt496.1 bt496.2.1 bt496.2.2.1)) else (spec_l01Two.j1 k x6 x8 false x483000 bt502.2.1 bt502.2.2 x490000 x490001 x490002 bt496.1 bt496.2.1 bt496.2.2.1))))
def spec_l01Two.j1 : Nat → Int → Int → Bool → List Int → Int → Int → Int → Int → Int → Int → Int → Int → Option (Int × Int × Int × Int × Int × Int × Int)
 | 0, _, _, _, _, _, _, _, _, _, _, _, _ => none
 | k + 1, x6, x8, x36, x483000, x483001, x483002, x490000, x490001, x490002, x502000, x502001, x502002 => if x36 = true then ((spec_l01Next.f x483000 x483001 x483002 4).bind fun bt506 => (spec_l01Two.l0 k x6 x8 bt506.1 x490000 x490001 x490002 x490000 x490001 x490002)) else (some (x6, x490000, x490001, x490002, x502000, x502001, x502002))
def spec_l01Two.l0 : Nat → Int → Int → Int → Int → Int → Int → Int → Int → Int → Option (Int × Int × Int × Int × Int × Int × Int)
 | 0, _, _, _, _, _, _, _, _, _ => none
 | k + 1, x6, x8, x10, x490000, x490001, x490002, x502000, x502001, x502002 => if x10 > 0 then ((spec_l01Parent.f k x8 x502000 x502001 x502002).bind fun bt509 => (if bt509.2.2.2 = true then (spec_l01Two.l0 k x6 x8 (wrap64 (x10 - 1)) x490000 x490001 x490002 bt509.1 bt509.2.1 bt509.2.2.1) else (spec_l01Two.l0 k x6 x8 (wrap64 (x10 - 1)) x490000 x490001 x490002 x502000 x502001 x502002))) else (some (x6, x490000, x490001, x490002, x502000, x502001, x502002))
end
def spec_l01Two.f (k : Nat) (l0 : List Int) : Option (Int × Int × Int × Int × Int × Int × Int) := (spec_l01From.f k l0).bind fun bt479 => ((spec_l01Spoil.f k bt479.1 bt479.2.1 bt479.2.2).bind fun bt483 => ((spec_l01Prime.f bt483.1).bind fun t490 => (if t490 = true then (spec_l01Two.j0 k bt483.1 bt483.1 bt479.1 bt483.2.2.2.2.1 bt483.2.2.2.2.2 bt483.2.1 bt483.2.2.1 bt483.2.2.2.1) else (spec_l01Two.j0 k bt483.1 2 bt479.1 bt483.2.2.2.2.1 bt483.2.2.2.2.2 bt483.2.1 bt483.2.2.1 bt483.2.2.2.1))))
set_option maxHeartbeats 8000000 in
set_option maxRecDepth 100000 in
theorem spec_l01Two.calls (k : Nat) (A0 : Option Addr) (c0 : Nat) (l0 : List Int) (r1 : Int) (r2 : Int) (r3 : Int) (r4 : Int) (r5 : Int) (r6 : Int) (r7 : Int) (w : World) (hr0 : Kd.C (Kd.int .u8) w A0 l0.length l0) (hc0 : l0.length ≤ c0) (h : spec_l01Two.f k l0 = some (r1, r2, r3, r4, r5, r6, r7)) :
  Calls Try.prog 92 #[.slice A0 l0.length c0] w fun e w' => e = .returned (.tuple #[.int .i64 r1, .agg #[.int .i64 r2, .int .i64 r3, .int .i64 r4], .agg #[.int .i64 r5, .int .i64 r6, .int .i64 r7]]) ∧ Below w.heap.size w w' := by
 have hu27 := Try.underlying27
 have HR0 := Aside0.mk hr0
 have HC0 := Aside0.mk hc0
 clear hr0 hc0
 have HB := Aside0.mk (Below.refl w.heap.size w)
 unfold spec_l01Two.f at h
 have H := h
 clear h
 replace H := zi H
 obtain ⟨⟨t479, t480, t481⟩, A2, H⟩ := H
 try dsimp only at H
 replace H := zi H
 obtain ⟨⟨t483, t484, t485, t486, t487, t488⟩, A3, H⟩ := H
 try dsimp only at H
 replace H := zi H
 obtain ⟨t490, A4, H⟩ := H
 try dsimp only at H
 have HC5 := Aside0.mk H
 clear H
 go_enter Try.func92, Try.ntmps92
 go_upto_if 23 with (first | ((with_reducible refine zg 3 rfl ?_); refine z3 3 27 0 0 0 ?_; intro gb477 hg w6 BK477 hb; have GW477 := sg hg; replace HB := bs hb; clear hb hg) | ((with_reducible refine zg 4 rfl ?_); refine z3 4 27 0 0 0 ?_; intro gb478 hg w7 BK478 hb; have GW478 := sg hg; have NB477_478 := nl hg BK477; replace BK477 := bb BK477 hb; replace HB := bs hb; clear hb hg) | ((with_reducible refine zf 98 rfl ?_); refine g1 (some 14) Try.func98 #[.slice A0 l0.length c0] ?_; (with_reducible refine (spec_l01From.calls k _ _ l0 t479 t480 t481 w _ ?side1 ?side2 ?side3 A2.out).mono ?_); (case side1 => exact bl); (case side2 => exact HR0.out); (case side3 => exact HC0.out); rintro e w8 ⟨g482, rfl, hi, hb, hb2⟩; refine ⟨_, rfl, ?_⟩; have HI482 := Aside0.mk (hi); have NB482_477 := Aside0.mk (IsS127.ne_blk hi (blk_below (g := gb477) (o := .cells #[.int .i64 0, .int .i64 0, .int .i64 0] 27 (0, 0)) (be BK477) hb2) (by decide)); have NB477_482 := Aside0.mk (Ne.symm (IsS127.ne_blk hi (blk_below (g := gb477) (o := .cells #[.int .i64 0, .int .i64 0, .int .i64 0] 27 (0, 0)) (be BK477) hb2) (by decide))); have NB482_478 := Aside0.mk (IsS127.ne_blk hi (blk_below (g := gb478) (o := .cells #[.int .i64 0, .int .i64 0, .int .i64 0] 27 (0, 0)) (be BK478) hb2) (by decide)); have NB478_482 := Aside0.mk (Ne.symm (IsS127.ne_blk hi (blk_below (g := gb478) (o := .cells #[.int .i64 0, .int .i64 0, .int .i64 0] 27 (0, 0)) (be BK478) hb2) (by decide))); replace BK477 := Aside0.mk (blk_below (g := gb477) (o := .cells #[.int .i64 0, .int .i64 0, .int .i64 0] 27 (0, 0)) (be BK477) hb2); replace BK478 := Aside0.mk (blk_below (g := gb478) (o := .cells #[.int .i64 0, .int .i64 0, .int .i64 0] 27 (0, 0)) (be BK478) hb2); replace HB := Aside0.mk (hb); (try clear hb); (try clear hb2); (try clear hk); (try clear hi)) | ((with_reducible refine zf 99 rfl ?_); refine g1 (some 17) Try.func99 #[.pointer (some ⟨g482, 0, none⟩)] ?_; (with_reducible refine (spec_l01Spoil.calls k g482 t479 t480 t481 t483 t484 t485 t486 t487 t488 w _ ?side1 ?side2 A3.out).mono ?_); (case side1 => repeat (first | (with_reducible first | exact HI482.out | apply IsS127.alloc | apply IsS127.drewN | apply IsS127.drew | apply IsS127.set_1 | apply IsS127.set_2 | refine IsS127.far ?_ NB482_477.out _ | refine IsS127.far ?_ NB482_478.out _) | exact HI482.out)); (case side2 => repeat (first | (with_reducible first | exact HB.out | apply below_alloc | apply pw_below_drewN | apply below_drew1 | refine below_set ?_ (IsS127.ge HI482.out) | refine below_set ?_ GW477.out | refine below_set ?_ GW478.out) | exact HB.out)); rintro e w9 ⟨rfl, hi, hb, hk⟩; refine ⟨_, rfl, ?_⟩; replace BK477 := kb hk BK477 NB477_482; replace BK478 := kb hk BK478 NB478_482; replace HI482 := Aside0.mk (hi); replace HB := Aside0.mk (hb); (try clear hb hk)) | ((with_reducible refine zg 7 rfl ?_); refine z3 7 27 0 0 0 ?_; intro gb489 hg w10 BK489 hb; have GW489 := Aside0.mk ((by rw [hg]; exact (below_size (by repeat (first | (with_reducible first | exact HB.out | apply below_alloc | apply pw_below_drewN | apply below_drew1 | refine below_set ?_ (IsS127.ge HI482.out) | refine below_set ?_ GW477.out | refine below_set ?_ GW478.out) | exact HB.out))) : w.heap.size ≤ gb489)); have GE489 := Aside0.mk ((by rw [hg]; exact (below_size (by repeat (first | (with_reducible first | exact HB.out | apply below_alloc | apply pw_below_drewN | apply below_drew1 | refine below_set ?_ (IsS127.ge HI482.out) | refine below_set ?_ GW477.out | refine below_set ?_ GW478.out) | exact HB.out))) : w.heap.size ≤ gb489)); have NB477_489 := nl hg BK477; have NB478_489 := nl hg BK478; have NB482_489 := Aside0.mk ((by rw [hg]; exact Nat.ne_of_lt (IsS127.lt (show IsS127 w _ g482 t479 t487 t488 from by repeat (first | (with_reducible first | exact HI482.out | apply IsS127.alloc | apply IsS127.drewN | apply IsS127.drew | apply IsS127.set_1 | apply IsS127.set_2 | refine IsS127.far ?_ NB482_477.out _ | refine IsS127.far ?_ NB482_478.out _) | exact HI482.out))) : g482 ≠ gb489)); have NB489_482 := Aside0.mk ((by rw [hg]; exact Nat.ne_of_gt (IsS127.lt (show IsS127 w _ g482 t479 t487 t488 from by repeat (first | (with_reducible first | exact HI482.out | apply IsS127.alloc | apply IsS127.drewN | apply IsS127.drew | apply IsS127.set_1 | apply IsS127.set_2 | refine IsS127.far ?_ NB482_477.out _ | refine IsS127.far ?_ NB482_478.out _) | exact HI482.out))) : gb489 ≠ g482)); replace BK477 := bb BK477 hb; replace BK478 := bb BK478 hb; replace HB := Aside0.mk (below_step (by repeat (first | (with_reducible first | exact HB.out | apply below_alloc | apply pw_below_drewN | apply below_drew1 | refine below_set ?_ (IsS127.ge HI482.out) | refine below_set ?_ GW477.out | refine below_set ?_ GW478.out) | exact HB.out)) hb); replace HI482 := Aside0.mk (IsS127.below (by repeat (first | (with_reducible first | exact HI482.out | apply IsS127.alloc | apply IsS127.drewN | apply IsS127.drew | apply IsS127.set_1 | apply IsS127.set_2 | refine IsS127.far ?_ NB482_477.out _ | refine IsS127.far ?_ NB482_478.out _) | exact HI482.out)) hb); clear hb hg; obtain ⟨hnb11, hnc11⟩ := zm NB477_489; obtain ⟨hnb12, hnc12⟩ := zm NB478_489; have hnb13 := NB489_482.out; have hnc13 := NB482_489.out; obtain ⟨hcz14_0, hcz14_1, hcz14_2, hfz14_0, hfz14_1, hfz14_2⟩ := cq3 BK489) | ((with_reducible refine zf 120 rfl ?_); refine g1 (some 22) Try.func120 #[.int .i64 t483] ?_; (with_reducible refine (spec_l01Prime.calls t483 t490 _ A4.out).mono ?_); rintro e w' ⟨rfl, ⟨nd, rfl⟩⟩; refine ⟨_, rfl, ?_⟩))
 (try simp only [Act.put, zq, zr, zt])
 go_cut [8] (fun v8 wc => ∃ (kq : Nat) (x8_4 : Int), v8 = .int .i64 x8_4 ∧ Aside0 (spec_l01Two.j0 kq t483 x8_4 t479 t487 t488 t484 t485 t486 = some (r1, r2, r3, r4, r5, r6, r7)) ∧ Aside0 (kq ≤ k) ∧ Aside0 (wc.heap[gb477]? = some (.cells #[.int .i64 0, .int .i64 0, .int .i64 0] 27 (0, 0))) ∧ Aside0 (wc.heap[gb478]? = some (.cells #[.int .i64 0, .int .i64 0, .int .i64 0] 27 (0, 0))) ∧ Aside0 (wc.heap[gb489]? = some (.cells #[.int .i64 t484, .int .i64 t485, .int .i64 t486] 27 (0, 0))) ∧ Aside0 (IsS127 w wc g482 t479 t487 t488) ∧ Aside0 (Below w.heap.size w wc))
 case first =>
  have H := HC5.out
  clear HC5
  by_cases c15 : t490 = true
  ·subst c15
   rw [if_pos rfl] at H
   have H' := Aside0.mk H
   clear H
   go_wp2
   go_meet
   case rel => exact ⟨_, (t483), (by first | rfl | (simp; done) | (simp [*]; done)), H', ⟨by first | omega | exact Nat.le_refl _⟩, ⟨bp⟩, ⟨bp⟩, ⟨bp⟩, ⟨by repeat (first | (with_reducible first | exact HI482.out | apply IsS127.alloc | apply IsS127.drewN | apply IsS127.drew | apply IsS127.set_1 | apply IsS127.set_2 | refine IsS127.far ?_ NB482_477.out _ | refine IsS127.far ?_ NB482_478.out _ | refine IsS127.far ?_ NB482_489.out _) | exact HI482.out)⟩, ⟨by repeat (first | (with_reducible first | exact HB.out | apply below_alloc | apply pw_below_drewN | apply below_drew1 | refine below_set ?_ (IsS127.ge HI482.out) | refine below_set ?_ GW477.out | refine below_set ?_ GW478.out | refine below_set ?_ GE489.out) | exact HB.out)⟩⟩
  ·replace c15 := Bool.eq_false_iff.mpr c15
   subst c15
   have H1 : (spec_l01Two.j0 k t483 2 t479 t487 t488 t484 t485 t486) = some (r1, r2, r3, r4, r5, r6, r7) := by rw [if_neg (show ¬ (false = true) by decide)] at H; exact H
   clear H
   have H := H1
   clear H1
   have H' := Aside0.mk H
   clear H
   go_wp2
   go_meet
   case rel => exact ⟨_, (2), (by first | rfl | (simp; done) | (simp [*]; done)), H', ⟨by first | omega | exact Nat.le_refl _⟩, ⟨bp⟩, ⟨bp⟩, ⟨bp⟩, ⟨by repeat (first | (with_reducible first | exact HI482.out | apply IsS127.alloc | apply IsS127.drewN | apply IsS127.drew | apply IsS127.set_1 | apply IsS127.set_2 | refine IsS127.far ?_ NB482_477.out _ | refine IsS127.far ?_ NB482_478.out _ | refine IsS127.far ?_ NB482_489.out _) | exact HI482.out)⟩, ⟨by repeat (first | (with_reducible first | exact HB.out | apply below_alloc | apply pw_below_drewN | apply below_drew1 | refine below_set ?_ (IsS127.ge HI482.out) | refine below_set ?_ GW477.out | refine below_set ?_ GW478.out | refine below_set ?_ GE489.out) | exact HB.out)⟩⟩
 case rest =>
  clear HC5
  obtain ⟨kq, x8_4, rfl, HA, HJ4, BK477, BK478, BK489, HI482, HB⟩ := hcut
  cases kq with
  | zero => exact absurd HA.out (by simp [spec_l01Two.j0])
  | succ kj4 =>
   have H := HA.out
   clear HA
   simp only [spec_l01Two.j0] at H
   replace H := zi H
   obtain ⟨⟨t491, t492, t493, t494, t495⟩, A16, H⟩ := H
   try dsimp only at H
   replace H := zi H
   obtain ⟨⟨t496, t497, t498, t499, t500⟩, A17, H⟩ := H
   try dsimp only at H
   have HC18 := Aside0.mk H
   clear H
   go_upto_region 7 with (first | ((with_reducible refine zf 116 rfl ?_); refine g1 (some 27) Try.func116 #[.pointer (some ⟨g482, 0, none⟩), .int .i64 x8_4] ?_; (with_reducible refine (spec_l01Draw.calls kj4 g482 t479 t487 t488 x8_4 t491 t492 t493 t494 t495 w _ ?side1 ?side2 A16.out).mono ?_); (case side1 => repeat (first | (with_reducible first | exact HI482.out | apply IsS127.alloc | apply IsS127.drewN | apply IsS127.drew | apply IsS127.set_1 | apply IsS127.set_2 | refine IsS127.far ?_ NB482_477.out _ | refine IsS127.far ?_ NB482_478.out _ | refine IsS127.far ?_ NB482_489.out _) | exact HI482.out)); (case side2 => repeat (first | (with_reducible first | exact HB.out | apply below_alloc | apply pw_below_drewN | apply below_drew1 | refine below_set ?_ (IsS127.ge HI482.out) | refine below_set ?_ GW477.out | refine below_set ?_ GW478.out | refine below_set ?_ GE489.out) | exact HB.out)); rintro e w19 ⟨rfl, hi, hb, hk⟩; refine ⟨_, rfl, ?_⟩; replace BK477 := kb hk BK477 NB477_482; replace BK478 := kb hk BK478 NB478_482; replace BK489 := kb hk BK489 NB489_482; replace HI482 := Aside0.mk (hi); replace HB := Aside0.mk (hb); (try clear hb hk)) | ((with_reducible refine zf 142 rfl ?_); refine g1 (some 28) Try.func142 #[.pointer (some ⟨g482, 0, none⟩), .agg #[.int .i64 t491, .int .i64 t492, .int .i64 t493]] ?_; (with_reducible refine (spec_l01Bad.calls g482 t479 t494 t495 t491 t492 t493 t496 t497 t498 t499 t500 w _ ?side1 ?side2 A17.out).mono ?_); (case side1 => repeat (first | (with_reducible first | exact HI482.out | apply IsS127.alloc | apply IsS127.drewN | apply IsS127.drew | apply IsS127.set_1 | apply IsS127.set_2 | refine IsS127.far ?_ NB482_477.out _ | refine IsS127.far ?_ NB482_478.out _ | refine IsS127.far ?_ NB482_489.out _) | exact HI482.out)); (case side2 => repeat (first | (with_reducible first | exact HB.out | apply below_alloc | apply pw_below_drewN | apply below_drew1 | refine below_set ?_ (IsS127.ge HI482.out) | refine below_set ?_ GW477.out | refine below_set ?_ GW478.out | refine below_set ?_ GE489.out) | exact HB.out)); rintro e w20 ⟨rfl, hi, hb, hk⟩; refine ⟨_, rfl, ?_⟩; replace BK477 := kb hk BK477 NB477_482; replace BK478 := kb hk BK478 NB478_482; replace BK489 := kb hk BK489 NB489_482; replace HI482 := Aside0.mk (hi); replace HB := Aside0.mk (hb); (try clear hb hk)) | ((with_reducible refine zg 9 rfl ?_); refine z3 9 27 0 0 0 ?_; intro gb501 hg w21 BK501 hb; have GW501 := Aside0.mk ((by rw [hg]; exact (below_size (by repeat (first | (with_reducible first | exact HB.out | apply below_alloc | apply pw_below_drewN | apply below_drew1 | refine below_set ?_ (IsS127.ge HI482.out) | refine below_set ?_ GW477.out | refine below_set ?_ GW478.out | refine below_set ?_ GE489.out) | exact HB.out))) : w.heap.size ≤ gb501)); have GE501 := Aside0.mk ((by rw [hg]; exact (below_size (by repeat (first | (with_reducible first | exact HB.out | apply below_alloc | apply pw_below_drewN | apply below_drew1 | refine below_set ?_ (IsS127.ge HI482.out) | refine below_set ?_ GW477.out | refine below_set ?_ GW478.out | refine below_set ?_ GE489.out) | exact HB.out))) : w.heap.size ≤ gb501)); have NB477_501 := nl hg BK477; have NB478_501 := nl hg BK478; have NB489_501 := nl hg BK489; have NB482_501 := Aside0.mk ((by rw [hg]; exact Nat.ne_of_lt (IsS127.lt (show IsS127 w _ g482 t479 t499 t500 from by repeat (first | (with_reducible first | exact HI482.out | apply IsS127.alloc | apply IsS127.drewN | apply IsS127.drew | apply IsS127.set_1 | apply IsS127.set_2 | refine IsS127.far ?_ NB482_477.out _ | refine IsS127.far ?_ NB482_478.out _ | refine IsS127.far ?_ NB482_489.out _) | exact HI482.out))) : g482 ≠ gb501)); have NB501_482 := Aside0.mk ((by rw [hg]; exact Nat.ne_of_gt (IsS127.lt (show IsS127 w _ g482 t479 t499 t500 from by repeat (first | (with_reducible first | exact HI482.out | apply IsS127.alloc | apply IsS127.drewN | apply IsS127.drew | apply IsS127.set_1 | apply IsS127.set_2 | refine IsS127.far ?_ NB482_477.out _ | refine IsS127.far ?_ NB482_478.out _ | refine IsS127.far ?_ NB482_489.out _) | exact HI482.out))) : gb501 ≠ g482)); replace BK477 := bb BK477 hb; replace BK478 := bb BK478 hb; replace BK489 := bb BK489 hb; replace HB := Aside0.mk (below_step (by repeat (first | (with_reducible first | exact HB.out | apply below_alloc | apply pw_below_drewN | apply below_drew1 | refine below_set ?_ (IsS127.ge HI482.out) | refine below_set ?_ GW477.out | refine below_set ?_ GW478.out | refine below_set ?_ GE489.out) | exact HB.out)) hb); replace HI482 := Aside0.mk (IsS127.below (by repeat (first | (with_reducible first | exact HI482.out | apply IsS127.alloc | apply IsS127.drewN | apply IsS127.drew | apply IsS127.set_1 | apply IsS127.set_2 | refine IsS127.far ?_ NB482_477.out _ | refine IsS127.far ?_ NB482_478.out _ | refine IsS127.far ?_ NB482_489.out _) | exact HI482.out)) hb); clear hb hg; obtain ⟨hnb22, hnc22⟩ := zm NB477_501; obtain ⟨hnb23, hnc23⟩ := zm NB478_501; obtain ⟨hnb24, hnc24⟩ := zm NB489_501; have hnb25 := NB501_482.out; have hnc25 := NB482_501.out; obtain ⟨hcz26_0, hcz26_1, hcz26_2, hfz26_0, hfz26_1, hfz26_2⟩ := cq3 BK501))
   (try simp only [Act.put, zq, zr, zt])
   go_cut [36] (fun v36 wc => ∃ (kq : Nat) (x36_17 : Bool) (x483001_17 : Int) (x483002_17 : Int), v36 = .bool x36_17 ∧ Aside0 (spec_l01Two.j1 kq t483 x8_4 x36_17 t479 x483001_17 x483002_17 t484 t485 t486 t496 t497 t498 = some (r1, r2, r3, r4, r5, r6, r7)) ∧ Aside0 (kq ≤ kj4) ∧ Aside0 (wc.heap[gb477]? = some (.cells #[.int .i64 0, .int .i64 0, .int .i64 0] 27 (0, 0))) ∧ Aside0 (wc.heap[gb478]? = some (.cells #[.int .i64 0, .int .i64 0, .int .i64 0] 27 (0, 0))) ∧ Aside0 (wc.heap[gb489]? = some (.cells #[.int .i64 t484, .int .i64 t485, .int .i64 t486] 27 (0, 0))) ∧ Aside0 (wc.heap[gb501]? = some (.cells #[.int .i64 t496, .int .i64 t497, .int .i64 t498] 27 (0, 0))) ∧ Aside0 (IsS127 w wc g482 t479 x483001_17 x483002_17) ∧ Aside0 (Below w.heap.size w wc))
   case first =>
    have H := HC18.out
    clear HC18
    replace H := zi H
    obtain ⟨⟨t502, t503, t504⟩, A27, H⟩ := H
    try dsimp only at H
    replace H := ii H
    rcases H with ⟨c28, H⟩ | ⟨c28, H⟩
    ·obtain ⟨c28b0, c28b1⟩ := zz c28
     clear c28
     (first | rw [c28b0] | (simp only [i64_w, i32_w]; rw [c28b0]) | skip)
     replace H := zi H
     obtain ⟨t505, A29, H⟩ := H
     try dsimp only at H
     have H' := Aside0.mk H
     clear H
     go_wp2_with (first | ((with_reducible refine zf 101 rfl ?_); refine g1 (some 30) Try.func101 #[.pointer (some ⟨g482, 0, none⟩), .int .i64 3] ?_; (with_reducible refine (spec_l01Next.calls g482 t479 t499 t500 3 t502 t503 t504 w _ ?side1 ?side2 A27.out).mono ?_); (case side1 => repeat (first | (with_reducible first | exact HI482.out | apply IsS127.alloc | apply IsS127.drewN | apply IsS127.drew | apply IsS127.set_1 | apply IsS127.set_2 | refine IsS127.far ?_ NB482_477.out _ | refine IsS127.far ?_ NB482_478.out _ | refine IsS127.far ?_ NB482_489.out _ | refine IsS127.far ?_ NB482_501.out _) | exact HI482.out)); (case side2 => repeat (first | (with_reducible first | exact HB.out | apply below_alloc | apply pw_below_drewN | apply below_drew1 | refine below_set ?_ (IsS127.ge HI482.out) | refine below_set ?_ GW477.out | refine below_set ?_ GW478.out | refine below_set ?_ GE489.out | refine below_set ?_ GE501.out) | exact HB.out)); rintro e w30 ⟨rfl, hi, hb, hk⟩; refine ⟨_, rfl, ?_⟩; replace BK477 := Aside0.mk (KeepBut.blk hk (g' := gb477) (o := .cells #[.int .i64 0, .int .i64 0, .int .i64 0] 27 (0, 0)) (bp) NB477_482.out (by simp)); replace BK478 := Aside0.mk (KeepBut.blk hk (g' := gb478) (o := .cells #[.int .i64 0, .int .i64 0, .int .i64 0] 27 (0, 0)) (bp) NB478_482.out (by simp)); replace BK489 := Aside0.mk (KeepBut.blk hk (g' := gb489) (o := .cells #[.int .i64 t484, .int .i64 t485, .int .i64 t486] 27 (0, 0)) (bp) NB489_482.out (by simp)); replace BK501 := Aside0.mk (KeepBut.blk hk (g' := gb501) (o := .cells #[.int .i64 t496, .int .i64 t497, .int .i64 t498] 27 (0, 0)) (bp) NB501_482.out (by simp)); replace HI482 := Aside0.mk (hi); replace HB := Aside0.mk (hb); (try clear hb hk); obtain ⟨hnb31, hnc31⟩ := zm NB477_489; obtain ⟨hnb32, hnc32⟩ := zm NB478_489; obtain ⟨hnb33, hnc33⟩ := zn NB489_501; have hnb34 := NB489_482.out; have hnc34 := NB482_489.out; obtain ⟨hcz35_0, hcz35_1, hcz35_2, hfz35_0, hfz35_1, hfz35_2⟩ := cq3 BK489) | (go_at_call 134; (with_reducible refine (spec_l01Is.calls kj4 x8_4 t484 t485 t486 t505 _ A29.out).mono ?_); rintro e w36 ⟨rfl, hb⟩; replace BK477 := bb BK477 hb; replace BK478 := bb BK478 hb; replace BK489 := bb BK489 hb; replace BK501 := bb BK501 hb; replace HB := Aside0.mk (below_step (by repeat (first | (with_reducible first | exact HB.out | apply below_alloc | apply pw_below_drewN | apply below_drew1 | refine below_set ?_ (IsS127.ge HI482.out) | refine below_set ?_ GW477.out | refine below_set ?_ GW478.out | refine below_set ?_ GE489.out | refine below_set ?_ GE501.out) | exact HB.out)) hb); replace HI482 := Aside0.mk (IsS127.below (by repeat (first | (with_reducible first | exact HI482.out | apply IsS127.alloc | apply IsS127.drewN | apply IsS127.drew | apply IsS127.set_1 | apply IsS127.set_2 | refine IsS127.far ?_ NB482_477.out _ | refine IsS127.far ?_ NB482_478.out _ | refine IsS127.far ?_ NB482_489.out _ | refine IsS127.far ?_ NB482_501.out _) | exact HI482.out)) hb); (try clear hb)))
     go_meet
     case rel => exact ⟨_, (t505), (t503), (t504), (by first | rfl | (simp; done) | (simp [*]; done)), H', ⟨by have := HJ4.out; first | omega | exact Nat.le_refl _⟩, ⟨be BK477⟩, ⟨be BK478⟩, ⟨be BK489⟩, ⟨be BK501⟩, ⟨by repeat (first | (with_reducible first | exact HI482.out | apply IsS127.alloc | apply IsS127.drewN | apply IsS127.drew | apply IsS127.set_1 | apply IsS127.set_2 | refine IsS127.far ?_ NB482_477.out _ | refine IsS127.far ?_ NB482_478.out _ | refine IsS127.far ?_ NB482_489.out _ | refine IsS127.far ?_ NB482_501.out _) | exact HI482.out)⟩, ⟨by repeat (first | (with_reducible first | exact HB.out | apply below_alloc | apply pw_below_drewN | apply below_drew1 | refine below_set ?_ (IsS127.ge HI482.out) | refine below_set ?_ GW477.out | refine below_set ?_ GW478.out | refine below_set ?_ GE489.out | refine below_set ?_ GE501.out) | exact HB.out)⟩⟩
    ·obtain ⟨c28b0, c28b1⟩ := zy c28
     (first | rw [c28b0] | (simp only [i64_w, i32_w]; rw [c28b0]) | skip)
     have H' := Aside0.mk H
     clear H
     go_wp2_with (first | ((with_reducible refine zf 101 rfl ?_); refine g1 (some 30) Try.func101 #[.pointer (some ⟨g482, 0, none⟩), .int .i64 3] ?_; (with_reducible refine (spec_l01Next.calls g482 t479 t499 t500 3 t502 t503 t504 w _ ?side1 ?side2 A27.out).mono ?_); (case side1 => repeat (first | (with_reducible first | exact HI482.out | apply IsS127.alloc | apply IsS127.drewN | apply IsS127.drew | apply IsS127.set_1 | apply IsS127.set_2 | refine IsS127.far ?_ NB482_477.out _ | refine IsS127.far ?_ NB482_478.out _ | refine IsS127.far ?_ NB482_489.out _ | refine IsS127.far ?_ NB482_501.out _) | exact HI482.out)); (case side2 => repeat (first | (with_reducible first | exact HB.out | apply below_alloc | apply pw_below_drewN | apply below_drew1 | refine below_set ?_ (IsS127.ge HI482.out) | refine below_set ?_ GW477.out | refine below_set ?_ GW478.out | refine below_set ?_ GE489.out | refine below_set ?_ GE501.out) | exact HB.out)); rintro e w37 ⟨rfl, hi, hb, hk⟩; refine ⟨_, rfl, ?_⟩; replace BK477 := Aside0.mk (KeepBut.blk hk (g' := gb477) (o := .cells #[.int .i64 0, .int .i64 0, .int .i64 0] 27 (0, 0)) (bp) NB477_482.out (by simp)); replace BK478 := Aside0.mk (KeepBut.blk hk (g' := gb478) (o := .cells #[.int .i64 0, .int .i64 0, .int .i64 0] 27 (0, 0)) (bp) NB478_482.out (by simp)); replace BK489 := Aside0.mk (KeepBut.blk hk (g' := gb489) (o := .cells #[.int .i64 t484, .int .i64 t485, .int .i64 t486] 27 (0, 0)) (bp) NB489_482.out (by simp)); replace BK501 := Aside0.mk (KeepBut.blk hk (g' := gb501) (o := .cells #[.int .i64 t496, .int .i64 t497, .int .i64 t498] 27 (0, 0)) (bp) NB501_482.out (by simp)); replace HI482 := Aside0.mk (hi); replace HB := Aside0.mk (hb); (try clear hb hk)))
     go_meet
     case rel => exact ⟨_, (false), (t503), (t504), (by first | rfl | (simp; done) | (simp [*]; done)), H', ⟨by have := HJ4.out; first | omega | exact Nat.le_refl _⟩, ⟨be BK477⟩, ⟨be BK478⟩, ⟨be BK489⟩, ⟨be BK501⟩, ⟨by repeat (first | (with_reducible first | exact HI482.out | apply IsS127.alloc | apply IsS127.drewN | apply IsS127.drew | apply IsS127.set_1 | apply IsS127.set_2 | refine IsS127.far ?_ NB482_477.out _ | refine IsS127.far ?_ NB482_478.out _ | refine IsS127.far ?_ NB482_489.out _ | refine IsS127.far ?_ NB482_501.out _) | exact HI482.out)⟩, ⟨by repeat (first | (with_reducible first | exact HB.out | apply below_alloc | apply pw_below_drewN | apply below_drew1 | refine below_set ?_ (IsS127.ge HI482.out) | refine below_set ?_ GW477.out | refine below_set ?_ GW478.out | refine below_set ?_ GE489.out | refine below_set ?_ GE501.out) | exact HB.out)⟩⟩
   case rest =>
    clear HC18
    obtain ⟨kq, x36_17, x483001_17, x483002_17, rfl, HA, HJ17, BK477, BK478, BK489, BK501, HI482, HB⟩ := hcut
    cases kq with
    | zero => exact absurd HA.out (by simp [spec_l01Two.j1])
    | succ kj17 =>
     have H := HA.out
     clear HA
     simp only [spec_l01Two.j1] at H
     by_cases c38 : x36_17 = true
     ·subst c38
      rw [if_pos rfl] at H
      replace H := zi H
      obtain ⟨⟨t506, t507, t508⟩, A39, H⟩ := H
      try dsimp only at H
      have H' := Aside0.mk H
      clear H
      obtain ⟨hnb40, hnc40⟩ := zm NB477_489
      obtain ⟨hnb41, hnc41⟩ := zm NB478_489
      obtain ⟨hnb42, hnc42⟩ := zn NB489_501
      have hnb43 := NB489_482.out
      have hnc43 := NB482_489.out
      obtain ⟨hcz44_0, hcz44_1, hcz44_2, hfz44_0, hfz44_1, hfz44_2⟩ := cq3 BK489
      obtain ⟨hnb45, hnc45⟩ := zm NB477_501
      obtain ⟨hnb46, hnc46⟩ := zm NB478_501
      have hnb47 := NB501_482.out
      have hnc47 := NB482_501.out
      obtain ⟨hcz48_0, hcz48_1, hcz48_2, hfz48_0, hfz48_1, hfz48_2⟩ := cq3 BK501
      go_wp2_with (first | ((with_reducible refine zf 101 rfl ?_); refine g1 (some 39) Try.func101 #[.pointer (some ⟨g482, 0, none⟩), .int .i64 4] ?_; (with_reducible refine (spec_l01Next.calls g482 t479 x483001_17 x483002_17 4 t506 t507 t508 w _ ?side1 ?side2 A39.out).mono ?_); (case side1 => repeat (first | (with_reducible first | exact HI482.out | apply IsS127.alloc | apply IsS127.drewN | apply IsS127.drew | apply IsS127.set_1 | apply IsS127.set_2 | refine IsS127.far ?_ NB482_477.out _ | refine IsS127.far ?_ NB482_478.out _ | refine IsS127.far ?_ NB482_489.out _ | refine IsS127.far ?_ NB482_501.out _) | exact HI482.out)); (case side2 => repeat (first | (with_reducible first | exact HB.out | apply below_alloc | apply pw_below_drewN | apply below_drew1 | refine below_set ?_ (IsS127.ge HI482.out) | refine below_set ?_ GW477.out | refine below_set ?_ GW478.out | refine below_set ?_ GE489.out | refine below_set ?_ GE501.out) | exact HB.out)); rintro e w49 ⟨rfl, hi, hb, hk⟩; refine ⟨_, rfl, ?_⟩; replace BK477 := Aside0.mk (KeepBut.blk hk (g' := gb477) (o := .cells #[.int .i64 0, .int .i64 0, .int .i64 0] 27 (0, 0)) (bp) NB477_482.out (by simp)); replace BK478 := Aside0.mk (KeepBut.blk hk (g' := gb478) (o := .cells #[.int .i64 0, .int .i64 0, .int .i64 0] 27 (0, 0)) (bp) NB478_482.out (by simp)); replace BK489 := Aside0.mk (KeepBut.blk hk (g' := gb489) (o := .cells #[.int .i64 t484, .int .i64 t485, .int .i64 t486] 27 (0, 0)) (bp) NB489_482.out (by simp)); replace BK501 := Aside0.mk (KeepBut.blk hk (g' := gb501) (o := .cells #[.int .i64 t484, .int .i64 t485, .int .i64 t486] 27 (0, 0)) (bp) NB501_482.out (by simp)); replace HI482 := Aside0.mk (hi); replace HB := Aside0.mk (hb); (try clear hb hk)))
      go_loopg [10] kj17 (fun kq v10 w' => ∃ (x10_3 : Int) (x502000_3 : Int) (x502001_3 : Int) (x502002_3 : Int), v10 = .int .i64 x10_3 ∧ Aside0 (spec_l01Two.l0 kq t483 x8_4 x10_3 t484 t485 t486 x502000_3 x502001_3 x502002_3 = some (r1, r2, r3, r4, r5, r6, r7)) ∧ Aside0 (kq ≤ kj17) ∧ Aside0 (w'.heap[gb477]? = some (.cells #[.int .i64 0, .int .i64 0, .int .i64 0] 27 (0, 0))) ∧ Aside0 (w'.heap[gb478]? = some (.cells #[.int .i64 0, .int .i64 0, .int .i64 0] 27 (0, 0))) ∧ Aside0 (w'.heap[gb489]? = some (.cells #[.int .i64 t484, .int .i64 t485, .int .i64 t486] 27 (0, 0))) ∧ Aside0 (w'.heap[gb501]? = some (.cells #[.int .i64 x502000_3, .int .i64 x502001_3, .int .i64 x502002_3] 27 (0, 0))) ∧ Aside0 (Below w.heap.size w w'))
      case atStart => exact ⟨(t506), (t484), (t485), (t486), (by first | rfl | (simp; done) | (simp [*]; done)), H', ⟨Nat.le_refl _⟩, ⟨be BK477⟩, ⟨be BK478⟩, ⟨be BK489⟩, ⟨be BK501⟩, ⟨by repeat (first | (with_reducible first | exact HB.out | apply below_alloc | apply pw_below_drewN | apply below_drew1 | refine below_set ?_ (IsS127.ge HI482.out) | refine below_set ?_ GW477.out | refine below_set ?_ GW478.out | refine below_set ?_ GE489.out | refine below_set ?_ GE501.out) | exact HB.out)⟩⟩
      case round =>
       clear H'
       obtain ⟨x10_3, x502000_3, x502001_3, x502002_3, rfl, HA, HK3, BK477, BK478, BK489, BK501, HB⟩ := hrel
       cases gk with
       | zero => exact absurd HA.out (by simp [spec_l01Two.l0])
       | succ k3 =>
        have H := HA.out
        clear HA
        simp only [spec_l01Two.l0] at H
        replace H := ii H
        rcases H with ⟨c50, H⟩ | ⟨c50, H⟩
        ·have c50b0 := decide_eq_true c50
         clear c50
         replace H := zi H
         obtain ⟨⟨t509, t510, t511, t512⟩, A51, H⟩ := H
         try dsimp only at H
         by_cases c52 : t512 = true
         ·subst c52
          rw [if_pos rfl] at H
          have H' := Aside0.mk H
          clear H
          obtain ⟨hnb53, hnc53⟩ := zm NB477_501
          obtain ⟨hnb54, hnc54⟩ := zm NB478_501
          obtain ⟨hnb55, hnc55⟩ := zm NB489_501
          obtain ⟨hcz56_0, hcz56_1, hcz56_2, hfz56_0, hfz56_1, hfz56_2⟩ := cq3 BK501
          go_wp2_with (first | ((with_reducible refine zf 106 rfl ?_); refine g1 (some 47) Try.func106 #[.int .i64 x8_4, .agg #[.int .i64 x502000_3, .int .i64 x502001_3, .int .i64 x502002_3]] ?_; (with_reducible refine (spec_l01Parent.calls k3 x8_4 x502000_3 x502001_3 x502002_3 t509 t510 t511 true _ A51.out).mono ?_); rintro e w57 ⟨rfl, hb⟩; refine ⟨_, rfl, ?_⟩; replace BK477 := bb BK477 hb; replace BK478 := bb BK478 hb; replace BK489 := bb BK489 hb; replace BK501 := bb BK501 hb; replace HB := bs hb; (try clear hb)) | ((with_reducible refine zg 11 rfl ?_); refine z3 11 27 0 0 0 ?_; intro gb513 hg w58 BK513 hb; have GW513 := sg hg; have NB477_513 := nl hg BK477; have NB478_513 := nl hg BK478; have NB489_513 := nl hg BK489; have NB501_513 := nl hg BK501; replace BK477 := bb BK477 hb; replace BK478 := bb BK478 hb; replace BK489 := bb BK489 hb; replace BK501 := bb BK501 hb; replace HB := bs hb; clear hb hg; obtain ⟨hnb59, hnc59⟩ := zm NB477_513; obtain ⟨hnb60, hnc60⟩ := zm NB478_513; obtain ⟨hnb61, hnc61⟩ := zm NB489_513; obtain ⟨hnb62, hnc62⟩ := zm NB501_513; obtain ⟨hcz63_0, hcz63_1, hcz63_2, hfz63_0, hfz63_1, hfz63_2⟩ := cq3 BK513; obtain ⟨hcz64_0, hcz64_1, hcz64_2, hfz64_0, hfz64_1, hfz64_2⟩ := cq3 BK501))
          go_roundg k3
          case measure => have := HJ4.out; have := HJ17.out; have := HK3.out; omega
          case rel => exact ⟨(wrap64 (x10_3 - 1)), (t509), (t510), (t511), (by first | rfl | (simp; done) | (simp [*]; done)), H', ⟨by have := HJ4.out; have := HJ17.out; have := HK3.out; omega⟩, ⟨bp⟩, ⟨bp⟩, ⟨bp⟩, ⟨bp⟩, ⟨bl⟩⟩
         ·replace c52 := Bool.eq_false_iff.mpr c52
          subst c52
          have H1 : (spec_l01Two.l0 k3 t483 x8_4 (wrap64 (x10_3 - 1)) t484 t485 t486 x502000_3 x502001_3 x502002_3) = some (r1, r2, r3, r4, r5, r6, r7) := by rw [if_neg (show ¬ (false = true) by decide)] at H; exact H
          clear H
          have H := H1
          clear H1
          have H' := Aside0.mk H
          clear H
          obtain ⟨hnb65, hnc65⟩ := zm NB477_501
          obtain ⟨hnb66, hnc66⟩ := zm NB478_501
          obtain ⟨hnb67, hnc67⟩ := zm NB489_501
          obtain ⟨hcz68_0, hcz68_1, hcz68_2, hfz68_0, hfz68_1, hfz68_2⟩ := cq3 BK501
          go_wp2_with (first | ((with_reducible refine zf 106 rfl ?_); refine g1 (some 47) Try.func106 #[.int .i64 x8_4, .agg #[.int .i64 x502000_3, .int .i64 x502001_3, .int .i64 x502002_3]] ?_; (with_reducible refine (spec_l01Parent.calls k3 x8_4 x502000_3 x502001_3 x502002_3 t509 t510 t511 false _ A51.out).mono ?_); rintro e w69 ⟨rfl, hb⟩; refine ⟨_, rfl, ?_⟩; replace BK477 := bb BK477 hb; replace BK478 := bb BK478 hb; replace BK489 := bb BK489 hb; replace BK501 := bb BK501 hb; replace HB := bs hb; (try clear hb)) | ((with_reducible refine zg 11 rfl ?_); refine z3 11 27 0 0 0 ?_; intro gb513 hg w70 BK513 hb; have GW513 := sg hg; have NB477_513 := nl hg BK477; have NB478_513 := nl hg BK478; have NB489_513 := nl hg BK489; have NB501_513 := nl hg BK501; replace BK477 := bb BK477 hb; replace BK478 := bb BK478 hb; replace BK489 := bb BK489 hb; replace BK501 := bb BK501 hb; replace HB := bs hb; clear hb hg; obtain ⟨hnb71, hnc71⟩ := zm NB477_513; obtain ⟨hnb72, hnc72⟩ := zm NB478_513; obtain ⟨hnb73, hnc73⟩ := zm NB489_513; obtain ⟨hnb74, hnc74⟩ := zm NB501_513; obtain ⟨hcz75_0, hcz75_1, hcz75_2, hfz75_0, hfz75_1, hfz75_2⟩ := cq3 BK513))
          go_roundg k3
          case measure => have := HJ4.out; have := HJ17.out; have := HK3.out; omega
          case rel => exact ⟨(wrap64 (x10_3 - 1)), (x502000_3), (x502001_3), (x502002_3), (by first | rfl | (simp; done) | (simp [*]; done)), H', ⟨by have := HJ4.out; have := HJ17.out; have := HK3.out; omega⟩, ⟨bp⟩, ⟨bp⟩, ⟨bp⟩, ⟨bp⟩, ⟨bl⟩⟩
        ·have c50b0 := decide_eq_false c50
         clear c50
         simp only [Option.some.injEq, Prod.mk.injEq] at H
         obtain ⟨rfl, rfl, rfl, rfl, rfl, rfl, rfl⟩ := H
         try go_wp2
         replace BK477 := Aside0.mk (blk_drew BK477.out)
         replace BK478 := Aside0.mk (blk_drew BK478.out)
         replace BK489 := Aside0.mk (blk_drew BK489.out)
         replace BK501 := Aside0.mk (blk_drew BK501.out)
         replace HB := Aside0.mk (below_drew1 HB.out)
         refine start_ (n := 6) (S := fun w' => w'.cell? ⟨gb489, 0, none⟩ = some (.int .i64 t484) ∧ w'.cell? ⟨gb489, 1, none⟩ = some (.int .i64 t485) ∧ w'.cell? ⟨gb489, 2, none⟩ = some (.int .i64 t486) ∧ w'.cell? ⟨gb501, 0, none⟩ = some (.int .i64 x502000_3) ∧ w'.cell? ⟨gb501, 1, none⟩ = some (.int .i64 x502001_3) ∧ w'.cell? ⟨gb501, 2, none⟩ = some (.int .i64 x502002_3)) (ds := []) (tA 6 0) (by kernel_rfl) rfl rfl ⟨(blk_cell BK489.out 0).trans rfl, (blk_cell BK489.out 1).trans rfl, (blk_cell BK489.out 2).trans rfl, (blk_cell BK501.out 0).trans rfl, (blk_cell BK501.out 1).trans rfl, (blk_cell BK501.out 2).trans rfl⟩ (fun hHeld => ?_)
         generalize wr.drew = w76 at BK477 BK478 BK489 BK501 HB hHeld ⊢
         refine pr 0 (some 52) (tA 6 1) ?_
         refine pr 3 (some 2) (tA 6 9) ?_
         refine tr6 1 (some 53) (tA 6 11) hHeld ?_
         refine tr6 2 (some 54) (tA 6 15) hHeld ?_
         refine one_ (i := 4) (N := none) (tA 6 31) rfl rfl (by kernel_rfl) (by decide) (fun K hK => ?_)
         have hs77 : w76.cell? ⟨gb477, 0, none⟩ = some (.int .i64 0) := (blk_cell BK477.out 0).trans rfl
         have hfs77 := blk_frozen BK477.out 0
         have hns77_1 := NB477_478.out.symm
         have hns77_2 := NB477_489.out.symm
         have hns77_3 := NB477_501.out.symm
         have hms77_1 := NB477_478.out
         have hms77_2 := NB477_489.out
         have hms77_3 := NB477_501.out
         have hs78 : w76.cell? ⟨gb477, 1, none⟩ = some (.int .i64 0) := (blk_cell BK477.out 1).trans rfl
         have hfs78 := blk_frozen BK477.out 1
         have hns78_1 := NB477_478.out.symm
         have hns78_2 := NB477_489.out.symm
         have hns78_3 := NB477_501.out.symm
         have hms78_1 := NB477_478.out
         have hms78_2 := NB477_489.out
         have hms78_3 := NB477_501.out
         have hs79 : w76.cell? ⟨gb477, 2, none⟩ = some (.int .i64 0) := (blk_cell BK477.out 2).trans rfl
         have hfs79 := blk_frozen BK477.out 2
         have hns79_1 := NB477_478.out.symm
         have hns79_2 := NB477_489.out.symm
         have hns79_3 := NB477_501.out.symm
         have hms79_1 := NB477_478.out
         have hms79_2 := NB477_489.out
         have hms79_3 := NB477_501.out
         refine skip_ (w1 := ?_) (by rfl) rfl ?_ ?_
         rotate_left
         ·go_simp
          rfl
         refine hK.out _ _ (m3r hHeld (fun e => cs gb477 NB477_489 (cs gb477 NB477_489 (cs gb477 NB477_489 e))) (m3 hHeld.2.2.2 (fun e => cs gb477 NB477_501 (cs gb477 NB477_501 (cs gb477 NB477_501 e))))) (fun hHeld => ?_)
         clear hK K
         refine one_ (i := 5) (N := none) (tA 6 63) rfl rfl (by kernel_rfl) (by decide) (fun K hK => ?_)
         have hs80 : w76.cell? ⟨gb478, 0, none⟩ = some (.int .i64 0) := (blk_cell BK478.out 0).trans rfl
         have hfs80 := blk_frozen BK478.out 0
         have hns80_0 := NB477_478.out
         have hns80_2 := NB478_489.out.symm
         have hns80_3 := NB478_501.out.symm
         have hms80_0 := NB477_478.out.symm
         have hms80_2 := NB478_489.out
         have hms80_3 := NB478_501.out
         have hs81 : w76.cell? ⟨gb478, 1, none⟩ = some (.int .i64 0) := (blk_cell BK478.out 1).trans rfl
         have hfs81 := blk_frozen BK478.out 1
         have hns81_0 := NB477_478.out
         have hns81_2 := NB478_489.out.symm
         have hns81_3 := NB478_501.out.symm
         have hms81_0 := NB477_478.out.symm
         have hms81_2 := NB478_489.out
         have hms81_3 := NB478_501.out
         have hs82 : w76.cell? ⟨gb478, 2, none⟩ = some (.int .i64 0) := (blk_cell BK478.out 2).trans rfl
         have hfs82 := blk_frozen BK478.out 2
         have hns82_0 := NB477_478.out
         have hns82_2 := NB478_489.out.symm
         have hns82_3 := NB478_501.out.symm
         have hms82_0 := NB477_478.out.symm
         have hms82_2 := NB478_489.out
         have hms82_3 := NB478_501.out
         refine skip_ (w1 := ?_) (by rfl) rfl ?_ ?_
         rotate_left
         ·go_simp
          rfl
         refine hK.out _ _ (m3r hHeld (fun e => cs gb478 NB478_489 (cs gb478 NB478_489 (cs gb478 NB478_489 e))) (m3 hHeld.2.2.2 (fun e => cs gb478 NB478_501 (cs gb478 NB478_501 (cs gb478 NB478_501 e))))) (fun hHeld => ?_)
         clear hK K
         refine done_ (by kernel_rfl) ?_
         try go_wp2
         refine bodyPost_ret (results_list (rs := [.tmp 2, .cell 3 27, .cell 4 27]) rfl (by simp) (.tmp (.cell gb477 27 #[.int .i64 t484, .int .i64 t485, .int .i64 t486] (0, 0) _ rfl (bp) Try.underlying27 rfl (by kernel_rfl) (.cell gb478 27 #[.int .i64 x502000_3, .int .i64 x502001_3, .int .i64 x502002_3] (0, 0) _ rfl (bp) Try.underlying27 rfl (by kernel_rfl) .nil)))) rfl ?_
         exact ⟨er, bl⟩
     ·replace c38 := Bool.eq_false_iff.mpr c38
      subst c38
      have H1 : (some (t483, t484, t485, t486, t496, t497, t498)) = some (r1, r2, r3, r4, r5, r6, r7) := by rw [if_neg (show ¬ (false = true) by decide)] at H; exact H
      clear H
      have H := H1
      clear H1
      simp only [Option.some.injEq, Prod.mk.injEq] at H
      obtain ⟨rfl, rfl, rfl, rfl, rfl, rfl, rfl⟩ := H
      try go_wp2
      replace BK477 := Aside0.mk (blk_drew BK477.out)
      replace BK478 := Aside0.mk (blk_drew BK478.out)
      replace BK489 := Aside0.mk (blk_drew BK489.out)
      replace BK501 := Aside0.mk (blk_drew BK501.out)
      replace HI482 := Aside0.mk (IsS127.drew HI482.out)
      replace HB := Aside0.mk (below_drew1 HB.out)
      refine start_ (n := 6) (S := fun w' => w'.cell? ⟨gb489, 0, none⟩ = some (.int .i64 t484) ∧ w'.cell? ⟨gb489, 1, none⟩ = some (.int .i64 t485) ∧ w'.cell? ⟨gb489, 2, none⟩ = some (.int .i64 t486) ∧ w'.cell? ⟨gb501, 0, none⟩ = some (.int .i64 t496) ∧ w'.cell? ⟨gb501, 1, none⟩ = some (.int .i64 t497) ∧ w'.cell? ⟨gb501, 2, none⟩ = some (.int .i64 t498)) (ds := []) (tA 6 0) (by kernel_rfl) rfl rfl ⟨(blk_cell BK489.out 0).trans rfl, (blk_cell BK489.out 1).trans rfl, (blk_cell BK489.out 2).trans rfl, (blk_cell BK501.out 0).trans rfl, (blk_cell BK501.out 1).trans rfl, (blk_cell BK501.out 2).trans rfl⟩ (fun hHeld => ?_)
      generalize wc.drew = w83 at BK477 BK478 BK489 BK501 HI482 HB hHeld ⊢
      refine pr 0 (some 52) (tA 6 1) ?_
      refine pr 3 (some 2) (tA 6 9) ?_
      refine tr6 1 (some 53) (tA 6 11) hHeld ?_
      refine tr6 2 (some 54) (tA 6 15) hHeld ?_
      refine one_ (i := 4) (N := none) (tA 6 31) rfl rfl (by kernel_rfl) (by decide) (fun K hK => ?_)
      have hs84 : w83.cell? ⟨gb477, 0, none⟩ = some (.int .i64 0) := (blk_cell BK477.out 0).trans rfl
      have hfs84 := blk_frozen BK477.out 0
      have hns84_1 := NB477_478.out.symm
      have hns84_2 := NB477_489.out.symm
      have hns84_3 := NB477_501.out.symm
      have hms84_1 := NB477_478.out
      have hms84_2 := NB477_489.out
      have hms84_3 := NB477_501.out
      have hs85 : w83.cell? ⟨gb477, 1, none⟩ = some (.int .i64 0) := (blk_cell BK477.out 1).trans rfl
      have hfs85 := blk_frozen BK477.out 1
      have hns85_1 := NB477_478.out.symm
      have hns85_2 := NB477_489.out.symm
      have hns85_3 := NB477_501.out.symm
      have hms85_1 := NB477_478.out
      have hms85_2 := NB477_489.out
      have hms85_3 := NB477_501.out
      have hs86 : w83.cell? ⟨gb477, 2, none⟩ = some (.int .i64 0) := (blk_cell BK477.out 2).trans rfl
      have hfs86 := blk_frozen BK477.out 2
      have hns86_1 := NB477_478.out.symm
      have hns86_2 := NB477_489.out.symm
      have hns86_3 := NB477_501.out.symm
      have hms86_1 := NB477_478.out
      have hms86_2 := NB477_489.out
      have hms86_3 := NB477_501.out
      refine skip_ (w1 := ?_) (by rfl) rfl ?_ ?_
      rotate_left
      ·go_simp
       rfl
      refine hK.out _ _ (m3r hHeld (fun e => cs gb477 NB477_489 (cs gb477 NB477_489 (cs gb477 NB477_489 e))) (m3 hHeld.2.2.2 (fun e => cs gb477 NB477_501 (cs gb477 NB477_501 (cs gb477 NB477_501 e))))) (fun hHeld => ?_)
      clear hK K
      refine one_ (i := 5) (N := none) (tA 6 63) rfl rfl (by kernel_rfl) (by decide) (fun K hK => ?_)
      have hs87 : w83.cell? ⟨gb478, 0, none⟩ = some (.int .i64 0) := (blk_cell BK478.out 0).trans rfl
      have hfs87 := blk_frozen BK478.out 0
      have hns87_0 := NB477_478.out
      have hns87_2 := NB478_489.out.symm
      have hns87_3 := NB478_501.out.symm
      have hms87_0 := NB477_478.out.symm
      have hms87_2 := NB478_489.out
      have hms87_3 := NB478_501.out
      have hs88 : w83.cell? ⟨gb478, 1, none⟩ = some (.int .i64 0) := (blk_cell BK478.out 1).trans rfl
      have hfs88 := blk_frozen BK478.out 1
      have hns88_0 := NB477_478.out
      have hns88_2 := NB478_489.out.symm
      have hns88_3 := NB478_501.out.symm
      have hms88_0 := NB477_478.out.symm
      have hms88_2 := NB478_489.out
      have hms88_3 := NB478_501.out
      have hs89 : w83.cell? ⟨gb478, 2, none⟩ = some (.int .i64 0) := (blk_cell BK478.out 2).trans rfl
      have hfs89 := blk_frozen BK478.out 2
      have hns89_0 := NB477_478.out
      have hns89_2 := NB478_489.out.symm
      have hns89_3 := NB478_501.out.symm
      have hms89_0 := NB477_478.out.symm
      have hms89_2 := NB478_489.out
      have hms89_3 := NB478_501.out
      refine skip_ (w1 := ?_) (by rfl) rfl ?_ ?_
      rotate_left
      ·go_simp
       rfl
      refine hK.out _ _ (m3r hHeld (fun e => cs gb478 NB478_489 (cs gb478 NB478_489 (cs gb478 NB478_489 e))) (m3 hHeld.2.2.2 (fun e => cs gb478 NB478_501 (cs gb478 NB478_501 (cs gb478 NB478_501 e))))) (fun hHeld => ?_)
      clear hK K
      refine done_ (by kernel_rfl) ?_
      try go_wp2
      refine bodyPost_ret (results_list (rs := [.tmp 2, .cell 3 27, .cell 4 27]) rfl (by simp) (.tmp (.cell gb477 27 #[.int .i64 t484, .int .i64 t485, .int .i64 t486] (0, 0) _ rfl (bp) Try.underlying27 rfl (by kernel_rfl) (.cell gb478 27 #[.int .i64 t496, .int .i64 t497, .int .i64 t498] (0, 0) _ rfl (bp) Try.underlying27 rfl (by kernel_rfl) .nil)))) rfl ?_
      exact ⟨er, by repeat (first | (with_reducible first | exact HB.out | apply below_alloc | apply pw_below_drewN | apply below_drew1 | refine below_set ?_ (IsS127.ge HI482.out) | refine below_set ?_ GW477.out | refine below_set ?_ GW478.out | refine below_set ?_ GE489.out | refine below_set ?_ GE501.out) | exact HB.out)⟩

/-! ### spec_DrawAreApart: function 71 -/
def spec_DrawAreApart.f (k : Nat) (l0 : List Int) : Option (Int × Int × Int × Int × Int × Int × Int) := (spec_l01Two.f k l0).bind fun bt516 => (some (bt516.1, bt516.2.1, bt516.2.2.1, bt516.2.2.2.1, bt516.2.2.2.2.1, bt516.2.2.2.2.2.1, bt516.2.2.2.2.2.2))
set_option maxHeartbeats 8000000 in
set_option maxRecDepth 100000 in
theorem spec_DrawAreApart.calls (k : Nat) (A0 : Option Addr) (c0 : Nat) (l0 : List Int) (r1 : Int) (r2 : Int) (r3 : Int) (r4 : Int) (r5 : Int) (r6 : Int) (r7 : Int) (w : World) (hr0 : Kd.C (Kd.int .u8) w A0 l0.length l0) (hc0 : l0.length ≤ c0) (h : spec_DrawAreApart.f k l0 = some (r1, r2, r3, r4, r5, r6, r7)) :
  Calls Try.prog 71 #[.slice A0 l0.length c0] w fun e w' => e = .returned (.tuple #[.int .i64 r1, .agg #[.int .i64 r2, .int .i64 r3, .int .i64 r4], .agg #[.int .i64 r5, .int .i64 r6, .int .i64 r7]]) ∧ Below w.heap.size w w' := by
 have hu27 := Try.underlying27
 have HR0 := Aside0.mk hr0
 have HC0 := Aside0.mk hc0
 clear hr0 hc0
 have HB := Aside0.mk (Below.refl w.heap.size w)
 unfold spec_DrawAreApart.f at h
 have H := h
 clear h
 replace H := zi H
 obtain ⟨⟨t516, t517, t518, t519, t520, t521, t522⟩, A2, H⟩ := H
 try dsimp only at H
 simp only [Option.some.injEq, Prod.mk.injEq] at H
 obtain ⟨rfl, rfl, rfl, rfl, rfl, rfl, rfl⟩ := H
 go_enter Try.func71, Try.ntmps71
 try go_wp2_with (first | ((with_reducible refine zg 3 rfl ?_); refine z3 3 27 0 0 0 ?_; intro gb514 hg w3 BK514 hb; have GW514 := sg hg; replace HB := bs hb; clear hb hg) | ((with_reducible refine zg 4 rfl ?_); refine z3 4 27 0 0 0 ?_; intro gb515 hg w4 BK515 hb; have GW515 := sg hg; have NB514_515 := nl hg BK514; replace BK514 := bb BK514 hb; replace HB := bs hb; clear hb hg) | ((with_reducible refine zf 92 rfl ?_); refine g1 (some 10) Try.func92 #[.slice A0 l0.length c0] ?_; (with_reducible refine (spec_l01Two.calls k _ _ l0 t516 t517 t518 t519 t520 t521 t522 _ ?side1 ?side2 A2.out).mono ?_); (case side1 => repeat (first | exact (Kd.C_below HR0.out HB.out) | (with_reducible refine Kd.C_alloc ?_ _) | (with_reducible refine Kd.C_drewN ?_ _) | (with_reducible refine Kd.C_drew ?_))); (case side2 => exact HC0.out); rintro e w5 ⟨rfl, hb⟩; refine ⟨_, rfl, ?_⟩; replace BK514 := bb BK514 hb; replace BK515 := bb BK515 hb; replace HB := bs hb; (try clear hb)) | ((with_reducible refine zg 6 rfl ?_); refine z3 6 27 0 0 0 ?_; intro gb523 hg w6 BK523 hb; have GW523 := sg hg; have NB514_523 := nl hg BK514; have NB515_523 := nl hg BK515; replace BK514 := bb BK514 hb; replace BK515 := bb BK515 hb; replace HB := bs hb; clear hb hg) | ((with_reducible refine zg 7 rfl ?_); refine z3 7 27 0 0 0 ?_; intro gb524 hg w7 BK524 hb; have GW524 := sg hg; have NB514_524 := nl hg BK514; have NB515_524 := nl hg BK515; have NB523_524 := nl hg BK523; replace BK514 := bb BK514 hb; replace BK515 := bb BK515 hb; replace BK523 := bb BK523 hb; replace HB := bs hb; clear hb hg; obtain ⟨hnb8, hnc8⟩ := zm NB514_523; obtain ⟨hnb9, hnc9⟩ := zm NB515_523; obtain ⟨hnb10, hnc10⟩ := zn NB523_524; obtain ⟨hcz11_0, hcz11_1, hcz11_2, hfz11_0, hfz11_1, hfz11_2⟩ := cq3 BK523; obtain ⟨hnb12, hnc12⟩ := zm NB514_524; obtain ⟨hnb13, hnc13⟩ := zm NB515_524; obtain ⟨hcz14_0, hcz14_1, hcz14_2, hfz14_0, hfz14_1, hfz14_2⟩ := cq3 BK524))
 have n0_ : Aside0 (((((((w7.setCell ⟨gb523, 0, none⟩ (.int .i64 t517)).setCell ⟨gb523, 1, none⟩ (.int .i64 t518)).setCell ⟨gb523, 2, none⟩ (.int .i64 t519)).setCell ⟨gb524, 0, none⟩ (.int .i64 t520)).setCell ⟨gb524, 1, none⟩ (.int .i64 t521)).setCell ⟨gb524, 2, none⟩ (.int .i64 t522)).heap[gb514]? = some (.cells #[.int .i64 0, .int .i64 0, .int .i64 0] 27 (0, 0))) := ⟨bp⟩
 have n1_ : Aside0 (((((((w7.setCell ⟨gb523, 0, none⟩ (.int .i64 t517)).setCell ⟨gb523, 1, none⟩ (.int .i64 t518)).setCell ⟨gb523, 2, none⟩ (.int .i64 t519)).setCell ⟨gb524, 0, none⟩ (.int .i64 t520)).setCell ⟨gb524, 1, none⟩ (.int .i64 t521)).setCell ⟨gb524, 2, none⟩ (.int .i64 t522)).heap[gb515]? = some (.cells #[.int .i64 0, .int .i64 0, .int .i64 0] 27 (0, 0))) := ⟨bp⟩
 have n2_ : Aside0 (((((((w7.setCell ⟨gb523, 0, none⟩ (.int .i64 t517)).setCell ⟨gb523, 1, none⟩ (.int .i64 t518)).setCell ⟨gb523, 2, none⟩ (.int .i64 t519)).setCell ⟨gb524, 0, none⟩ (.int .i64 t520)).setCell ⟨gb524, 1, none⟩ (.int .i64 t521)).setCell ⟨gb524, 2, none⟩ (.int .i64 t522)).heap[gb523]? = some (.cells #[.int .i64 t517, .int .i64 t518, .int .i64 t519] 27 (0, 0))) := ⟨bp⟩
 have n3_ : Aside0 (((((((w7.setCell ⟨gb523, 0, none⟩ (.int .i64 t517)).setCell ⟨gb523, 1, none⟩ (.int .i64 t518)).setCell ⟨gb523, 2, none⟩ (.int .i64 t519)).setCell ⟨gb524, 0, none⟩ (.int .i64 t520)).setCell ⟨gb524, 1, none⟩ (.int .i64 t521)).setCell ⟨gb524, 2, none⟩ (.int .i64 t522)).heap[gb524]? = some (.cells #[.int .i64 t520, .int .i64 t521, .int .i64 t522] 27 (0, 0))) := ⟨bp⟩
 have n4_ : Aside0 (Below w.heap.size w ((((((w7.setCell ⟨gb523, 0, none⟩ (.int .i64 t517)).setCell ⟨gb523, 1, none⟩ (.int .i64 t518)).setCell ⟨gb523, 2, none⟩ (.int .i64 t519)).setCell ⟨gb524, 0, none⟩ (.int .i64 t520)).setCell ⟨gb524, 1, none⟩ (.int .i64 t521)).setCell ⟨gb524, 2, none⟩ (.int .i64 t522))) := ⟨bl⟩
 (try clear BK514)
 (try clear BK515)
 (try clear BK523)
 (try clear BK524)
 (try clear HB)
 generalize ((((((w7.setCell ⟨gb523, 0, none⟩ (.int .i64 t517)).setCell ⟨gb523, 1, none⟩ (.int .i64 t518)).setCell ⟨gb523, 2, none⟩ (.int .i64 t519)).setCell ⟨gb524, 0, none⟩ (.int .i64 t520)).setCell ⟨gb524, 1, none⟩ (.int .i64 t521)).setCell ⟨gb524, 2, none⟩ (.int .i64 t522)) = w15 at n0_ n1_ n2_ n3_ n4_ ⊢
 have BK514 := n0_
 have BK515 := n1_
 have BK523 := n2_
 have BK524 := n3_
 have HB := n4_
 clear n0_ n1_ n2_ n3_ n4_
 replace BK514 := Aside0.mk (blk_drew BK514.out)
 replace BK515 := Aside0.mk (blk_drew BK515.out)
 replace BK523 := Aside0.mk (blk_drew BK523.out)
 replace BK524 := Aside0.mk (blk_drew BK524.out)
 replace HB := Aside0.mk (below_drew1 HB.out)
 refine start_ (n := 6) (S := fun w' => w'.cell? ⟨gb523, 0, none⟩ = some (.int .i64 t517) ∧ w'.cell? ⟨gb523, 1, none⟩ = some (.int .i64 t518) ∧ w'.cell? ⟨gb523, 2, none⟩ = some (.int .i64 t519) ∧ w'.cell? ⟨gb524, 0, none⟩ = some (.int .i64 t520) ∧ w'.cell? ⟨gb524, 1, none⟩ = some (.int .i64 t521) ∧ w'.cell? ⟨gb524, 2, none⟩ = some (.int .i64 t522)) (ds := []) (tA 6 0) (by kernel_rfl) rfl rfl ⟨(blk_cell BK523.out 0).trans rfl, (blk_cell BK523.out 1).trans rfl, (blk_cell BK523.out 2).trans rfl, (blk_cell BK524.out 0).trans rfl, (blk_cell BK524.out 1).trans rfl, (blk_cell BK524.out 2).trans rfl⟩ (fun hHeld => ?_)
 generalize w15.drew = w16 at BK514 BK515 BK523 BK524 HB hHeld ⊢
 refine pr 0 (some 14) (tA 6 1) ?_
 refine pr 3 (some 2) (tA 6 9) ?_
 refine tr6 1 (some 15) (tA 6 11) hHeld ?_
 refine tr6 2 (some 16) (tA 6 15) hHeld ?_
 refine one_ (i := 4) (N := none) (tA 6 31) rfl rfl (by kernel_rfl) (by decide) (fun K hK => ?_)
 have hs17 : w16.cell? ⟨gb514, 0, none⟩ = some (.int .i64 0) := (blk_cell BK514.out 0).trans rfl
 have hfs17 := blk_frozen BK514.out 0
 have hns17_1 := NB514_515.out.symm
 have hns17_2 := NB514_523.out.symm
 have hns17_3 := NB514_524.out.symm
 have hms17_1 := NB514_515.out
 have hms17_2 := NB514_523.out
 have hms17_3 := NB514_524.out
 have hs18 : w16.cell? ⟨gb514, 1, none⟩ = some (.int .i64 0) := (blk_cell BK514.out 1).trans rfl
 have hfs18 := blk_frozen BK514.out 1
 have hns18_1 := NB514_515.out.symm
 have hns18_2 := NB514_523.out.symm
 have hns18_3 := NB514_524.out.symm
 have hms18_1 := NB514_515.out
 have hms18_2 := NB514_523.out
 have hms18_3 := NB514_524.out
 have hs19 : w16.cell? ⟨gb514, 2, none⟩ = some (.int .i64 0) := (blk_cell BK514.out 2).trans rfl
 have hfs19 := blk_frozen BK514.out 2
 have hns19_1 := NB514_515.out.symm
 have hns19_2 := NB514_523.out.symm
 have hns19_3 := NB514_524.out.symm
 have hms19_1 := NB514_515.out
 have hms19_2 := NB514_523.out
 have hms19_3 := NB514_524.out
 refine skip_ (w1 := ?_) (by rfl) rfl ?_ ?_
 rotate_left
 ·go_simp
  rfl
 refine hK.out _ _ (m3r hHeld (fun e => cs gb514 NB514_523 (cs gb514 NB514_523 (cs gb514 NB514_523 e))) (m3 hHeld.2.2.2 (fun e => cs gb514 NB514_524 (cs gb514 NB514_524 (cs gb514 NB514_524 e))))) (fun hHeld => ?_)
 clear hK K
 refine one_ (i := 5) (N := none) (tA 6 63) rfl rfl (by kernel_rfl) (by decide) (fun K hK => ?_)
 have hs20 : w16.cell? ⟨gb515, 0, none⟩ = some (.int .i64 0) := (blk_cell BK515.out 0).trans rfl
 have hfs20 := blk_frozen BK515.out 0
 have hns20_0 := NB514_515.out
 have hns20_2 := NB515_523.out.symm
 have hns20_3 := NB515_524.out.symm
 have hms20_0 := NB514_515.out.symm
 have hms20_2 := NB515_523.out
 have hms20_3 := NB515_524.out
 have hs21 : w16.cell? ⟨gb515, 1, none⟩ = some (.int .i64 0) := (blk_cell BK515.out 1).trans rfl
 have hfs21 := blk_frozen BK515.out 1
 have hns21_0 := NB514_515.out
 have hns21_2 := NB515_523.out.symm
 have hns21_3 := NB515_524.out.symm
 have hms21_0 := NB514_515.out.symm
 have hms21_2 := NB515_523.out
 have hms21_3 := NB515_524.out
 have hs22 : w16.cell? ⟨gb515, 2, none⟩ = some (.int .i64 0) := (blk_cell BK515.out 2).trans rfl
 have hfs22 := blk_frozen BK515.out 2
 have hns22_0 := NB514_515.out
 have hns22_2 := NB515_523.out.symm
 have hns22_3 := NB515_524.out.symm
 have hms22_0 := NB514_515.out.symm
 have hms22_2 := NB515_523.out
 have hms22_3 := NB515_524.out
 refine skip_ (w1 := ?_) (by rfl) rfl ?_ ?_
 rotate_left
 ·go_simp
  rfl
 refine hK.out _ _ (m3r hHeld (fun e => cs gb515 NB515_523 (cs gb515 NB515_523 (cs gb515 NB515_523 e))) (m3 hHeld.2.2.2 (fun e => cs gb515 NB515_524 (cs gb515 NB515_524 (cs gb515 NB515_524 e))))) (fun hHeld => ?_)
 clear hK K
 refine done_ (by kernel_rfl) ?_
 try go_wp2
 refine bodyPost_ret (results_list (rs := [.tmp 2, .cell 3 27, .cell 4 27]) rfl (by simp) (.tmp (.cell gb514 27 #[.int .i64 t517, .int .i64 t518, .int .i64 t519] (0, 0) _ rfl (bp) Try.underlying27 rfl (by kernel_rfl) (.cell gb515 27 #[.int .i64 t520, .int .i64 t521, .int .i64 t522] (0, 0) _ rfl (bp) Try.underlying27 rfl (by kernel_rfl) .nil)))) rfl ?_
 exact ⟨er, bl⟩

end Go.Proofs.Ytpmepopagapeiaa.PFnBalls

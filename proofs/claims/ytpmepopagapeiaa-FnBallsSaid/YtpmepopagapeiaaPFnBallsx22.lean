-- Printed by the kit's print and repaired by a program of this session.
import Derived.Test.YtpmepopagapeiaaPFnBallsx0
import Derived.Test.YtpmepopagapeiaaPFnBallsx1
import Derived.Test.YtpmepopagapeiaaPFnBallsx2
import Derived.Test.YtpmepopagapeiaaPFnBallsx3
import Derived.Test.YtpmepopagapeiaaPFnBallsx4
import Derived.Test.YtpmepopagapeiaaPFnBallsx5
import Derived.Test.YtpmepopagapeiaaPFnBallsx7
import Derived.Test.YtpmepopagapeiaaPFnBallsx8
import Derived.Test.YtpmepopagapeiaaPFnBallsx9
import Derived.Test.YtpmepopagapeiaaPFnBallsx11
import Derived.Test.YtpmepopagapeiaaPFnBallsx13
import Derived.Test.YtpmepopagapeiaaPFnBallsx14
import Derived.Test.YtpmepopagapeiaaPFnBallsx15
import Derived.Test.YtpmepopagapeiaaPFnBallsx16
import Derived.Test.YtpmepopagapeiaaPFnBallsx18
import Derived.Test.YtpmepopagapeiaaPFnBallsx19
import Derived.Deep.Light
import Derived.Test.YtpmepopagapeiaaPFnBallsx20
import Derived.Test.YtpmepopagapeiaaPFnBallsx21
namespace Go.Proofs.Ytpmepopagapeiaa.PFnBalls
open Go.RowKit Go.Proofs.YtpmepopagapeiaaW.PrintWords Go.Proofs.YtpmepopagapeiaaW.PrintLast Go.Proofs.YtpmepopagapeiaaW.PrintMore
attribute [local go_sem] max2_int min2_int max_two min_two max_three min_three max_four min_four
set_option linter.unusedVariables false
set_option linter.unusedSimpArgs false

attribute [local go_sem high] eqA27 eqA63
set_option maxHeartbeats 60000000 in
set_option maxRecDepth 100000 in
theorem laws_FnBalls.part2 {A0 : Option Addr} {c0 : Nat} {l0 : List Int} {r : Bool} {w : World} {t628} {t629} {t630} {t631} {t632} {t633} {t634} {t635} {t637} {t638} {t639} {t640} {t645} {t646} {t647} {t648} {t650} {t651} {t652} {t654} {t655} {t656} {gb636 : Nat} {gb641 : Nat} {gb649 : Nat} {gb653 : Nat} {gb657 : Nat} {kj25 : Nat} {kq : Nat} {x160_40 : Bool} {wc : World}
    {pw px py pz qa qb qc qd qe qf qg qh qi qj qk ql qm qn qo qp qq qr qs qt qu qv qw qx qy qz ra rb rc re rf rg rh ri rj rk rl rm rn ro rp rq rr rt ru rv rx ry rz sa sb sc sd se sf sh si sj sk sl sm sn so sp sq sr ss st su sv sx sy ta tb tc td te tf tg th ti tj tk tl tm tn Zq tp tq tr tt tu tv tw tx tz ua ub uc ud ue uf ug uh ui uj uk ul um un uo uq ur us ut uu uv uw ux uy uz vk vl vm vn vo vp vq vr vt vu vv vw vx vy vz xa xb xc xd xe xf xg xh xi xj xk xl xm xn xo xp xq xr xt xu xv xw xx xy xz ya yb yc yd ye yf yg yh yi yj yk yl ym yn yo yp yq yr yt yu yv yw yx yy yz zc zh zj zk zl zo zp zu zv zw Aa Ab Ac Ad Ae Af Ag Ah Ai Aj Ak Al Am An Ao Ap Aq Ar As At Au Av Aw Ax Ay Az Ba Bb Bc Bd Be Bf Bg Bh Bi Bj Bk Bl Bm Bn Bo Bp Bq Br Bs Bt Bu Bv Bw Bx By Bz Ca Cb Cc Cd Ce Cf Cg Ch Ci Cj Ck Cl Cm Cn Co Cp Cq Cr Cs Ct Cu Cv Cw Cx Cy Cz Da Db Dc Dd De Df Dg Dh Di Dj Dk Dl Dm Dn Do Dp Dq Dr Ds Dt : Value}
    (HA : Aside0 (laws_FnBalls.j3 kq l0 t645 t652 x160_40 t646 t647 t648 t650 t651 = some r)) (HJ40 : Aside0 (kq ≤ kj25)) (BK636 : Aside0 (wc.heap[gb636]? = some (.cells #[.int .i64 t632, .int .i64 t633, .int .i64 t634] 27 (0, 0)))) (BK641 : Aside0 (wc.heap[gb641]? = some (.cells #[.int .i64 t637, .int .i64 t638, .int .i64 t639] 27 (0, 0)))) (BK649 : Aside0 (wc.heap[gb649]? = some (.cells #[.int .i64 t646, .int .i64 t647, .int .i64 t648] 27 (0, 0)))) (BK653 : Aside0 (wc.heap[gb653]? = some (.cells #[.int .i64 t650, .int .i64 t651] 63 (0, 0)))) (BK657 : Aside0 (wc.heap[gb657]? = some (.cells #[.int .i64 t654, .int .i64 t655] 63 (0, 0)))) (HB : Aside0 (Below w.heap.size w wc)) (GW636 : Aside0 (w.heap.size ≤ gb636)) (GW641 : Aside0 (w.heap.size ≤ gb641)) (GW649 : Aside0 (w.heap.size ≤ gb649)) (GW653 : Aside0 (w.heap.size ≤ gb653)) (GW657 : Aside0 (w.heap.size ≤ gb657)) (NB636_641 : Aside0 (gb636 ≠ gb641)) (NB636_649 : Aside0 (gb636 ≠ gb649)) (NB636_653 : Aside0 (gb636 ≠ gb653)) (NB636_657 : Aside0 (gb636 ≠ gb657)) (NB641_649 : Aside0 (gb641 ≠ gb649)) (NB641_653 : Aside0 (gb641 ≠ gb653)) (NB641_657 : Aside0 (gb641 ≠ gb657)) (NB649_653 : Aside0 (gb649 ≠ gb653)) (NB649_657 : Aside0 (gb649 ≠ gb657)) (NB653_657 : Aside0 (gb653 ≠ gb657)) (HR0 : Aside0 (Kd.C (Kd.int .u8) w A0 l0.length l0)) (HC0 : Aside0 (l0.length ≤ c0)) (hr : Aside0 (r = true)) :
    ∀ K_ : Act → World → Prop, (∀ a_ w_, Code.wp Try.prog ((sufO 11 Try.f10.body).getD .ret) (bodyPost Try.prog Try.f10 fun e w' => e = .returned (.bool r) ∧ Below w.heap.size w w') a_ w_ → K_ a_ w_) → Code.wp Try.prog ((sufM 1 (sufO 10 Try.f10.body)).getD .ret) (Exit.then K_ (bodyPost Try.prog Try.f10 fun e w' => e = .returned (.bool r) ∧ Below w.heap.size w w')) { tmps := #[Value.slice A0 l0.length c0, undef, pw, Value.int IntKind.i64 t628, Value.int IntKind.i64 t629, Value.int IntKind.i64 t630, Value.int IntKind.i64 t631, Value.pointer (some { block := gb636, off := 0 }), Value.int IntKind.i64 t635, Value.pointer (some { block := gb641, off := 0 }), Value.int IntKind.i64 t640, px, py, Value.int IntKind.i64 t645, Value.pointer (some { block := gb649, off := 0 }), Value.pointer (some { block := gb653, off := 0 }), Value.int IntKind.i64 t652, Value.pointer (some { block := gb657, off := 0 }), Value.int IntKind.i64 t656, undef, undef, undef, undef, undef, undef, undef, undef, undef, undef, undef, undef, undef, undef, undef, undef, undef, undef, undef, undef, undef, undef, undef, undef, undef, undef, undef, undef, undef, undef, undef, undef, undef, undef, undef, undef, undef, pz, qa, qb, qc, qd, qe, qf, qg, qh, qi, qj, qk, ql, qm, qn, qo, qp, qq, qr, qs, qt, qu, qv, qw, qx, qy, qz, ra, rb, rc, re, rf, rg, rh, ri, rj, rk, rl, rm, rn, ro, rp, rq, rr, rt, ru, rv, rx, ry, rz, sa, sb, sc, sd, se, sf, sh, si, sj, sk, sl, sm, sn, so, sp, sq, sr, ss, st, su, sv, sx, sy, ta, tb, tc, td, te, tf, tg, th, ti, tj, tk, tl, tm, tn, Zq, tp, tq, tr, tt, tu, tv, tw, tx, tz, ua, ub, uc, ud, ue, uf, ug, Value.bool x160_40, uh, ui, uj, uk, ul, um, un, uo, uq, ur, us, ut, uu, uv, uw, ux, uy, uz, vk, vl, vm, vn, vo, vp, vq, vr, vt, vu, vv, vw, vx, vy, vz, xa, xb, xc, xd, xe, xf, xg, xh, xi, xj, xk, xl, xm, xn, xo, xp, xq, xr, xt, xu, xv, xw, xx, xy, xz, ya, yb, yc, yd, ye, yf, yg, yh, yi, yj, yk, yl, ym, yn, yo, yp, yq, yr, yt, yu, yv, yw, yx, yy, yz, zc, zh, zj, zk, zl, zo, zp, zu, zv, zw, Aa, Ab, Ac, Ad, Ae, Af, Ag, Ah, Ai, Aj, Ak, Al, Am, An, Ao, Ap, Aq, Ar, As, At, Au, Av, Aw, Ax, Ay, Az, Ba, Bb, Bc, Bd, Be, Bf, Bg, Bh, Bi, Bj, Bk, Bl, Bm, Bn, Bo, Bp, Bq, Br, Bs, Bt, Bu, Bv, Bw, Bx, By, Bz, Ca, Cb, Cc, Cd, Ce, Cf, Cg, Ch, Ci, Cj, Ck, Cl, Cm, Cn, Co, Cp, Cq, Cr, Cs, Ct, Cu, Cv, Cw, Cx, Cy, Cz, Da, Db, Dc, Dd, De, Df, Dg, Dh, Di, Dj, Dk, Dl, Dm, Dn, Do, Dp, Dq, Dr, Ds, Dt], defers := [] } wc := by
 intro K_ hK_
 replace hK_ := fun a_ w_ h_ => hK_ a_ w_ (sufWp rfl h_)
 refine sufWp rfl ?_
 cases kq with
 | zero => exact absurd HA.out (by simp [laws_FnBalls.j3])
 | succ kj40 =>
  have H := HA.out
  clear HA
  rw [laws_FnBalls.j3] at H
  by_cases c73 : x160_40 = true
  ·subst c73
   rw [if_pos rfl] at H
   exact absurd ((Option.some.inj H).trans hr.out) (by simp)
  ·replace c73 := Bool.eq_false_iff.mpr c73
   subst c73
   have H1 : (if t652 = 0 then ((impl_BallOfEnd.f kj40 t645 t650 t651 t646).bind fun bt660 => (if bt660.2.2.2 = 0 then (if (!(bt660.1 == t646) || (!(bt660.2.1 == t647) || (!(bt660.2.2.1 == t648)))) = true then (some false) else (laws_FnBalls.j4 kj40 l0)) else (some false))) else (laws_FnBalls.j4 kj40 l0)) = some r := by rw [if_neg (show ¬ (false = true) by decide)] at H; exact H
   clear H
   have H := H1
   clear H1
   have HC74 := Aside0.mk H
   clear H
   go_upto_if 162 with (fail)
   go_cut [] (fun wc => ∃ (kq : Nat), Aside0 (laws_FnBalls.j4 kq l0 = some r) ∧ Aside0 (kq ≤ kj40) ∧ Aside0 (wc.heap[gb636]? = some (.cells #[.int .i64 t632, .int .i64 t633, .int .i64 t634] 27 (0, 0))) ∧ Aside0 (wc.heap[gb641]? = some (.cells #[.int .i64 t637, .int .i64 t638, .int .i64 t639] 27 (0, 0))) ∧ Aside0 (wc.heap[gb649]? = some (.cells #[.int .i64 t646, .int .i64 t647, .int .i64 t648] 27 (0, 0))) ∧ Aside0 (wc.heap[gb653]? = some (.cells #[.int .i64 t650, .int .i64 t651] 63 (0, 0))) ∧ Aside0 (wc.heap[gb657]? = some (.cells #[.int .i64 t654, .int .i64 t655] 63 (0, 0))) ∧ Aside0 (Below w.heap.size w wc))
   case first =>
    as_aux_lemma =>
    have H := HC74.out
    clear HC74
    replace H := ii H
    rcases H with ⟨c75, H⟩ | ⟨c75, H⟩
    ·obtain ⟨c75b0, c75b1⟩ := zz c75
     clear c75
     (first | rw [c75b0] | (simp only [i64_w, i32_w]; rw [c75b0]) | skip)
     replace H := zi H
     obtain ⟨⟨t660, t661, t662, t663⟩, A76, H⟩ := H
     try dsimp only at H
     replace H := ii H
     rcases H with ⟨c77, H⟩ | ⟨c77, H⟩
     ·obtain ⟨c77b0, c77b1⟩ := zz c77
      clear c77
      replace H := ii H
      rcases H with ⟨c78, H⟩ | ⟨c78, H⟩
      ·have c78b0 : (!(t660 == t646) || (!(t661 == t647) || (!(t662 == t648)))) = true := c78
       clear c78
       exact absurd ((Option.some.inj H).trans hr.out) (by simp)
      ·have c78b0 : (!(t660 == t646) || (!(t661 == t647) || (!(t662 == t648)))) = false := by simpa using c78
       clear c78
       have H' := Aside0.mk H
       clear H
       obtain ⟨hnb81, hnc81⟩ := zm NB649_653
       obtain ⟨hcz83_0, hcz83_1, hfz83_0, hfz83_1⟩ := z2 BK653
       obtain ⟨hcz87_0, hcz87_1, hcz87_2, hfz87_0, hfz87_1, hfz87_2⟩ := cq3 BK649
       go_wp2_with (first | ((with_reducible refine zf 70 rfl ?_); refine g1 (some 168) Try.func70 #[.int .i64 t645, .agg #[.int .i64 t650, .int .i64 t651], .int .i64 t646] ?_; (with_reducible refine (impl_BallOfEnd.calls kj40 t645 t650 t651 t646 t660 t661 t662 t663 _ A76.out).mono ?_); rintro e w88 ⟨rfl, hb⟩; refine ⟨_, rfl, ?_⟩; replace BK636 := bb BK636 hb; replace BK641 := bb BK641 hb; replace BK649 := bb BK649 hb; replace BK653 := bb BK653 hb; replace BK657 := bb BK657 hb; replace HB := bs hb; (try clear hb)) | ((with_reducible refine zg 19 rfl ?_); refine z3 19 27 0 0 0 ?_; intro gb664 hg w89 BK664 hb; have GW664 := sg hg; have NB636_664 := nl hg BK636; have NB641_664 := nl hg BK641; have NB649_664 := nl hg BK649; have NB653_664 := nl hg BK653; have NB657_664 := nl hg BK657; replace BK636 := bb BK636 hb; replace BK641 := bb BK641 hb; replace BK649 := bb BK649 hb; replace BK653 := bb BK653 hb; replace BK657 := bb BK657 hb; replace HB := bs hb; clear hb hg; obtain ⟨hnb92, hnc92⟩ := zm NB649_664; obtain ⟨hcz95_0, hcz95_1, hcz95_2, hfz95_0, hfz95_1, hfz95_2⟩ := cq3 BK664; obtain ⟨hcz96_0, hcz96_1, hcz96_2, hfz96_0, hfz96_1, hfz96_2⟩ := cq3 BK649))
       go_meet
       case rel => go_light; exact ⟨_, H', ⟨by have := HJ40.out; first | omega | exact Nat.le_refl _⟩, ⟨bp⟩, ⟨bp⟩, ⟨bp⟩, ⟨bp⟩, ⟨bp⟩, ⟨bl⟩⟩
     ·obtain ⟨c77b0, c77b1⟩ := zy c77
      exact absurd ((Option.some.inj H).trans hr.out) (by simp)
    ·obtain ⟨c75b0, c75b1⟩ := zy c75
     (first | rw [c75b0] | (simp only [i64_w, i32_w]; rw [c75b0]) | skip)
     have H' := Aside0.mk H
     clear H
     go_wp2
     go_meet
     case rel => go_light; exact ⟨_, H', ⟨by have := HJ40.out; first | omega | exact Nat.le_refl _⟩, ⟨be BK636⟩, ⟨be BK641⟩, ⟨be BK649⟩, ⟨be BK653⟩, ⟨be BK657⟩, ⟨bl⟩⟩
   case rest =>
    clear HC74
    obtain ⟨kq, HA, HJ73, BK636, BK641, BK649, BK653, BK657, HB⟩ := hcut
    cases kq with
    | zero => exact absurd HA.out (by simp [laws_FnBalls.j4])
    | succ kj73 =>
     have H := HA.out
     clear HA
     rw [laws_FnBalls.j4] at H
     replace H := zi H
     obtain ⟨⟨t665, t666, t667, t668, t669, t670, t671⟩, A97, H⟩ := H
     try dsimp only at H
     replace H := zi H
     obtain ⟨⟨t674, t675⟩, A98, H⟩ := H
     try dsimp only at H
     replace H := zi H
     obtain ⟨⟨t676, t677⟩, A99, H⟩ := H
     try dsimp only at H
     have HC100 := Aside0.mk H
     clear H
     go_upto_region 24 with (first | ((with_reducible refine zf 71 rfl ?_); refine g1 (some 180) Try.func71 #[.slice A0 l0.length c0] ?_; (with_reducible refine (spec_DrawAreApart.calls kj73 _ _ l0 t665 t666 t667 t668 t669 t670 t671 _ ?side1 ?side2 A97.out).mono ?_); (case side1 => repeat (first | exact (Kd.C_below HR0.out HB.out) | (with_reducible refine Kd.C_alloc ?_ _) | (with_reducible refine Kd.C_drewN ?_ _) | (with_reducible refine Kd.C_drew ?_))); (case side2 => exact HC0.out); rintro e w101 ⟨rfl, hb⟩; refine ⟨_, rfl, ?_⟩; replace BK636 := bb BK636 hb; replace BK641 := bb BK641 hb; replace BK649 := bb BK649 hb; replace BK653 := bb BK653 hb; replace BK657 := bb BK657 hb; replace HB := bs hb; (try clear hb)) | ((with_reducible refine zg 22 rfl ?_); refine z3 22 27 0 0 0 ?_; intro gb672 hg w102 BK672 hb; have GW672 := sg hg; have NB636_672 := nl hg BK636; have NB641_672 := nl hg BK641; have NB649_672 := nl hg BK649; have NB653_672 := nl hg BK653; have NB657_672 := nl hg BK657; replace BK636 := bb BK636 hb; replace BK641 := bb BK641 hb; replace BK649 := bb BK649 hb; replace BK653 := bb BK653 hb; replace BK657 := bb BK657 hb; replace HB := bs hb; clear hb hg) | ((with_reducible refine zg 23 rfl ?_); refine z3 23 27 0 0 0 ?_; intro gb673 hg w103 BK673 hb; have GW673 := sg hg; have NB636_673 := nl hg BK636; have NB641_673 := nl hg BK641; have NB649_673 := nl hg BK649; have NB653_673 := nl hg BK653; have NB657_673 := nl hg BK657; have NB672_673 := nl hg BK672; replace BK636 := bb BK636 hb; replace BK641 := bb BK641 hb; replace BK649 := bb BK649 hb; replace BK653 := bb BK653 hb; replace BK657 := bb BK657 hb; replace BK672 := bb BK672 hb; replace HB := bs hb; clear hb hg; obtain ⟨hnb109, hnc109⟩ := zn NB672_673; obtain ⟨hcz110_0, hcz110_1, hcz110_2, hfz110_0, hfz110_1, hfz110_2⟩ := cq3 BK672; obtain ⟨hcz116_0, hcz116_1, hcz116_2, hfz116_0, hfz116_1, hfz116_2⟩ := cq3 BK673) | ((with_reducible refine zf 72 rfl ?_); refine g1 (some 188) Try.func72 #[.int .i64 t665, .agg #[.int .i64 t666, .int .i64 t667, .int .i64 t668], .agg #[.int .i64 t669, .int .i64 t670, .int .i64 t671]] ?_; (with_reducible refine (impl_AreApart.calls kj73 t665 t666 t667 t668 t669 t670 t671 t674 t675 _ A98.out).mono ?_); rintro e w117 ⟨rfl, hb⟩; refine ⟨_, rfl, ?_⟩; replace BK636 := Aside0.mk (blk_below (g := gb636) (o := .cells #[.int .i64 t632, .int .i64 t633, .int .i64 t634] 27 (0, 0)) (bp) hb); replace BK641 := Aside0.mk (blk_below (g := gb641) (o := .cells #[.int .i64 t637, .int .i64 t638, .int .i64 t639] 27 (0, 0)) (bp) hb); replace BK649 := Aside0.mk (blk_below (g := gb649) (o := .cells #[.int .i64 t646, .int .i64 t647, .int .i64 t648] 27 (0, 0)) (bp) hb); replace BK653 := Aside0.mk (blk_below (g := gb653) (o := .cells #[.int .i64 t650, .int .i64 t651] 63 (0, 0)) (bp) hb); replace BK657 := Aside0.mk (blk_below (g := gb657) (o := .cells #[.int .i64 t654, .int .i64 t655] 63 (0, 0)) (bp) hb); replace BK672 := Aside0.mk (blk_below (g := gb672) (o := .cells #[.int .i64 t666, .int .i64 t667, .int .i64 t668] 27 (0, 0)) (bp) hb); replace BK673 := Aside0.mk (blk_below (g := gb673) (o := .cells #[.int .i64 t669, .int .i64 t670, .int .i64 t671] 27 (0, 0)) (bp) hb); replace HB := bs hb; (try clear hb); obtain ⟨hcz118_0, hcz118_1, hcz118_2, hfz118_0, hfz118_1, hfz118_2⟩ := cq3 BK672; obtain ⟨hcz119_0, hcz119_1, hcz119_2, hfz119_0, hfz119_1, hfz119_2⟩ := cq3 BK673) | ((with_reducible refine zf 73 rfl ?_); refine g1 (some 195) Try.func73 #[.int .i64 t665, .agg #[.int .i64 t666, .int .i64 t667, .int .i64 t668], .agg #[.int .i64 t669, .int .i64 t670, .int .i64 t671]] ?_; (with_reducible refine (spec_AreApart.calls kj73 t665 t666 t667 t668 t669 t670 t671 t676 t677 _ A99.out).mono ?_); rintro e w120 ⟨rfl, hb⟩; refine ⟨_, rfl, ?_⟩; replace BK636 := bb BK636 hb; replace BK641 := bb BK641 hb; replace BK649 := bb BK649 hb; replace BK653 := bb BK653 hb; replace BK657 := bb BK657 hb; replace BK672 := bb BK672 hb; replace BK673 := bb BK673 hb; replace HB := bs hb; (try clear hb)))
     (try simp only [Act.put, zq, zr, zt])
     go_cut [205] (fun v205 wc => ∃ (kq : Nat) (x205_99 : Bool), v205 = .bool x205_99 ∧ Aside0 (laws_FnBalls.j5 kq l0 t665 t674 t675 x205_99 t666 t667 t668 t669 t670 t671 = some r) ∧ Aside0 (kq ≤ kj73) ∧ Aside0 (wc.heap[gb636]? = some (.cells #[.int .i64 t632, .int .i64 t633, .int .i64 t634] 27 (0, 0))) ∧ Aside0 (wc.heap[gb641]? = some (.cells #[.int .i64 t637, .int .i64 t638, .int .i64 t639] 27 (0, 0))) ∧ Aside0 (wc.heap[gb649]? = some (.cells #[.int .i64 t646, .int .i64 t647, .int .i64 t648] 27 (0, 0))) ∧ Aside0 (wc.heap[gb653]? = some (.cells #[.int .i64 t650, .int .i64 t651] 63 (0, 0))) ∧ Aside0 (wc.heap[gb657]? = some (.cells #[.int .i64 t654, .int .i64 t655] 63 (0, 0))) ∧ Aside0 (wc.heap[gb672]? = some (.cells #[.int .i64 t666, .int .i64 t667, .int .i64 t668] 27 (0, 0))) ∧ Aside0 (wc.heap[gb673]? = some (.cells #[.int .i64 t669, .int .i64 t670, .int .i64 t671] 27 (0, 0))) ∧ Aside0 (Below w.heap.size w wc))
     case first =>
      as_aux_lemma =>
      have H := HC100.out
      clear HC100
      replace H := ii H
      rcases H with ⟨c121, H⟩ | ⟨c121, H⟩
      ·obtain ⟨c121b0, c121b1⟩ := zz c121
       clear c121
       (first | rw [c121b0] | (simp only [i64_w, i32_w]; rw [c121b0]) | skip)
       have H' := Aside0.mk H
       clear H
       go_wp2
       go_meet
       case rel => go_light; exact ⟨_, ((t674 != t676)), (by first | rfl | (simp; done) | (simp [*]; done)), H', ⟨by have := HJ40.out; have := HJ73.out; first | omega | exact Nat.le_refl _⟩, ⟨be BK636⟩, ⟨be BK641⟩, ⟨be BK649⟩, ⟨be BK653⟩, ⟨be BK657⟩, ⟨be BK672⟩, ⟨be BK673⟩, ⟨bl⟩⟩
      ·obtain ⟨c121b0, c121b1⟩ := zy c121
       (first | rw [c121b0] | (simp only [i64_w, i32_w]; rw [c121b0]) | skip)
       have H' := Aside0.mk H
       clear H
       go_wp2
       go_meet
       case rel => go_light; exact ⟨_, (true), (by first | rfl | (simp; done) | (simp [*]; done)), H', ⟨by have := HJ40.out; have := HJ73.out; first | omega | exact Nat.le_refl _⟩, ⟨be BK636⟩, ⟨be BK641⟩, ⟨be BK649⟩, ⟨be BK653⟩, ⟨be BK657⟩, ⟨be BK672⟩, ⟨be BK673⟩, ⟨bl⟩⟩
     case rest =>
      clear hnb109 hnc109 hcz110_0 hcz110_1 hcz110_2 hfz110_0 hfz110_1 hfz110_2 hcz116_0 hcz116_1 hcz116_2 hfz116_0 hfz116_1 hfz116_2 hcz118_0 hcz118_1 hcz118_2 hfz118_0 hfz118_1 hfz118_2 hcz119_0 hcz119_1 hcz119_2 hfz119_0 hfz119_1 hfz119_2
      clear HC100
      obtain ⟨kq, x205_99, rfl, HA, HJ99, BK636, BK641, BK649, BK653, BK657, BK672, BK673, HB⟩ := hcut
      cases kq with
      | zero => exact absurd HA.out (by simp [laws_FnBalls.j5])
      | succ kj99 =>
       have H := HA.out
       clear HA
       rw [laws_FnBalls.j5] at H
       by_cases c122 : x205_99 = true
       ·subst c122
        rw [if_pos rfl] at H
        exact absurd ((Option.some.inj H).trans hr.out) (by simp)
       ·replace c122 := Bool.eq_false_iff.mpr c122
        subst c122
        have H1 : (if t675 = 0 then ((impl_HoldsBall.f kj99 t665 t666 t667 t668 t669 t670 t671).bind fun bt678 => ((impl_HoldsBall.f kj99 t665 t669 t670 t671 t666 t667 t668).bind fun bt680 => (if bt678.2 = 0 then (if bt680.2 = 0 then (if bt678.1 = true then (if (t674 == true) = true then (some false) else (if (bt680.1 != (t666 == t669 && (t667 == t670 && (t668 == t671)))) = true then (some false) else (laws_FnBalls.j6 kj99 l0))) else (if (t674 == bt680.1) = true then (some false) else (if (false != (t666 == t669 && (t667 == t670 && (t668 == t671)))) = true then (some false) else (laws_FnBalls.j6 kj99 l0)))) else (some false)) else (some false)))) else (laws_FnBalls.j6 kj99 l0)) = some r := by rw [if_neg (show ¬ (false = true) by decide)] at H; exact H
        clear H
        have H := H1
        clear H1
        have HC123 := Aside0.mk H
        clear H
        go_upto_if 207 with (fail)
        go_cut [] (fun wc => ∃ (kq : Nat), Aside0 (laws_FnBalls.j6 kq l0 = some r) ∧ Aside0 (kq ≤ kj99) ∧ Aside0 (wc.heap[gb636]? = some (.cells #[.int .i64 t632, .int .i64 t633, .int .i64 t634] 27 (0, 0))) ∧ Aside0 (wc.heap[gb641]? = some (.cells #[.int .i64 t637, .int .i64 t638, .int .i64 t639] 27 (0, 0))) ∧ Aside0 (wc.heap[gb649]? = some (.cells #[.int .i64 t646, .int .i64 t647, .int .i64 t648] 27 (0, 0))) ∧ Aside0 (wc.heap[gb653]? = some (.cells #[.int .i64 t650, .int .i64 t651] 63 (0, 0))) ∧ Aside0 (wc.heap[gb657]? = some (.cells #[.int .i64 t654, .int .i64 t655] 63 (0, 0))) ∧ Aside0 (wc.heap[gb672]? = some (.cells #[.int .i64 t666, .int .i64 t667, .int .i64 t668] 27 (0, 0))) ∧ Aside0 (wc.heap[gb673]? = some (.cells #[.int .i64 t669, .int .i64 t670, .int .i64 t671] 27 (0, 0))) ∧ Aside0 (Below w.heap.size w wc))
        case first =>
         as_aux_lemma =>
         have H := HC123.out
         clear HC123
         replace H := ii H
         rcases H with ⟨c124, H⟩ | ⟨c124, H⟩
         ·obtain ⟨c124b0, c124b1⟩ := zz c124
          clear c124
          (first | rw [c124b0] | (simp only [i64_w, i32_w]; rw [c124b0]) | skip)
          replace H := zi H
          obtain ⟨⟨t678, t679⟩, A125, H⟩ := H
          try dsimp only at H
          replace H := zi H
          obtain ⟨⟨t680, t681⟩, A126, H⟩ := H
          try dsimp only at H
          replace H := ii H
          rcases H with ⟨c127, H⟩ | ⟨c127, H⟩
          ·obtain ⟨c127b0, c127b1⟩ := zz c127
           clear c127
           replace H := ii H
           rcases H with ⟨c128, H⟩ | ⟨c128, H⟩
           ·obtain ⟨c128b0, c128b1⟩ := zz c128
            clear c128
            by_cases c129 : t678 = true
            ·subst c129
             rw [if_pos rfl] at H
             replace H := ii H
             rcases H with ⟨c130, H⟩ | ⟨c130, H⟩
             ·have c130b0 : (t674 == true) = true := c130
              (try (have c130b1 : decide (t674 = true) = true := by simpa using c130))
              (try (have c130b2 : (t674 == true) = true := by simpa using c130))
              clear c130
              exact absurd ((Option.some.inj H).trans hr.out) (by simp)
             ·obtain rfl : t674 = false := by simpa using c130
              clear c130
              replace H := ii H
              rcases H with ⟨c131, H⟩ | ⟨c131, H⟩
              ·have c131b0 : (t680 != (t666 == t669 && (t667 == t670 && (t668 == t671)))) = true := c131
               (try (have c131b1 : decide (t680 = (t666 == t669 && (t667 == t670 && (t668 == t671)))) = false := by simpa using c131))
               (try (have c131b2 : (t680 == (t666 == t669 && (t667 == t670 && (t668 == t671)))) = false := by simpa using c131))
               (try (have c131b3 : ¬ (t680 = (t666 == t669 && (t667 == t670 && (t668 == t671)))) := by simpa using c131))
               clear c131
               exact absurd ((Option.some.inj H).trans hr.out) (by simp)
              ·have c131b0 : (t680 != (t666 == t669 && (t667 == t670 && (t668 == t671)))) = false := by simpa using c131
               (try (have c131b1 : decide (t680 = (t666 == t669 && (t667 == t670 && (t668 == t671)))) = true := by simpa using c131))
               (try (have c131b2 : (t680 == (t666 == t669 && (t667 == t670 && (t668 == t671)))) = true := by simpa using c131))
               clear c131
               have H' := Aside0.mk H
               clear H
               obtain ⟨hnb137, hnc137⟩ := zn NB672_673
               obtain ⟨hcz138_0, hcz138_1, hcz138_2, hfz138_0, hfz138_1, hfz138_2⟩ := cq3 BK672
               obtain ⟨hcz144_0, hcz144_1, hcz144_2, hfz144_0, hfz144_1, hfz144_2⟩ := cq3 BK673
               go_wp2_with (first | ((with_reducible refine zf 43 rfl ?_); refine g1 (some 212) Try.func43 #[.int .i64 t665, .agg #[.int .i64 t666, .int .i64 t667, .int .i64 t668], .agg #[.int .i64 t669, .int .i64 t670, .int .i64 t671]] ?_; (with_reducible refine (impl_HoldsBall.calls kj99 t665 t666 t667 t668 t669 t670 t671 true t679 _ A125.out).mono ?_); rintro e w145 ⟨rfl, hb⟩; refine ⟨_, rfl, ?_⟩; replace BK636 := bb BK636 hb; replace BK641 := bb BK641 hb; replace BK649 := bb BK649 hb; replace BK653 := bb BK653 hb; replace BK657 := bb BK657 hb; replace BK672 := bb BK672 hb; replace BK673 := bb BK673 hb; replace HB := bs hb; (try clear hb); obtain ⟨hcz146_0, hcz146_1, hcz146_2, hfz146_0, hfz146_1, hfz146_2⟩ := cq3 BK673; obtain ⟨hcz147_0, hcz147_1, hcz147_2, hfz147_0, hfz147_1, hfz147_2⟩ := cq3 BK672) | ((with_reducible refine zf 43 rfl ?_); refine g1 (some 219) Try.func43 #[.int .i64 t665, .agg #[.int .i64 t669, .int .i64 t670, .int .i64 t671], .agg #[.int .i64 t666, .int .i64 t667, .int .i64 t668]] ?_; (with_reducible refine (impl_HoldsBall.calls kj99 t665 t669 t670 t671 t666 t667 t668 t680 t681 _ A126.out).mono ?_); rintro e w148 ⟨rfl, hb⟩; refine ⟨_, rfl, ?_⟩; replace BK636 := bb BK636 hb; replace BK641 := bb BK641 hb; replace BK649 := bb BK649 hb; replace BK653 := bb BK653 hb; replace BK657 := bb BK657 hb; replace BK672 := bb BK672 hb; replace BK673 := bb BK673 hb; replace HB := bs hb; (try clear hb); obtain ⟨hcz149_0, hcz149_1, hcz149_2, hfz149_0, hfz149_1, hfz149_2⟩ := cq3 BK672; obtain ⟨hcz150_0, hcz150_1, hcz150_2, hfz150_0, hfz150_1, hfz150_2⟩ := cq3 BK673))
               go_meet
               case rel => go_light; exact ⟨_, H', ⟨by have := HJ40.out; have := HJ73.out; have := HJ99.out; first | omega | exact Nat.le_refl _⟩, ⟨be BK636⟩, ⟨be BK641⟩, ⟨be BK649⟩, ⟨be BK653⟩, ⟨be BK657⟩, ⟨be BK672⟩, ⟨be BK673⟩, ⟨bl⟩⟩
            ·replace c129 := Bool.eq_false_iff.mpr c129
             subst c129
             have H1 : (if (t674 == t680) = true then (some false) else (if (false != (t666 == t669 && (t667 == t670 && (t668 == t671)))) = true then (some false) else (laws_FnBalls.j6 kj99 l0))) = some r := by rw [if_neg (show ¬ (false = true) by decide)] at H; exact H
             clear H
             have H := H1
             clear H1
             replace H := ii H
             rcases H with ⟨c151, H⟩ | ⟨c151, H⟩
             ·have c151b0 : (t674 == t680) = true := c151
              (try (have c151b1 : decide (t674 = t680) = true := by simpa using c151))
              (try (have c151b2 : (t674 == t680) = true := by simpa using c151))
              clear c151
              exact absurd ((Option.some.inj H).trans hr.out) (by simp)
             ·obtain rfl : t674 = (!t680) := by revert c151; cases t674 <;> cases t680 <;> simp
              clear c151
              replace H := ii H
              rcases H with ⟨c152, H⟩ | ⟨c152, H⟩
              ·have c152b0 : (false != (t666 == t669 && (t667 == t670 && (t668 == t671)))) = true := c152
               (try (have c152b1 : decide (false = (t666 == t669 && (t667 == t670 && (t668 == t671)))) = false := by simpa using c152))
               (try (have c152b2 : (false == (t666 == t669 && (t667 == t670 && (t668 == t671)))) = false := by simpa using c152))
               (try (have c152b3 : ¬ (false = (t666 == t669 && (t667 == t670 && (t668 == t671)))) := by simpa using c152))
               clear c152
               exact absurd ((Option.some.inj H).trans hr.out) (by simp)
              ·have c152b0 : (false != (t666 == t669 && (t667 == t670 && (t668 == t671)))) = false := by simpa using c152
               have c152q : (t666 == t669 && (t667 == t670 && (t668 == t671))) = false := by simpa using c152
               (try (have c152b1 : decide (false = (t666 == t669 && (t667 == t670 && (t668 == t671)))) = true := by simpa using c152))
               (try (have c152b2 : (false == (t666 == t669 && (t667 == t670 && (t668 == t671)))) = true := by simpa using c152))
               clear c152
               have H' := Aside0.mk H
               clear H
               obtain ⟨hnb158, hnc158⟩ := zn NB672_673
               obtain ⟨hcz159_0, hcz159_1, hcz159_2, hfz159_0, hfz159_1, hfz159_2⟩ := cq3 BK672
               obtain ⟨hcz165_0, hcz165_1, hcz165_2, hfz165_0, hfz165_1, hfz165_2⟩ := cq3 BK673
               go_wp2_with (first | ((with_reducible refine zf 43 rfl ?_); refine g1 (some 212) Try.func43 #[.int .i64 t665, .agg #[.int .i64 t666, .int .i64 t667, .int .i64 t668], .agg #[.int .i64 t669, .int .i64 t670, .int .i64 t671]] ?_; (with_reducible refine (impl_HoldsBall.calls kj99 t665 t666 t667 t668 t669 t670 t671 false t679 _ A125.out).mono ?_); rintro e w166 ⟨rfl, hb⟩; refine ⟨_, rfl, ?_⟩; replace BK636 := bb BK636 hb; replace BK641 := bb BK641 hb; replace BK649 := bb BK649 hb; replace BK653 := bb BK653 hb; replace BK657 := bb BK657 hb; replace BK672 := bb BK672 hb; replace BK673 := bb BK673 hb; replace HB := bs hb; (try clear hb); obtain ⟨hcz167_0, hcz167_1, hcz167_2, hfz167_0, hfz167_1, hfz167_2⟩ := cq3 BK673; obtain ⟨hcz168_0, hcz168_1, hcz168_2, hfz168_0, hfz168_1, hfz168_2⟩ := cq3 BK672) | ((with_reducible refine zf 43 rfl ?_); refine g1 (some 219) Try.func43 #[.int .i64 t665, .agg #[.int .i64 t669, .int .i64 t670, .int .i64 t671], .agg #[.int .i64 t666, .int .i64 t667, .int .i64 t668]] ?_; (with_reducible refine (impl_HoldsBall.calls kj99 t665 t669 t670 t671 t666 t667 t668 t680 t681 _ A126.out).mono ?_); rintro e w169 ⟨rfl, hb⟩; refine ⟨_, rfl, ?_⟩; replace BK636 := bb BK636 hb; replace BK641 := bb BK641 hb; replace BK649 := bb BK649 hb; replace BK653 := bb BK653 hb; replace BK657 := bb BK657 hb; replace BK672 := bb BK672 hb; replace BK673 := bb BK673 hb; replace HB := bs hb; (try clear hb); obtain ⟨hcz170_0, hcz170_1, hcz170_2, hfz170_0, hfz170_1, hfz170_2⟩ := cq3 BK672; obtain ⟨hcz171_0, hcz171_1, hcz171_2, hfz171_0, hfz171_1, hfz171_2⟩ := cq3 BK673))
               go_meet
               case rel => go_light; exact ⟨_, H', ⟨by have := HJ40.out; have := HJ73.out; have := HJ99.out; first | omega | exact Nat.le_refl _⟩, ⟨be BK636⟩, ⟨be BK641⟩, ⟨be BK649⟩, ⟨be BK653⟩, ⟨be BK657⟩, ⟨be BK672⟩, ⟨be BK673⟩, ⟨bl⟩⟩
           ·obtain ⟨c128b0, c128b1⟩ := zy c128
            exact absurd ((Option.some.inj H).trans hr.out) (by simp)
          ·obtain ⟨c127b0, c127b1⟩ := zy c127
           exact absurd ((Option.some.inj H).trans hr.out) (by simp)
         ·obtain ⟨c124b0, c124b1⟩ := zy c124
          (first | rw [c124b0] | (simp only [i64_w, i32_w]; rw [c124b0]) | skip)
          have H' := Aside0.mk H
          clear H
          go_wp2
          go_meet
          case rel => go_light; exact ⟨_, H', ⟨by have := HJ40.out; have := HJ73.out; have := HJ99.out; first | omega | exact Nat.le_refl _⟩, ⟨be BK636⟩, ⟨be BK641⟩, ⟨be BK649⟩, ⟨be BK653⟩, ⟨be BK657⟩, ⟨be BK672⟩, ⟨be BK673⟩, ⟨bl⟩⟩
        case rest =>
         obtain ⟨kq, HA, HJ122, BK636, BK641, BK649, BK653, BK657, BK672, BK673, HB⟩ := hcut
         refine ‹∀ (a : Act) (w : World), Code.wp _ _ _ a w → _› _ _ ?_
         exact laws_FnBalls.part HA HJ122 BK636 BK641 BK649 BK653 BK657 BK672 BK673 HB GW636 GW641 GW649 GW653 GW657 GW672 GW673 NB636_641 NB636_649 NB636_653 NB636_657 NB636_672 NB636_673 NB641_649 NB641_653 NB641_657 NB641_672 NB641_673 NB649_653 NB649_657 NB649_672 NB649_673 NB653_657 NB653_672 NB653_673 NB657_672 NB657_673 NB672_673 HR0 HC0 hr
end Go.Proofs.Ytpmepopagapeiaa.PFnBalls

-- Printed by the kit's print and repaired by a program of this session.
import Derived.Test.YtpmepopagapeiaaPFnBallsx0
import Derived.Test.YtpmepopagapeiaaPFnBallsx1
import Derived.Test.YtpmepopagapeiaaPFnBallsx2
import Derived.Test.YtpmepopagapeiaaPFnBallsx3
import Derived.Test.YtpmepopagapeiaaPFnBallsx4
import Derived.Test.YtpmepopagapeiaaPFnBallsx5
import Derived.Test.YtpmepopagapeiaaPFnBallsx7
import Derived.Test.YtpmepopagapeiaaPFnBallsx8
import Derived.Test.YtpmepopagapeiaaPFnBallsx9
import Derived.Test.YtpmepopagapeiaaPFnBallsx11
import Derived.Test.YtpmepopagapeiaaPFnBallsx13
import Derived.Test.YtpmepopagapeiaaPFnBallsx14
import Derived.Test.YtpmepopagapeiaaPFnBallsx15
import Derived.Test.YtpmepopagapeiaaPFnBallsx16
import Derived.Test.YtpmepopagapeiaaPFnBallsx18
import Derived.Test.YtpmepopagapeiaaPFnBallsx19
import Derived.Deep.Light
import Derived.Test.YtpmepopagapeiaaPFnBallsx20
namespace Go.Proofs.Ytpmepopagapeiaa.PFnBalls
open Go.RowKit Go.Proofs.YtpmepopagapeiaaW.PrintWords Go.Proofs.YtpmepopagapeiaaW.PrintLast Go.Proofs.YtpmepopagapeiaaW.PrintMore
attribute [local go_sem] max2_int min2_int max_two min_two max_three min_three max_four min_four
set_option linter.unusedVariables false
set_option linter.unusedSimpArgs false

attribute [local go_sem high] eqA27 eqA63
set_option maxHeartbeats 60000000 in
set_option maxRecDepth 100000 in
theorem laws_FnBalls.part {A0 : Option Addr} {c0 : Nat} {l0 : List Int} {r : Bool} {w : World} {t628} {t629} {t630} {t631} {t632} {t633} {t634} {t635} {t637} {t638} {t639} {t640} {t645} {t646} {t647} {t648} {t650} {t651} {t652} {t654} {t655} {t656} {t665} {t666} {t667} {t668} {t669} {t670} {t671} {t674} {t675} {t676} {t677} {gb636 : Nat} {gb641 : Nat} {gb649 : Nat} {gb653 : Nat} {gb657 : Nat} {gb672 : Nat} {gb673 : Nat} {kj99 : Nat} {kq : Nat} {wc : World}
    {aa ab ac ae af ag ah ai aj ak al am an ao ap aq ar au av aw ax ay az bc bf bg bh bi bj bk bm bo bq br bu bv bw bx bz ca cb cd ce cg ch ci cj ck cl cm cn co cp cq cr ct cu cv cw cx cy cz da db dc dd de df dg dh di dj dk dl dm dn dp dq dr dt du dv dw dx dy dz ea eb ec ed ee ef eg eh ei ej ek el em en eo ep eq es et eu ev ew ex ey ez fa fb fc fd fe ff fg fh fi fj fk fl fm fo fp fq ft fu fv fw fx fy fz ga gb gc ge gf gg gh gi gj gk gl gm gn go gp gq gr gt gu gv gw gx gy gz ia ib ic ie ig ij ik il im io ip iq ir it iu iv iw ix iy iz ja jb jc jd je jf jg jh ji jj jk jl jm jn jo jp jq jr js jt ju jv jw jx jy jz la lb lc ld le lf lg lh ll lm ln lo lp lq lr ls lt lu lv lw lx ly lz ma mb mc me mf mg mh mi mj ml mm mo mq mr ms mt mu mv mw my mz na nb nc ne nf nh ni nj nk nn no np nq nr nt nu nv nw nx ny nz oa ob oc od oe og oh ol om oo oq ot ou ov ow ox oy oz pa pb pc pd pe pf pg ph pi pj pk pl pm pn po pp pq pt : Value}
    (HA : Aside0 (laws_FnBalls.j6 kq l0 = some r)) (HJ122 : Aside0 (kq ≤ kj99)) (BK636 : Aside0 (wc.heap[gb636]? = some (.cells #[.int .i64 t632, .int .i64 t633, .int .i64 t634] 27 (0, 0)))) (BK641 : Aside0 (wc.heap[gb641]? = some (.cells #[.int .i64 t637, .int .i64 t638, .int .i64 t639] 27 (0, 0)))) (BK649 : Aside0 (wc.heap[gb649]? = some (.cells #[.int .i64 t646, .int .i64 t647, .int .i64 t648] 27 (0, 0)))) (BK653 : Aside0 (wc.heap[gb653]? = some (.cells #[.int .i64 t650, .int .i64 t651] 63 (0, 0)))) (BK657 : Aside0 (wc.heap[gb657]? = some (.cells #[.int .i64 t654, .int .i64 t655] 63 (0, 0)))) (BK672 : Aside0 (wc.heap[gb672]? = some (.cells #[.int .i64 t666, .int .i64 t667, .int .i64 t668] 27 (0, 0)))) (BK673 : Aside0 (wc.heap[gb673]? = some (.cells #[.int .i64 t669, .int .i64 t670, .int .i64 t671] 27 (0, 0)))) (HB : Aside0 (Below w.heap.size w wc)) (GW636 : Aside0 (w.heap.size ≤ gb636)) (GW641 : Aside0 (w.heap.size ≤ gb641)) (GW649 : Aside0 (w.heap.size ≤ gb649)) (GW653 : Aside0 (w.heap.size ≤ gb653)) (GW657 : Aside0 (w.heap.size ≤ gb657)) (GW672 : Aside0 (w.heap.size ≤ gb672)) (GW673 : Aside0 (w.heap.size ≤ gb673)) (NB636_641 : Aside0 (gb636 ≠ gb641)) (NB636_649 : Aside0 (gb636 ≠ gb649)) (NB636_653 : Aside0 (gb636 ≠ gb653)) (NB636_657 : Aside0 (gb636 ≠ gb657)) (NB636_672 : Aside0 (gb636 ≠ gb672)) (NB636_673 : Aside0 (gb636 ≠ gb673)) (NB641_649 : Aside0 (gb641 ≠ gb649)) (NB641_653 : Aside0 (gb641 ≠ gb653)) (NB641_657 : Aside0 (gb641 ≠ gb657)) (NB641_672 : Aside0 (gb641 ≠ gb672)) (NB641_673 : Aside0 (gb641 ≠ gb673)) (NB649_653 : Aside0 (gb649 ≠ gb653)) (NB649_657 : Aside0 (gb649 ≠ gb657)) (NB649_672 : Aside0 (gb649 ≠ gb672)) (NB649_673 : Aside0 (gb649 ≠ gb673)) (NB653_657 : Aside0 (gb653 ≠ gb657)) (NB653_672 : Aside0 (gb653 ≠ gb672)) (NB653_673 : Aside0 (gb653 ≠ gb673)) (NB657_672 : Aside0 (gb657 ≠ gb672)) (NB657_673 : Aside0 (gb657 ≠ gb673)) (NB672_673 : Aside0 (gb672 ≠ gb673)) (HR0 : Aside0 (Kd.C (Kd.int .u8) w A0 l0.length l0)) (HC0 : Aside0 (l0.length ≤ c0)) (hr : Aside0 (r = true)) :
    Code.wp Try.prog ((sufO 17 Try.f10.body).getD .ret) (bodyPost Try.prog Try.f10 fun e w' => e = .returned (.bool r) ∧ Below w.heap.size w w') { tmps := #[Value.slice A0 l0.length c0, undef, aa, Value.int IntKind.i64 t628, Value.int IntKind.i64 t629, Value.int IntKind.i64 t630, Value.int IntKind.i64 t631, Value.pointer (some { block := gb636, off := 0 }), Value.int IntKind.i64 t635, Value.pointer (some { block := gb641, off := 0 }), Value.int IntKind.i64 t640, ab, ac, Value.int IntKind.i64 t645, Value.pointer (some { block := gb649, off := 0 }), Value.pointer (some { block := gb653, off := 0 }), Value.int IntKind.i64 t652, Value.pointer (some { block := gb657, off := 0 }), Value.int IntKind.i64 t656, ae, af, Value.int IntKind.i64 t665, Value.pointer (some { block := gb672, off := 0 }), Value.pointer (some { block := gb673, off := 0 }), Value.bool t674, Value.int IntKind.i64 t675, Value.bool t676, Value.int IntKind.i64 t677, ag, ah, ai, aj, undef, undef, undef, undef, undef, undef, undef, undef, undef, undef, undef, undef, undef, undef, undef, undef, undef, undef, undef, undef, undef, undef, undef, undef, ak, al, am, an, ao, ap, aq, ar, au, av, aw, ax, ay, az, bc, bf, bg, bh, bi, bj, bk, bm, bo, bq, br, bu, bv, bw, bx, bz, ca, cb, cd, ce, cg, ch, ci, cj, ck, cl, cm, cn, co, cp, cq, cr, ct, cu, cv, cw, cx, cy, cz, da, db, dc, dd, de, df, dg, dh, di, dj, dk, dl, dm, dn, dp, dq, dr, dt, du, dv, dw, dx, dy, dz, ea, eb, ec, ed, ee, ef, eg, eh, ei, ej, ek, el, em, en, eo, ep, eq, es, et, eu, ev, ew, ex, ey, ez, fa, fb, fc, fd, fe, ff, fg, fh, fi, fj, fk, fl, fm, fo, fp, fq, ft, fu, fv, fw, fx, fy, fz, ga, gb, gc, ge, gf, gg, gh, gi, gj, gk, gl, gm, gn, go, gp, gq, gr, gt, gu, gv, gw, gx, gy, gz, ia, ib, ic, ie, ig, ij, ik, il, im, io, ip, iq, ir, it, iu, iv, iw, ix, iy, iz, ja, jb, jc, jd, je, jf, jg, jh, ji, jj, jk, jl, jm, jn, jo, jp, jq, jr, js, jt, ju, jv, jw, jx, jy, jz, la, lb, lc, ld, le, lf, lg, lh, ll, lm, ln, lo, lp, lq, lr, ls, lt, lu, lv, lw, lx, ly, lz, ma, mb, mc, me, mf, mg, mh, mi, mj, ml, mm, mo, mq, mr, ms, mt, mu, mv, mw, my, mz, na, nb, nc, ne, nf, nh, ni, nj, nk, nn, no, np, nq, nr, nt, nu, nv, nw, nx, ny, nz, oa, ob, oc, od, oe, og, oh, ol, om, oo, oq, ot, ou, ov, ow, ox, oy, oz, pa, pb, pc, pd, pe, pf, pg, ph, pi, pj, pk, pl, pm, pn, po, pp, pq, pt], defers := [] } wc := by
 refine sufWp rfl ?_
 cases kq with
 | zero => exact absurd HA.out (by simp [laws_FnBalls.j6])
 | succ kj122 =>
  have H := HA.out
  clear HA
  rw [laws_FnBalls.j6] at H
  replace H := zi H
  obtain ⟨⟨t682, t683, t684⟩, A172, H⟩ := H
  try dsimp only at H
  replace H := zi H
  obtain ⟨⟨t685, t686⟩, A173, H⟩ := H
  try dsimp only at H
  replace H := zi H
  obtain ⟨⟨t687, t688⟩, A174, H⟩ := H
  try dsimp only at H
  have HC175 := Aside0.mk H
  clear H
  go_upto_region 34 with (first | ((with_reducible refine zf 74 rfl ?_); refine g1 (some 248) Try.func74 #[.slice A0 l0.length c0] ?_; (with_reducible refine (spec_DrawValuationOf.calls kj122 _ _ l0 t682 t683 t684 _ ?side1 ?side2 A172.out).mono ?_); (case side1 => repeat (first | exact (Kd.C_below HR0.out HB.out) | (with_reducible refine Kd.C_alloc ?_ _) | (with_reducible refine Kd.C_drewN ?_ _) | (with_reducible refine Kd.C_drew ?_))); (case side2 => exact HC0.out); rintro e w176 ⟨rfl, hb⟩; refine ⟨_, rfl, ?_⟩; replace BK636 := bb BK636 hb; replace BK641 := bb BK641 hb; replace BK649 := bb BK649 hb; replace BK653 := bb BK653 hb; replace BK657 := bb BK657 hb; replace BK672 := bb BK672 hb; replace BK673 := bb BK673 hb; replace HB := bs hb; (try clear hb)) | ((with_reducible refine zf 75 rfl ?_); refine g1 (some 256) Try.func75 #[.int .i64 t682, .int .i64 t683, .int .i64 t684] ?_; (with_reducible refine (impl_ValuationOf.calls kj122 t682 t683 t684 t685 t686 _ A173.out).mono ?_); rintro e w177 ⟨rfl, hb⟩; refine ⟨_, rfl, ?_⟩; replace BK636 := bb BK636 hb; replace BK641 := bb BK641 hb; replace BK649 := bb BK649 hb; replace BK653 := bb BK653 hb; replace BK657 := bb BK657 hb; replace BK672 := bb BK672 hb; replace BK673 := bb BK673 hb; replace HB := bs hb; (try clear hb)) | ((with_reducible refine zf 76 rfl ?_); refine g1 (some 263) Try.func76 #[.int .i64 t682, .int .i64 t683, .int .i64 t684] ?_; (with_reducible refine (spec_ValuationOf.calls kj122 t682 t683 t684 t687 t688 _ A174.out).mono ?_); rintro e w' ⟨rfl, ⟨nd, rfl⟩⟩; refine ⟨_, rfl, ?_⟩))
  (try simp only [Act.put, zq, zr, zt])
  go_cut [273] (fun v273 wc => ∃ (kq : Nat) (x273_174 : Bool), v273 = .bool x273_174 ∧ Aside0 (laws_FnBalls.j7 kq l0 t682 t683 t684 t685 t686 x273_174 = some r) ∧ Aside0 (kq ≤ kj122) ∧ Aside0 (wc.heap[gb636]? = some (.cells #[.int .i64 t632, .int .i64 t633, .int .i64 t634] 27 (0, 0))) ∧ Aside0 (wc.heap[gb641]? = some (.cells #[.int .i64 t637, .int .i64 t638, .int .i64 t639] 27 (0, 0))) ∧ Aside0 (wc.heap[gb649]? = some (.cells #[.int .i64 t646, .int .i64 t647, .int .i64 t648] 27 (0, 0))) ∧ Aside0 (wc.heap[gb653]? = some (.cells #[.int .i64 t650, .int .i64 t651] 63 (0, 0))) ∧ Aside0 (wc.heap[gb657]? = some (.cells #[.int .i64 t654, .int .i64 t655] 63 (0, 0))) ∧ Aside0 (wc.heap[gb672]? = some (.cells #[.int .i64 t666, .int .i64 t667, .int .i64 t668] 27 (0, 0))) ∧ Aside0 (wc.heap[gb673]? = some (.cells #[.int .i64 t669, .int .i64 t670, .int .i64 t671] 27 (0, 0))) ∧ Aside0 (Below w.heap.size w wc))
  case first =>
   as_aux_lemma =>
   have H := HC175.out
   clear HC175
   replace H := ii H
   rcases H with ⟨c178, H⟩ | ⟨c178, H⟩
   ·obtain ⟨c178b0, c178b1⟩ := zz c178
    clear c178
    (first | rw [c178b0] | (simp only [i64_w, i32_w]; rw [c178b0]) | skip)
    have H' := Aside0.mk H
    clear H
    go_wp2
    go_meet
    case rel => go_light; exact ⟨_, ((t685 != t687)), (by first | rfl | (simp; done) | (simp [*]; done)), H', ⟨by have := HJ122.out; first | omega | exact Nat.le_refl _⟩, ⟨be BK636⟩, ⟨be BK641⟩, ⟨be BK649⟩, ⟨be BK653⟩, ⟨be BK657⟩, ⟨be BK672⟩, ⟨be BK673⟩, ⟨bl⟩⟩
   ·obtain ⟨c178b0, c178b1⟩ := zy c178
    (first | rw [c178b0] | (simp only [i64_w, i32_w]; rw [c178b0]) | skip)
    have H' := Aside0.mk H
    clear H
    go_wp2
    go_meet
    case rel => go_light; exact ⟨_, (true), (by first | rfl | (simp; done) | (simp [*]; done)), H', ⟨by have := HJ122.out; first | omega | exact Nat.le_refl _⟩, ⟨be BK636⟩, ⟨be BK641⟩, ⟨be BK649⟩, ⟨be BK653⟩, ⟨be BK657⟩, ⟨be BK672⟩, ⟨be BK673⟩, ⟨bl⟩⟩
  case rest =>
   clear HC175
   obtain ⟨kq, x273_174, rfl, HA, HJ174, BK636, BK641, BK649, BK653, BK657, BK672, BK673, HB⟩ := hcut
   cases kq with
   | zero => exact absurd HA.out (by simp [laws_FnBalls.j7])
   | succ kj174 =>
    have H := HA.out
    clear HA
    rw [laws_FnBalls.j7] at H
    by_cases c179 : x273_174 = true
    ·subst c179
     rw [if_pos rfl] at H
     exact absurd ((Option.some.inj H).trans hr.out) (by simp)
    ·replace c179 := Bool.eq_false_iff.mpr c179
     subst c179
     have H1 : (if t686 = 0 then ((impl_ValuationOf.f kj174 t682 t684 t683).bind fun bt689 => (if bt689.2 = 0 then (if bt689.1 = (wrap64 (-t685)) then (laws_FnBalls.j8 kj174 l0) else (some false)) else (some false))) else (laws_FnBalls.j8 kj174 l0)) = some r := by rw [if_neg (show ¬ (false = true) by decide)] at H; exact H
     clear H
     have H := H1
     clear H1
     have HC180 := Aside0.mk H
     clear H
     go_upto_if 275 with (fail)
     go_cut [] (fun wc => ∃ (kq : Nat), Aside0 (laws_FnBalls.j8 kq l0 = some r) ∧ Aside0 (kq ≤ kj174) ∧ Aside0 (wc.heap[gb636]? = some (.cells #[.int .i64 t632, .int .i64 t633, .int .i64 t634] 27 (0, 0))) ∧ Aside0 (wc.heap[gb641]? = some (.cells #[.int .i64 t637, .int .i64 t638, .int .i64 t639] 27 (0, 0))) ∧ Aside0 (wc.heap[gb649]? = some (.cells #[.int .i64 t646, .int .i64 t647, .int .i64 t648] 27 (0, 0))) ∧ Aside0 (wc.heap[gb653]? = some (.cells #[.int .i64 t650, .int .i64 t651] 63 (0, 0))) ∧ Aside0 (wc.heap[gb657]? = some (.cells #[.int .i64 t654, .int .i64 t655] 63 (0, 0))) ∧ Aside0 (wc.heap[gb672]? = some (.cells #[.int .i64 t666, .int .i64 t667, .int .i64 t668] 27 (0, 0))) ∧ Aside0 (wc.heap[gb673]? = some (.cells #[.int .i64 t669, .int .i64 t670, .int .i64 t671] 27 (0, 0))) ∧ Aside0 (Below w.heap.size w wc))
     case first =>
      as_aux_lemma =>
      have H := HC180.out
      clear HC180
      replace H := ii H
      rcases H with ⟨c181, H⟩ | ⟨c181, H⟩
      ·obtain ⟨c181b0, c181b1⟩ := zz c181
       clear c181
       (first | rw [c181b0] | (simp only [i64_w, i32_w]; rw [c181b0]) | skip)
       replace H := zi H
       obtain ⟨⟨t689, t690⟩, A182, H⟩ := H
       try dsimp only at H
       replace H := ii H
       rcases H with ⟨c183, H⟩ | ⟨c183, H⟩
       ·obtain ⟨c183b0, c183b1⟩ := zz c183
        clear c183
        replace H := ii H
        rcases H with ⟨c184, H⟩ | ⟨c184, H⟩
        ·obtain ⟨c184b0, c184b1⟩ := zz c184
         clear c184
         have H' := Aside0.mk H
         clear H
         go_wp2_with (first | ((with_reducible refine zf 75 rfl ?_); refine g1 (some 280) Try.func75 #[.int .i64 t682, .int .i64 t684, .int .i64 t683] ?_; (with_reducible refine (impl_ValuationOf.calls kj174 t682 t684 t683 t689 t690 _ A182.out).mono ?_); rintro e w185 ⟨rfl, hb⟩; refine ⟨_, rfl, ?_⟩; replace BK636 := bb BK636 hb; replace BK641 := bb BK641 hb; replace BK649 := bb BK649 hb; replace BK653 := bb BK653 hb; replace BK657 := bb BK657 hb; replace BK672 := bb BK672 hb; replace BK673 := bb BK673 hb; replace HB := bs hb; (try clear hb)))
         go_meet
         case rel => go_light; exact ⟨_, H', ⟨by have := HJ122.out; have := HJ174.out; first | omega | exact Nat.le_refl _⟩, ⟨be BK636⟩, ⟨be BK641⟩, ⟨be BK649⟩, ⟨be BK653⟩, ⟨be BK657⟩, ⟨be BK672⟩, ⟨be BK673⟩, ⟨bl⟩⟩
        ·obtain ⟨c184b0, c184b1⟩ := zy c184
         exact absurd ((Option.some.inj H).trans hr.out) (by simp)
       ·obtain ⟨c183b0, c183b1⟩ := zy c183
        exact absurd ((Option.some.inj H).trans hr.out) (by simp)
      ·obtain ⟨c181b0, c181b1⟩ := zy c181
       (first | rw [c181b0] | (simp only [i64_w, i32_w]; rw [c181b0]) | skip)
       have H' := Aside0.mk H
       clear H
       go_wp2
       go_meet
       case rel => go_light; exact ⟨_, H', ⟨by have := HJ122.out; have := HJ174.out; first | omega | exact Nat.le_refl _⟩, ⟨be BK636⟩, ⟨be BK641⟩, ⟨be BK649⟩, ⟨be BK653⟩, ⟨be BK657⟩, ⟨be BK672⟩, ⟨be BK673⟩, ⟨bl⟩⟩
     case rest =>
      clear HC180
      obtain ⟨kq, HA, HJ179, BK636, BK641, BK649, BK653, BK657, BK672, BK673, HB⟩ := hcut
      cases kq with
      | zero => exact absurd HA.out (by simp [laws_FnBalls.j8])
      | succ kj179 =>
       have H := HA.out
       clear HA
       rw [laws_FnBalls.j8] at H
       replace H := zi H
       obtain ⟨⟨t691, t692, t693, t694, t695, t696⟩, A186, H⟩ := H
       try dsimp only at H
       replace H := zi H
       obtain ⟨⟨t698, t699⟩, A187, H⟩ := H
       try dsimp only at H
       replace H := zi H
       obtain ⟨⟨t700, t701⟩, A188, H⟩ := H
       try dsimp only at H
       replace H := zi H
       obtain ⟨⟨t702, t703, t704, t705, t706, t707, t708⟩, A189, H⟩ := H
       try dsimp only at H
       replace H := zi H
       obtain ⟨⟨t711, t712⟩, A190, H⟩ := H
       try dsimp only at H
       replace H := zi H
       obtain ⟨⟨t713, t714⟩, A191, H⟩ := H
       try dsimp only at H
       replace H := ii H
       rcases H with ⟨c192, H⟩ | ⟨c192, H⟩
       ·obtain ⟨c192b0, c192b1⟩ := zz c192
        clear c192
        replace H := ii H
        rcases H with ⟨c193, H⟩ | ⟨c193, H⟩
        ·have c193b0 : (t698 == t700) = true := c193
         (try (have c193b1 : decide (t698 = t700) = true := by simpa using c193))
         (try (have c193b2 : (t698 == t700) = true := by simpa using c193))
         clear c193
         replace H := ii H
         rcases H with ⟨c194, H⟩ | ⟨c194, H⟩
         ·obtain ⟨c194b0, c194b1⟩ := zz c194
          clear c194
          obtain rfl := Option.some.inj H
          go_wp2_with (first | ((with_reducible refine zf 77 rfl ?_); refine g1 (some 293) Try.func77 #[.slice A0 l0.length c0] ?_; (with_reducible refine (spec_DrawHoldsFraction.calls kj179 _ _ l0 t691 t692 t693 t694 t695 t696 _ ?side1 ?side2 A186.out).mono ?_); (case side1 => repeat (first | exact (Kd.C_below HR0.out HB.out) | (with_reducible refine Kd.C_alloc ?_ _) | (with_reducible refine Kd.C_drewN ?_ _) | (with_reducible refine Kd.C_drew ?_))); (case side2 => exact HC0.out); rintro e w195 ⟨rfl, hb⟩; refine ⟨_, rfl, ?_⟩; replace BK636 := bb BK636 hb; replace BK641 := bb BK641 hb; replace BK649 := bb BK649 hb; replace BK653 := bb BK653 hb; replace BK657 := bb BK657 hb; replace BK672 := bb BK672 hb; replace BK673 := bb BK673 hb; replace HB := bs hb; (try clear hb)) | ((with_reducible refine zg 42 rfl ?_); refine z3 42 27 0 0 0 ?_; intro gb697 hg w196 BK697 hb; have GW697 := sg hg; have NB636_697 := nl hg BK636; have NB641_697 := nl hg BK641; have NB649_697 := nl hg BK649; have NB653_697 := nl hg BK653; have NB657_697 := nl hg BK657; have NB672_697 := nl hg BK672; have NB673_697 := nl hg BK673; replace BK636 := bb BK636 hb; replace BK641 := bb BK641 hb; replace BK649 := bb BK649 hb; replace BK653 := bb BK653 hb; replace BK657 := bb BK657 hb; replace BK672 := bb BK672 hb; replace BK673 := bb BK673 hb; replace HB := bs hb; clear hb hg; obtain ⟨hcz204_0, hcz204_1, hcz204_2, hfz204_0, hfz204_1, hfz204_2⟩ := cq3 BK697) | ((with_reducible refine zf 64 rfl ?_); refine g1 (some 303) Try.func64 #[.int .i64 t691, .agg #[.int .i64 t692, .int .i64 t693, .int .i64 t694], .int .i64 t695, .int .i64 t696] ?_; (with_reducible refine (impl_HoldsFraction.calls kj179 t691 t692 t693 t694 t695 t696 t698 t699 _ A187.out).mono ?_); rintro e w205 ⟨rfl, hb⟩; refine ⟨_, rfl, ?_⟩; replace BK636 := Aside0.mk (blk_below (g := gb636) (o := .cells #[.int .i64 t632, .int .i64 t633, .int .i64 t634] 27 (0, 0)) (bp) hb); replace BK641 := Aside0.mk (blk_below (g := gb641) (o := .cells #[.int .i64 t637, .int .i64 t638, .int .i64 t639] 27 (0, 0)) (bp) hb); replace BK649 := Aside0.mk (blk_below (g := gb649) (o := .cells #[.int .i64 t646, .int .i64 t647, .int .i64 t648] 27 (0, 0)) (bp) hb); replace BK653 := Aside0.mk (blk_below (g := gb653) (o := .cells #[.int .i64 t650, .int .i64 t651] 63 (0, 0)) (bp) hb); replace BK657 := Aside0.mk (blk_below (g := gb657) (o := .cells #[.int .i64 t654, .int .i64 t655] 63 (0, 0)) (bp) hb); replace BK672 := Aside0.mk (blk_below (g := gb672) (o := .cells #[.int .i64 t666, .int .i64 t667, .int .i64 t668] 27 (0, 0)) (bp) hb); replace BK673 := Aside0.mk (blk_below (g := gb673) (o := .cells #[.int .i64 t669, .int .i64 t670, .int .i64 t671] 27 (0, 0)) (bp) hb); replace BK697 := Aside0.mk (blk_below (g := gb697) (o := .cells #[.int .i64 t692, .int .i64 t693, .int .i64 t694] 27 (0, 0)) (bp) hb); replace HB := bs hb; (try clear hb); obtain ⟨hcz206_0, hcz206_1, hcz206_2, hfz206_0, hfz206_1, hfz206_2⟩ := cq3 BK697) | ((with_reducible refine zf 78 rfl ?_); refine g1 (some 311) Try.func78 #[.int .i64 t691, .agg #[.int .i64 t692, .int .i64 t693, .int .i64 t694], .int .i64 t695, .int .i64 t696] ?_; (with_reducible refine (spec_HoldsFraction.calls kj179 t691 t692 t693 t694 t695 t696 t700 t701 _ A188.out).mono ?_); rintro e w207 ⟨rfl, hb⟩; refine ⟨_, rfl, ?_⟩; replace BK636 := bb BK636 hb; replace BK641 := bb BK641 hb; replace BK649 := bb BK649 hb; replace BK653 := bb BK653 hb; replace BK657 := bb BK657 hb; replace BK672 := bb BK672 hb; replace BK673 := bb BK673 hb; replace BK697 := bb BK697 hb; replace HB := bs hb; (try clear hb)) | ((with_reducible refine zf 79 rfl ?_); refine g1 (some 316) Try.func79 #[.slice A0 l0.length c0] ?_; (with_reducible refine (spec_DrawHoldsBall.calls kj179 _ _ l0 t702 t703 t704 t705 t706 t707 t708 _ ?side1 ?side2 A189.out).mono ?_); (case side1 => repeat (first | exact (Kd.C_below HR0.out HB.out) | (with_reducible refine Kd.C_alloc ?_ _) | (with_reducible refine Kd.C_drewN ?_ _) | (with_reducible refine Kd.C_drew ?_))); (case side2 => exact HC0.out); rintro e w208 ⟨rfl, hb⟩; refine ⟨_, rfl, ?_⟩; replace BK636 := bb BK636 hb; replace BK641 := bb BK641 hb; replace BK649 := bb BK649 hb; replace BK653 := bb BK653 hb; replace BK657 := bb BK657 hb; replace BK672 := bb BK672 hb; replace BK673 := bb BK673 hb; replace BK697 := bb BK697 hb; replace HB := bs hb; (try clear hb)) | ((with_reducible refine zg 50 rfl ?_); refine z3 50 27 0 0 0 ?_; intro gb709 hg w209 BK709 hb; have GW709 := sg hg; have NB636_709 := nl hg BK636; have NB641_709 := nl hg BK641; have NB649_709 := nl hg BK649; have NB653_709 := nl hg BK653; have NB657_709 := nl hg BK657; have NB672_709 := nl hg BK672; have NB673_709 := nl hg BK673; have NB697_709 := nl hg BK697; replace BK636 := bb BK636 hb; replace BK641 := bb BK641 hb; replace BK649 := bb BK649 hb; replace BK653 := bb BK653 hb; replace BK657 := bb BK657 hb; replace BK672 := bb BK672 hb; replace BK673 := bb BK673 hb; replace BK697 := bb BK697 hb; replace HB := bs hb; clear hb hg) | ((with_reducible refine zg 51 rfl ?_); refine z3 51 27 0 0 0 ?_; intro gb710 hg w210 BK710 hb; have GW710 := sg hg; have NB636_710 := nl hg BK636; have NB641_710 := nl hg BK641; have NB649_710 := nl hg BK649; have NB653_710 := nl hg BK653; have NB657_710 := nl hg BK657; have NB672_710 := nl hg BK672; have NB673_710 := nl hg BK673; have NB697_710 := nl hg BK697; have NB709_710 := nl hg BK709; replace BK636 := bb BK636 hb; replace BK641 := bb BK641 hb; replace BK649 := bb BK649 hb; replace BK653 := bb BK653 hb; replace BK657 := bb BK657 hb; replace BK672 := bb BK672 hb; replace BK673 := bb BK673 hb; replace BK697 := bb BK697 hb; replace BK709 := bb BK709 hb; replace HB := bs hb; clear hb hg; obtain ⟨hnb218, hnc218⟩ := zm NB697_709; obtain ⟨hnb219, hnc219⟩ := zn NB709_710; obtain ⟨hcz220_0, hcz220_1, hcz220_2, hfz220_0, hfz220_1, hfz220_2⟩ := cq3 BK709; obtain ⟨hnb228, hnc228⟩ := zm NB697_710; obtain ⟨hcz229_0, hcz229_1, hcz229_2, hfz229_0, hfz229_1, hfz229_2⟩ := cq3 BK710) | ((with_reducible refine zf 43 rfl ?_); refine g1 (some 324) Try.func43 #[.int .i64 t702, .agg #[.int .i64 t703, .int .i64 t704, .int .i64 t705], .agg #[.int .i64 t706, .int .i64 t707, .int .i64 t708]] ?_; (with_reducible refine (impl_HoldsBall.calls kj179 t702 t703 t704 t705 t706 t707 t708 t711 t712 _ A190.out).mono ?_); rintro e w230 ⟨rfl, hb⟩; refine ⟨_, rfl, ?_⟩; replace BK636 := Aside0.mk (blk_below (g := gb636) (o := .cells #[.int .i64 t632, .int .i64 t633, .int .i64 t634] 27 (0, 0)) (bp) hb); replace BK641 := Aside0.mk (blk_below (g := gb641) (o := .cells #[.int .i64 t637, .int .i64 t638, .int .i64 t639] 27 (0, 0)) (bp) hb); replace BK649 := Aside0.mk (blk_below (g := gb649) (o := .cells #[.int .i64 t646, .int .i64 t647, .int .i64 t648] 27 (0, 0)) (bp) hb); replace BK653 := Aside0.mk (blk_below (g := gb653) (o := .cells #[.int .i64 t650, .int .i64 t651] 63 (0, 0)) (bp) hb); replace BK657 := Aside0.mk (blk_below (g := gb657) (o := .cells #[.int .i64 t654, .int .i64 t655] 63 (0, 0)) (bp) hb); replace BK672 := Aside0.mk (blk_below (g := gb672) (o := .cells #[.int .i64 t666, .int .i64 t667, .int .i64 t668] 27 (0, 0)) (bp) hb); replace BK673 := Aside0.mk (blk_below (g := gb673) (o := .cells #[.int .i64 t669, .int .i64 t670, .int .i64 t671] 27 (0, 0)) (bp) hb); replace BK697 := Aside0.mk (blk_below (g := gb697) (o := .cells #[.int .i64 t692, .int .i64 t693, .int .i64 t694] 27 (0, 0)) (bp) hb); replace BK709 := Aside0.mk (blk_below (g := gb709) (o := .cells #[.int .i64 t703, .int .i64 t704, .int .i64 t705] 27 (0, 0)) (bp) hb); replace BK710 := Aside0.mk (blk_below (g := gb710) (o := .cells #[.int .i64 t706, .int .i64 t707, .int .i64 t708] 27 (0, 0)) (bp) hb); replace HB := bs hb; (try clear hb); obtain ⟨hcz231_0, hcz231_1, hcz231_2, hfz231_0, hfz231_1, hfz231_2⟩ := cq3 BK709; obtain ⟨hcz232_0, hcz232_1, hcz232_2, hfz232_0, hfz232_1, hfz232_2⟩ := cq3 BK710) | ((with_reducible refine zf 80 rfl ?_); refine g1 (some 331) Try.func80 #[.int .i64 t702, .agg #[.int .i64 t703, .int .i64 t704, .int .i64 t705], .agg #[.int .i64 t706, .int .i64 t707, .int .i64 t708]] ?_; (with_reducible refine (spec_HoldsBall.calls kj179 t702 t703 t704 t705 t706 t707 t708 t713 t714 _ A191.out).mono ?_); rintro e w233 ⟨rfl, hb⟩; refine ⟨_, rfl, ?_⟩; replace BK636 := bb BK636 hb; replace BK641 := bb BK641 hb; replace BK649 := bb BK649 hb; replace BK653 := bb BK653 hb; replace BK657 := bb BK657 hb; replace BK672 := bb BK672 hb; replace BK673 := bb BK673 hb; replace BK697 := bb BK697 hb; replace BK709 := bb BK709 hb; replace BK710 := bb BK710 hb; replace HB := bs hb; (try clear hb)))
          go_ret
          exact ⟨er, bl⟩
         ·obtain ⟨c194b0, c194b1⟩ := zy c194
          exact absurd ((Option.some.inj H).trans hr.out) (by simp)
        ·have c193b0 : (t698 == t700) = false := by simpa using c193
         (try (have c193b1 : decide (t698 = t700) = false := by simpa using c193))
         (try (have c193b2 : (t698 == t700) = false := by simpa using c193))
         (try (have c193b3 : ¬ (t698 = t700) := by simpa using c193))
         clear c193
         exact absurd ((Option.some.inj H).trans hr.out) (by simp)
       ·obtain ⟨c192b0, c192b1⟩ := zy c192
        exact absurd ((Option.some.inj H).trans hr.out) (by simp)
end Go.Proofs.Ytpmepopagapeiaa.PFnBalls

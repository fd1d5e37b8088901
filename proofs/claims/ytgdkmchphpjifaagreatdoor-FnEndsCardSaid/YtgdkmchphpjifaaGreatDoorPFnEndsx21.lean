-- Printed by the kit's print and repaired by a program of this session.
import Derived.Test.YtgdkmchphpjifaaGreatDoorPFnEndsx0
import Derived.Test.YtgdkmchphpjifaaGreatDoorPFnEndsx1
import Derived.Test.YtgdkmchphpjifaaGreatDoorPFnEndsx2
import Derived.Test.YtgdkmchphpjifaaGreatDoorPFnEndsx3
import Derived.Test.YtgdkmchphpjifaaGreatDoorPFnEndsx4
import Derived.Test.YtgdkmchphpjifaaGreatDoorPFnEndsx7
import Derived.Test.YtgdkmchphpjifaaGreatDoorPFnEndsx9
import Derived.Test.YtgdkmchphpjifaaGreatDoorPFnEndsx10
import Derived.Test.YtgdkmchphpjifaaGreatDoorPFnEndsx11
import Derived.Test.YtgdkmchphpjifaaGreatDoorPFnEndsx12
import Derived.Test.YtgdkmchphpjifaaGreatDoorPFnEndsx13
import Derived.Test.YtgdkmchphpjifaaGreatDoorPFnEndsx16
import Derived.Test.YtgdkmchphpjifaaGreatDoorPFnEndsx17
import Derived.Test.YtgdkmchphpjifaaGreatDoorPFnEndsx19
import Derived.Deep.Light
import Derived.Test.YtgdkmchphpjifaaGreatDoorPFnEndsx20
namespace Go.Proofs.YtgdkmchphpjifaaGreatDoor.PFnEnds
open Go.RowKit Go.Proofs.YtgdkmchphpjifaaGreatDoorW.PrintWords Go.Proofs.YtgdkmchphpjifaaGreatDoorW.PrintLast Go.Proofs.YtgdkmchphpjifaaGreatDoorW.PrintMore
attribute [local go_sem] max2_int min2_int max_two min_two max_three min_three max_four min_four
set_option linter.unusedVariables false
set_option linter.unusedSimpArgs false

attribute [local go_sem high] eqA27 eqA35
set_option maxHeartbeats 60000000 in
set_option maxRecDepth 100000 in
theorem laws_FnEnds.part {A0 : Option Addr} {c0 : Nat} {l0 : List Int} {r : Bool} {w : World} {t673} {t674} {t675} {t676} {t677} {t679} {t680} {t681} {t694} {t695} {t696} {t697} {t699} {t700} {t701} {t702} {gb678 : Nat} {gb682 : Nat} {gb698 : Nat} {kj53 : Nat} {kq : Nat} {wc : World}
    {aa ab ac ae af ag ah ai aj ak al am an ao ap aq ar au av aw ax ay az bc bf bg bh bi bj bk bm bo bq br bu bv bw bx bz ca cb cd ce cg ch ci cj ck cl cm cn co cp cq cr ct cu cv cw cx cy cz da db dc dd de df dg dh di dj dk dl dm dn dp dq dr dt du dv dw dx dy dz ea eb ec ed ee ef eg eh ei ej ek el em en eo ep eq es et eu ev ew ex ey ez fa fb fc fd fe ff fg fh fi fj fk fl fm fo fp fq ft fu fv fw fx fy fz ga gb gc ge gf gg gh gi gj gk gl gm gn go gp gq gr gt gu gv gw gx gy gz ia ib ic ie ig ij ik il im io ip iq ir it iu iv iw ix iy iz ja jb jc jd je jf jg jh ji jj jk jl jm jn jo jp jq jr js jt ju jv jw jx jy jz la lb lc ld le lf lg lh ll lm ln lo lp lq lr ls lt lu lv lw lx ly lz ma mb : Value}
    (HA : Aside0 (laws_FnEnds.j3 kq l0 = some r)) (HJ64 : Aside0 (kq ≤ kj53)) (BK678 : Aside0 (wc.heap[gb678]? = some (.cells #[.int .i64 t675, .int .i64 t676] 27 (0, 0)))) (BK682 : Aside0 (wc.heap[gb682]? = some (.cells #[.int .i64 t679, .int .i64 t680] 27 (0, 0)))) (BK698 : Aside0 (wc.heap[gb698]? = some (.cells #[.int .i64 t695, .int .i64 t696, .int .i64 t697] 35 (0, 0)))) (HB : Aside0 (Below w.heap.size w wc)) (GW678 : Aside0 (w.heap.size ≤ gb678)) (GW682 : Aside0 (w.heap.size ≤ gb682)) (GW698 : Aside0 (w.heap.size ≤ gb698)) (NB678_682 : Aside0 (gb678 ≠ gb682)) (NB678_698 : Aside0 (gb678 ≠ gb698)) (NB682_698 : Aside0 (gb682 ≠ gb698)) (HR0 : Aside0 (Kd.C (Kd.int .u8) w A0 l0.length l0)) (HC0 : Aside0 (l0.length ≤ c0)) (hr : Aside0 (r = true)) (htab : TabW w) :
    Code.wp Tryz.prog ((sufO 12 Tryz.f3.body).getD .ret) (bodyPost Tryz.prog Tryz.f3 fun e w' => e = .returned (.bool r) ∧ Below w.heap.size w w') { tmps := #[Value.slice A0 l0.length c0, undef, aa, Value.int IntKind.i64 t673, Value.int IntKind.i64 t674, Value.pointer (some { block := gb678, off := 0 }), Value.int IntKind.i64 t677, Value.pointer (some { block := gb682, off := 0 }), Value.int IntKind.i64 t681, ab, ac, ae, af, ag, ah, Value.int IntKind.i64 t694, Value.pointer (some { block := gb698, off := 0 }), Value.string t699, Value.int IntKind.i64 t700, Value.string t701, Value.int IntKind.i64 t702, ai, aj, undef, undef, undef, undef, undef, undef, undef, undef, undef, undef, undef, undef, undef, undef, undef, undef, undef, undef, undef, undef, undef, undef, undef, undef, ak, al, am, an, ao, ap, aq, ar, au, av, aw, ax, ay, az, bc, bf, bg, bh, bi, bj, bk, bm, bo, bq, br, bu, bv, bw, bx, bz, ca, cb, cd, ce, cg, ch, ci, cj, ck, cl, cm, cn, co, cp, cq, cr, ct, cu, cv, cw, cx, cy, cz, da, db, dc, dd, de, df, dg, dh, di, dj, dk, dl, dm, dn, dp, dq, dr, dt, du, dv, dw, dx, dy, dz, ea, eb, ec, ed, ee, ef, eg, eh, ei, ej, ek, el, em, en, eo, ep, eq, es, et, eu, ev, ew, ex, ey, ez, fa, fb, fc, fd, fe, ff, fg, fh, fi, fj, fk, fl, fm, fo, fp, fq, ft, fu, fv, fw, fx, fy, fz, ga, gb, gc, ge, gf, gg, gh, gi, gj, gk, gl, gm, gn, go, gp, gq, gr, gt, gu, gv, gw, gx, gy, gz, ia, ib, ic, ie, ig, ij, ik, il, im, io, ip, iq, ir, it, iu, iv, iw, ix, iy, iz, ja, jb, jc, jd, je, jf, jg, jh, ji, jj, jk, jl, jm, jn, jo, jp, jq, jr, js, jt, ju, jv, jw, jx, jy, jz, la, lb, lc, ld, le, lf, lg, lh, ll, lm, ln, lo, lp, lq, lr, ls, lt, lu, lv, lw, lx, ly, lz, ma, mb], defers := [] } wc := by
 refine sufWp rfl ?_
 cases kq with
 | zero => exact absurd HA.out (by simp [laws_FnEnds.j3])
 | succ kj64 =>
  have H := HA.out
  clear HA
  rw [laws_FnEnds.j3] at H
  replace H := zi H
  obtain ⟨⟨t708, t709⟩, A79, H⟩ := H
  try dsimp only at H
  replace H := zi H
  obtain ⟨⟨t710, t711, t712, t713⟩, A80, H⟩ := H
  try dsimp only at H
  replace H := zi H
  obtain ⟨⟨t715, t716, t717, t718⟩, A81, H⟩ := H
  try dsimp only at H
  replace H := zi H
  obtain ⟨t720, A82, H⟩ := H
  try dsimp only at H
  replace H := zi H
  obtain ⟨⟨t721, t722, t723⟩, A83, H⟩ := H
  try dsimp only at H
  replace H := zi H
  obtain ⟨⟨t725, t726, t727⟩, A84, H⟩ := H
  try dsimp only at H
  replace H := zi H
  obtain ⟨⟨t729, t730, t731, t732⟩, A85, H⟩ := H
  try dsimp only at H
  replace H := zi H
  obtain ⟨⟨t734, t735, t736, t737⟩, A86, H⟩ := H
  try dsimp only at H
  replace H := zi H
  obtain ⟨⟨t739, t740, t741, t742⟩, A87, H⟩ := H
  try dsimp only at H
  replace H := zi H
  obtain ⟨⟨t744, t745⟩, A88, H⟩ := H
  try dsimp only at H
  replace H := zi H
  obtain ⟨⟨t747, t748⟩, A89, H⟩ := H
  try dsimp only at H
  replace H := zi H
  obtain ⟨⟨t749, t750⟩, A90, H⟩ := H
  try dsimp only at H
  replace H := zi H
  obtain ⟨⟨t751, t752⟩, A91, H⟩ := H
  try dsimp only at H
  replace H := ii H
  rcases H with ⟨c92, H⟩ | ⟨c92, H⟩
  ·obtain ⟨c92b0, c92b1⟩ := zz c92
   clear c92
   replace H := ii H
   rcases H with ⟨c93, H⟩ | ⟨c93, H⟩
   ·have c93b0 : (t710 == t715 && (t711 == t716 && (t712 == t717))) = true := c93
    (try (have c93b1 : decide (t710 = t715 && (t711 == t716 && (t712 == t717))) = true := by simpa using c93))
    (try (have c93b2 : (t710 == t715 && (t711 == t716 && (t712 == t717))) = true := by simpa using c93))
    clear c93
    replace H := ii H
    rcases H with ⟨c94, H⟩ | ⟨c94, H⟩
    ·obtain ⟨c94b0, c94b1⟩ := zz c94
     clear c94
     replace H := ii H
     rcases H with ⟨c95, H⟩ | ⟨c95, H⟩
     ·have c95b0 : (t721 == t725 && (t722 == t726)) = true := c95
      (try (have c95b1 : decide (t721 = t725 && (t722 == t726)) = true := by simpa using c95))
      (try (have c95b2 : (t721 == t725 && (t722 == t726)) = true := by simpa using c95))
      clear c95
      replace H := ii H
      rcases H with ⟨c96, H⟩ | ⟨c96, H⟩
      ·obtain ⟨c96b0, c96b1⟩ := zz c96
       clear c96
       replace H := ii H
       rcases H with ⟨c97, H⟩ | ⟨c97, H⟩
       ·have c97b0 : (t734 == t739 && (t735 == t740 && (t736 == t741))) = true := c97
        (try (have c97b1 : decide (t734 = t739 && (t735 == t740 && (t736 == t741))) = true := by simpa using c97))
        (try (have c97b2 : (t734 == t739 && (t735 == t740 && (t736 == t741))) = true := by simpa using c97))
        clear c97
        replace H := ii H
        rcases H with ⟨c98, H⟩ | ⟨c98, H⟩
        ·obtain ⟨c98b0, c98b1⟩ := zz c98
         clear c98
         replace H := ii H
         rcases H with ⟨c99, H⟩ | ⟨c99, H⟩
         ·obtain ⟨c99b0, c99b1⟩ := zz c99
          clear c99
          replace H := zi H
          obtain ⟨t754, A100, H⟩ := H
          try dsimp only at H
          replace H := zi H
          obtain ⟨t755, A101, H⟩ := H
          try dsimp only at H
          obtain rfl := Option.some.inj H
          try go_wp2_with (first | ((with_reducible refine zf 15 rfl ?_); refine g1 (some 161) Tryz.func15 #[.slice A0 l0.length c0] ?_; (with_reducible refine (spec_DrawParseBall.calls kj64 _ _ l0 t708 t709 _ ?side1 ?side2 A79.out).mono ?_); (case side1 => repeat (first | exact (Kd.C_below HR0.out HB.out) | (with_reducible refine Kd.C_alloc ?_ _) | (with_reducible refine Kd.C_drewN ?_ _) | (with_reducible refine Kd.C_drew ?_))); (case side2 => exact HC0.out); rintro e w102 ⟨rfl, hb⟩; refine ⟨_, rfl, ?_⟩; replace BK678 := bb BK678 hb; replace BK682 := bb BK682 hb; replace BK698 := bb BK698 hb; replace HB := bs hb; (try clear hb)) | ((with_reducible refine zf 14 rfl ?_); refine g1 (some 167) Tryz.func14 #[.int .i64 t708, .string t709] ?_; (with_reducible refine (impl_ParseBall.calls kj64 t708 t709 t710 t711 t712 t713 _ A80.out).mono ?_); rintro e w103 ⟨rfl, hb⟩; refine ⟨_, rfl, ?_⟩; replace BK678 := bb BK678 hb; replace BK682 := bb BK682 hb; replace BK698 := bb BK698 hb; replace HB := bs hb; (try clear hb)) | ((with_reducible refine zg 25 rfl ?_); refine z3 25 35 0 0 0 ?_; intro gb714 hg w104 BK714 hb; have GW714 := sg hg; have NB678_714 := nl hg BK678; have NB682_714 := nl hg BK682; have NB698_714 := nl hg BK698; replace BK678 := bb BK678 hb; replace BK682 := bb BK682 hb; replace BK698 := bb BK698 hb; replace HB := bs hb; clear hb hg; obtain ⟨hcz108_0, hcz108_1, hcz108_2, hfz108_0, hfz108_1, hfz108_2⟩ := cq3 BK714) | ((with_reducible refine zf 16 rfl ?_); refine g1 (some 173) Tryz.func16 #[.int .i64 t708, .string t709] ?_; (with_reducible refine (spec_ParseBall.calls kj64 t708 t709 t715 t716 t717 t718 _ A81.out).mono ?_); rintro e w109 ⟨rfl, hb⟩; refine ⟨_, rfl, ?_⟩; replace BK678 := Aside0.mk (blk_below (g := gb678) (o := .cells #[.int .i64 t675, .int .i64 t676] 27 (0, 0)) (bp) hb); replace BK682 := Aside0.mk (blk_below (g := gb682) (o := .cells #[.int .i64 t679, .int .i64 t680] 27 (0, 0)) (bp) hb); replace BK698 := Aside0.mk (blk_below (g := gb698) (o := .cells #[.int .i64 t695, .int .i64 t696, .int .i64 t697] 35 (0, 0)) (bp) hb); replace BK714 := Aside0.mk (blk_below (g := gb714) (o := .cells #[.int .i64 t710, .int .i64 t711, .int .i64 t712] 35 (0, 0)) (bp) hb); replace HB := bs hb; (try clear hb)) | ((with_reducible refine zg 27 rfl ?_); refine z3 27 35 0 0 0 ?_; intro gb719 hg w110 BK719 hb; have GW719 := sg hg; have NB678_719 := nl hg BK678; have NB682_719 := nl hg BK682; have NB698_719 := nl hg BK698; have NB714_719 := nl hg BK714; replace BK678 := bb BK678 hb; replace BK682 := bb BK682 hb; replace BK698 := bb BK698 hb; replace BK714 := bb BK714 hb; replace HB := bs hb; clear hb hg; obtain ⟨hnb114, hnc114⟩ := zm NB714_719; obtain ⟨hcz115_0, hcz115_1, hcz115_2, hfz115_0, hfz115_1, hfz115_2⟩ := cq3 BK719) | ((with_reducible refine zf 17 rfl ?_); refine g1 (some 177) Tryz.func17 #[.slice A0 l0.length c0] ?_; (with_reducible refine (spec_DrawParseEnd.calls kj64 _ _ l0 t720 _ ?side1 ?side2 A82.out).mono ?_); (case side1 => exact Kd.C_below HR0.out (bl)); (case side2 => exact HC0.out); rintro e w116 ⟨rfl, hb⟩; refine ⟨_, rfl, ?_⟩; replace BK678 := Aside0.mk (blk_below (g := gb678) (o := .cells #[.int .i64 t675, .int .i64 t676] 27 (0, 0)) (bp) hb); replace BK682 := Aside0.mk (blk_below (g := gb682) (o := .cells #[.int .i64 t679, .int .i64 t680] 27 (0, 0)) (bp) hb); replace BK698 := Aside0.mk (blk_below (g := gb698) (o := .cells #[.int .i64 t695, .int .i64 t696, .int .i64 t697] 35 (0, 0)) (bp) hb); replace BK714 := Aside0.mk (blk_below (g := gb714) (o := .cells #[.int .i64 t710, .int .i64 t711, .int .i64 t712] 35 (0, 0)) (bp) hb); replace BK719 := Aside0.mk (blk_below (g := gb719) (o := .cells #[.int .i64 t715, .int .i64 t716, .int .i64 t717] 35 (0, 0)) (bp) hb); replace HB := bs hb; (try clear hb)) | ((with_reducible refine zf 9 rfl ?_); refine g1 (some 180) Tryz.func9 #[.string t720] ?_; (with_reducible refine (impl_ParseEnd.calls kj64 t720 t721 t722 t723 _ A83.out).mono ?_); rintro e w117 ⟨rfl, hb⟩; refine ⟨_, rfl, ?_⟩; replace BK678 := bb BK678 hb; replace BK682 := bb BK682 hb; replace BK698 := bb BK698 hb; replace BK714 := bb BK714 hb; replace BK719 := bb BK719 hb; replace HB := bs hb; (try clear hb)) | ((with_reducible refine zg 30 rfl ?_); refine zb 30 27 #[.int .i64 0, .int .i64 0] ?_; intro gb724 hg w118 BK724 hb; have GW724 := sg hg; have NB678_724 := nl hg BK678; have NB682_724 := nl hg BK682; have NB698_724 := nl hg BK698; have NB714_724 := nl hg BK714; have NB719_724 := nl hg BK719; replace BK678 := bb BK678 hb; replace BK682 := bb BK682 hb; replace BK698 := bb BK698 hb; replace BK714 := bb BK714 hb; replace BK719 := bb BK719 hb; replace HB := bs hb; clear hb hg; obtain ⟨hnb122, hnc122⟩ := zm NB714_724; obtain ⟨hnb123, hnc123⟩ := zm NB719_724; obtain ⟨hcz124_0, hcz124_1, hfz124_0, hfz124_1⟩ := z2 BK724) | ((with_reducible refine zf 18 rfl ?_); refine g1 (some 185) Tryz.func18 #[.string t720] ?_; (with_reducible refine (spec_ParseEnd.calls kj64 t720 t725 t726 t727 _ A84.out).mono ?_); rintro e w125 ⟨rfl, hb⟩; refine ⟨_, rfl, ?_⟩; replace BK678 := Aside0.mk (blk_below (g := gb678) (o := .cells #[.int .i64 t675, .int .i64 t676] 27 (0, 0)) (bp) hb); replace BK682 := Aside0.mk (blk_below (g := gb682) (o := .cells #[.int .i64 t679, .int .i64 t680] 27 (0, 0)) (bp) hb); replace BK698 := Aside0.mk (blk_below (g := gb698) (o := .cells #[.int .i64 t695, .int .i64 t696, .int .i64 t697] 35 (0, 0)) (bp) hb); replace BK714 := Aside0.mk (blk_below (g := gb714) (o := .cells #[.int .i64 t710, .int .i64 t711, .int .i64 t712] 35 (0, 0)) (bp) hb); replace BK719 := Aside0.mk (blk_below (g := gb719) (o := .cells #[.int .i64 t715, .int .i64 t716, .int .i64 t717] 35 (0, 0)) (bp) hb); replace BK724 := Aside0.mk (blk_below (g := gb724) (o := .cells #[.int .i64 t721, .int .i64 t722] 27 (0, 0)) (bp) hb); replace HB := bs hb; (try clear hb)) | ((with_reducible refine zg 32 rfl ?_); refine zb 32 27 #[.int .i64 0, .int .i64 0] ?_; intro gb728 hg w126 BK728 hb; have GW728 := sg hg; have NB678_728 := nl hg BK678; have NB682_728 := nl hg BK682; have NB698_728 := nl hg BK698; have NB714_728 := nl hg BK714; have NB719_728 := nl hg BK719; have NB724_728 := nl hg BK724; replace BK678 := bb BK678 hb; replace BK682 := bb BK682 hb; replace BK698 := bb BK698 hb; replace BK714 := bb BK714 hb; replace BK719 := bb BK719 hb; replace BK724 := bb BK724 hb; replace HB := bs hb; clear hb hg; obtain ⟨hnb130, hnc130⟩ := zm NB714_728; obtain ⟨hnb131, hnc131⟩ := zm NB719_728; obtain ⟨hnb132, hnc132⟩ := zm NB724_728; obtain ⟨hcz133_0, hcz133_1, hfz133_0, hfz133_1⟩ := z2 BK728) | ((with_reducible refine zf 19 rfl ?_); refine g1 (some 190) Tryz.func19 #[.slice A0 l0.length c0] ?_; (with_reducible refine (spec_DrawBallOfEnd.calls kj64 _ _ l0 t729 t730 t731 t732 _ ?side1 ?side2 A85.out).mono ?_); (case side1 => exact Kd.C_below HR0.out (bl)); (case side2 => exact HC0.out); rintro e w134 ⟨rfl, hb⟩; refine ⟨_, rfl, ?_⟩; replace BK678 := Aside0.mk (blk_below (g := gb678) (o := .cells #[.int .i64 t675, .int .i64 t676] 27 (0, 0)) (bp) hb); replace BK682 := Aside0.mk (blk_below (g := gb682) (o := .cells #[.int .i64 t679, .int .i64 t680] 27 (0, 0)) (bp) hb); replace BK698 := Aside0.mk (blk_below (g := gb698) (o := .cells #[.int .i64 t695, .int .i64 t696, .int .i64 t697] 35 (0, 0)) (bp) hb); replace BK714 := Aside0.mk (blk_below (g := gb714) (o := .cells #[.int .i64 t710, .int .i64 t711, .int .i64 t712] 35 (0, 0)) (bp) hb); replace BK719 := Aside0.mk (blk_below (g := gb719) (o := .cells #[.int .i64 t715, .int .i64 t716, .int .i64 t717] 35 (0, 0)) (bp) hb); replace BK724 := Aside0.mk (blk_below (g := gb724) (o := .cells #[.int .i64 t721, .int .i64 t722] 27 (0, 0)) (bp) hb); replace BK728 := Aside0.mk (blk_below (g := gb728) (o := .cells #[.int .i64 t725, .int .i64 t726] 27 (0, 0)) (bp) hb); replace HB := bs hb; (try clear hb)) | ((with_reducible refine zg 35 rfl ?_); refine zb 35 27 #[.int .i64 0, .int .i64 0] ?_; intro gb733 hg w135 BK733 hb; have GW733 := sg hg; have NB678_733 := nl hg BK678; have NB682_733 := nl hg BK682; have NB698_733 := nl hg BK698; have NB714_733 := nl hg BK714; have NB719_733 := nl hg BK719; have NB724_733 := nl hg BK724; have NB728_733 := nl hg BK728; replace BK678 := bb BK678 hb; replace BK682 := bb BK682 hb; replace BK698 := bb BK698 hb; replace BK714 := bb BK714 hb; replace BK719 := bb BK719 hb; replace BK724 := bb BK724 hb; replace BK728 := bb BK728 hb; replace HB := bs hb; clear hb hg; obtain ⟨hnb139, hnc139⟩ := zm NB714_733; obtain ⟨hnb140, hnc140⟩ := zm NB719_733; obtain ⟨hnb141, hnc141⟩ := zm NB724_733; obtain ⟨hnb142, hnc142⟩ := zm NB728_733; obtain ⟨hcz143_0, hcz143_1, hfz143_0, hfz143_1⟩ := z2 BK733) | ((with_reducible refine zf 20 rfl ?_); refine g1 (some 198) Tryz.func20 #[.int .i64 t729, .agg #[.int .i64 t730, .int .i64 t731], .int .i64 t732] ?_; (with_reducible refine (impl_BallOfEnd.calls kj64 t729 t730 t731 t732 t734 t735 t736 t737 _ A86.out).mono ?_); rintro e w144 ⟨rfl, hb⟩; refine ⟨_, rfl, ?_⟩; replace BK678 := Aside0.mk (blk_below (g := gb678) (o := .cells #[.int .i64 t675, .int .i64 t676] 27 (0, 0)) (bp) hb); replace BK682 := Aside0.mk (blk_below (g := gb682) (o := .cells #[.int .i64 t679, .int .i64 t680] 27 (0, 0)) (bp) hb); replace BK698 := Aside0.mk (blk_below (g := gb698) (o := .cells #[.int .i64 t695, .int .i64 t696, .int .i64 t697] 35 (0, 0)) (bp) hb); replace BK714 := Aside0.mk (blk_below (g := gb714) (o := .cells #[.int .i64 t710, .int .i64 t711, .int .i64 t712] 35 (0, 0)) (bp) hb); replace BK719 := Aside0.mk (blk_below (g := gb719) (o := .cells #[.int .i64 t715, .int .i64 t716, .int .i64 t717] 35 (0, 0)) (bp) hb); replace BK724 := Aside0.mk (blk_below (g := gb724) (o := .cells #[.int .i64 t721, .int .i64 t722] 27 (0, 0)) (bp) hb); replace BK728 := Aside0.mk (blk_below (g := gb728) (o := .cells #[.int .i64 t725, .int .i64 t726] 27 (0, 0)) (bp) hb); replace BK733 := Aside0.mk (blk_below (g := gb733) (o := .cells #[.int .i64 t730, .int .i64 t731] 27 (0, 0)) (bp) hb); replace HB := bs hb; (try clear hb)) | ((with_reducible refine zg 37 rfl ?_); refine z3 37 35 0 0 0 ?_; intro gb738 hg w145 BK738 hb; have GW738 := sg hg; have NB678_738 := nl hg BK678; have NB682_738 := nl hg BK682; have NB698_738 := nl hg BK698; have NB714_738 := nl hg BK714; have NB719_738 := nl hg BK719; have NB724_738 := nl hg BK724; have NB728_738 := nl hg BK728; have NB733_738 := nl hg BK733; replace BK678 := bb BK678 hb; replace BK682 := bb BK682 hb; replace BK698 := bb BK698 hb; replace BK714 := bb BK714 hb; replace BK719 := bb BK719 hb; replace BK724 := bb BK724 hb; replace BK728 := bb BK728 hb; replace BK733 := bb BK733 hb; replace HB := bs hb; clear hb hg; obtain ⟨hnb149, hnc149⟩ := zm NB714_738; obtain ⟨hnb150, hnc150⟩ := zm NB719_738; obtain ⟨hnb151, hnc151⟩ := zm NB724_738; obtain ⟨hnb152, hnc152⟩ := zm NB728_738; obtain ⟨hnb153, hnc153⟩ := zm NB733_738; obtain ⟨hcz154_0, hcz154_1, hcz154_2, hfz154_0, hfz154_1, hfz154_2⟩ := cq3 BK738; obtain ⟨hcz155_0, hcz155_1, hfz155_0, hfz155_1⟩ := z2 BK733) | ((with_reducible refine zf 21 rfl ?_); refine g1 (some 205) Tryz.func21 #[.int .i64 t729, .agg #[.int .i64 t730, .int .i64 t731], .int .i64 t732] ?_; (with_reducible refine (spec_BallOfEnd.calls kj64 t729 t730 t731 t732 t739 t740 t741 t742 _ A87.out).mono ?_); rintro e w156 ⟨rfl, hb⟩; refine ⟨_, rfl, ?_⟩; replace BK678 := Aside0.mk (blk_below (g := gb678) (o := .cells #[.int .i64 t675, .int .i64 t676] 27 (0, 0)) (bp) hb); replace BK682 := Aside0.mk (blk_below (g := gb682) (o := .cells #[.int .i64 t679, .int .i64 t680] 27 (0, 0)) (bp) hb); replace BK698 := Aside0.mk (blk_below (g := gb698) (o := .cells #[.int .i64 t695, .int .i64 t696, .int .i64 t697] 35 (0, 0)) (bp) hb); replace BK714 := Aside0.mk (blk_below (g := gb714) (o := .cells #[.int .i64 t710, .int .i64 t711, .int .i64 t712] 35 (0, 0)) (bp) hb); replace BK719 := Aside0.mk (blk_below (g := gb719) (o := .cells #[.int .i64 t715, .int .i64 t716, .int .i64 t717] 35 (0, 0)) (bp) hb); replace BK724 := Aside0.mk (blk_below (g := gb724) (o := .cells #[.int .i64 t721, .int .i64 t722] 27 (0, 0)) (bp) hb); replace BK728 := Aside0.mk (blk_below (g := gb728) (o := .cells #[.int .i64 t725, .int .i64 t726] 27 (0, 0)) (bp) hb); replace BK733 := Aside0.mk (blk_below (g := gb733) (o := .cells #[.int .i64 t730, .int .i64 t731] 27 (0, 0)) (bp) hb); replace BK738 := Aside0.mk (blk_below (g := gb738) (o := .cells #[.int .i64 t734, .int .i64 t735, .int .i64 t736] 35 (0, 0)) (bp) hb); replace HB := bs hb; (try clear hb)) | ((with_reducible refine zg 39 rfl ?_); refine z3 39 35 0 0 0 ?_; intro gb743 hg w157 BK743 hb; have GW743 := sg hg; have NB678_743 := nl hg BK678; have NB682_743 := nl hg BK682; have NB698_743 := nl hg BK698; have NB714_743 := nl hg BK714; have NB719_743 := nl hg BK719; have NB724_743 := nl hg BK724; have NB728_743 := nl hg BK728; have NB733_743 := nl hg BK733; have NB738_743 := nl hg BK738; replace BK678 := bb BK678 hb; replace BK682 := bb BK682 hb; replace BK698 := bb BK698 hb; replace BK714 := bb BK714 hb; replace BK719 := bb BK719 hb; replace BK724 := bb BK724 hb; replace BK728 := bb BK728 hb; replace BK733 := bb BK733 hb; replace BK738 := bb BK738 hb; replace HB := bs hb; clear hb hg; obtain ⟨hnb161, hnc161⟩ := zm NB714_743; obtain ⟨hnb162, hnc162⟩ := zm NB719_743; obtain ⟨hnb163, hnc163⟩ := zm NB724_743; obtain ⟨hnb164, hnc164⟩ := zm NB728_743; obtain ⟨hnb165, hnc165⟩ := zm NB733_743; obtain ⟨hnb166, hnc166⟩ := zm NB738_743; obtain ⟨hcz167_0, hcz167_1, hcz167_2, hfz167_0, hfz167_1, hfz167_2⟩ := cq3 BK743) | ((with_reducible refine zf 22 rfl ?_); refine g1 (some 209) Tryz.func22 #[.slice A0 l0.length c0] ?_; (with_reducible refine (spec_DrawEndText.calls kj64 _ _ l0 t744 t745 _ ?side1 ?side2 A88.out).mono ?_); (case side1 => exact Kd.C_below HR0.out (bl)); (case side2 => exact HC0.out); rintro e w168 ⟨rfl, hb⟩; refine ⟨_, rfl, ?_⟩; replace BK678 := Aside0.mk (blk_below (g := gb678) (o := .cells #[.int .i64 t675, .int .i64 t676] 27 (0, 0)) (bp) hb); replace BK682 := Aside0.mk (blk_below (g := gb682) (o := .cells #[.int .i64 t679, .int .i64 t680] 27 (0, 0)) (bp) hb); replace BK698 := Aside0.mk (blk_below (g := gb698) (o := .cells #[.int .i64 t695, .int .i64 t696, .int .i64 t697] 35 (0, 0)) (bp) hb); replace BK714 := Aside0.mk (blk_below (g := gb714) (o := .cells #[.int .i64 t710, .int .i64 t711, .int .i64 t712] 35 (0, 0)) (bp) hb); replace BK719 := Aside0.mk (blk_below (g := gb719) (o := .cells #[.int .i64 t715, .int .i64 t716, .int .i64 t717] 35 (0, 0)) (bp) hb); replace BK724 := Aside0.mk (blk_below (g := gb724) (o := .cells #[.int .i64 t721, .int .i64 t722] 27 (0, 0)) (bp) hb); replace BK728 := Aside0.mk (blk_below (g := gb728) (o := .cells #[.int .i64 t725, .int .i64 t726] 27 (0, 0)) (bp) hb); replace BK733 := Aside0.mk (blk_below (g := gb733) (o := .cells #[.int .i64 t730, .int .i64 t731] 27 (0, 0)) (bp) hb); replace BK738 := Aside0.mk (blk_below (g := gb738) (o := .cells #[.int .i64 t734, .int .i64 t735, .int .i64 t736] 35 (0, 0)) (bp) hb); replace BK743 := Aside0.mk (blk_below (g := gb743) (o := .cells #[.int .i64 t739, .int .i64 t740, .int .i64 t741] 35 (0, 0)) (bp) hb); replace HB := bs hb; (try clear hb)) | ((with_reducible refine zg 41 rfl ?_); refine zb 41 27 #[.int .i64 0, .int .i64 0] ?_; intro gb746 hg w169 BK746 hb; have GW746 := sg hg; have NB678_746 := nl hg BK678; have NB682_746 := nl hg BK682; have NB698_746 := nl hg BK698; have NB714_746 := nl hg BK714; have NB719_746 := nl hg BK719; have NB724_746 := nl hg BK724; have NB728_746 := nl hg BK728; have NB733_746 := nl hg BK733; have NB738_746 := nl hg BK738; have NB743_746 := nl hg BK743; replace BK678 := bb BK678 hb; replace BK682 := bb BK682 hb; replace BK698 := bb BK698 hb; replace BK714 := bb BK714 hb; replace BK719 := bb BK719 hb; replace BK724 := bb BK724 hb; replace BK728 := bb BK728 hb; replace BK733 := bb BK733 hb; replace BK738 := bb BK738 hb; replace BK743 := bb BK743 hb; replace HB := bs hb; clear hb hg; obtain ⟨hnb173, hnc173⟩ := zm NB714_746; obtain ⟨hnb174, hnc174⟩ := zm NB719_746; obtain ⟨hnb175, hnc175⟩ := zm NB724_746; obtain ⟨hnb176, hnc176⟩ := zm NB728_746; obtain ⟨hnb177, hnc177⟩ := zm NB733_746; obtain ⟨hnb178, hnc178⟩ := zm NB738_746; obtain ⟨hnb179, hnc179⟩ := zm NB743_746; obtain ⟨hcz180_0, hcz180_1, hfz180_0, hfz180_1⟩ := z2 BK746) | ((with_reducible refine zf 8 rfl ?_); refine g1 (some 212) Tryz.func8 #[.agg #[.int .i64 t744, .int .i64 t745]] ?_; (with_reducible refine (impl_EndText.calls kj64 t744 t745 t747 t748 _ A89.out).mono ?_); rintro e w181 ⟨rfl, hb⟩; refine ⟨_, rfl, ?_⟩; replace BK678 := Aside0.mk (blk_below (g := gb678) (o := .cells #[.int .i64 t675, .int .i64 t676] 27 (0, 0)) (bp) hb); replace BK682 := Aside0.mk (blk_below (g := gb682) (o := .cells #[.int .i64 t679, .int .i64 t680] 27 (0, 0)) (bp) hb); replace BK698 := Aside0.mk (blk_below (g := gb698) (o := .cells #[.int .i64 t695, .int .i64 t696, .int .i64 t697] 35 (0, 0)) (bp) hb); replace BK714 := Aside0.mk (blk_below (g := gb714) (o := .cells #[.int .i64 t710, .int .i64 t711, .int .i64 t712] 35 (0, 0)) (bp) hb); replace BK719 := Aside0.mk (blk_below (g := gb719) (o := .cells #[.int .i64 t715, .int .i64 t716, .int .i64 t717] 35 (0, 0)) (bp) hb); replace BK724 := Aside0.mk (blk_below (g := gb724) (o := .cells #[.int .i64 t721, .int .i64 t722] 27 (0, 0)) (bp) hb); replace BK728 := Aside0.mk (blk_below (g := gb728) (o := .cells #[.int .i64 t725, .int .i64 t726] 27 (0, 0)) (bp) hb); replace BK733 := Aside0.mk (blk_below (g := gb733) (o := .cells #[.int .i64 t730, .int .i64 t731] 27 (0, 0)) (bp) hb); replace BK738 := Aside0.mk (blk_below (g := gb738) (o := .cells #[.int .i64 t734, .int .i64 t735, .int .i64 t736] 35 (0, 0)) (bp) hb); replace BK743 := Aside0.mk (blk_below (g := gb743) (o := .cells #[.int .i64 t739, .int .i64 t740, .int .i64 t741] 35 (0, 0)) (bp) hb); replace BK746 := Aside0.mk (blk_below (g := gb746) (o := .cells #[.int .i64 t744, .int .i64 t745] 27 (0, 0)) (bp) hb); replace HB := bs hb; (try clear hb); obtain ⟨hcz182_0, hcz182_1, hfz182_0, hfz182_1⟩ := z2 BK746) | ((with_reducible refine zf 23 rfl ?_); refine g1 (some 217) Tryz.func23 #[.agg #[.int .i64 t744, .int .i64 t745]] ?_; (with_reducible refine (spec_EndText.calls kj64 t744 t745 t749 t750 _ A90.out).mono ?_); rintro e w183 ⟨rfl, hb⟩; refine ⟨_, rfl, ?_⟩; replace BK678 := bb BK678 hb; replace BK682 := bb BK682 hb; replace BK698 := bb BK698 hb; replace BK714 := bb BK714 hb; replace BK719 := bb BK719 hb; replace BK724 := bb BK724 hb; replace BK728 := bb BK728 hb; replace BK733 := bb BK733 hb; replace BK738 := bb BK738 hb; replace BK743 := bb BK743 hb; replace BK746 := bb BK746 hb; replace HB := bs hb; (try clear hb)) | ((with_reducible refine zf 24 rfl ?_); refine g1 (some 221) Tryz.func24 #[.slice A0 l0.length c0] ?_; (with_reducible refine (spec_DrawIsEnd.calls kj64 _ _ l0 t751 t752 _ ?side1 ?side2 A91.out).mono ?_); (case side1 => repeat (first | exact (Kd.C_below HR0.out HB.out) | (with_reducible refine Kd.C_alloc ?_ _) | (with_reducible refine Kd.C_drewN ?_ _) | (with_reducible refine Kd.C_drew ?_))); (case side2 => exact HC0.out); rintro e w184 ⟨rfl, hb⟩; refine ⟨_, rfl, ?_⟩; replace BK678 := bb BK678 hb; replace BK682 := bb BK682 hb; replace BK698 := bb BK698 hb; replace BK714 := bb BK714 hb; replace BK719 := bb BK719 hb; replace BK724 := bb BK724 hb; replace BK728 := bb BK728 hb; replace BK733 := bb BK733 hb; replace BK738 := bb BK738 hb; replace BK743 := bb BK743 hb; replace BK746 := bb BK746 hb; replace HB := bs hb; (try clear hb)) | ((with_reducible refine zg 46 rfl ?_); refine zb 46 27 #[.int .i64 0, .int .i64 0] ?_; intro gb753 hg w185 BK753 hb; have GW753 := sg hg; have NB678_753 := nl hg BK678; have NB682_753 := nl hg BK682; have NB698_753 := nl hg BK698; have NB714_753 := nl hg BK714; have NB719_753 := nl hg BK719; have NB724_753 := nl hg BK724; have NB728_753 := nl hg BK728; have NB733_753 := nl hg BK733; have NB738_753 := nl hg BK738; have NB743_753 := nl hg BK743; have NB746_753 := nl hg BK746; replace BK678 := bb BK678 hb; replace BK682 := bb BK682 hb; replace BK698 := bb BK698 hb; replace BK714 := bb BK714 hb; replace BK719 := bb BK719 hb; replace BK724 := bb BK724 hb; replace BK728 := bb BK728 hb; replace BK733 := bb BK733 hb; replace BK738 := bb BK738 hb; replace BK743 := bb BK743 hb; replace BK746 := bb BK746 hb; replace HB := bs hb; clear hb hg; obtain ⟨hnb189, hnc189⟩ := zm NB714_753; obtain ⟨hnb190, hnc190⟩ := zm NB719_753; obtain ⟨hnb191, hnc191⟩ := zm NB724_753; obtain ⟨hnb192, hnc192⟩ := zm NB728_753; obtain ⟨hnb193, hnc193⟩ := zm NB733_753; obtain ⟨hnb194, hnc194⟩ := zm NB738_753; obtain ⟨hnb195, hnc195⟩ := zm NB743_753; obtain ⟨hnb196, hnc196⟩ := zm NB746_753; obtain ⟨hcz197_0, hcz197_1, hfz197_0, hfz197_1⟩ := z2 BK753))
          as_aux_lemma =>
          have n0_ : Aside0 (((w185.setCell ⟨gb753, 0, none⟩ (.int .i64 t751)).setCell ⟨gb753, 1, none⟩ (.int .i64 t752)).heap[gb678]? = some (.cells #[.int .i64 t675, .int .i64 t676] 27 (0, 0))) := ⟨bp⟩
          have n1_ : Aside0 (((w185.setCell ⟨gb753, 0, none⟩ (.int .i64 t751)).setCell ⟨gb753, 1, none⟩ (.int .i64 t752)).heap[gb682]? = some (.cells #[.int .i64 t679, .int .i64 t680] 27 (0, 0))) := ⟨bp⟩
          have n2_ : Aside0 (((w185.setCell ⟨gb753, 0, none⟩ (.int .i64 t751)).setCell ⟨gb753, 1, none⟩ (.int .i64 t752)).heap[gb698]? = some (.cells #[.int .i64 t695, .int .i64 t696, .int .i64 t697] 35 (0, 0))) := ⟨bp⟩
          have n3_ : Aside0 (((w185.setCell ⟨gb753, 0, none⟩ (.int .i64 t751)).setCell ⟨gb753, 1, none⟩ (.int .i64 t752)).heap[gb714]? = some (.cells #[.int .i64 t710, .int .i64 t711, .int .i64 t712] 35 (0, 0))) := ⟨bp⟩
          have n4_ : Aside0 (((w185.setCell ⟨gb753, 0, none⟩ (.int .i64 t751)).setCell ⟨gb753, 1, none⟩ (.int .i64 t752)).heap[gb719]? = some (.cells #[.int .i64 t715, .int .i64 t716, .int .i64 t717] 35 (0, 0))) := ⟨bp⟩
          have n5_ : Aside0 (((w185.setCell ⟨gb753, 0, none⟩ (.int .i64 t751)).setCell ⟨gb753, 1, none⟩ (.int .i64 t752)).heap[gb724]? = some (.cells #[.int .i64 t721, .int .i64 t722] 27 (0, 0))) := ⟨bp⟩
          have n6_ : Aside0 (((w185.setCell ⟨gb753, 0, none⟩ (.int .i64 t751)).setCell ⟨gb753, 1, none⟩ (.int .i64 t752)).heap[gb728]? = some (.cells #[.int .i64 t725, .int .i64 t726] 27 (0, 0))) := ⟨bp⟩
          have n7_ : Aside0 (((w185.setCell ⟨gb753, 0, none⟩ (.int .i64 t751)).setCell ⟨gb753, 1, none⟩ (.int .i64 t752)).heap[gb733]? = some (.cells #[.int .i64 t730, .int .i64 t731] 27 (0, 0))) := ⟨bp⟩
          have n8_ : Aside0 (((w185.setCell ⟨gb753, 0, none⟩ (.int .i64 t751)).setCell ⟨gb753, 1, none⟩ (.int .i64 t752)).heap[gb738]? = some (.cells #[.int .i64 t734, .int .i64 t735, .int .i64 t736] 35 (0, 0))) := ⟨bp⟩
          have n9_ : Aside0 (((w185.setCell ⟨gb753, 0, none⟩ (.int .i64 t751)).setCell ⟨gb753, 1, none⟩ (.int .i64 t752)).heap[gb743]? = some (.cells #[.int .i64 t739, .int .i64 t740, .int .i64 t741] 35 (0, 0))) := ⟨bp⟩
          have n10_ : Aside0 (((w185.setCell ⟨gb753, 0, none⟩ (.int .i64 t751)).setCell ⟨gb753, 1, none⟩ (.int .i64 t752)).heap[gb746]? = some (.cells #[.int .i64 t744, .int .i64 t745] 27 (0, 0))) := ⟨bp⟩
          have n11_ : Aside0 (((w185.setCell ⟨gb753, 0, none⟩ (.int .i64 t751)).setCell ⟨gb753, 1, none⟩ (.int .i64 t752)).heap[gb753]? = some (.cells #[.int .i64 t751, .int .i64 t752] 27 (0, 0))) := ⟨bp⟩
          have n12_ : Aside0 (Below w.heap.size w ((w185.setCell ⟨gb753, 0, none⟩ (.int .i64 t751)).setCell ⟨gb753, 1, none⟩ (.int .i64 t752))) := ⟨bl⟩
          (try clear BK678)
          (try clear BK682)
          (try clear BK698)
          (try clear BK714)
          (try clear BK719)
          (try clear BK724)
          (try clear BK728)
          (try clear BK733)
          (try clear BK738)
          (try clear BK743)
          (try clear BK746)
          (try clear BK753)
          (try clear HB)
          generalize ((w185.setCell ⟨gb753, 0, none⟩ (.int .i64 t751)).setCell ⟨gb753, 1, none⟩ (.int .i64 t752)) = w198 at n0_ n1_ n2_ n3_ n4_ n5_ n6_ n7_ n8_ n9_ n10_ n11_ n12_ ⊢
          have BK678 := n0_
          have BK682 := n1_
          have BK698 := n2_
          have BK714 := n3_
          have BK719 := n4_
          have BK724 := n5_
          have BK728 := n6_
          have BK733 := n7_
          have BK738 := n8_
          have BK743 := n9_
          have BK746 := n10_
          have BK753 := n11_
          have HB := n12_
          clear n0_ n1_ n2_ n3_ n4_ n5_ n6_ n7_ n8_ n9_ n10_ n11_ n12_
          replace BK678 := Aside0.mk (blk_drew BK678.out)
          replace BK682 := Aside0.mk (blk_drew BK682.out)
          replace BK698 := Aside0.mk (blk_drew BK698.out)
          replace BK714 := Aside0.mk (blk_drew BK714.out)
          replace BK719 := Aside0.mk (blk_drew BK719.out)
          replace BK724 := Aside0.mk (blk_drew BK724.out)
          replace BK728 := Aside0.mk (blk_drew BK728.out)
          replace BK733 := Aside0.mk (blk_drew BK733.out)
          replace BK738 := Aside0.mk (blk_drew BK738.out)
          replace BK743 := Aside0.mk (blk_drew BK743.out)
          replace BK746 := Aside0.mk (blk_drew BK746.out)
          replace BK753 := Aside0.mk (blk_drew BK753.out)
          replace HB := Aside0.mk (below_drew1 HB.out)
          refine sw 46 (fun w' => w'.cell? ⟨gb714, 0, none⟩ = some (.int .i64 t710) ∧ w'.cell? ⟨gb714, 1, none⟩ = some (.int .i64 t711) ∧ w'.cell? ⟨gb714, 2, none⟩ = some (.int .i64 t712) ∧ w'.cell? ⟨gb719, 0, none⟩ = some (.int .i64 t715) ∧ w'.cell? ⟨gb719, 1, none⟩ = some (.int .i64 t716) ∧ w'.cell? ⟨gb719, 2, none⟩ = some (.int .i64 t717) ∧ w'.cell? ⟨gb724, 0, none⟩ = some (.int .i64 t721) ∧ w'.cell? ⟨gb724, 1, none⟩ = some (.int .i64 t722) ∧ w'.cell? ⟨gb728, 0, none⟩ = some (.int .i64 t725) ∧ w'.cell? ⟨gb728, 1, none⟩ = some (.int .i64 t726) ∧ w'.cell? ⟨gb738, 0, none⟩ = some (.int .i64 t734) ∧ w'.cell? ⟨gb738, 1, none⟩ = some (.int .i64 t735) ∧ w'.cell? ⟨gb738, 2, none⟩ = some (.int .i64 t736) ∧ w'.cell? ⟨gb743, 0, none⟩ = some (.int .i64 t739) ∧ w'.cell? ⟨gb743, 1, none⟩ = some (.int .i64 t740) ∧ w'.cell? ⟨gb743, 2, none⟩ = some (.int .i64 t741) ∧ w'.cell? ⟨gb753, 0, none⟩ = some (.int .i64 t751) ∧ w'.cell? ⟨gb753, 1, none⟩ = some (.int .i64 t752)) laws_FnEnds.tab36 laws_FnEnds.bits36 ⟨(blk_cell BK714.out 0).trans rfl, (blk_cell BK714.out 1).trans rfl, (blk_cell BK714.out 2).trans rfl, (blk_cell BK719.out 0).trans rfl, (blk_cell BK719.out 1).trans rfl, (blk_cell BK719.out 2).trans rfl, (blk_cell BK724.out 0).trans rfl, (blk_cell BK724.out 1).trans rfl, (blk_cell BK728.out 0).trans rfl, (blk_cell BK728.out 1).trans rfl, (blk_cell BK738.out 0).trans rfl, (blk_cell BK738.out 1).trans rfl, (blk_cell BK738.out 2).trans rfl, (blk_cell BK743.out 0).trans rfl, (blk_cell BK743.out 1).trans rfl, (blk_cell BK743.out 2).trans rfl, (blk_cell BK753.out 0).trans rfl, (blk_cell BK753.out 1).trans rfl⟩ (fun hHeld HT_ HW_ => ?_)
          generalize w198.drew = w199 at BK678 BK682 BK698 BK714 BK719 BK724 BK728 BK733 BK738 BK743 BK746 BK753 HB hHeld ⊢
          refine pu 0 (some 222) (tA 46 1) HT_ ?_
          refine pu 1 (some 223) (tA 46 3) HT_ ?_
          refine pu 2 (some 224) (tA 46 7) HT_ ?_
          refine pu 3 (some 225) (tA 46 15) HT_ ?_
          refine tk18 4 (some 226) (tA 46 31) HT_ HW_ hHeld ?_
          refine tk18 5 (some 227) (tA 46 63) HT_ HW_ hHeld ?_
          refine pu 6 (some 228) (tA 46 127) HT_ ?_
          refine pu 7 (some 229) (tA 46 255) HT_ ?_
          refine pu 8 (some 230) (tA 46 511) HT_ ?_
          refine pu 9 (some 231) (tA 46 1023) HT_ ?_
          refine pu 10 (some 232) (tA 46 2047) HT_ ?_
          refine pu 11 (some 233) (tA 46 4095) HT_ ?_
          refine pu 12 (some 234) (tA 46 8191) HT_ ?_
          refine pu 13 (some 235) (tA 46 16383) HT_ ?_
          refine tk18 14 (some 236) (tA 46 32767) HT_ HW_ hHeld ?_
          refine tk18 15 (some 237) (tA 46 65535) HT_ HW_ hHeld ?_
          refine pu 16 (some 238) (tA 46 131071) HT_ ?_
          refine pu 17 (some 239) (tA 46 262143) HT_ ?_
          refine pu 18 (some 240) (tA 46 524287) HT_ ?_
          refine pu 19 (some 241) (tA 46 1048575) HT_ ?_
          refine pu 20 (some 242) (tA 46 2097151) HT_ ?_
          refine pu 21 (some 243) (tA 46 4194303) HT_ ?_
          refine pu 22 (some 244) (tA 46 8388607) HT_ ?_
          refine pu 23 (some 245) (tA 46 16777215) HT_ ?_
          refine tk18 24 (some 246) (tA 46 33554431) HT_ HW_ hHeld ?_
          refine tk18 25 (some 247) (tA 46 67108863) HT_ HW_ hHeld ?_
          refine pu 26 (some 248) (tA 46 134217727) HT_ ?_
          refine pu 27 (some 249) (tA 46 268435455) HT_ ?_
          refine pu 28 (some 250) (tA 46 536870911) HT_ ?_
          refine pu 29 (some 251) (tA 46 1073741823) HT_ ?_
          refine pu 30 (some 252) (tA 46 2147483647) HT_ ?_
          refine pu 31 (some 253) (tA 46 4294967295) HT_ ?_
          refine pu 32 (some 254) (tA 46 8589934591) HT_ ?_
          refine pu 33 (some 255) (tA 46 17179869183) HT_ ?_
          refine pu 34 (some 256) (tA 46 34359738367) HT_ ?_
          refine pu 35 (some 257) (tA 46 68719476735) HT_ ?_
          refine pu 36 (some 258) (tA 46 137438953471) HT_ ?_
          refine pu 37 (some 259) (tA 46 274877906943) HT_ ?_
          refine pu 38 (some 260) (tA 46 549755813887) HT_ ?_
          refine tk18 39 (some 261) (tA 46 1099511627775) HT_ HW_ hHeld ?_
          refine tk18 41 (some 263) (tA 46 3298534883327) HT_ HW_ hHeld ?_
          refine o1 40 (some 262) (tA 46 4398046511103) HT_ (fun K hK => ?_)
          refine gs Tryz.func10 #[.agg #[.int .i64 t751, .int .i64 t752]] ?_
          with_reducible refine (impl_IsEnd.calls kj64 t751 t752 t754 _ A100.out).mono ?_
          rintro e w200 ⟨rfl, hb⟩
          refine ⟨_, rfl, ?_⟩
          replace BK678 := bb BK678 hb
          replace BK682 := bb BK682 hb
          replace BK698 := bb BK698 hb
          replace BK714 := bb BK714 hb
          replace BK719 := bb BK719 hb
          replace BK724 := bb BK724 hb
          replace BK728 := bb BK728 hb
          replace BK733 := bb BK733 hb
          replace BK738 := bb BK738 hb
          replace BK743 := bb BK743 hb
          replace BK746 := bb BK746 hb
          replace BK753 := bb BK753 hb
          replace HB := bs hb
          (try clear hb)
          (try clear hb2)
          (try clear hk)
          (try clear hi)
          refine hK.out _ _ ⟨(blk_cell BK714.out 0).trans rfl, (blk_cell BK714.out 1).trans rfl, (blk_cell BK714.out 2).trans rfl, (blk_cell BK719.out 0).trans rfl, (blk_cell BK719.out 1).trans rfl, (blk_cell BK719.out 2).trans rfl, (blk_cell BK724.out 0).trans rfl, (blk_cell BK724.out 1).trans rfl, (blk_cell BK728.out 0).trans rfl, (blk_cell BK728.out 1).trans rfl, (blk_cell BK738.out 0).trans rfl, (blk_cell BK738.out 1).trans rfl, (blk_cell BK738.out 2).trans rfl, (blk_cell BK743.out 0).trans rfl, (blk_cell BK743.out 1).trans rfl, (blk_cell BK743.out 2).trans rfl, (blk_cell BK753.out 0).trans rfl, (blk_cell BK753.out 1).trans rfl⟩ (fun hHeld => ?_)
          clear hK K
          refine nm (some 262) ?_
          refine o1 42 (some 264) (tA 46 8796093022207) HT_ (fun K hK => ?_)
          refine gs Tryz.func25 #[.agg #[.int .i64 t751, .int .i64 t752]] ?_
          with_reducible refine (spec_IsEnd.calls kj64 t751 t752 t755 _ A101.out).mono ?_
          rintro e w201 ⟨rfl, hb⟩
          refine ⟨_, rfl, ?_⟩
          replace BK678 := bb BK678 hb
          replace BK682 := bb BK682 hb
          replace BK698 := bb BK698 hb
          replace BK714 := bb BK714 hb
          replace BK719 := bb BK719 hb
          replace BK724 := bb BK724 hb
          replace BK728 := bb BK728 hb
          replace BK733 := bb BK733 hb
          replace BK738 := bb BK738 hb
          replace BK743 := bb BK743 hb
          replace BK746 := bb BK746 hb
          replace BK753 := bb BK753 hb
          replace HB := bs hb
          (try clear hb)
          (try clear hb2)
          (try clear hk)
          (try clear hi)
          refine hK.out _ _ ⟨(blk_cell BK714.out 0).trans rfl, (blk_cell BK714.out 1).trans rfl, (blk_cell BK714.out 2).trans rfl, (blk_cell BK719.out 0).trans rfl, (blk_cell BK719.out 1).trans rfl, (blk_cell BK719.out 2).trans rfl, (blk_cell BK724.out 0).trans rfl, (blk_cell BK724.out 1).trans rfl, (blk_cell BK728.out 0).trans rfl, (blk_cell BK728.out 1).trans rfl, (blk_cell BK738.out 0).trans rfl, (blk_cell BK738.out 1).trans rfl, (blk_cell BK738.out 2).trans rfl, (blk_cell BK743.out 0).trans rfl, (blk_cell BK743.out 1).trans rfl, (blk_cell BK743.out 2).trans rfl, (blk_cell BK753.out 0).trans rfl, (blk_cell BK753.out 1).trans rfl⟩ (fun hHeld => ?_)
          clear hK K
          refine nm (some 264) ?_
          refine pu 43 (some 265) (tA 46 17592186044415) HT_ ?_
          refine pu 44 (some 266) (tA 46 35184372088831) HT_ ?_
          refine pu 45 (some 2) (tA 46 70368744177663) HT_ ?_
          refine done_ (done_of HT_.out (by kernel_rfl)) ?_
          try go_wp2
          go_ret
          exact ⟨er, bl⟩
         ·obtain ⟨c99b0, c99b1⟩ := zy c99
          exact absurd ((Option.some.inj H).trans hr.out) (by simp)
        ·obtain ⟨c98b0, c98b1⟩ := zy c98
         exact absurd ((Option.some.inj H).trans hr.out) (by simp)
       ·have c97b0 : (t734 == t739 && (t735 == t740 && (t736 == t741))) = false := by simpa using c97
        (try (have c97b1 : decide (t734 = t739 && (t735 == t740 && (t736 == t741))) = false := by simpa using c97))
        (try (have c97b2 : (t734 == t739 && (t735 == t740 && (t736 == t741))) = false := by simpa using c97))
        (try (have c97b3 : ¬ (t734 = t739 && (t735 == t740 && (t736 == t741))) := by simpa using c97))
        clear c97
        exact absurd ((Option.some.inj H).trans hr.out) (by simp)
      ·obtain ⟨c96b0, c96b1⟩ := zy c96
       exact absurd ((Option.some.inj H).trans hr.out) (by simp)
     ·have c95b0 : (t721 == t725 && (t722 == t726)) = false := by simpa using c95
      (try (have c95b1 : decide (t721 = t725 && (t722 == t726)) = false := by simpa using c95))
      (try (have c95b2 : (t721 == t725 && (t722 == t726)) = false := by simpa using c95))
      (try (have c95b3 : ¬ (t721 = t725 && (t722 == t726)) := by simpa using c95))
      clear c95
      exact absurd ((Option.some.inj H).trans hr.out) (by simp)
    ·obtain ⟨c94b0, c94b1⟩ := zy c94
     exact absurd ((Option.some.inj H).trans hr.out) (by simp)
   ·have c93b0 : (t710 == t715 && (t711 == t716 && (t712 == t717))) = false := by simpa using c93
    (try (have c93b1 : decide (t710 = t715 && (t711 == t716 && (t712 == t717))) = false := by simpa using c93))
    (try (have c93b2 : (t710 == t715 && (t711 == t716 && (t712 == t717))) = false := by simpa using c93))
    (try (have c93b3 : ¬ (t710 = t715 && (t711 == t716 && (t712 == t717))) := by simpa using c93))
    clear c93
    exact absurd ((Option.some.inj H).trans hr.out) (by simp)
  ·obtain ⟨c92b0, c92b1⟩ := zy c92
   exact absurd ((Option.some.inj H).trans hr.out) (by simp)
end Go.Proofs.YtgdkmchphpjifaaGreatDoor.PFnEnds

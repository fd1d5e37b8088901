-- Printed by the kit's print and repaired by a program of this session.
import Derived.Test.YtpmepopagapeiaaPFnMediansx0
import Derived.Test.YtpmepopagapeiaaPFnMediansx1
import Derived.Test.YtpmepopagapeiaaPFnMediansx5
import Derived.Test.YtpmepopagapeiaaPFnMediansx8
import Derived.Test.YtpmepopagapeiaaPFnMediansx9
import Derived.Test.YtpmepopagapeiaaPFnMediansx12
import Derived.Test.YtpmepopagapeiaaPFnMediansx13
import Derived.Test.YtpmepopagapeiaaPFnMediansx14
import Derived.Test.YtpmepopagapeiaaPFnMediansx15
import Derived.Test.YtpmepopagapeiaaPFnMediansx17
import Derived.Test.YtpmepopagapeiaaPFnMediansx19
import Derived.Test.YtpmepopagapeiaaPFnMediansx20
import Derived.Deep.Light
import Derived.Test.YtpmepopagapeiaaPFnMediansx21
namespace Go.Proofs.Ytpmepopagapeiaa.PFnMedians
open Go.RowKit Go.Proofs.YtpmepopagapeiaaW.PrintWords Go.Proofs.YtpmepopagapeiaaW.PrintLast Go.Proofs.YtpmepopagapeiaaW.PrintMore
attribute [local go_sem] max2_int min2_int max_two min_two max_three min_three max_four min_four
set_option linter.unusedVariables false
set_option linter.unusedSimpArgs false

attribute [local go_sem high] eqA27
set_option maxHeartbeats 60000000 in
set_option maxRecDepth 100000 in
theorem laws_FnMedians.part {A0 : Option Addr} {c0 : Nat} {l0 : List Int} {r : Bool} {w : World} {t729} {t730} {t731} {t732} {t733} {t734} {t735} {t736} {t737} {t738} {t742} {t743} {t744} {t745} {t747} {t748} {t749} {t750} {t752} {t753} {t754} {t755} {t756} {t758} {t761} {t765} {t767} {t768} {t769} {t770} {t771} {t772} {t773} {t774} {t775} {t776} {t777} {t778} {t779} {t780} {t781} {t785} {t786} {t787} {t788} {gb739 : Nat} {gb740 : Nat} {gb741 : Nat} {gb746 : Nat} {gb751 : Nat} {gb757 : Nat} {gb782 : Nat} {gb783 : Nat} {gb784 : Nat} {v759 : Value} {v763 : Value} {kj67 : Nat} {kq : Nat} {x170_74 : Bool} {wc : World}
    {aa ab ac Aa ae af ag ah ai aj ak al am an ao ap aq ar au av aw ax ay az Ab Ac bc Ad Ae bf bg bh bi bj bk Af bm Ag bo Ah bq br Ai bt bu bv bw bx bz ca cb Aj cd ce Ak cg ch ci cj ck cl cm cn co cp cq cr Al ct cu cv cw cx cy cz da db dc dd de df dg dh di dj dk dl dm dn dp dq dr Am dt du dv dw dx dy dz ea eb ec ed ee ef eg eh ei ej ek el em en eo ep eq An es et eu ev ew ex ey ez fa fb fc fd fe ff fg fh fi fj fk fl fm Ao fo fp fq Ap Aq ft fu fv fw fx fy fz ga gb gc Ar ge gf gg gh gi gj As gl gm gn go gp gq gr At gt gu gv gw gx gy gz ia ib ic Au ie ig Av Aw ij ik il im io ip iq ir it iu iv iw ix iy iz ja jb jc jd je jf jg jh ji jj jk jl jm jn jo jp jq jr js jt ju jv jw jx jy jz la lb lc ld le lf lg lh Ax Ay Az ll lm ln Ba lp lq lr ls lt lu lv lw lx ly lz ma mb mc Bb me mf mg mh mi mj Bc ml mm Bd mo Be mq mr ms mt mu mv mw Bf my mz na nb nc Bg ne nf Bh nh ni nj nk : Value}
    (HA : Aside0 (laws_FnMedians.j3 kq t729 t745 t752 t756 t758 t761 t773 t785 t786 x170_74 t730 t731 t732 t733 t734 t735 t736 t737 t738 t742 t743 t744 t753 t754 t755 t774 t775 t776 t777 t778 t779 t780 t781 = some r)) (HJ74 : Aside0 (kq ≤ kj67)) (HO_14 : Aside0 (Kd.R k27 27 wc w.heap.size (fun k_ => k_ ≠ gb739 ∧ k_ ≠ gb740 ∧ k_ ≠ gb741 ∧ k_ ≠ gb746 ∧ k_ ≠ gb751 ∧ k_ ≠ gb757 ∧ k_ ≠ gb782 ∧ k_ ≠ gb783) v759 t758)) (BK739 : Aside0 (wc.heap[gb739]? = some (.cells #[.int .i64 t730, .int .i64 t731, .int .i64 t732] 27 (0, 0)))) (BK740 : Aside0 (wc.heap[gb740]? = some (.cells #[.int .i64 t733, .int .i64 t734, .int .i64 t735] 27 (0, 0)))) (BK741 : Aside0 (wc.heap[gb741]? = some (.cells #[.int .i64 t736, .int .i64 t737, .int .i64 t738] 27 (0, 0)))) (BK746 : Aside0 (wc.heap[gb746]? = some (.cells #[.int .i64 t742, .int .i64 t743, .int .i64 t744] 27 (0, 0)))) (BK751 : Aside0 (wc.heap[gb751]? = some (.cells #[.int .i64 t747, .int .i64 t748, .int .i64 t749] 27 (0, 0)))) (BK757 : Aside0 (wc.heap[gb757]? = some (.cells #[.int .i64 t753, .int .i64 t754, .int .i64 t755] 27 (0, 0)))) (BK782 : Aside0 (wc.heap[gb782]? = some (.cells #[.int .i64 t774, .int .i64 t775, .int .i64 t776] 27 (0, 0)))) (BK783 : Aside0 (wc.heap[gb783]? = some (.cells #[.int .i64 t777, .int .i64 t778, .int .i64 t779] 27 (0, 0)))) (BK784 : Aside0 (wc.heap[gb784]? = some (.cells #[.int .i64 t780, .int .i64 t781] 63 (0, 0)))) (HB : Aside0 (Below w.heap.size w wc)) (GW739 : Aside0 (w.heap.size ≤ gb739)) (GW740 : Aside0 (w.heap.size ≤ gb740)) (GW741 : Aside0 (w.heap.size ≤ gb741)) (GW746 : Aside0 (w.heap.size ≤ gb746)) (GW751 : Aside0 (w.heap.size ≤ gb751)) (GW757 : Aside0 (w.heap.size ≤ gb757)) (GW782 : Aside0 (w.heap.size ≤ gb782)) (GW783 : Aside0 (w.heap.size ≤ gb783)) (GW784 : Aside0 (w.heap.size ≤ gb784)) (NB739_740 : Aside0 (gb739 ≠ gb740)) (NB739_741 : Aside0 (gb739 ≠ gb741)) (NB739_746 : Aside0 (gb739 ≠ gb746)) (NB739_751 : Aside0 (gb739 ≠ gb751)) (NB739_757 : Aside0 (gb739 ≠ gb757)) (NB739_782 : Aside0 (gb739 ≠ gb782)) (NB739_783 : Aside0 (gb739 ≠ gb783)) (NB739_784 : Aside0 (gb739 ≠ gb784)) (NB740_741 : Aside0 (gb740 ≠ gb741)) (NB740_746 : Aside0 (gb740 ≠ gb746)) (NB740_751 : Aside0 (gb740 ≠ gb751)) (NB740_757 : Aside0 (gb740 ≠ gb757)) (NB740_782 : Aside0 (gb740 ≠ gb782)) (NB740_783 : Aside0 (gb740 ≠ gb783)) (NB740_784 : Aside0 (gb740 ≠ gb784)) (NB741_746 : Aside0 (gb741 ≠ gb746)) (NB741_751 : Aside0 (gb741 ≠ gb751)) (NB741_757 : Aside0 (gb741 ≠ gb757)) (NB741_782 : Aside0 (gb741 ≠ gb782)) (NB741_783 : Aside0 (gb741 ≠ gb783)) (NB741_784 : Aside0 (gb741 ≠ gb784)) (NB746_751 : Aside0 (gb746 ≠ gb751)) (NB746_757 : Aside0 (gb746 ≠ gb757)) (NB746_782 : Aside0 (gb746 ≠ gb782)) (NB746_783 : Aside0 (gb746 ≠ gb783)) (NB746_784 : Aside0 (gb746 ≠ gb784)) (NB751_757 : Aside0 (gb751 ≠ gb757)) (NB751_782 : Aside0 (gb751 ≠ gb782)) (NB751_783 : Aside0 (gb751 ≠ gb783)) (NB751_784 : Aside0 (gb751 ≠ gb784)) (NB757_782 : Aside0 (gb757 ≠ gb782)) (NB757_783 : Aside0 (gb757 ≠ gb783)) (NB757_784 : Aside0 (gb757 ≠ gb784)) (NB782_783 : Aside0 (gb782 ≠ gb783)) (NB782_784 : Aside0 (gb782 ≠ gb784)) (NB783_784 : Aside0 (gb783 ≠ gb784)) (hr : Aside0 (r = true)) :
    ∀ K_ : Act → World → Prop, (∀ a_ w_, Code.wp Try.prog ((sufO 14 Try.f9.body).getD .ret) (bodyPost Try.prog Try.f9 fun e w' => e = .returned (.bool r) ∧ Below w.heap.size w w') a_ w_ → K_ a_ w_) → Code.wp Try.prog ((sufM 2 (sufO 13 Try.f9.body)).getD .ret) (Exit.then K_ (bodyPost Try.prog Try.f9 fun e w' => e = .returned (.bool r) ∧ Below w.heap.size w w')) { tmps := #[Value.slice A0 l0.length c0, undef, Value.bool false, Value.int IntKind.i64 t729, Value.pointer (some { block := gb739, off := 0 }), Value.pointer (some { block := gb740, off := 0 }), Value.pointer (some { block := gb741, off := 0 }), Value.pointer (some { block := gb746, off := 0 }), Value.int IntKind.i64 t745, Value.pointer (some { block := gb751, off := 0 }), Value.int IntKind.i64 t750, Value.int IntKind.i64 t752, Value.pointer (some { block := gb757, off := 0 }), Value.int IntKind.i64 t756, v759, Value.int IntKind.i64 t761, v763, Value.int IntKind.i64 t765, Value.int IntKind.i64 t767, Value.int IntKind.i64 t768, Value.int IntKind.i64 t769, Value.int IntKind.i64 t770, Value.int IntKind.i64 t771, Value.int IntKind.i64 t772, Value.int IntKind.i64 t773, Value.pointer (some { block := gb782, off := 0 }), Value.pointer (some { block := gb783, off := 0 }), Value.pointer (some { block := gb784, off := 0 }), Value.int IntKind.i64 t785, Value.int IntKind.i64 t786, Value.int IntKind.i64 t787, Value.int IntKind.i64 t788, undef, undef, undef, undef, undef, undef, undef, undef, undef, undef, undef, undef, undef, undef, undef, undef, undef, undef, undef, undef, undef, aa, ab, ac, Aa, ae, af, ag, ah, ai, aj, ak, al, am, an, ao, ap, aq, ar, au, av, aw, ax, ay, az, Ab, Ac, bc, Ad, Ae, bf, bg, bh, bi, bj, bk, Af, bm, Ag, bo, Ah, bq, br, Ai, bt, bu, bv, bw, bx, bz, ca, cb, Aj, cd, ce, Ak, cg, ch, ci, cj, ck, cl, cm, cn, co, cp, cq, cr, Al, ct, cu, cv, cw, cx, cy, cz, da, db, dc, dd, de, df, dg, dh, di, dj, dk, dl, dm, dn, dp, dq, dr, Am, dt, du, dv, dw, dx, dy, dz, ea, eb, ec, ed, ee, ef, eg, eh, ei, ej, ek, el, em, en, eo, ep, eq, Value.bool x170_74, An, es, et, eu, ev, ew, ex, ey, ez, fa, fb, fc, fd, fe, ff, fg, fh, fi, fj, fk, fl, fm, Ao, fo, fp, fq, Ap, Aq, ft, fu, fv, fw, fx, fy, fz, ga, gb, gc, Ar, ge, gf, gg, gh, gi, gj, As, gl, gm, gn, go, gp, gq, gr, At, gt, gu, gv, gw, gx, gy, gz, ia, ib, ic, Au, ie, ig, Av, Aw, ij, ik, il, im, io, ip, iq, ir, it, iu, iv, iw, ix, iy, iz, ja, jb, jc, jd, je, jf, jg, jh, ji, jj, jk, jl, jm, jn, jo, jp, jq, jr, js, jt, ju, jv, jw, jx, jy, jz, la, lb, lc, ld, le, lf, lg, lh, Ax, Ay, Az, ll, lm, ln, Ba, lp, lq, lr, ls, lt, lu, lv, lw, lx, ly, lz, ma, mb, mc, Bb, me, mf, mg, mh, mi, mj, Bc, ml, mm, Bd, mo, Be, mq, mr, ms, mt, mu, mv, mw, Bf, my, mz, na, nb, nc, Bg, ne, nf, Bh, nh, ni, nj, nk], defers := [] } wc := by
 intro K_ hK_
 replace hK_ := fun a_ w_ h_ => hK_ a_ w_ (sufWp rfl h_)
 refine sufWp rfl ?_
 cases kq with
 | zero => exact absurd HA.out (by simp [laws_FnMedians.j3])
 | succ kj74 =>
  have H := HA.out
  clear HA
  rw [laws_FnMedians.j3] at H
  by_cases c110 : x170_74 = true
  ·subst c110
   rw [if_pos rfl] at H
   exact absurd ((Option.some.inj H).trans hr.out) (by simp)
  ·replace c110 := Bool.eq_false_iff.mpr c110
   subst c110
   have H1 : (if t761 = 0 then ((impl_CountOfSphere.f kj74 t752 t756).bind fun bt789 => (if bt789.2 = 0 then (laws_FnMedians.j4 kj74 t729 t745 t752 t756 t758 t773 t785 t786 (bt789.1 != (t758.length : Int)) t730 t731 t732 t733 t734 t735 t736 t737 t738 t742 t743 t744 t753 t754 t755 t774 t775 t776 t777 t778 t779 t780 t781) else (laws_FnMedians.j4 kj74 t729 t745 t752 t756 t758 t773 t785 t786 true t730 t731 t732 t733 t734 t735 t736 t737 t738 t742 t743 t744 t753 t754 t755 t774 t775 t776 t777 t778 t779 t780 t781))) else (laws_FnMedians.j6 kj74 t729 t745 t773 t785 t786 t730 t731 t732 t733 t734 t735 t736 t737 t738 t742 t743 t744 t774 t775 t776 t777 t778 t779 t780 t781)) = some r := by rw [if_neg (show ¬ (false = true) by decide)] at H; exact H
   clear H
   have H := H1
   clear H1
   have HC111 := Aside0.mk H
   clear H
   go_upto_if 172 with (fail)
   go_cut [] (fun wc => ∃ (kq : Nat), Aside0 (laws_FnMedians.j6 kq t729 t745 t773 t785 t786 t730 t731 t732 t733 t734 t735 t736 t737 t738 t742 t743 t744 t774 t775 t776 t777 t778 t779 t780 t781 = some r) ∧ Aside0 (kq ≤ kj74) ∧ Aside0 (wc.heap[gb739]? = some (.cells #[.int .i64 t730, .int .i64 t731, .int .i64 t732] 27 (0, 0))) ∧ Aside0 (wc.heap[gb740]? = some (.cells #[.int .i64 t733, .int .i64 t734, .int .i64 t735] 27 (0, 0))) ∧ Aside0 (wc.heap[gb741]? = some (.cells #[.int .i64 t736, .int .i64 t737, .int .i64 t738] 27 (0, 0))) ∧ Aside0 (wc.heap[gb746]? = some (.cells #[.int .i64 t742, .int .i64 t743, .int .i64 t744] 27 (0, 0))) ∧ Aside0 (wc.heap[gb751]? = some (.cells #[.int .i64 t747, .int .i64 t748, .int .i64 t749] 27 (0, 0))) ∧ Aside0 (wc.heap[gb757]? = some (.cells #[.int .i64 t753, .int .i64 t754, .int .i64 t755] 27 (0, 0))) ∧ Aside0 (wc.heap[gb782]? = some (.cells #[.int .i64 t774, .int .i64 t775, .int .i64 t776] 27 (0, 0))) ∧ Aside0 (wc.heap[gb783]? = some (.cells #[.int .i64 t777, .int .i64 t778, .int .i64 t779] 27 (0, 0))) ∧ Aside0 (wc.heap[gb784]? = some (.cells #[.int .i64 t780, .int .i64 t781] 63 (0, 0))) ∧ Aside0 (Below w.heap.size w wc))
   case first =>
    as_aux_lemma =>
    have H := HC111.out
    clear HC111
    replace H := ii H
    rcases H with ⟨c112, H⟩ | ⟨c112, H⟩
    ·obtain ⟨c112b0, c112b1⟩ := zz c112
     clear c112
     (first | rw [c112b0] | (simp only [i64_w, i32_w]; rw [c112b0]) | skip)
     replace H := zi H
     obtain ⟨⟨t789, t790⟩, A113, H⟩ := H
     try dsimp only at H
     have HC114 := Aside0.mk H
     clear H
     go_upto_region 25 with (first | ((with_reducible refine zf 56 rfl ?_); refine g1 (some 176) Try.func56 #[.int .i64 t752, .int .i64 t756] ?_; (with_reducible refine (impl_CountOfSphere.calls kj74 t752 t756 t789 t790 _ A113.out).mono ?_); rintro e w' ⟨rfl, ⟨nd, rfl⟩⟩; refine ⟨_, rfl, ?_⟩))
     (try simp only [Act.put, zq, zr, zt])
     go_cut [186] (fun v186 wc => ∃ (kq : Nat) (x186_113 : Bool), v186 = .bool x186_113 ∧ Aside0 (laws_FnMedians.j4 kq t729 t745 t752 t756 t758 t773 t785 t786 x186_113 t730 t731 t732 t733 t734 t735 t736 t737 t738 t742 t743 t744 t753 t754 t755 t774 t775 t776 t777 t778 t779 t780 t781 = some r) ∧ Aside0 (kq ≤ kj74) ∧ Aside0 (Kd.R k27 27 wc w.heap.size (fun k_ => k_ ≠ gb739 ∧ k_ ≠ gb740 ∧ k_ ≠ gb741 ∧ k_ ≠ gb746 ∧ k_ ≠ gb751 ∧ k_ ≠ gb757 ∧ k_ ≠ gb782 ∧ k_ ≠ gb783) v759 t758) ∧ Aside0 (wc.heap[gb739]? = some (.cells #[.int .i64 t730, .int .i64 t731, .int .i64 t732] 27 (0, 0))) ∧ Aside0 (wc.heap[gb740]? = some (.cells #[.int .i64 t733, .int .i64 t734, .int .i64 t735] 27 (0, 0))) ∧ Aside0 (wc.heap[gb741]? = some (.cells #[.int .i64 t736, .int .i64 t737, .int .i64 t738] 27 (0, 0))) ∧ Aside0 (wc.heap[gb746]? = some (.cells #[.int .i64 t742, .int .i64 t743, .int .i64 t744] 27 (0, 0))) ∧ Aside0 (wc.heap[gb751]? = some (.cells #[.int .i64 t747, .int .i64 t748, .int .i64 t749] 27 (0, 0))) ∧ Aside0 (wc.heap[gb757]? = some (.cells #[.int .i64 t753, .int .i64 t754, .int .i64 t755] 27 (0, 0))) ∧ Aside0 (wc.heap[gb782]? = some (.cells #[.int .i64 t774, .int .i64 t775, .int .i64 t776] 27 (0, 0))) ∧ Aside0 (wc.heap[gb783]? = some (.cells #[.int .i64 t777, .int .i64 t778, .int .i64 t779] 27 (0, 0))) ∧ Aside0 (wc.heap[gb784]? = some (.cells #[.int .i64 t780, .int .i64 t781] 63 (0, 0))) ∧ Aside0 (Below w.heap.size w wc))
     case first =>
      as_aux_lemma =>
      have H := HC114.out
      clear HC114
      replace H := ii H
      rcases H with ⟨c115, H⟩ | ⟨c115, H⟩
      ·obtain ⟨c115b0, c115b1⟩ := zz c115
       clear c115
       (first | rw [c115b0] | (simp only [i64_w, i32_w]; rw [c115b0]) | skip)
       have H' := Aside0.mk H
       clear H
       obtain ⟨Ao116, co116, eo116⟩ := Kd.R_slice HO_14.out
       subst eo116
       go_wp2
       go_meet
       case rel => go_light; exact ⟨_, ((t789 != (t758.length : Int))), (by first | rfl | (simp; done) | (simp [*]; done)), H', ⟨by have := HJ74.out; first | omega | exact Nat.le_refl _⟩, ⟨by (with_reducible repeat (first | apply Kd.R_alloc | apply Kd.R_drewN | apply Kd.R_drew)); exact HO_14.out⟩, ⟨be BK739⟩, ⟨be BK740⟩, ⟨be BK741⟩, ⟨be BK746⟩, ⟨be BK751⟩, ⟨be BK757⟩, ⟨be BK782⟩, ⟨be BK783⟩, ⟨be BK784⟩, ⟨bl⟩⟩
      ·obtain ⟨c115b0, c115b1⟩ := zy c115
       (first | rw [c115b0] | (simp only [i64_w, i32_w]; rw [c115b0]) | skip)
       have H' := Aside0.mk H
       clear H
       go_wp2
       go_meet
       case rel => go_light; exact ⟨_, (true), (by first | rfl | (simp; done) | (simp [*]; done)), H', ⟨by have := HJ74.out; first | omega | exact Nat.le_refl _⟩, ⟨by (with_reducible repeat (first | apply Kd.R_alloc | apply Kd.R_drewN | apply Kd.R_drew)); exact HO_14.out⟩, ⟨be BK739⟩, ⟨be BK740⟩, ⟨be BK741⟩, ⟨be BK746⟩, ⟨be BK751⟩, ⟨be BK757⟩, ⟨be BK782⟩, ⟨be BK783⟩, ⟨be BK784⟩, ⟨bl⟩⟩
     case rest =>
      clear HC114
      obtain ⟨kq, x186_113, rfl, HA, HJ113, HO_14, BK739, BK740, BK741, BK746, BK751, BK757, BK782, BK783, BK784, HB⟩ := hcut
      cases kq with
      | zero => exact absurd HA.out (by simp [laws_FnMedians.j4])
      | succ kj113 =>
       have H := HA.out
       clear HA
       rw [laws_FnMedians.j4] at H
       by_cases c117 : x186_113 = true
       ·subst c117
        rw [if_pos rfl] at H
        exact absurd ((Option.some.inj H).trans hr.out) (by simp)
       ·replace c117 := Bool.eq_false_iff.mpr c117
        subst c117
        have H1 : (laws_FnMedians.l0 kj113 t729 t745 t752 t756 t758 t773 t785 t786 0 t730 t731 t732 t733 t734 t735 t736 t737 t738 t742 t743 t744 t753 t754 t755 t774 t775 t776 t777 t778 t779 t780 t781) = some r := by rw [if_neg (show ¬ (false = true) by decide)] at H; exact H
        clear H
        have H := H1
        clear H1
        have H' := Aside0.mk H
        clear H
        go_wp2
        go_loopg [34] kj113 (fun kq v34 w' => ∃ (x34_6 : Int), v34 = .int .i64 x34_6 ∧ Aside0 (laws_FnMedians.l0 kq t729 t745 t752 t756 t758 t773 t785 t786 x34_6 t730 t731 t732 t733 t734 t735 t736 t737 t738 t742 t743 t744 t753 t754 t755 t774 t775 t776 t777 t778 t779 t780 t781 = some r) ∧ Aside0 (kq ≤ kj113) ∧ Aside0 (Kd.R k27 27 w' w.heap.size (fun k_ => k_ ≠ gb739 ∧ k_ ≠ gb740 ∧ k_ ≠ gb741 ∧ k_ ≠ gb746 ∧ k_ ≠ gb751 ∧ k_ ≠ gb757 ∧ k_ ≠ gb782 ∧ k_ ≠ gb783) v759 t758) ∧ Aside0 (w'.heap[gb739]? = some (.cells #[.int .i64 t730, .int .i64 t731, .int .i64 t732] 27 (0, 0))) ∧ Aside0 (w'.heap[gb740]? = some (.cells #[.int .i64 t733, .int .i64 t734, .int .i64 t735] 27 (0, 0))) ∧ Aside0 (w'.heap[gb741]? = some (.cells #[.int .i64 t736, .int .i64 t737, .int .i64 t738] 27 (0, 0))) ∧ Aside0 (w'.heap[gb746]? = some (.cells #[.int .i64 t742, .int .i64 t743, .int .i64 t744] 27 (0, 0))) ∧ Aside0 (w'.heap[gb751]? = some (.cells #[.int .i64 t747, .int .i64 t748, .int .i64 t749] 27 (0, 0))) ∧ Aside0 (w'.heap[gb757]? = some (.cells #[.int .i64 t753, .int .i64 t754, .int .i64 t755] 27 (0, 0))) ∧ Aside0 (w'.heap[gb782]? = some (.cells #[.int .i64 t774, .int .i64 t775, .int .i64 t776] 27 (0, 0))) ∧ Aside0 (w'.heap[gb783]? = some (.cells #[.int .i64 t777, .int .i64 t778, .int .i64 t779] 27 (0, 0))) ∧ Aside0 (w'.heap[gb784]? = some (.cells #[.int .i64 t780, .int .i64 t781] 63 (0, 0))) ∧ Aside0 (Below w.heap.size w w'))
        case atStart => exact ⟨(0), (by first | rfl | (simp; done) | (simp [*]; done)), H', ⟨Nat.le_refl _⟩, ⟨by (with_reducible repeat (first | apply Kd.R_alloc | apply Kd.R_drewN | apply Kd.R_drew)); exact HO_14.out⟩, ⟨be BK739⟩, ⟨be BK740⟩, ⟨be BK741⟩, ⟨be BK746⟩, ⟨be BK751⟩, ⟨be BK757⟩, ⟨be BK782⟩, ⟨be BK783⟩, ⟨be BK784⟩, ⟨bl⟩⟩
        case round =>
         as_aux_lemma =>
         clear H'
         obtain ⟨x34_6, rfl, HA, HK6, HO_14, BK739, BK740, BK741, BK746, BK751, BK757, BK782, BK783, BK784, HB⟩ := hrel
         cases gk with
         | zero => exact absurd HA.out (by simp [laws_FnMedians.l0])
         | succ k6 =>
          have H := HA.out
          clear HA
          rw [laws_FnMedians.l0] at H
          replace H := ii H
          rcases H with ⟨c118, H⟩ | ⟨c118, H⟩
          ·have c118b0 := decide_eq_true c118
           clear c118
           replace H := ii H
           rcases H with ⟨c119, H⟩ | ⟨c119, H⟩
           ·have c119b0 := decide_eq_true c119
            clear c119
            replace H := zi H
            obtain ⟨⟨t792, t793⟩, A120, H⟩ := H
            try dsimp only at H
            replace H := ii H
            rcases H with ⟨c121, H⟩ | ⟨c121, H⟩
            ·obtain ⟨c121b0, c121b1⟩ := zz c121
             clear c121
             replace H := ii H
             rcases H with ⟨c122, H⟩ | ⟨c122, H⟩
             ·obtain ⟨c122b0, c122b1⟩ := zz c122
              clear c122
              have H' := Aside0.mk H
              clear H
              obtain ⟨Ao123, co123, eo123⟩ := Kd.R_slice HO_14.out
              subst eo123
              try go_wp2
              replace HO_14 := Aside0.mk (Kd.R_drew HO_14.out)
              replace BK739 := Aside0.mk (blk_drew BK739.out)
              replace BK740 := Aside0.mk (blk_drew BK740.out)
              replace BK741 := Aside0.mk (blk_drew BK741.out)
              replace BK746 := Aside0.mk (blk_drew BK746.out)
              replace BK751 := Aside0.mk (blk_drew BK751.out)
              replace BK757 := Aside0.mk (blk_drew BK757.out)
              replace BK782 := Aside0.mk (blk_drew BK782.out)
              replace BK783 := Aside0.mk (blk_drew BK783.out)
              replace BK784 := Aside0.mk (blk_drew BK784.out)
              replace HB := Aside0.mk (below_drew1 HB.out)
              have p791 : 0 ≤ (x34_6 : Int) := za
              have q791 : x34_6 < (t758.length : Int) := za
              obtain ⟨ad791, e791, hx791_0, hx791_1, hx791_2⟩ := at_T27 (Kd.R_reads' HO_14.out).2.2 x34_6 p791 q791
              cases e791
              replace p791 := eq_true p791
              replace q791 := eq_true q791
              refine sw 12 (fun w' => w'.cell? ⟨gb757, 0, none⟩ = some (.int .i64 t753) ∧ w'.cell? ⟨gb757, 1, none⟩ = some (.int .i64 t754) ∧ w'.cell? ⟨gb757, 2, none⟩ = some (.int .i64 t755) ∧ w'.cell? (ad791.add ((x34_6).toNat * 3)) = some (.int .i64 ((rd_T27 t758 x34_6).f0)) ∧ w'.cell? ⟨(ad791.add ((x34_6).toNat * 3)).block, (ad791.add ((x34_6).toNat * 3)).off + 1, none⟩ = some (.int .i64 ((rd_T27 t758 x34_6).f1)) ∧ w'.cell? ⟨(ad791.add ((x34_6).toNat * 3)).block, (ad791.add ((x34_6).toNat * 3)).off + 2, none⟩ = some (.int .i64 ((rd_T27 t758 x34_6).f2))) laws_FnMedians.tab30 laws_FnMedians.bits30 (e3r BK757 ⟨hx791_0, hx791_1, hx791_2⟩) (fun hHeld HT_ HW_ => ?_)
              generalize wr.drew = w124 at HO_14 BK739 BK740 BK741 BK746 BK751 BK757 BK782 BK783 BK784 HB hx791_0 hx791_1 hx791_2 hHeld ⊢
              refine pu 0 (some 194) (tA 12 1) HT_ ?_
              refine pu 2 (some 196) (tA 12 5) HT_ ?_
              refine pu 3 (some 197) (tA 12 13) HT_ ?_
              refine pu 4 (some 198) (tA 12 29) HT_ ?_
              refine tk6 1 (some 195) (tA 12 31) HT_ HW_ hHeld ?_
              refine tk6 5 (some 199) (tA 12 63) HT_ HW_ hHeld ?_
              refine o1 6 (some 200) (tA 12 127) HT_ (fun K hK => ?_)
              refine gs Try.func44 #[.int .i64 t752, .agg #[.int .i64 t753, .int .i64 t754, .int .i64 t755], .agg #[.int .i64 ((rd_T27 t758 x34_6).f0), .int .i64 ((rd_T27 t758 x34_6).f1), .int .i64 ((rd_T27 t758 x34_6).f2)]] ?_
              with_reducible refine (impl_TreeDistance.calls k6 t752 t753 t754 t755 ((rd_T27 t758 x34_6).f0) ((rd_T27 t758 x34_6).f1) ((rd_T27 t758 x34_6).f2) t792 t793 _ A120.out).mono ?_
              rintro e w125 ⟨rfl, hb⟩
              have HS3_ := (hb.cell (World.block_lt_of_cell? _ _ (hHeld.2.2.2.1))).trans (hHeld.2.2.2.1)
              have HS4_ := (hb.cell (World.block_lt_of_cell? _ _ (hHeld.2.2.2.2.1))).trans (hHeld.2.2.2.2.1)
              have HS5_ := (hb.cell (World.block_lt_of_cell? _ _ (hHeld.2.2.2.2.2))).trans (hHeld.2.2.2.2.2)
              refine ⟨_, rfl, ?_⟩
              replace HO_14 := Aside0.mk (Kd.R_below (by (with_reducible repeat (first | apply Kd.R_alloc | apply Kd.R_drewN | apply Kd.R_drew)); exact HO_14.out) hb)
              replace BK739 := bb BK739 hb
              replace BK740 := bb BK740 hb
              replace BK741 := bb BK741 hb
              replace BK746 := bb BK746 hb
              replace BK751 := bb BK751 hb
              replace BK757 := bb BK757 hb
              replace BK782 := bb BK782 hb
              replace BK783 := bb BK783 hb
              replace BK784 := bb BK784 hb
              replace HB := bs hb
              (try clear hb)
              (try clear hb2)
              (try clear hk)
              (try clear hi)
              refine hK.out _ _ (e3r BK757 ⟨HS3_, HS4_, HS5_⟩) (fun hHeld => ?_)
              clear hK K
              refine nm (some 200) ?_
              refine pu 7 (some 193) (tA 12 255) HT_ ?_
              refine pu 8 (some 201) (tA 12 511) HT_ ?_
              refine pu 9 (some 202) (tA 12 1023) HT_ ?_
              refine pu 10 (some 35) (tA 12 2047) HT_ ?_
              refine pu 11 (some 36) (tA 12 4095) HT_ ?_
              refine done_ (done_of HT_.out (by kernel_rfl)) ?_
              try go_wp2
              go_roundg k6
              case measure => go_light; have := HJ74.out; have := HJ113.out; have := HK6.out; omega
              case rel => go_light; exact ⟨(wrap64 (x34_6 + 1)), (by first | rfl | (simp; done) | (simp [*]; done)), H', ⟨by have := HJ74.out; have := HJ113.out; have := HK6.out; omega⟩, ⟨by (with_reducible repeat (first | apply Kd.R_alloc | apply Kd.R_drewN | apply Kd.R_drew)); exact HO_14.out⟩, ⟨be BK739⟩, ⟨be BK740⟩, ⟨be BK741⟩, ⟨be BK746⟩, ⟨be BK751⟩, ⟨be BK757⟩, ⟨be BK782⟩, ⟨be BK783⟩, ⟨be BK784⟩, ⟨bl⟩⟩
             ·obtain ⟨c122b0, c122b1⟩ := zy c122
              exact absurd ((Option.some.inj H).trans hr.out) (by simp)
            ·obtain ⟨c121b0, c121b1⟩ := zy c121
             exact absurd ((Option.some.inj H).trans hr.out) (by simp)
           ·exact absurd H (by simp)
          ·have c118b0 := decide_eq_false c118
           clear c118
           have H' := Aside0.mk H
           clear H
           obtain ⟨Ao126, co126, eo126⟩ := Kd.R_slice HO_14.out
           subst eo126
           go_wp2
           go_meet
           case rel => go_light; exact ⟨_, H', ⟨by have := HJ74.out; have := HJ113.out; have := HK6.out; first | omega | exact Nat.le_refl _⟩, ⟨be BK739⟩, ⟨be BK740⟩, ⟨be BK741⟩, ⟨be BK746⟩, ⟨be BK751⟩, ⟨be BK757⟩, ⟨be BK782⟩, ⟨be BK783⟩, ⟨be BK784⟩, ⟨bl⟩⟩
    ·obtain ⟨c112b0, c112b1⟩ := zy c112
     (first | rw [c112b0] | (simp only [i64_w, i32_w]; rw [c112b0]) | skip)
     have H' := Aside0.mk H
     clear H
     go_wp2
     go_meet
     case rel => go_light; exact ⟨_, H', ⟨by have := HJ74.out; first | omega | exact Nat.le_refl _⟩, ⟨be BK739⟩, ⟨be BK740⟩, ⟨be BK741⟩, ⟨be BK746⟩, ⟨be BK751⟩, ⟨be BK757⟩, ⟨be BK782⟩, ⟨be BK783⟩, ⟨be BK784⟩, ⟨bl⟩⟩
   case rest =>
    clear HC111
    obtain ⟨kq, HA, HJ110, BK739, BK740, BK741, BK746, BK751, BK757, BK782, BK783, BK784, HB⟩ := hcut
    cases kq with
    | zero => exact absurd HA.out (by simp [laws_FnMedians.j6])
    | succ kj110 =>
     have H := HA.out
     clear HA
     rw [laws_FnMedians.j6] at H
     have HC127 := Aside0.mk H
     clear H
     go_upto_if 211 with (fail)
     go_cut [] (fun wc => ∃ (kq : Nat), Aside0 (laws_FnMedians.j7 kq t729 t745 t730 t731 t732 t733 t734 t735 t736 t737 t738 t742 t743 t744 = some r) ∧ Aside0 (kq ≤ kj110) ∧ Aside0 (wc.heap[gb739]? = some (.cells #[.int .i64 t730, .int .i64 t731, .int .i64 t732] 27 (0, 0))) ∧ Aside0 (wc.heap[gb740]? = some (.cells #[.int .i64 t733, .int .i64 t734, .int .i64 t735] 27 (0, 0))) ∧ Aside0 (wc.heap[gb741]? = some (.cells #[.int .i64 t736, .int .i64 t737, .int .i64 t738] 27 (0, 0))) ∧ Aside0 (wc.heap[gb746]? = some (.cells #[.int .i64 t742, .int .i64 t743, .int .i64 t744] 27 (0, 0))) ∧ Aside0 (wc.heap[gb751]? = some (.cells #[.int .i64 t747, .int .i64 t748, .int .i64 t749] 27 (0, 0))) ∧ Aside0 (wc.heap[gb757]? = some (.cells #[.int .i64 t753, .int .i64 t754, .int .i64 t755] 27 (0, 0))) ∧ Aside0 (wc.heap[gb782]? = some (.cells #[.int .i64 t774, .int .i64 t775, .int .i64 t776] 27 (0, 0))) ∧ Aside0 (wc.heap[gb783]? = some (.cells #[.int .i64 t777, .int .i64 t778, .int .i64 t779] 27 (0, 0))) ∧ Aside0 (wc.heap[gb784]? = some (.cells #[.int .i64 t780, .int .i64 t781] 63 (0, 0))) ∧ Aside0 (Below w.heap.size w wc))
     case first =>
      as_aux_lemma =>
      have H := HC127.out
      clear HC127
      replace H := ii H
      rcases H with ⟨c128, H⟩ | ⟨c128, H⟩
      ·obtain ⟨c128b0, c128b1⟩ := zz c128
       clear c128
       (first | rw [c128b0] | (simp only [i64_w, i32_w]; rw [c128b0]) | skip)
       replace H := zi H
       obtain ⟨⟨t794, t795⟩, A129, H⟩ := H
       try dsimp only at H
       replace H := zi H
       obtain ⟨⟨t796, t797⟩, A130, H⟩ := H
       try dsimp only at H
       replace H := ii H
       rcases H with ⟨c131, H⟩ | ⟨c131, H⟩
       ·obtain ⟨c131b0, c131b1⟩ := zz c131
        clear c131
        replace H := ii H
        rcases H with ⟨c132, H⟩ | ⟨c132, H⟩
        ·obtain ⟨c132b0, c132b1⟩ := zz c132
         clear c132
         replace H := ii H
         rcases H with ⟨c133, H⟩ | ⟨c133, H⟩
         ·obtain ⟨c133b0, c133b1⟩ := zz c133
          clear c133
          obtain ⟨ji134, hji134⟩ : ∃ j_ : Int, (mx t785 (wrap64 (-t785))) = j_ := ⟨_, rfl⟩
          replace H : (if (ji134) > t796 then (some false) else (if (Int.tmod (wrap64 (t796 - t785)) 2) = 0 then (laws_FnMedians.j7 kj110 t729 t745 t730 t731 t732 t733 t734 t735 t736 t737 t738 t742 t743 t744) else (some false))) = some r := by first | (rw [hji134] at H; exact H) | (simp only [hji134] at H ⊢; exact H)
          (try rw [hji134] at A129)
          (try rw [hji134] at A130)
          have hji134_ : (if t785 < (wrap64 (-t785)) then (wrap64 (-t785)) else t785) = ji134 := hji134
          replace H := ii H
          rcases H with ⟨c135, H⟩ | ⟨c135, H⟩
          ·have c135b0 := decide_eq_true c135
           clear c135
           exact absurd ((Option.some.inj H).trans hr.out) (by simp)
          ·have c135b0 := decide_eq_false c135
           clear c135
           replace H := ii H
           rcases H with ⟨c136, H⟩ | ⟨c136, H⟩
           ·obtain ⟨c136b0, c136b1⟩ := zz c136
            clear c136
            have H' := Aside0.mk H
            clear H
            obtain ⟨hnb143, hnc143⟩ := zm NB782_783
            obtain ⟨hnb144, hnc144⟩ := zn NB783_784
            obtain ⟨hcz145_0, hcz145_1, hcz145_2, hfz145_0, hfz145_1, hfz145_2⟩ := cq3 BK783
            obtain ⟨hnb152, hnc152⟩ := zn NB782_784
            obtain ⟨hcz153_0, hcz153_1, hcz153_2, hfz153_0, hfz153_1, hfz153_2⟩ := cq3 BK782
            obtain ⟨hcz160_0, hcz160_1, hfz160_0, hfz160_1⟩ := z2 BK784
            go_wp2_with (first | ((with_reducible refine zf 59 rfl ?_); refine g1 (some 217) Try.func59 #[.int .i64 t773, .agg #[.int .i64 t777, .int .i64 t778, .int .i64 t779], .agg #[.int .i64 t774, .int .i64 t775, .int .i64 t776], .agg #[.int .i64 t780, .int .i64 t781]] ?_; (with_reducible refine (impl_HeightOver.calls kj110 t773 t777 t778 t779 t774 t775 t776 t780 t781 t794 t795 _ A129.out).mono ?_); rintro e w161 ⟨rfl, hb⟩; refine ⟨_, rfl, ?_⟩; replace BK739 := bb BK739 hb; replace BK740 := bb BK740 hb; replace BK741 := bb BK741 hb; replace BK746 := bb BK746 hb; replace BK751 := bb BK751 hb; replace BK757 := bb BK757 hb; replace BK782 := bb BK782 hb; replace BK783 := bb BK783 hb; replace BK784 := bb BK784 hb; replace HB := bs hb; (try clear hb); obtain ⟨hcz162_0, hcz162_1, hcz162_2, hfz162_0, hfz162_1, hfz162_2⟩ := cq3 BK782; obtain ⟨hcz163_0, hcz163_1, hcz163_2, hfz163_0, hfz163_1, hfz163_2⟩ := cq3 BK783) | ((with_reducible refine zf 44 rfl ?_); refine g1 (some 224) Try.func44 #[.int .i64 t773, .agg #[.int .i64 t774, .int .i64 t775, .int .i64 t776], .agg #[.int .i64 t777, .int .i64 t778, .int .i64 t779]] ?_; (with_reducible refine (impl_TreeDistance.calls kj110 t773 t774 t775 t776 t777 t778 t779 t796 t797 _ A130.out).mono ?_); rintro e w164 ⟨rfl, hb⟩; refine ⟨_, rfl, ?_⟩; replace BK739 := bb BK739 hb; replace BK740 := bb BK740 hb; replace BK741 := bb BK741 hb; replace BK746 := bb BK746 hb; replace BK751 := bb BK751 hb; replace BK757 := bb BK757 hb; replace BK782 := bb BK782 hb; replace BK783 := bb BK783 hb; replace BK784 := bb BK784 hb; replace HB := bs hb; (try clear hb)))
            go_meet
            case rel => go_light; exact ⟨_, H', ⟨by have := HJ74.out; have := HJ110.out; first | omega | exact Nat.le_refl _⟩, ⟨be BK739⟩, ⟨be BK740⟩, ⟨be BK741⟩, ⟨be BK746⟩, ⟨be BK751⟩, ⟨be BK757⟩, ⟨be BK782⟩, ⟨be BK783⟩, ⟨be BK784⟩, ⟨bl⟩⟩
           ·obtain ⟨c136b0, c136b1⟩ := zy c136
            exact absurd ((Option.some.inj H).trans hr.out) (by simp)
         ·obtain ⟨c133b0, c133b1⟩ := zy c133
          exact absurd ((Option.some.inj H).trans hr.out) (by simp)
        ·obtain ⟨c132b0, c132b1⟩ := zy c132
         exact absurd ((Option.some.inj H).trans hr.out) (by simp)
       ·obtain ⟨c131b0, c131b1⟩ := zy c131
        exact absurd ((Option.some.inj H).trans hr.out) (by simp)
      ·obtain ⟨c128b0, c128b1⟩ := zy c128
       (first | rw [c128b0] | (simp only [i64_w, i32_w]; rw [c128b0]) | skip)
       have H' := Aside0.mk H
       clear H
       go_wp2
       go_meet
       case rel => go_light; exact ⟨_, H', ⟨by have := HJ74.out; have := HJ110.out; first | omega | exact Nat.le_refl _⟩, ⟨be BK739⟩, ⟨be BK740⟩, ⟨be BK741⟩, ⟨be BK746⟩, ⟨be BK751⟩, ⟨be BK757⟩, ⟨be BK782⟩, ⟨be BK783⟩, ⟨be BK784⟩, ⟨bl⟩⟩
     case rest =>
      clear HC127
      obtain ⟨kq, HA, HJ126, BK739, BK740, BK741, BK746, BK751, BK757, BK782, BK783, BK784, HB⟩ := hcut
      cases kq with
      | zero => exact absurd HA.out (by simp [laws_FnMedians.j7])
      | succ kj126 =>
       have H := HA.out
       clear HA
       rw [laws_FnMedians.j7] at H
       replace H := ii H
       rcases H with ⟨c165, H⟩ | ⟨c165, H⟩
       ·obtain ⟨c165b0, c165b1⟩ := zz c165
        clear c165
        replace H := zi H
        obtain ⟨⟨t798, t799⟩, A166, H⟩ := H
        try dsimp only at H
        replace H := zi H
        obtain ⟨⟨t800, t801⟩, A167, H⟩ := H
        try dsimp only at H
        replace H := zi H
        obtain ⟨⟨t802, t803⟩, A168, H⟩ := H
        try dsimp only at H
        replace H := zi H
        obtain ⟨⟨t804, t805⟩, A169, H⟩ := H
        try dsimp only at H
        replace H := zi H
        obtain ⟨⟨t806, t807⟩, A170, H⟩ := H
        try dsimp only at H
        replace H := zi H
        obtain ⟨⟨t808, t809⟩, A171, H⟩ := H
        try dsimp only at H
        replace H := ii H
        rcases H with ⟨c172, H⟩ | ⟨c172, H⟩
        ·obtain ⟨c172b0, c172b1⟩ := zz c172
         clear c172
         replace H := ii H
         rcases H with ⟨c173, H⟩ | ⟨c173, H⟩
         ·obtain ⟨c173b0, c173b1⟩ := zz c173
          clear c173
          replace H := ii H
          rcases H with ⟨c174, H⟩ | ⟨c174, H⟩
          ·obtain ⟨c174b0, c174b1⟩ := zz c174
           clear c174
           replace H := ii H
           rcases H with ⟨c175, H⟩ | ⟨c175, H⟩
           ·obtain ⟨c175b0, c175b1⟩ := zz c175
            clear c175
            replace H := ii H
            rcases H with ⟨c176, H⟩ | ⟨c176, H⟩
            ·obtain ⟨c176b0, c176b1⟩ := zz c176
             clear c176
             replace H := ii H
             rcases H with ⟨c177, H⟩ | ⟨c177, H⟩
             ·obtain ⟨c177b0, c177b1⟩ := zz c177
              clear c177
              replace H := ii H
              rcases H with ⟨c178, H⟩ | ⟨c178, H⟩
              ·obtain ⟨c178b0, c178b1⟩ := zz c178
               clear c178
               replace H := ii H
               rcases H with ⟨c179, H⟩ | ⟨c179, H⟩
               ·obtain ⟨c179b0, c179b1⟩ := zz c179
                clear c179
                obtain rfl := Option.some.inj H
                obtain ⟨hnb180, hnc180⟩ := zn NB739_740
                obtain ⟨hcz188_0, hcz188_1, hcz188_2, hfz188_0, hfz188_1, hfz188_2⟩ := cq3 BK739
                obtain ⟨hcz196_0, hcz196_1, hcz196_2, hfz196_0, hfz196_1, hfz196_2⟩ := cq3 BK740
                go_wp2_with (first | ((with_reducible refine zf 44 rfl ?_); refine g1 (some 263) Try.func44 #[.int .i64 t729, .agg #[.int .i64 t730, .int .i64 t731, .int .i64 t732], .agg #[.int .i64 t733, .int .i64 t734, .int .i64 t735]] ?_; (with_reducible refine (impl_TreeDistance.calls kj126 t729 t730 t731 t732 t733 t734 t735 t798 t799 _ A166.out).mono ?_); rintro e w197 ⟨rfl, hb⟩; refine ⟨_, rfl, ?_⟩; replace BK739 := bb BK739 hb; replace BK740 := bb BK740 hb; replace BK741 := bb BK741 hb; replace BK746 := bb BK746 hb; replace BK751 := bb BK751 hb; replace BK757 := bb BK757 hb; replace BK782 := bb BK782 hb; replace BK783 := bb BK783 hb; replace BK784 := bb BK784 hb; replace HB := bs hb; (try clear hb); obtain ⟨hcz198_0, hcz198_1, hcz198_2, hfz198_0, hfz198_1, hfz198_2⟩ := cq3 BK739; obtain ⟨hnb199, hnc199⟩ := zn NB741_746; obtain ⟨hcz205_0, hcz205_1, hcz205_2, hfz205_0, hfz205_1, hfz205_2⟩ := cq3 BK741) | ((with_reducible refine zf 44 rfl ?_); refine g1 (some 270) Try.func44 #[.int .i64 t729, .agg #[.int .i64 t730, .int .i64 t731, .int .i64 t732], .agg #[.int .i64 t736, .int .i64 t737, .int .i64 t738]] ?_; (with_reducible refine (impl_TreeDistance.calls kj126 t729 t730 t731 t732 t736 t737 t738 t800 t801 _ A167.out).mono ?_); rintro e w206 ⟨rfl, hb⟩; refine ⟨_, rfl, ?_⟩; replace BK739 := bb BK739 hb; replace BK740 := bb BK740 hb; replace BK741 := bb BK741 hb; replace BK746 := bb BK746 hb; replace BK751 := bb BK751 hb; replace BK757 := bb BK757 hb; replace BK782 := bb BK782 hb; replace BK783 := bb BK783 hb; replace BK784 := bb BK784 hb; replace HB := bs hb; (try clear hb); obtain ⟨hcz207_0, hcz207_1, hcz207_2, hfz207_0, hfz207_1, hfz207_2⟩ := cq3 BK740; obtain ⟨hcz208_0, hcz208_1, hcz208_2, hfz208_0, hfz208_1, hfz208_2⟩ := cq3 BK741) | ((with_reducible refine zf 44 rfl ?_); refine g1 (some 277) Try.func44 #[.int .i64 t729, .agg #[.int .i64 t733, .int .i64 t734, .int .i64 t735], .agg #[.int .i64 t736, .int .i64 t737, .int .i64 t738]] ?_; (with_reducible refine (impl_TreeDistance.calls kj126 t729 t733 t734 t735 t736 t737 t738 t802 t803 _ A168.out).mono ?_); rintro e w209 ⟨rfl, hb⟩; refine ⟨_, rfl, ?_⟩; replace BK739 := bb BK739 hb; replace BK740 := bb BK740 hb; replace BK741 := bb BK741 hb; replace BK746 := bb BK746 hb; replace BK751 := bb BK751 hb; replace BK757 := bb BK757 hb; replace BK782 := bb BK782 hb; replace BK783 := bb BK783 hb; replace BK784 := bb BK784 hb; replace HB := bs hb; (try clear hb); obtain ⟨hcz210_0, hcz210_1, hcz210_2, hfz210_0, hfz210_1, hfz210_2⟩ := cq3 BK739; obtain ⟨hcz216_0, hcz216_1, hcz216_2, hfz216_0, hfz216_1, hfz216_2⟩ := cq3 BK746) | ((with_reducible refine zf 44 rfl ?_); refine g1 (some 284) Try.func44 #[.int .i64 t729, .agg #[.int .i64 t730, .int .i64 t731, .int .i64 t732], .agg #[.int .i64 t742, .int .i64 t743, .int .i64 t744]] ?_; (with_reducible refine (impl_TreeDistance.calls kj126 t729 t730 t731 t732 t742 t743 t744 t804 t805 _ A169.out).mono ?_); rintro e w217 ⟨rfl, hb⟩; refine ⟨_, rfl, ?_⟩; replace BK739 := bb BK739 hb; replace BK740 := bb BK740 hb; replace BK741 := bb BK741 hb; replace BK746 := bb BK746 hb; replace BK751 := bb BK751 hb; replace BK757 := bb BK757 hb; replace BK782 := bb BK782 hb; replace BK783 := bb BK783 hb; replace BK784 := bb BK784 hb; replace HB := bs hb; (try clear hb); obtain ⟨hcz218_0, hcz218_1, hcz218_2, hfz218_0, hfz218_1, hfz218_2⟩ := cq3 BK740; obtain ⟨hcz219_0, hcz219_1, hcz219_2, hfz219_0, hfz219_1, hfz219_2⟩ := cq3 BK746) | ((with_reducible refine zf 44 rfl ?_); refine g1 (some 291) Try.func44 #[.int .i64 t729, .agg #[.int .i64 t733, .int .i64 t734, .int .i64 t735], .agg #[.int .i64 t742, .int .i64 t743, .int .i64 t744]] ?_; (with_reducible refine (impl_TreeDistance.calls kj126 t729 t733 t734 t735 t742 t743 t744 t806 t807 _ A170.out).mono ?_); rintro e w220 ⟨rfl, hb⟩; refine ⟨_, rfl, ?_⟩; replace BK739 := bb BK739 hb; replace BK740 := bb BK740 hb; replace BK741 := bb BK741 hb; replace BK746 := bb BK746 hb; replace BK751 := bb BK751 hb; replace BK757 := bb BK757 hb; replace BK782 := bb BK782 hb; replace BK783 := bb BK783 hb; replace BK784 := bb BK784 hb; replace HB := bs hb; (try clear hb); obtain ⟨hcz221_0, hcz221_1, hcz221_2, hfz221_0, hfz221_1, hfz221_2⟩ := cq3 BK741; obtain ⟨hcz222_0, hcz222_1, hcz222_2, hfz222_0, hfz222_1, hfz222_2⟩ := cq3 BK746) | ((with_reducible refine zf 44 rfl ?_); refine g1 (some 298) Try.func44 #[.int .i64 t729, .agg #[.int .i64 t736, .int .i64 t737, .int .i64 t738], .agg #[.int .i64 t742, .int .i64 t743, .int .i64 t744]] ?_; (with_reducible refine (impl_TreeDistance.calls kj126 t729 t736 t737 t738 t742 t743 t744 t808 t809 _ A171.out).mono ?_); rintro e w223 ⟨rfl, hb⟩; refine ⟨_, rfl, ?_⟩; replace BK739 := bb BK739 hb; replace BK740 := bb BK740 hb; replace BK741 := bb BK741 hb; replace BK746 := bb BK746 hb; replace BK751 := bb BK751 hb; replace BK757 := bb BK757 hb; replace BK782 := bb BK782 hb; replace BK783 := bb BK783 hb; replace BK784 := bb BK784 hb; replace HB := bs hb; (try clear hb)))
                go_ret
                exact ⟨er, bl⟩
               ·obtain ⟨c179b0, c179b1⟩ := zy c179
                exact absurd ((Option.some.inj H).trans hr.out) (by simp)
              ·obtain ⟨c178b0, c178b1⟩ := zy c178
               exact absurd ((Option.some.inj H).trans hr.out) (by simp)
             ·obtain ⟨c177b0, c177b1⟩ := zy c177
              exact absurd ((Option.some.inj H).trans hr.out) (by simp)
            ·obtain ⟨c176b0, c176b1⟩ := zy c176
             exact absurd ((Option.some.inj H).trans hr.out) (by simp)
           ·obtain ⟨c175b0, c175b1⟩ := zy c175
            exact absurd ((Option.some.inj H).trans hr.out) (by simp)
          ·obtain ⟨c174b0, c174b1⟩ := zy c174
           exact absurd ((Option.some.inj H).trans hr.out) (by simp)
         ·obtain ⟨c173b0, c173b1⟩ := zy c173
          exact absurd ((Option.some.inj H).trans hr.out) (by simp)
        ·obtain ⟨c172b0, c172b1⟩ := zy c172
         exact absurd ((Option.some.inj H).trans hr.out) (by simp)
       ·obtain ⟨c165b0, c165b1⟩ := zy c165
        obtain rfl := Option.some.inj H
        obtain ⟨hcz232_0, hcz232_1, hcz232_2, hfz232_0, hfz232_1, hfz232_2⟩ := cq3 BK746
        go_wp2
        go_ret
        exact ⟨er, bl⟩
end Go.Proofs.Ytpmepopagapeiaa.PFnMedians

-- Printed by the kit's print and repaired by a program of this session.
import Derived.Test.YtpmepopagapeiaaPFnMediansx0
import Derived.Test.YtpmepopagapeiaaPFnMediansx1
import Derived.Test.YtpmepopagapeiaaPFnMediansx5
import Derived.Test.YtpmepopagapeiaaPFnMediansx8
import Derived.Test.YtpmepopagapeiaaPFnMediansx9
import Derived.Test.YtpmepopagapeiaaPFnMediansx12
import Derived.Test.YtpmepopagapeiaaPFnMediansx13
import Derived.Test.YtpmepopagapeiaaPFnMediansx14
import Derived.Test.YtpmepopagapeiaaPFnMediansx15
import Derived.Test.YtpmepopagapeiaaPFnMediansx17
import Derived.Test.YtpmepopagapeiaaPFnMediansx19
import Derived.Test.YtpmepopagapeiaaPFnMediansx20
import Derived.Deep.Light
import Derived.Test.YtpmepopagapeiaaPFnMediansx21
import Derived.Test.YtpmepopagapeiaaPFnMediansx22
namespace Go.Proofs.Ytpmepopagapeiaa.PFnMedians
open Go.RowKit Go.Proofs.YtpmepopagapeiaaW.PrintWords Go.Proofs.YtpmepopagapeiaaW.PrintLast Go.Proofs.YtpmepopagapeiaaW.PrintMore
attribute [local go_sem] max2_int min2_int max_two min_two max_three min_three max_four min_four
set_option linter.unusedVariables false
set_option linter.unusedSimpArgs false

attribute [local go_sem high] eqA27
set_option maxHeartbeats 60000000 in
set_option maxRecDepth 100000 in
theorem laws_FnMedians.part2 {A0 : Option Addr} {c0 : Nat} {l0 : List Int} {r : Bool} {w : World} {t729} {t730} {t731} {t732} {t733} {t734} {t735} {t736} {t737} {t738} {t742} {t743} {t744} {t745} {t747} {t748} {t749} {t750} {t752} {t753} {t754} {t755} {t756} {t758} {t761} {t765} {gb739 : Nat} {gb740 : Nat} {gb741 : Nat} {gb746 : Nat} {gb751 : Nat} {gb757 : Nat} {v759 : Value} {v763 : Value} {kj6 : Nat} {kq : Nat} {x114_47 : Bool} {wc : World}
    {aa ab ac Aa ae af ag ah ai aj ak al am an ao ap aq ar au av aw ax ay az Ab Ac bc Ad Ae bf bg bh bi bj bk Af bm Ag bo Ah bq br Ai bt bu bv bw bx bz ca cb Aj cd ce Ak cg ch ci cj ck cl cm cn co cp cq cr Al ct cu cv cw cx cy cz da db dc dd de df dg dh di dj dk dl dm dn dp dq dr Am dt du dv dw dx dy dz ea eb ec ed ee ef eg eh ei ej ek el em en eo ep eq er es et eu ev ew ex ey ez fa fb fc fd fe ff fg fh fi fj fk fl fm An fo fp fq Ao Ap ft fu fv fw fx fy fz ga gb gc Aq ge gf gg gh gi gj gk gl gm gn go gp gq gr Ar gt gu gv gw gx gy gz ia ib ic As ie ig At Au ij ik il im io ip iq ir it iu iv iw ix iy iz ja jb jc jd je jf jg jh ji jj jk jl jm jn jo jp jq jr js jt ju jv jw jx jy jz la lb lc ld le lf lg lh Av Aw Ax ll lm ln Ay lp lq lr ls lt lu lv lw lx ly lz ma mb mc Az me mf mg mh mi mj Ba ml mm Bb mo Bc mq mr ms mt mu mv mw Bd my mz na nb nc Be ne nf Bf nh ni nj nk : Value}
    (HA : Aside0 (laws_FnMedians.j1 kq l0 t729 t745 t752 t756 t758 t761 x114_47 t730 t731 t732 t733 t734 t735 t736 t737 t738 t742 t743 t744 t753 t754 t755 = some r)) (HJ47 : Aside0 (kq ≤ kj6)) (HO_14 : Aside0 (Kd.R k27 27 wc w.heap.size (fun k_ => k_ ≠ gb739 ∧ k_ ≠ gb740 ∧ k_ ≠ gb741 ∧ k_ ≠ gb746 ∧ k_ ≠ gb751 ∧ k_ ≠ gb757) v759 t758)) (BK739 : Aside0 (wc.heap[gb739]? = some (.cells #[.int .i64 t730, .int .i64 t731, .int .i64 t732] 27 (0, 0)))) (BK740 : Aside0 (wc.heap[gb740]? = some (.cells #[.int .i64 t733, .int .i64 t734, .int .i64 t735] 27 (0, 0)))) (BK741 : Aside0 (wc.heap[gb741]? = some (.cells #[.int .i64 t736, .int .i64 t737, .int .i64 t738] 27 (0, 0)))) (BK746 : Aside0 (wc.heap[gb746]? = some (.cells #[.int .i64 t742, .int .i64 t743, .int .i64 t744] 27 (0, 0)))) (BK751 : Aside0 (wc.heap[gb751]? = some (.cells #[.int .i64 t747, .int .i64 t748, .int .i64 t749] 27 (0, 0)))) (BK757 : Aside0 (wc.heap[gb757]? = some (.cells #[.int .i64 t753, .int .i64 t754, .int .i64 t755] 27 (0, 0)))) (HB : Aside0 (Below w.heap.size w wc)) (GW739 : Aside0 (w.heap.size ≤ gb739)) (GW740 : Aside0 (w.heap.size ≤ gb740)) (GW741 : Aside0 (w.heap.size ≤ gb741)) (GW746 : Aside0 (w.heap.size ≤ gb746)) (GW751 : Aside0 (w.heap.size ≤ gb751)) (GW757 : Aside0 (w.heap.size ≤ gb757)) (NB739_740 : Aside0 (gb739 ≠ gb740)) (NB739_741 : Aside0 (gb739 ≠ gb741)) (NB739_746 : Aside0 (gb739 ≠ gb746)) (NB739_751 : Aside0 (gb739 ≠ gb751)) (NB739_757 : Aside0 (gb739 ≠ gb757)) (NB740_741 : Aside0 (gb740 ≠ gb741)) (NB740_746 : Aside0 (gb740 ≠ gb746)) (NB740_751 : Aside0 (gb740 ≠ gb751)) (NB740_757 : Aside0 (gb740 ≠ gb757)) (NB741_746 : Aside0 (gb741 ≠ gb746)) (NB741_751 : Aside0 (gb741 ≠ gb751)) (NB741_757 : Aside0 (gb741 ≠ gb757)) (NB746_751 : Aside0 (gb746 ≠ gb751)) (NB746_757 : Aside0 (gb746 ≠ gb757)) (NB751_757 : Aside0 (gb751 ≠ gb757)) (HR0 : Aside0 (Kd.C (Kd.int .u8) w A0 l0.length l0)) (HC0 : Aside0 (l0.length ≤ c0)) (hr : Aside0 (r = true)) :
    ∀ K_ : Act → World → Prop, (∀ a_ w_, Code.wp Try.prog ((sufO 8 Try.f9.body).getD .ret) (bodyPost Try.prog Try.f9 fun e w' => e = .returned (.bool r) ∧ Below w.heap.size w w') a_ w_ → K_ a_ w_) → Code.wp Try.prog ((sufM 2 (sufO 7 Try.f9.body)).getD .ret) (Exit.then K_ (bodyPost Try.prog Try.f9 fun e w' => e = .returned (.bool r) ∧ Below w.heap.size w w')) { tmps := #[Value.slice A0 l0.length c0, undef, Value.bool false, Value.int IntKind.i64 t729, Value.pointer (some { block := gb739, off := 0 }), Value.pointer (some { block := gb740, off := 0 }), Value.pointer (some { block := gb741, off := 0 }), Value.pointer (some { block := gb746, off := 0 }), Value.int IntKind.i64 t745, Value.pointer (some { block := gb751, off := 0 }), Value.int IntKind.i64 t750, Value.int IntKind.i64 t752, Value.pointer (some { block := gb757, off := 0 }), Value.int IntKind.i64 t756, v759, Value.int IntKind.i64 t761, v763, Value.int IntKind.i64 t765, undef, undef, undef, undef, undef, undef, undef, undef, undef, undef, undef, undef, undef, undef, undef, undef, undef, undef, undef, undef, undef, undef, undef, undef, undef, undef, undef, undef, undef, undef, undef, undef, undef, undef, undef, aa, ab, ac, Aa, ae, af, ag, ah, ai, aj, ak, al, am, an, ao, ap, aq, ar, au, av, aw, ax, ay, az, Ab, Ac, bc, Ad, Ae, bf, bg, bh, bi, bj, bk, Af, bm, Ag, bo, Ah, bq, br, Ai, bt, bu, bv, bw, bx, bz, ca, cb, Aj, cd, ce, Ak, cg, ch, ci, cj, ck, cl, Value.bool x114_47, cm, cn, co, cp, cq, cr, Al, ct, cu, cv, cw, cx, cy, cz, da, db, dc, dd, de, df, dg, dh, di, dj, dk, dl, dm, dn, dp, dq, dr, Am, dt, du, dv, dw, dx, dy, dz, ea, eb, ec, ed, ee, ef, eg, eh, ei, ej, ek, el, em, en, eo, ep, eq, er, es, et, eu, ev, ew, ex, ey, ez, fa, fb, fc, fd, fe, ff, fg, fh, fi, fj, fk, fl, fm, An, fo, fp, fq, Ao, Ap, ft, fu, fv, fw, fx, fy, fz, ga, gb, gc, Aq, ge, gf, gg, gh, gi, gj, gk, gl, gm, gn, go, gp, gq, gr, Ar, gt, gu, gv, gw, gx, gy, gz, ia, ib, ic, As, ie, ig, At, Au, ij, ik, il, im, io, ip, iq, ir, it, iu, iv, iw, ix, iy, iz, ja, jb, jc, jd, je, jf, jg, jh, ji, jj, jk, jl, jm, jn, jo, jp, jq, jr, js, jt, ju, jv, jw, jx, jy, jz, la, lb, lc, ld, le, lf, lg, lh, Av, Aw, Ax, ll, lm, ln, Ay, lp, lq, lr, ls, lt, lu, lv, lw, lx, ly, lz, ma, mb, mc, Az, me, mf, mg, mh, mi, mj, Ba, ml, mm, Bb, mo, Bc, mq, mr, ms, mt, mu, mv, mw, Bd, my, mz, na, nb, nc, Be, ne, nf, Bf, nh, ni, nj, nk], defers := [] } wc := by
 intro K_ hK_
 replace hK_ := fun a_ w_ h_ => hK_ a_ w_ (sufWp rfl h_)
 refine sufWp rfl ?_
 cases kq with
 | zero => exact absurd HA.out (by simp [laws_FnMedians.j1])
 | succ kj47 =>
  have H := HA.out
  clear HA
  rw [laws_FnMedians.j1] at H
  by_cases c64 : x114_47 = true
  ·subst c64
   rw [if_pos rfl] at H
   exact absurd ((Option.some.inj H).trans hr.out) (by simp)
  ·replace c64 := Bool.eq_false_iff.mpr c64
   subst c64
   have H1 : ((spec_DrawCountOfSphere.f kj47 l0).bind fun bt767 => ((impl_CountOfSphere.f kj47 bt767.1 bt767.2).bind fun bt769 => ((spec_CountOfSphere.f kj47 bt767.1 bt767.2).bind fun bt771 => (if bt769.2 = bt771.2 then (laws_FnMedians.j2 kj47 l0 t729 t745 t752 t756 t758 t761 (bt769.1 != bt771.1) t730 t731 t732 t733 t734 t735 t736 t737 t738 t742 t743 t744 t753 t754 t755) else (laws_FnMedians.j2 kj47 l0 t729 t745 t752 t756 t758 t761 true t730 t731 t732 t733 t734 t735 t736 t737 t738 t742 t743 t744 t753 t754 t755))))) = some r := by rw [if_neg (show ¬ (false = true) by decide)] at H; exact H
   clear H
   have H := H1
   clear H1
   replace H := zi H
   obtain ⟨⟨t767, t768⟩, A65, H⟩ := H
   try dsimp only at H
   replace H := zi H
   obtain ⟨⟨t769, t770⟩, A66, H⟩ := H
   try dsimp only at H
   replace H := zi H
   obtain ⟨⟨t771, t772⟩, A67, H⟩ := H
   try dsimp only at H
   have HC68 := Aside0.mk H
   clear H
   go_upto_region 16 with (first | ((with_reducible refine zf 55 rfl ?_); refine g1 (some 117) Try.func55 #[.slice A0 l0.length c0] ?_; (with_reducible refine (spec_DrawCountOfSphere.calls kj47 _ _ l0 t767 t768 _ ?side1 ?side2 A65.out).mono ?_); (case side1 => repeat (first | exact (Kd.C_below HR0.out HB.out) | (with_reducible refine Kd.C_alloc ?_ _) | (with_reducible refine Kd.C_drewN ?_ _) | (with_reducible refine Kd.C_drew ?_))); (case side2 => exact HC0.out); rintro e w69 ⟨rfl, hb⟩; refine ⟨_, rfl, ?_⟩; replace HO_14 := Aside0.mk (Kd.R_below (by (with_reducible repeat (first | apply Kd.R_alloc | apply Kd.R_drewN | apply Kd.R_drew)); exact HO_14.out) hb); replace BK739 := bb BK739 hb; replace BK740 := bb BK740 hb; replace BK741 := bb BK741 hb; replace BK746 := bb BK746 hb; replace BK751 := bb BK751 hb; replace BK757 := bb BK757 hb; replace HB := bs hb; (try clear hb)) | ((with_reducible refine zf 56 rfl ?_); refine g1 (some 123) Try.func56 #[.int .i64 t767, .int .i64 t768] ?_; (with_reducible refine (impl_CountOfSphere.calls kj47 t767 t768 t769 t770 _ A66.out).mono ?_); rintro e w' ⟨rfl, ⟨nd, rfl⟩⟩; refine ⟨_, rfl, ?_⟩) | ((with_reducible refine zf 57 rfl ?_); refine g1 (some 129) Try.func57 #[.int .i64 t767, .int .i64 t768] ?_; (with_reducible refine (spec_CountOfSphere.calls kj47 t767 t768 t771 t772 _ A67.out).mono ?_); rintro e w' ⟨rfl, ⟨nd, rfl⟩⟩; refine ⟨_, rfl, ?_⟩))
   (try simp only [Act.put, zq, zr, zt])
   go_cut [139] (fun v139 wc => ∃ (kq : Nat) (x139_67 : Bool), v139 = .bool x139_67 ∧ Aside0 (laws_FnMedians.j2 kq l0 t729 t745 t752 t756 t758 t761 x139_67 t730 t731 t732 t733 t734 t735 t736 t737 t738 t742 t743 t744 t753 t754 t755 = some r) ∧ Aside0 (kq ≤ kj47) ∧ Aside0 (Kd.R k27 27 wc w.heap.size (fun k_ => k_ ≠ gb739 ∧ k_ ≠ gb740 ∧ k_ ≠ gb741 ∧ k_ ≠ gb746 ∧ k_ ≠ gb751 ∧ k_ ≠ gb757) v759 t758) ∧ Aside0 (wc.heap[gb739]? = some (.cells #[.int .i64 t730, .int .i64 t731, .int .i64 t732] 27 (0, 0))) ∧ Aside0 (wc.heap[gb740]? = some (.cells #[.int .i64 t733, .int .i64 t734, .int .i64 t735] 27 (0, 0))) ∧ Aside0 (wc.heap[gb741]? = some (.cells #[.int .i64 t736, .int .i64 t737, .int .i64 t738] 27 (0, 0))) ∧ Aside0 (wc.heap[gb746]? = some (.cells #[.int .i64 t742, .int .i64 t743, .int .i64 t744] 27 (0, 0))) ∧ Aside0 (wc.heap[gb751]? = some (.cells #[.int .i64 t747, .int .i64 t748, .int .i64 t749] 27 (0, 0))) ∧ Aside0 (wc.heap[gb757]? = some (.cells #[.int .i64 t753, .int .i64 t754, .int .i64 t755] 27 (0, 0))) ∧ Aside0 (Below w.heap.size w wc))
   case first =>
    as_aux_lemma =>
    have H := HC68.out
    clear HC68
    replace H := ii H
    rcases H with ⟨c70, H⟩ | ⟨c70, H⟩
    ·obtain ⟨c70b0, c70b1⟩ := zz c70
     clear c70
     (first | rw [c70b0] | (simp only [i64_w, i32_w]; rw [c70b0]) | skip)
     have H' := Aside0.mk H
     clear H
     go_wp2
     go_meet
     case rel => go_light; exact ⟨_, ((t769 != t771)), (by first | rfl | (simp; done) | (simp [*]; done)), H', ⟨by have := HJ47.out; first | omega | exact Nat.le_refl _⟩, ⟨by (with_reducible repeat (first | apply Kd.R_alloc | apply Kd.R_drewN | apply Kd.R_drew)); exact HO_14.out⟩, ⟨be BK739⟩, ⟨be BK740⟩, ⟨be BK741⟩, ⟨be BK746⟩, ⟨be BK751⟩, ⟨be BK757⟩, ⟨bl⟩⟩
    ·obtain ⟨c70b0, c70b1⟩ := zy c70
     (first | rw [c70b0] | (simp only [i64_w, i32_w]; rw [c70b0]) | skip)
     have H' := Aside0.mk H
     clear H
     go_wp2
     go_meet
     case rel => go_light; exact ⟨_, (true), (by first | rfl | (simp; done) | (simp [*]; done)), H', ⟨by have := HJ47.out; first | omega | exact Nat.le_refl _⟩, ⟨by (with_reducible repeat (first | apply Kd.R_alloc | apply Kd.R_drewN | apply Kd.R_drew)); exact HO_14.out⟩, ⟨be BK739⟩, ⟨be BK740⟩, ⟨be BK741⟩, ⟨be BK746⟩, ⟨be BK751⟩, ⟨be BK757⟩, ⟨bl⟩⟩
   case rest =>
    clear HC68
    obtain ⟨kq, x139_67, rfl, HA, HJ67, HO_14, BK739, BK740, BK741, BK746, BK751, BK757, HB⟩ := hcut
    cases kq with
    | zero => exact absurd HA.out (by simp [laws_FnMedians.j2])
    | succ kj67 =>
     have H := HA.out
     clear HA
     rw [laws_FnMedians.j2] at H
     by_cases c71 : x139_67 = true
     ·subst c71
      rw [if_pos rfl] at H
      exact absurd ((Option.some.inj H).trans hr.out) (by simp)
     ·replace c71 := Bool.eq_false_iff.mpr c71
      subst c71
      have H1 : ((spec_DrawHeightOver.f kj67 l0).bind fun bt773 => ((impl_HeightOver.f kj67 bt773.1 bt773.2.1 bt773.2.2.1 bt773.2.2.2.1 bt773.2.2.2.2.1 bt773.2.2.2.2.2.1 bt773.2.2.2.2.2.2.1 bt773.2.2.2.2.2.2.2.1 bt773.2.2.2.2.2.2.2.2).bind fun bt785 => ((spec_HeightOver.f kj67 bt773.1 bt773.2.1 bt773.2.2.1 bt773.2.2.2.1 bt773.2.2.2.2.1 bt773.2.2.2.2.2.1 bt773.2.2.2.2.2.2.1 bt773.2.2.2.2.2.2.2.1 bt773.2.2.2.2.2.2.2.2).bind fun bt787 => (if bt785.2 = bt787.2 then (laws_FnMedians.j3 kj67 t729 t745 t752 t756 t758 t761 bt773.1 bt785.1 bt785.2 (bt785.1 != bt787.1) t730 t731 t732 t733 t734 t735 t736 t737 t738 t742 t743 t744 t753 t754 t755 bt773.2.1 bt773.2.2.1 bt773.2.2.2.1 bt773.2.2.2.2.1 bt773.2.2.2.2.2.1 bt773.2.2.2.2.2.2.1 bt773.2.2.2.2.2.2.2.1 bt773.2.2.2.2.2.2.2.2) else (laws_FnMedians.j3 kj67 t729 t745 t752 t756 t758 t761 bt773.1 bt785.1 bt785.2 true t730 t731 t732 t733 t734 t735 t736 t737 t738 t742 t743 t744 t753 t754 t755 bt773.2.1 bt773.2.2.1 bt773.2.2.2.1 bt773.2.2.2.2.1 bt773.2.2.2.2.2.1 bt773.2.2.2.2.2.2.1 bt773.2.2.2.2.2.2.2.1 bt773.2.2.2.2.2.2.2.2))))) = some r := by rw [if_neg (show ¬ (false = true) by decide)] at H; exact H
      clear H
      have H := H1
      clear H1
      replace H := zi H
      obtain ⟨⟨t773, t774, t775, t776, t777, t778, t779, t780, t781⟩, A72, H⟩ := H
      try dsimp only at H
      replace H := zi H
      obtain ⟨⟨t785, t786⟩, A73, H⟩ := H
      try dsimp only at H
      replace H := zi H
      obtain ⟨⟨t787, t788⟩, A74, H⟩ := H
      try dsimp only at H
      have HC75 := Aside0.mk H
      clear H
      go_upto_region 21 with (first | ((with_reducible refine zf 58 rfl ?_); refine g1 (some 142) Try.func58 #[.slice A0 l0.length c0] ?_; (with_reducible refine (spec_DrawHeightOver.calls kj67 _ _ l0 t773 t774 t775 t776 t777 t778 t779 t780 t781 _ ?side1 ?side2 A72.out).mono ?_); (case side1 => repeat (first | exact (Kd.C_below HR0.out HB.out) | (with_reducible refine Kd.C_alloc ?_ _) | (with_reducible refine Kd.C_drewN ?_ _) | (with_reducible refine Kd.C_drew ?_))); (case side2 => exact HC0.out); rintro e w76 ⟨rfl, hb⟩; refine ⟨_, rfl, ?_⟩; replace HO_14 := Aside0.mk (Kd.R_below (by (with_reducible repeat (first | apply Kd.R_alloc | apply Kd.R_drewN | apply Kd.R_drew)); exact HO_14.out) hb); replace BK739 := bb BK739 hb; replace BK740 := bb BK740 hb; replace BK741 := bb BK741 hb; replace BK746 := bb BK746 hb; replace BK751 := bb BK751 hb; replace BK757 := bb BK757 hb; replace HB := bs hb; (try clear hb)) | ((with_reducible refine zg 25 rfl ?_); (try (refine gate_guard (by rfl) ?_; dsimp only)); refine z3 25 27 0 0 0 ?_; intro gb782 hg w77 BK782 hb; have GW782 := sg hg; have NB739_782 := nl hg BK739; have NB740_782 := nl hg BK740; have NB741_782 := nl hg BK741; have NB746_782 := nl hg BK746; have NB751_782 := nl hg BK751; have NB757_782 := nl hg BK757; replace HO_14 := Aside0.mk (Kd.R_below (Kd.R_elderB (by (with_reducible repeat (first | apply Kd.R_alloc | apply Kd.R_drewN | apply Kd.R_drew)); exact HO_14.out) gb782 (Nat.le_of_eq hg.symm)) hb); replace BK739 := bb BK739 hb; replace BK740 := bb BK740 hb; replace BK741 := bb BK741 hb; replace BK746 := bb BK746 hb; replace BK751 := bb BK751 hb; replace BK757 := bb BK757 hb; replace HB := bs hb; clear hb hg) | ((with_reducible refine zg 26 rfl ?_); (try (refine gate_guard (by rfl) ?_; dsimp only)); refine z3 26 27 0 0 0 ?_; intro gb783 hg w78 BK783 hb; have GW783 := sg hg; have NB739_783 := nl hg BK739; have NB740_783 := nl hg BK740; have NB741_783 := nl hg BK741; have NB746_783 := nl hg BK746; have NB751_783 := nl hg BK751; have NB757_783 := nl hg BK757; have NB782_783 := nl hg BK782; replace HO_14 := Aside0.mk (Kd.R_below (Kd.R_elderB (by (with_reducible repeat (first | apply Kd.R_alloc | apply Kd.R_drewN | apply Kd.R_drew)); exact HO_14.out) gb783 (Nat.le_of_eq hg.symm)) hb); replace BK739 := bb BK739 hb; replace BK740 := bb BK740 hb; replace BK741 := bb BK741 hb; replace BK746 := bb BK746 hb; replace BK751 := bb BK751 hb; replace BK757 := bb BK757 hb; replace BK782 := bb BK782 hb; replace HB := bs hb; clear hb hg) | ((with_reducible refine zg 27 rfl ?_); (try (refine gate_guard (by rfl) ?_; dsimp only)); refine zb 27 63 #[.int .i64 0, .int .i64 0] ?_; intro gb784 hg w79 BK784 hb; have GW784 := sg hg; have NB739_784 := nl hg BK739; have NB740_784 := nl hg BK740; have NB741_784 := nl hg BK741; have NB746_784 := nl hg BK746; have NB751_784 := nl hg BK751; have NB757_784 := nl hg BK757; have NB782_784 := nl hg BK782; have NB783_784 := nl hg BK783; replace HO_14 := Aside0.mk (Kd.R_below (by (with_reducible repeat (first | apply Kd.R_alloc | apply Kd.R_drewN | apply Kd.R_drew)); exact HO_14.out) hb); replace BK739 := bb BK739 hb; replace BK740 := bb BK740 hb; replace BK741 := bb BK741 hb; replace BK746 := bb BK746 hb; replace BK751 := bb BK751 hb; replace BK757 := bb BK757 hb; replace BK782 := bb BK782 hb; replace BK783 := bb BK783 hb; replace HB := bs hb; clear hb hg; obtain ⟨hnb86, hnc86⟩ := zn NB782_783; obtain ⟨hnb87, hnc87⟩ := zn NB782_784; obtain ⟨hcz88_0, hcz88_1, hcz88_2, hfz88_0, hfz88_1, hfz88_2⟩ := cq3 BK782; obtain ⟨hnb95, hnc95⟩ := zn NB783_784; obtain ⟨hcz96_0, hcz96_1, hcz96_2, hfz96_0, hfz96_1, hfz96_2⟩ := cq3 BK783; obtain ⟨hcz103_0, hcz103_1, hfz103_0, hfz103_1⟩ := z2 BK784) | ((with_reducible refine zf 59 rfl ?_); refine g1 (some 152) Try.func59 #[.int .i64 t773, .agg #[.int .i64 t774, .int .i64 t775, .int .i64 t776], .agg #[.int .i64 t777, .int .i64 t778, .int .i64 t779], .agg #[.int .i64 t780, .int .i64 t781]] ?_; (with_reducible refine (impl_HeightOver.calls kj67 t773 t774 t775 t776 t777 t778 t779 t780 t781 t785 t786 _ A73.out).mono ?_); rintro e w104 ⟨rfl, hb⟩; refine ⟨_, rfl, ?_⟩; replace HO_14 := Aside0.mk (Kd.R_below (by (with_reducible repeat (first | apply Kd.R_alloc | apply Kd.R_drewN | apply Kd.R_drew)); exact (Kd.R_mono (Kd.R_mono (Kd.R_mono (Kd.R_far (p := ⟨gb784, 1, none⟩) (Kd.R_far (p := ⟨gb784, 0, none⟩) (Kd.R_far (p := ⟨gb783, 2, none⟩) (Kd.R_far (p := ⟨gb783, 1, none⟩) (Kd.R_far (p := ⟨gb783, 0, none⟩) (Kd.R_far (p := ⟨gb782, 2, none⟩) (Kd.R_far (p := ⟨gb782, 1, none⟩) (Kd.R_far (p := ⟨gb782, 0, none⟩) (Kd.R_types (Kd.R_mono (Kd.R_mono HO_14.out (fun k_ hk => (⟨hk, hk.1.2⟩ : _ ∧ k_ ≠ gb782))) (fun k_ hk => (⟨hk, hk.1.2⟩ : _ ∧ k_ ≠ gb783))) BK784.out (by decide)) (fun _ hk => hk.1.1.2) (.int .i64 t774)) (fun _ hk => hk.1.1.2) (.int .i64 t775)) (fun _ hk => hk.1.1.2) (.int .i64 t776)) (fun _ hk => hk.1.2) (.int .i64 t777)) (fun _ hk => hk.1.2) (.int .i64 t778)) (fun _ hk => hk.1.2) (.int .i64 t779)) (fun _ hk => hk.2) (.int .i64 t780)) (fun _ hk => hk.2) (.int .i64 t781)) (fun _ h_ => h_.1)) (fun _ h_ => h_.1)) (fun _ h_ => h_.1))) hb); replace BK739 := Aside0.mk (blk_below (g := gb739) (o := .cells #[.int .i64 t730, .int .i64 t731, .int .i64 t732] 27 (0, 0)) (bp) hb); replace BK740 := Aside0.mk (blk_below (g := gb740) (o := .cells #[.int .i64 t733, .int .i64 t734, .int .i64 t735] 27 (0, 0)) (bp) hb); replace BK741 := Aside0.mk (blk_below (g := gb741) (o := .cells #[.int .i64 t736, .int .i64 t737, .int .i64 t738] 27 (0, 0)) (bp) hb); replace BK746 := Aside0.mk (blk_below (g := gb746) (o := .cells #[.int .i64 t742, .int .i64 t743, .int .i64 t744] 27 (0, 0)) (bp) hb); replace BK751 := Aside0.mk (blk_below (g := gb751) (o := .cells #[.int .i64 t747, .int .i64 t748, .int .i64 t749] 27 (0, 0)) (bp) hb); replace BK757 := Aside0.mk (blk_below (g := gb757) (o := .cells #[.int .i64 t753, .int .i64 t754, .int .i64 t755] 27 (0, 0)) (bp) hb); replace BK782 := Aside0.mk (blk_below (g := gb782) (o := .cells #[.int .i64 t774, .int .i64 t775, .int .i64 t776] 27 (0, 0)) (bp) hb); replace BK783 := Aside0.mk (blk_below (g := gb783) (o := .cells #[.int .i64 t777, .int .i64 t778, .int .i64 t779] 27 (0, 0)) (bp) hb); replace BK784 := Aside0.mk (blk_below (g := gb784) (o := .cells #[.int .i64 t780, .int .i64 t781] 63 (0, 0)) (bp) hb); replace HB := bs hb; (try clear hb); obtain ⟨hcz105_0, hcz105_1, hcz105_2, hfz105_0, hfz105_1, hfz105_2⟩ := cq3 BK782; obtain ⟨hcz106_0, hcz106_1, hcz106_2, hfz106_0, hfz106_1, hfz106_2⟩ := cq3 BK783; obtain ⟨hcz107_0, hcz107_1, hfz107_0, hfz107_1⟩ := z2 BK784) | ((with_reducible refine zf 60 rfl ?_); refine g1 (some 160) Try.func60 #[.int .i64 t773, .agg #[.int .i64 t774, .int .i64 t775, .int .i64 t776], .agg #[.int .i64 t777, .int .i64 t778, .int .i64 t779], .agg #[.int .i64 t780, .int .i64 t781]] ?_; (with_reducible refine (spec_HeightOver.calls kj67 t773 t774 t775 t776 t777 t778 t779 t780 t781 t787 t788 _ A74.out).mono ?_); rintro e w108 ⟨rfl, hb⟩; refine ⟨_, rfl, ?_⟩; replace HO_14 := Aside0.mk (Kd.R_below (by (with_reducible repeat (first | apply Kd.R_alloc | apply Kd.R_drewN | apply Kd.R_drew)); exact HO_14.out) hb); replace BK739 := bb BK739 hb; replace BK740 := bb BK740 hb; replace BK741 := bb BK741 hb; replace BK746 := bb BK746 hb; replace BK751 := bb BK751 hb; replace BK757 := bb BK757 hb; replace BK782 := bb BK782 hb; replace BK783 := bb BK783 hb; replace BK784 := bb BK784 hb; replace HB := bs hb; (try clear hb)))
      (try simp only [Act.put, zq, zr, zt])
      go_cut [170] (fun v170 wc => ∃ (kq : Nat) (x170_74 : Bool), v170 = .bool x170_74 ∧ Aside0 (laws_FnMedians.j3 kq t729 t745 t752 t756 t758 t761 t773 t785 t786 x170_74 t730 t731 t732 t733 t734 t735 t736 t737 t738 t742 t743 t744 t753 t754 t755 t774 t775 t776 t777 t778 t779 t780 t781 = some r) ∧ Aside0 (kq ≤ kj67) ∧ Aside0 (Kd.R k27 27 wc w.heap.size (fun k_ => k_ ≠ gb739 ∧ k_ ≠ gb740 ∧ k_ ≠ gb741 ∧ k_ ≠ gb746 ∧ k_ ≠ gb751 ∧ k_ ≠ gb757 ∧ k_ ≠ gb782 ∧ k_ ≠ gb783) v759 t758) ∧ Aside0 (wc.heap[gb739]? = some (.cells #[.int .i64 t730, .int .i64 t731, .int .i64 t732] 27 (0, 0))) ∧ Aside0 (wc.heap[gb740]? = some (.cells #[.int .i64 t733, .int .i64 t734, .int .i64 t735] 27 (0, 0))) ∧ Aside0 (wc.heap[gb741]? = some (.cells #[.int .i64 t736, .int .i64 t737, .int .i64 t738] 27 (0, 0))) ∧ Aside0 (wc.heap[gb746]? = some (.cells #[.int .i64 t742, .int .i64 t743, .int .i64 t744] 27 (0, 0))) ∧ Aside0 (wc.heap[gb751]? = some (.cells #[.int .i64 t747, .int .i64 t748, .int .i64 t749] 27 (0, 0))) ∧ Aside0 (wc.heap[gb757]? = some (.cells #[.int .i64 t753, .int .i64 t754, .int .i64 t755] 27 (0, 0))) ∧ Aside0 (wc.heap[gb782]? = some (.cells #[.int .i64 t774, .int .i64 t775, .int .i64 t776] 27 (0, 0))) ∧ Aside0 (wc.heap[gb783]? = some (.cells #[.int .i64 t777, .int .i64 t778, .int .i64 t779] 27 (0, 0))) ∧ Aside0 (wc.heap[gb784]? = some (.cells #[.int .i64 t780, .int .i64 t781] 63 (0, 0))) ∧ Aside0 (Below w.heap.size w wc))
      case first =>
       as_aux_lemma =>
       have H := HC75.out
       clear HC75
       replace H := ii H
       rcases H with ⟨c109, H⟩ | ⟨c109, H⟩
       ·obtain ⟨c109b0, c109b1⟩ := zz c109
        clear c109
        (first | rw [c109b0] | (simp only [i64_w, i32_w]; rw [c109b0]) | skip)
        have H' := Aside0.mk H
        clear H
        go_wp2
        go_meet
        case rel => go_light; exact ⟨_, ((t785 != t787)), (by first | rfl | (simp; done) | (simp [*]; done)), H', ⟨by have := HJ47.out; have := HJ67.out; first | omega | exact Nat.le_refl _⟩, ⟨by (with_reducible repeat (first | apply Kd.R_alloc | apply Kd.R_drewN | apply Kd.R_drew)); exact Kd.R_mono HO_14.out (fun _ hk => ⟨hk.1.1.1, ⟨hk.1.1.2.1, ⟨hk.1.1.2.2.1, ⟨hk.1.1.2.2.2.1, ⟨hk.1.1.2.2.2.2.1, ⟨hk.1.1.2.2.2.2.2, ⟨hk.1.2, hk.2⟩⟩⟩⟩⟩⟩⟩)⟩, ⟨be BK739⟩, ⟨be BK740⟩, ⟨be BK741⟩, ⟨be BK746⟩, ⟨be BK751⟩, ⟨be BK757⟩, ⟨be BK782⟩, ⟨be BK783⟩, ⟨be BK784⟩, ⟨bl⟩⟩
       ·obtain ⟨c109b0, c109b1⟩ := zy c109
        (first | rw [c109b0] | (simp only [i64_w, i32_w]; rw [c109b0]) | skip)
        have H' := Aside0.mk H
        clear H
        go_wp2
        go_meet
        case rel => go_light; exact ⟨_, (true), (by first | rfl | (simp; done) | (simp [*]; done)), H', ⟨by have := HJ47.out; have := HJ67.out; first | omega | exact Nat.le_refl _⟩, ⟨by (with_reducible repeat (first | apply Kd.R_alloc | apply Kd.R_drewN | apply Kd.R_drew)); exact Kd.R_mono HO_14.out (fun _ hk => ⟨hk.1.1.1, ⟨hk.1.1.2.1, ⟨hk.1.1.2.2.1, ⟨hk.1.1.2.2.2.1, ⟨hk.1.1.2.2.2.2.1, ⟨hk.1.1.2.2.2.2.2, ⟨hk.1.2, hk.2⟩⟩⟩⟩⟩⟩⟩)⟩, ⟨be BK739⟩, ⟨be BK740⟩, ⟨be BK741⟩, ⟨be BK746⟩, ⟨be BK751⟩, ⟨be BK757⟩, ⟨be BK782⟩, ⟨be BK783⟩, ⟨be BK784⟩, ⟨bl⟩⟩
      case rest =>
       obtain ⟨kq, x170_74, rfl, HA, HJ74, HO_14, BK739, BK740, BK741, BK746, BK751, BK757, BK782, BK783, BK784, HB⟩ := hcut
       refine ‹∀ (a : Act) (w : World), Code.wp _ _ _ a w → _› _ _ ?_
       exact laws_FnMedians.part HA HJ74 HO_14 BK739 BK740 BK741 BK746 BK751 BK757 BK782 BK783 BK784 HB GW739 GW740 GW741 GW746 GW751 GW757 GW782 GW783 GW784 NB739_740 NB739_741 NB739_746 NB739_751 NB739_757 NB739_782 NB739_783 NB739_784 NB740_741 NB740_746 NB740_751 NB740_757 NB740_782 NB740_783 NB740_784 NB741_746 NB741_751 NB741_757 NB741_782 NB741_783 NB741_784 NB746_751 NB746_757 NB746_782 NB746_783 NB746_784 NB751_757 NB751_782 NB751_783 NB751_784 NB757_782 NB757_783 NB757_784 NB782_783 NB782_784 NB783_784 hr _ ‹∀ (a : Act) (w : World), Code.wp _ _ _ a w → _›
end Go.Proofs.Ytpmepopagapeiaa.PFnMedians

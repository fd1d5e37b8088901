-- Printed by the kit's print and repaired by a program of this session.
import Derived.Test.YtkfodnlogflcpaaPFnLatticesx0
import Derived.Test.YtkfodnlogflcpaaPFnLatticesx1
import Derived.Test.YtkfodnlogflcpaaPFnLatticesx2
import Derived.Test.YtkfodnlogflcpaaPFnLatticesx3
import Derived.Test.YtkfodnlogflcpaaPFnLatticesx6
import Derived.Test.YtkfodnlogflcpaaPFnLatticesx7
import Derived.Test.YtkfodnlogflcpaaPFnLatticesx8
import Derived.Test.YtkfodnlogflcpaaPFnLatticesx9
import Derived.Test.YtkfodnlogflcpaaPFnLatticesx10
import Derived.Test.YtkfodnlogflcpaaPFnLatticesx11
import Derived.Test.YtkfodnlogflcpaaPFnLatticesx12
import Derived.Test.YtkfodnlogflcpaaPFnLatticesx13
import Derived.Test.YtkfodnlogflcpaaPFnLatticesx14
import Derived.Test.YtkfodnlogflcpaaPFnLatticesx15
import Derived.Test.YtkfodnlogflcpaaPFnLatticesx19
import Derived.Test.YtkfodnlogflcpaaPFnLatticesx20
import Derived.Test.YtkfodnlogflcpaaPFnLatticesx21
import Derived.Deep.Light
import Derived.Test.YtkfodnlogflcpaaPFnLatticesx22
namespace Go.Proofs.Ytkfodnlogflcpaa.PFnLattices
open Go.RowKit Go.Proofs.YtkfodnlogflcpaaW.PrintWords Go.Proofs.YtkfodnlogflcpaaW.PrintLast Go.Proofs.YtkfodnlogflcpaaW.PrintMore
attribute [local go_sem] max2_int min2_int max_two min_two max_three min_three max_four min_four
set_option linter.unusedVariables false
set_option linter.unusedSimpArgs false

attribute [local go_sem high] eqA27 eqA50
set_option maxHeartbeats 60000000 in
set_option maxRecDepth 100000 in
theorem laws_FnLattices.part {A0 : Option Addr} {c0 : Nat} {l0 : List Int} {r : Bool} {w : World} {t783} {t784} {t785} {t786} {t787} {t788} {t789} {t790} {t791} {t793} {t794} {t795} {t796} {t812} {t813} {t814} {t815} {t817} {t818} {t819} {t820} {t821} {t823} {t824} {t825} {t826} {t827} {gb792 : Nat} {gb797 : Nat} {gb816 : Nat} {gb822 : Nat} {gb828 : Nat} {kj20 : Nat} {kq : Nat} {x222_57 : Bool} {wc : World}
    {aa ab ac ae af ag ah ai aj ak al am an ao ap aq ar au av aw ax ay az bc bf bg bh bi bj bk bm bo bq br bu bv bw bz ca cb cd ce cg ch ci cj ck cl cm cn co cp cq cr ct cu cv cw cx cy cz da db dc dd de df dg dh di dj dk dl dn dp dq dr dt du dv dw dx dy dz ea eb ec ed ee ef eg eh ei ej ek el em en eo ep eq es et eu ev ew ex ey ez fa fb fc fd fe ff fg fh fi fj fk fl fm fo fp fq ft fu fv fw fx fy fz ga gb gc ge gf gg gh gi gj gk gl gm gn go gp gq gr gt gu gv gw gx gy gz ia ib ic ie ig ij ik il im io ip iq ir it iu iv iw ix iy iz ja jb jc jd je jf jg jh ji jj jk jl jm jn jo jp jq jr js jt ju jv jw jx jy jz la lb lc ld le lf lg lh ll lm ln lp lq lr ls lt lu lv lw lx ly lz ma mb mc me mf mg mh mi mj ml mm mo mq mr ms mt mu mv mw my mz na nb nc ne nf ng nh ni nj nk nn no np nq nr nt nu nv nw nx ny nz oa ob oc od oe og oh ol om oo oq ot ou ov ow ox oy oz pa pb pc pd pe pf pg ph pi pj pk pl pm pn po pp pq pt pw px py pz qa qb qc qd qe qf qg : Value}
    (HA : Aside0 (laws_FnLattices.j2 kq l0 t812 t821 x222_57 t813 t814 t815 t817 t818 t819 = some r)) (HJ57 : Aside0 (kq ≤ kj20)) (BK792 : Aside0 (wc.heap[gb792]? = some (.cells #[.int .i64 t788, .int .i64 t789, .int .i64 t790] 27 (0, 0)))) (BK797 : Aside0 (wc.heap[gb797]? = some (.cells #[.int .i64 t793, .int .i64 t794, .int .i64 t795] 27 (0, 0)))) (BK816 : Aside0 (wc.heap[gb816]? = some (.cells #[.int .i64 t813, .int .i64 t814, .int .i64 t815] 27 (0, 0)))) (BK822 : Aside0 (wc.heap[gb822]? = some (.cells #[.int .i64 t817, .int .i64 t818, .int .i64 t819] 27 (0, 0)))) (BK828 : Aside0 (wc.heap[gb828]? = some (.cells #[.int .i64 t823, .int .i64 t824, .int .i64 t825] 27 (0, 0)))) (HB : Aside0 (Below w.heap.size w wc)) (GW792 : Aside0 (w.heap.size ≤ gb792)) (GW797 : Aside0 (w.heap.size ≤ gb797)) (GW816 : Aside0 (w.heap.size ≤ gb816)) (GW822 : Aside0 (w.heap.size ≤ gb822)) (GW828 : Aside0 (w.heap.size ≤ gb828)) (NB792_797 : Aside0 (gb792 ≠ gb797)) (NB792_816 : Aside0 (gb792 ≠ gb816)) (NB792_822 : Aside0 (gb792 ≠ gb822)) (NB792_828 : Aside0 (gb792 ≠ gb828)) (NB797_816 : Aside0 (gb797 ≠ gb816)) (NB797_822 : Aside0 (gb797 ≠ gb822)) (NB797_828 : Aside0 (gb797 ≠ gb828)) (NB816_822 : Aside0 (gb816 ≠ gb822)) (NB816_828 : Aside0 (gb816 ≠ gb828)) (NB822_828 : Aside0 (gb822 ≠ gb828)) (HR0 : Aside0 (Kd.C (Kd.int .u8) w A0 l0.length l0)) (HC0 : Aside0 (l0.length ≤ c0)) (hr : Aside0 (r = true)) :
    ∀ K_ : Act → World → Prop, (∀ a_ w_, Code.wp Try.prog ((sufO 11 Try.f4.body).getD .ret) (bodyPost Try.prog Try.f4 fun e w' => e = .returned (.bool r) ∧ Below w.heap.size w w') a_ w_ → K_ a_ w_) → Code.wp Try.prog ((sufM 1 (sufO 10 Try.f4.body)).getD .ret) (Exit.then K_ (bodyPost Try.prog Try.f4 fun e w' => e = .returned (.bool r) ∧ Below w.heap.size w w')) { tmps := #[Value.slice A0 l0.length c0, undef, aa, Value.int IntKind.i64 t783, Value.int IntKind.i64 t784, Value.int IntKind.i64 t785, Value.int IntKind.i64 t786, Value.int IntKind.i64 t787, Value.pointer (some { block := gb792, off := 0 }), Value.int IntKind.i64 t791, Value.pointer (some { block := gb797, off := 0 }), Value.int IntKind.i64 t796, ab, ac, ae, af, ag, ah, ai, aj, ak, al, Value.int IntKind.i64 t812, Value.pointer (some { block := gb816, off := 0 }), Value.pointer (some { block := gb822, off := 0 }), Value.int IntKind.i64 t820, Value.int IntKind.i64 t821, Value.pointer (some { block := gb828, off := 0 }), Value.int IntKind.i64 t826, Value.int IntKind.i64 t827, undef, undef, undef, undef, undef, undef, undef, undef, undef, undef, undef, undef, undef, undef, undef, undef, undef, undef, undef, undef, undef, undef, undef, undef, undef, undef, undef, undef, undef, am, an, ao, ap, aq, ar, au, av, aw, ax, ay, az, bc, bf, bg, bh, bi, bj, bk, bm, bo, bq, br, bu, bv, bw, bz, ca, cb, cd, ce, cg, ch, ci, cj, ck, cl, cm, cn, co, cp, cq, cr, ct, cu, cv, cw, cx, cy, cz, da, db, dc, dd, de, df, dg, dh, di, dj, dk, dl, dn, dp, dq, dr, dt, du, dv, dw, dx, dy, dz, ea, eb, ec, ed, ee, ef, eg, eh, ei, ej, ek, el, em, en, eo, ep, eq, es, et, eu, ev, ew, ex, ey, ez, fa, fb, fc, fd, fe, ff, fg, fh, fi, fj, fk, fl, fm, fo, fp, fq, ft, fu, fv, fw, fx, fy, fz, ga, gb, gc, ge, gf, gg, gh, gi, gj, gk, gl, gm, gn, go, gp, gq, gr, gt, gu, gv, gw, gx, gy, gz, ia, ib, ic, ie, ig, ij, ik, il, im, io, ip, iq, ir, it, iu, iv, iw, ix, Value.bool x222_57, iy, iz, ja, jb, jc, jd, je, jf, jg, jh, ji, jj, jk, jl, jm, jn, jo, jp, jq, jr, js, jt, ju, jv, jw, jx, jy, jz, la, lb, lc, ld, le, lf, lg, lh, ll, lm, ln, lp, lq, lr, ls, lt, lu, lv, lw, lx, ly, lz, ma, mb, mc, me, mf, mg, mh, mi, mj, ml, mm, mo, mq, mr, ms, mt, mu, mv, mw, my, mz, na, nb, nc, ne, nf, ng, nh, ni, nj, nk, nn, no, np, nq, nr, nt, nu, nv, nw, nx, ny, nz, oa, ob, oc, od, oe, og, oh, ol, om, oo, oq, ot, ou, ov, ow, ox, oy, oz, pa, pb, pc, pd, pe, pf, pg, ph, pi, pj, pk, pl, pm, pn, po, pp, pq, pt, pw, px, py, pz, qa, qb, qc, qd, qe, qf, qg], defers := [] } wc := by
 intro K_ hK_
 replace hK_ := fun a_ w_ h_ => hK_ a_ w_ (sufWp rfl h_)
 refine sufWp rfl ?_
 cases kq with
 | zero => exact absurd HA.out (by simp [laws_FnLattices.j2])
 | succ kj57 =>
  have H := HA.out
  clear HA
  rw [laws_FnLattices.j2] at H
  by_cases c93 : x222_57 = true
  ·subst c93
   rw [if_pos rfl] at H
   exact absurd ((Option.some.inj H).trans hr.out) (by simp)
  ·replace c93 := Bool.eq_false_iff.mpr c93
   subst c93
   have H1 : (if t821 = 0 then ((impl_AreOneClass.f kj57 t812 t813 t814 t815 t817 t818 t819).bind fun bt831 => ((impl_BallOfLattice.f kj57 t812 t813 t814 t815).bind fun bt833 => ((impl_BallOfLattice.f kj57 t812 t817 t818 t819).bind fun bt838 => (if bt831.2 = 0 then (if bt831.1 = true then (if bt833.2.2.2 = bt838.2.2.2 then (laws_FnLattices.j3 kj57 l0 t812 bt833.2.2.2 (!(bt833.1 == bt838.1) || (!(bt833.2.1 == bt838.2.1) || (!(bt833.2.2.1 == bt838.2.2.1)))) t817 t818 t819 bt833.1 bt833.2.1 bt833.2.2.1) else (laws_FnLattices.j3 kj57 l0 t812 bt833.2.2.2 true t817 t818 t819 bt833.1 bt833.2.1 bt833.2.2.1)) else (laws_FnLattices.j3 kj57 l0 t812 bt833.2.2.2 true t817 t818 t819 bt833.1 bt833.2.1 bt833.2.2.1)) else (laws_FnLattices.j3 kj57 l0 t812 bt833.2.2.2 true t817 t818 t819 bt833.1 bt833.2.1 bt833.2.2.1))))) else (laws_FnLattices.j4 kj57 l0)) = some r := by rw [if_neg (show ¬ (false = true) by decide)] at H; exact H
   clear H
   have H := H1
   clear H1
   have HC94 := Aside0.mk H
   clear H
   go_upto_if 224 with (fail)
   go_cut [] (fun wc => ∃ (kq : Nat), Aside0 (laws_FnLattices.j4 kq l0 = some r) ∧ Aside0 (kq ≤ kj57) ∧ Aside0 (wc.heap[gb792]? = some (.cells #[.int .i64 t788, .int .i64 t789, .int .i64 t790] 27 (0, 0))) ∧ Aside0 (wc.heap[gb797]? = some (.cells #[.int .i64 t793, .int .i64 t794, .int .i64 t795] 27 (0, 0))) ∧ Aside0 (wc.heap[gb816]? = some (.cells #[.int .i64 t813, .int .i64 t814, .int .i64 t815] 27 (0, 0))) ∧ Aside0 (wc.heap[gb822]? = some (.cells #[.int .i64 t817, .int .i64 t818, .int .i64 t819] 27 (0, 0))) ∧ Aside0 (wc.heap[gb828]? = some (.cells #[.int .i64 t823, .int .i64 t824, .int .i64 t825] 27 (0, 0))) ∧ Aside0 (Below w.heap.size w wc))
   case first =>
    as_aux_lemma =>
    have H := HC94.out
    clear HC94
    replace H := ii H
    rcases H with ⟨c95, H⟩ | ⟨c95, H⟩
    ·obtain ⟨c95b0, c95b1⟩ := zz c95
     clear c95
     (first | rw [c95b0] | (simp only [i64_w, i32_w]; rw [c95b0]) | skip)
     replace H := zi H
     obtain ⟨⟨t831, t832⟩, A96, H⟩ := H
     try dsimp only at H
     replace H := zi H
     obtain ⟨⟨t833, t834, t835, t836⟩, A97, H⟩ := H
     try dsimp only at H
     replace H := zi H
     obtain ⟨⟨t838, t839, t840, t841⟩, A98, H⟩ := H
     try dsimp only at H
     have HC99 := Aside0.mk H
     clear H
     obtain ⟨hnb102, hnc102⟩ := zn NB816_822
     obtain ⟨hcz104_0, hcz104_1, hcz104_2, hfz104_0, hfz104_1, hfz104_2⟩ := cq3 BK816
     obtain ⟨hcz108_0, hcz108_1, hcz108_2, hfz108_0, hfz108_1, hfz108_2⟩ := cq3 BK822
     go_upto_region 25 with (first | ((with_reducible refine zf 23 rfl ?_); refine g1 (some 229) Try.func23 #[.int .i64 t812, .agg #[.int .i64 t813, .int .i64 t814, .int .i64 t815], .agg #[.int .i64 t817, .int .i64 t818, .int .i64 t819]] ?_; (with_reducible refine (impl_AreOneClass.calls kj57 t812 t813 t814 t815 t817 t818 t819 t831 t832 _ A96.out).mono ?_); rintro e w109 ⟨rfl, hb⟩; refine ⟨_, rfl, ?_⟩; replace BK792 := bb BK792 hb; replace BK797 := bb BK797 hb; replace BK816 := bb BK816 hb; replace BK822 := bb BK822 hb; replace BK828 := bb BK828 hb; replace HB := bs hb; (try clear hb); obtain ⟨hcz110_0, hcz110_1, hcz110_2, hfz110_0, hfz110_1, hfz110_2⟩ := cq3 BK816) | ((with_reducible refine zf 24 rfl ?_); refine g1 (some 235) Try.func24 #[.int .i64 t812, .agg #[.int .i64 t813, .int .i64 t814, .int .i64 t815]] ?_; (with_reducible refine (impl_BallOfLattice.calls kj57 t812 t813 t814 t815 t833 t834 t835 t836 _ A97.out).mono ?_); rintro e w111 ⟨rfl, hb⟩; refine ⟨_, rfl, ?_⟩; replace BK792 := bb BK792 hb; replace BK797 := bb BK797 hb; replace BK816 := bb BK816 hb; replace BK822 := bb BK822 hb; replace BK828 := bb BK828 hb; replace HB := bs hb; (try clear hb)) | ((with_reducible refine zg 32 rfl ?_); refine z3 32 50 0 0 0 ?_; intro gb837 hg w112 BK837 hb; have GW837 := sg hg; have NB792_837 := nl hg BK792; have NB797_837 := nl hg BK797; have NB816_837 := nl hg BK816; have NB822_837 := nl hg BK822; have NB828_837 := nl hg BK828; replace BK792 := bb BK792 hb; replace BK797 := bb BK797 hb; replace BK816 := bb BK816 hb; replace BK822 := bb BK822 hb; replace BK828 := bb BK828 hb; replace HB := bs hb; clear hb hg; obtain ⟨hnb115, hnc115⟩ := zm NB816_837; obtain ⟨hnb116, hnc116⟩ := zm NB822_837; obtain ⟨hcz118_0, hcz118_1, hcz118_2, hfz118_0, hfz118_1, hfz118_2⟩ := cq3 BK837; obtain ⟨hcz119_0, hcz119_1, hcz119_2, hfz119_0, hfz119_1, hfz119_2⟩ := cq3 BK822) | ((with_reducible refine zf 24 rfl ?_); refine g1 (some 241) Try.func24 #[.int .i64 t812, .agg #[.int .i64 t817, .int .i64 t818, .int .i64 t819]] ?_; (with_reducible refine (impl_BallOfLattice.calls kj57 t812 t817 t818 t819 t838 t839 t840 t841 _ A98.out).mono ?_); rintro e w120 ⟨rfl, hb⟩; refine ⟨_, rfl, ?_⟩; replace BK792 := Aside0.mk (blk_below (g := gb792) (o := .cells #[.int .i64 t788, .int .i64 t789, .int .i64 t790] 27 (0, 0)) (bp) hb); replace BK797 := Aside0.mk (blk_below (g := gb797) (o := .cells #[.int .i64 t793, .int .i64 t794, .int .i64 t795] 27 (0, 0)) (bp) hb); replace BK816 := Aside0.mk (blk_below (g := gb816) (o := .cells #[.int .i64 t813, .int .i64 t814, .int .i64 t815] 27 (0, 0)) (bp) hb); replace BK822 := Aside0.mk (blk_below (g := gb822) (o := .cells #[.int .i64 t817, .int .i64 t818, .int .i64 t819] 27 (0, 0)) (bp) hb); replace BK828 := Aside0.mk (blk_below (g := gb828) (o := .cells #[.int .i64 t823, .int .i64 t824, .int .i64 t825] 27 (0, 0)) (bp) hb); replace BK837 := Aside0.mk (blk_below (g := gb837) (o := .cells #[.int .i64 t833, .int .i64 t834, .int .i64 t835] 50 (0, 0)) (bp) hb); replace HB := bs hb; (try clear hb)) | ((with_reducible refine zg 34 rfl ?_); refine z3 34 50 0 0 0 ?_; intro gb842 hg w121 BK842 hb; have GW842 := sg hg; have NB792_842 := nl hg BK792; have NB797_842 := nl hg BK797; have NB816_842 := nl hg BK816; have NB822_842 := nl hg BK822; have NB828_842 := nl hg BK828; have NB837_842 := nl hg BK837; replace BK792 := bb BK792 hb; replace BK797 := bb BK797 hb; replace BK816 := bb BK816 hb; replace BK822 := bb BK822 hb; replace BK828 := bb BK828 hb; replace BK837 := bb BK837 hb; replace HB := bs hb; clear hb hg; obtain ⟨hnb124, hnc124⟩ := zm NB816_842; obtain ⟨hnb125, hnc125⟩ := zm NB822_842; obtain ⟨hnb127, hnc127⟩ := zm NB837_842; obtain ⟨hcz128_0, hcz128_1, hcz128_2, hfz128_0, hfz128_1, hfz128_2⟩ := cq3 BK842))
     as_aux_lemma =>
     (try simp only [Act.put, zq, zr, zt])
     go_cut [259] (fun v259 wc => ∃ (kq : Nat) (x259_98 : Bool), v259 = .bool x259_98 ∧ Aside0 (laws_FnLattices.j3 kq l0 t812 t836 x259_98 t817 t818 t819 t833 t834 t835 = some r) ∧ Aside0 (kq ≤ kj57) ∧ Aside0 (wc.heap[gb792]? = some (.cells #[.int .i64 t788, .int .i64 t789, .int .i64 t790] 27 (0, 0))) ∧ Aside0 (wc.heap[gb797]? = some (.cells #[.int .i64 t793, .int .i64 t794, .int .i64 t795] 27 (0, 0))) ∧ Aside0 (wc.heap[gb816]? = some (.cells #[.int .i64 t813, .int .i64 t814, .int .i64 t815] 27 (0, 0))) ∧ Aside0 (wc.heap[gb822]? = some (.cells #[.int .i64 t817, .int .i64 t818, .int .i64 t819] 27 (0, 0))) ∧ Aside0 (wc.heap[gb828]? = some (.cells #[.int .i64 t823, .int .i64 t824, .int .i64 t825] 27 (0, 0))) ∧ Aside0 (wc.heap[gb837]? = some (.cells #[.int .i64 t833, .int .i64 t834, .int .i64 t835] 50 (0, 0))) ∧ Aside0 (wc.heap[gb842]? = some (.cells #[.int .i64 t838, .int .i64 t839, .int .i64 t840] 50 (0, 0))) ∧ Aside0 (Below w.heap.size w wc))
     case first =>
      as_aux_lemma =>
      have H := HC99.out
      clear HC99
      replace H := ii H
      rcases H with ⟨c129, H⟩ | ⟨c129, H⟩
      ·obtain ⟨c129b0, c129b1⟩ := zz c129
       clear c129
       (first | rw [c129b0] | (simp only [i64_w, i32_w]; rw [c129b0]) | skip)
       by_cases c130 : t831 = true
       ·subst c130
        rw [if_pos rfl] at H
        replace H := ii H
        rcases H with ⟨c131, H⟩ | ⟨c131, H⟩
        ·obtain ⟨c131b0, c131b1⟩ := zz c131
         clear c131
         have H' := Aside0.mk H
         clear H
         obtain ⟨hnb137, hnc137⟩ := zn NB837_842
         obtain ⟨hcz138_0, hcz138_1, hcz138_2, hfz138_0, hfz138_1, hfz138_2⟩ := cq3 BK837
         obtain ⟨hcz144_0, hcz144_1, hcz144_2, hfz144_0, hfz144_1, hfz144_2⟩ := cq3 BK842
         go_wp2
         go_meet
         case rel => go_light; exact ⟨_, ((!(t833 == t838) || (!(t834 == t839) || (!(t835 == t840))))), (by first | rfl | (simp; done) | (simp [*]; done)), H', ⟨by have := HJ57.out; first | omega | exact Nat.le_refl _⟩, ⟨bp⟩, ⟨bp⟩, ⟨bp⟩, ⟨bp⟩, ⟨bp⟩, ⟨bp⟩, ⟨bp⟩, ⟨bl⟩⟩
        ·obtain ⟨c131b0, c131b1⟩ := zy c131
         have H' := Aside0.mk H
         clear H
         go_wp2
         go_meet
         case rel => go_light; exact ⟨_, (true), (by first | rfl | (simp; done) | (simp [*]; done)), H', ⟨by have := HJ57.out; first | omega | exact Nat.le_refl _⟩, ⟨bp⟩, ⟨bp⟩, ⟨bp⟩, ⟨bp⟩, ⟨bp⟩, ⟨bp⟩, ⟨bp⟩, ⟨bl⟩⟩
       ·replace c130 := Bool.eq_false_iff.mpr c130
        subst c130
        have H1 : (laws_FnLattices.j3 kj57 l0 t812 t836 true t817 t818 t819 t833 t834 t835) = some r := by rw [if_neg (show ¬ (false = true) by decide)] at H; exact H
        clear H
        have H := H1
        clear H1
        have H' := Aside0.mk H
        clear H
        go_wp2
        go_meet
        case rel => go_light; exact ⟨_, (true), (by first | rfl | (simp; done) | (simp [*]; done)), H', ⟨by have := HJ57.out; first | omega | exact Nat.le_refl _⟩, ⟨bp⟩, ⟨bp⟩, ⟨bp⟩, ⟨bp⟩, ⟨bp⟩, ⟨bp⟩, ⟨bp⟩, ⟨bl⟩⟩
      ·obtain ⟨c129b0, c129b1⟩ := zy c129
       (first | rw [c129b0] | (simp only [i64_w, i32_w]; rw [c129b0]) | skip)
       have H' := Aside0.mk H
       clear H
       go_wp2
       go_meet
       case rel => go_light; exact ⟨_, (true), (by first | rfl | (simp; done) | (simp [*]; done)), H', ⟨by have := HJ57.out; first | omega | exact Nat.le_refl _⟩, ⟨bp⟩, ⟨bp⟩, ⟨bp⟩, ⟨bp⟩, ⟨bp⟩, ⟨bp⟩, ⟨bp⟩, ⟨bl⟩⟩
     case rest =>
      as_aux_lemma =>
      clear hnb102 hnc102 hcz104_0 hcz104_1 hcz104_2 hfz104_0 hfz104_1 hfz104_2 hcz108_0 hcz108_1 hcz108_2 hfz108_0 hfz108_1 hfz108_2 hcz110_0 hcz110_1 hcz110_2 hfz110_0 hfz110_1 hfz110_2 hnb115 hnc115 hnb116 hnc116 hcz118_0 hcz118_1 hcz118_2 hfz118_0 hfz118_1 hfz118_2 hcz119_0 hcz119_1 hcz119_2 hfz119_0 hfz119_1 hfz119_2 hnb124 hnc124 hnb125 hnc125 hnb127 hnc127 hcz128_0 hcz128_1 hcz128_2 hfz128_0 hfz128_1 hfz128_2
      clear HC99
      obtain ⟨kq, x259_98, rfl, HA, HJ98, BK792, BK797, BK816, BK822, BK828, BK837, BK842, HB⟩ := hcut
      cases kq with
      | zero => exact absurd HA.out (by simp [laws_FnLattices.j3])
      | succ kj98 =>
       have H := HA.out
       clear HA
       rw [laws_FnLattices.j3] at H
       by_cases c145 : x259_98 = true
       ·subst c145
        rw [if_pos rfl] at H
        exact absurd ((Option.some.inj H).trans hr.out) (by simp)
       ·replace c145 := Bool.eq_false_iff.mpr c145
        subst c145
        have H1 : (if t836 = 0 then ((impl_LatticeOfBall.f kj98 t812 t833 t834 t835).bind fun bt843 => (if bt843.2.2.2 = 0 then (if (!(bt843.1 == t817) || (!(bt843.2.1 == t818) || (!(bt843.2.2.1 == t819)))) = true then (some false) else (laws_FnLattices.j4 kj98 l0)) else (some false))) else (laws_FnLattices.j4 kj98 l0)) = some r := by rw [if_neg (show ¬ (false = true) by decide)] at H; exact H
        clear H
        have H := H1
        clear H1
        replace H := ii H
        rcases H with ⟨c146, H⟩ | ⟨c146, H⟩
        ·obtain ⟨c146b0, c146b1⟩ := zz c146
         clear c146
         replace H := zi H
         obtain ⟨⟨t843, t844, t845, t846⟩, A147, H⟩ := H
         try dsimp only at H
         replace H := ii H
         rcases H with ⟨c148, H⟩ | ⟨c148, H⟩
         ·obtain ⟨c148b0, c148b1⟩ := zz c148
          clear c148
          replace H := ii H
          rcases H with ⟨c149, H⟩ | ⟨c149, H⟩
          ·have c149b0 : (!(t843 == t817) || (!(t844 == t818) || (!(t845 == t819)))) = true := c149
           clear c149
           exact absurd ((Option.some.inj H).trans hr.out) (by simp)
          ·have c149b0 : (!(t843 == t817) || (!(t844 == t818) || (!(t845 == t819)))) = false := by simpa using c149
           clear c149
           have H' := Aside0.mk H
           clear H
           obtain ⟨hcz156_0, hcz156_1, hcz156_2, hfz156_0, hfz156_1, hfz156_2⟩ := cq3 BK837
           go_wp2_with (first | ((with_reducible refine zf 25 rfl ?_); refine g1 (some 265) Try.func25 #[.int .i64 t812, .agg #[.int .i64 t833, .int .i64 t834, .int .i64 t835]] ?_; (with_reducible refine (impl_LatticeOfBall.calls kj98 t812 t833 t834 t835 t843 t844 t845 t846 _ A147.out).mono ?_); rintro e w157 ⟨rfl, hb⟩; refine ⟨_, rfl, ?_⟩; replace BK792 := bb BK792 hb; replace BK797 := bb BK797 hb; replace BK816 := bb BK816 hb; replace BK822 := bb BK822 hb; replace BK828 := bb BK828 hb; replace BK837 := bb BK837 hb; replace BK842 := bb BK842 hb; replace HB := bs hb; (try clear hb)) | ((with_reducible refine zg 36 rfl ?_); refine z3 36 27 0 0 0 ?_; intro gb847 hg w158 BK847 hb; have GW847 := sg hg; have NB792_847 := nl hg BK792; have NB797_847 := nl hg BK797; have NB816_847 := nl hg BK816; have NB822_847 := nl hg BK822; have NB828_847 := nl hg BK828; have NB837_847 := nl hg BK837; have NB842_847 := nl hg BK842; replace BK792 := bb BK792 hb; replace BK797 := bb BK797 hb; replace BK816 := bb BK816 hb; replace BK822 := bb BK822 hb; replace BK828 := bb BK828 hb; replace BK837 := bb BK837 hb; replace BK842 := bb BK842 hb; replace HB := bs hb; clear hb hg; obtain ⟨hnb162, hnc162⟩ := zm NB822_847; obtain ⟨hcz166_0, hcz166_1, hcz166_2, hfz166_0, hfz166_1, hfz166_2⟩ := cq3 BK847; obtain ⟨hcz172_0, hcz172_1, hcz172_2, hfz172_0, hfz172_1, hfz172_2⟩ := cq3 BK822))
           go_meet
           case rel => go_light; exact ⟨_, H', ⟨by have := HJ57.out; have := HJ98.out; first | omega | exact Nat.le_refl _⟩, ⟨bp⟩, ⟨bp⟩, ⟨bp⟩, ⟨bp⟩, ⟨bp⟩, ⟨bl⟩⟩
         ·obtain ⟨c148b0, c148b1⟩ := zy c148
          exact absurd ((Option.some.inj H).trans hr.out) (by simp)
        ·obtain ⟨c146b0, c146b1⟩ := zy c146
         have H' := Aside0.mk H
         clear H
         go_wp2
         go_meet
         case rel => go_light; exact ⟨_, H', ⟨by have := HJ57.out; have := HJ98.out; first | omega | exact Nat.le_refl _⟩, ⟨be BK792⟩, ⟨be BK797⟩, ⟨be BK816⟩, ⟨be BK822⟩, ⟨be BK828⟩, ⟨bl⟩⟩
    ·obtain ⟨c95b0, c95b1⟩ := zy c95
     (first | rw [c95b0] | (simp only [i64_w, i32_w]; rw [c95b0]) | skip)
     have H' := Aside0.mk H
     clear H
     go_wp2
     go_meet
     case rel => go_light; exact ⟨_, H', ⟨by have := HJ57.out; first | omega | exact Nat.le_refl _⟩, ⟨be BK792⟩, ⟨be BK797⟩, ⟨be BK816⟩, ⟨be BK822⟩, ⟨be BK828⟩, ⟨bl⟩⟩
   case rest =>
    clear HC94
    obtain ⟨kq, HA, HJ93, BK792, BK797, BK816, BK822, BK828, HB⟩ := hcut
    cases kq with
    | zero => exact absurd HA.out (by simp [laws_FnLattices.j4])
    | succ kj93 =>
     have H := HA.out
     clear HA
     rw [laws_FnLattices.j4] at H
     replace H := zi H
     obtain ⟨⟨t848, t849, t850, t851⟩, A173, H⟩ := H
     try dsimp only at H
     replace H := zi H
     obtain ⟨⟨t853, t854, t855, t856⟩, A174, H⟩ := H
     try dsimp only at H
     replace H := zi H
     obtain ⟨⟨t858, t859, t860, t861⟩, A175, H⟩ := H
     try dsimp only at H
     replace H := zi H
     obtain ⟨⟨t863, t864, t865, t866, t867, t868, t869⟩, A176, H⟩ := H
     try dsimp only at H
     replace H := zi H
     obtain ⟨⟨t872, t873⟩, A177, H⟩ := H
     try dsimp only at H
     replace H := zi H
     obtain ⟨⟨t874, t875⟩, A178, H⟩ := H
     try dsimp only at H
     replace H := zi H
     obtain ⟨⟨t876, t877, t878, t879, t880, t881⟩, A179, H⟩ := H
     try dsimp only at H
     replace H := zi H
     obtain ⟨⟨t883, t884⟩, A180, H⟩ := H
     try dsimp only at H
     replace H := zi H
     obtain ⟨⟨t885, t886⟩, A181, H⟩ := H
     try dsimp only at H
     replace H := ii H
     rcases H with ⟨c182, H⟩ | ⟨c182, H⟩
     ·obtain ⟨c182b0, c182b1⟩ := zz c182
      clear c182
      replace H := ii H
      rcases H with ⟨c183, H⟩ | ⟨c183, H⟩
      ·have c183b0 : (t853 == t858 && (t854 == t859 && (t855 == t860))) = true := c183
       (try (have c183b1 : decide (t853 = t858 && (t854 == t859 && (t855 == t860))) = true := by simpa using c183))
       (try (have c183b2 : (t853 == t858 && (t854 == t859 && (t855 == t860))) = true := by simpa using c183))
       clear c183
       replace H := ii H
       rcases H with ⟨c184, H⟩ | ⟨c184, H⟩
       ·obtain ⟨c184b0, c184b1⟩ := zz c184
        clear c184
        replace H := ii H
        rcases H with ⟨c185, H⟩ | ⟨c185, H⟩
        ·have c185b0 : (t872 == t874) = true := c185
         (try (have c185b1 : decide (t872 = t874) = true := by simpa using c185))
         (try (have c185b2 : (t872 == t874) = true := by simpa using c185))
         clear c185
         replace H := ii H
         rcases H with ⟨c186, H⟩ | ⟨c186, H⟩
         ·obtain ⟨c186b0, c186b1⟩ := zz c186
          clear c186
          obtain rfl := Option.some.inj H
          go_wp2_with (first | ((with_reducible refine zf 26 rfl ?_); refine g1 (some 277) Try.func26 #[.slice A0 l0.length c0] ?_; (with_reducible refine (spec_DrawLatticeOfBall.calls kj93 _ _ l0 t848 t849 t850 t851 _ ?side1 ?side2 A173.out).mono ?_); (case side1 => repeat (first | exact (Kd.C_below HR0.out HB.out) | (with_reducible refine Kd.C_alloc ?_ _) | (with_reducible refine Kd.C_drewN ?_ _) | (with_reducible refine Kd.C_drew ?_))); (case side2 => exact HC0.out); rintro e w187 ⟨rfl, hb⟩; refine ⟨_, rfl, ?_⟩; replace BK792 := bb BK792 hb; replace BK797 := bb BK797 hb; replace BK816 := bb BK816 hb; replace BK822 := bb BK822 hb; replace BK828 := bb BK828 hb; replace HB := bs hb; (try clear hb)) | ((with_reducible refine zg 39 rfl ?_); refine z3 39 50 0 0 0 ?_; intro gb852 hg w188 BK852 hb; have GW852 := sg hg; have NB792_852 := nl hg BK792; have NB797_852 := nl hg BK797; have NB816_852 := nl hg BK816; have NB822_852 := nl hg BK822; have NB828_852 := nl hg BK828; replace BK792 := bb BK792 hb; replace BK797 := bb BK797 hb; replace BK816 := bb BK816 hb; replace BK822 := bb BK822 hb; replace BK828 := bb BK828 hb; replace HB := bs hb; clear hb hg; obtain ⟨hcz194_0, hcz194_1, hcz194_2, hfz194_0, hfz194_1, hfz194_2⟩ := cq3 BK852) | ((with_reducible refine zf 25 rfl ?_); refine g1 (some 283) Try.func25 #[.int .i64 t848, .agg #[.int .i64 t849, .int .i64 t850, .int .i64 t851]] ?_; (with_reducible refine (impl_LatticeOfBall.calls kj93 t848 t849 t850 t851 t853 t854 t855 t856 _ A174.out).mono ?_); rintro e w195 ⟨rfl, hb⟩; refine ⟨_, rfl, ?_⟩; replace BK792 := Aside0.mk (blk_below (g := gb792) (o := .cells #[.int .i64 t788, .int .i64 t789, .int .i64 t790] 27 (0, 0)) (bp) hb); replace BK797 := Aside0.mk (blk_below (g := gb797) (o := .cells #[.int .i64 t793, .int .i64 t794, .int .i64 t795] 27 (0, 0)) (bp) hb); replace BK816 := Aside0.mk (blk_below (g := gb816) (o := .cells #[.int .i64 t813, .int .i64 t814, .int .i64 t815] 27 (0, 0)) (bp) hb); replace BK822 := Aside0.mk (blk_below (g := gb822) (o := .cells #[.int .i64 t817, .int .i64 t818, .int .i64 t819] 27 (0, 0)) (bp) hb); replace BK828 := Aside0.mk (blk_below (g := gb828) (o := .cells #[.int .i64 t823, .int .i64 t824, .int .i64 t825] 27 (0, 0)) (bp) hb); replace BK852 := Aside0.mk (blk_below (g := gb852) (o := .cells #[.int .i64 t849, .int .i64 t850, .int .i64 t851] 50 (0, 0)) (bp) hb); replace HB := bs hb; (try clear hb)) | ((with_reducible refine zg 40 rfl ?_); refine z3 40 27 0 0 0 ?_; intro gb857 hg w196 BK857 hb; have GW857 := sg hg; have NB792_857 := nl hg BK792; have NB797_857 := nl hg BK797; have NB816_857 := nl hg BK816; have NB822_857 := nl hg BK822; have NB828_857 := nl hg BK828; have NB852_857 := nl hg BK852; replace BK792 := bb BK792 hb; replace BK797 := bb BK797 hb; replace BK816 := bb BK816 hb; replace BK822 := bb BK822 hb; replace BK828 := bb BK828 hb; replace BK852 := bb BK852 hb; replace HB := bs hb; clear hb hg; obtain ⟨hnb202, hnc202⟩ := zm NB852_857; obtain ⟨hcz203_0, hcz203_1, hcz203_2, hfz203_0, hfz203_1, hfz203_2⟩ := cq3 BK857; obtain ⟨hcz204_0, hcz204_1, hcz204_2, hfz204_0, hfz204_1, hfz204_2⟩ := cq3 BK852) | ((with_reducible refine zf 27 rfl ?_); refine g1 (some 289) Try.func27 #[.int .i64 t848, .agg #[.int .i64 t849, .int .i64 t850, .int .i64 t851]] ?_; (with_reducible refine (spec_LatticeOfBall.calls kj93 t848 t849 t850 t851 t858 t859 t860 t861 _ A175.out).mono ?_); rintro e w205 ⟨rfl, hb⟩; refine ⟨_, rfl, ?_⟩; replace BK792 := Aside0.mk (blk_below (g := gb792) (o := .cells #[.int .i64 t788, .int .i64 t789, .int .i64 t790] 27 (0, 0)) (bp) hb); replace BK797 := Aside0.mk (blk_below (g := gb797) (o := .cells #[.int .i64 t793, .int .i64 t794, .int .i64 t795] 27 (0, 0)) (bp) hb); replace BK816 := Aside0.mk (blk_below (g := gb816) (o := .cells #[.int .i64 t813, .int .i64 t814, .int .i64 t815] 27 (0, 0)) (bp) hb); replace BK822 := Aside0.mk (blk_below (g := gb822) (o := .cells #[.int .i64 t817, .int .i64 t818, .int .i64 t819] 27 (0, 0)) (bp) hb); replace BK828 := Aside0.mk (blk_below (g := gb828) (o := .cells #[.int .i64 t823, .int .i64 t824, .int .i64 t825] 27 (0, 0)) (bp) hb); replace BK852 := Aside0.mk (blk_below (g := gb852) (o := .cells #[.int .i64 t849, .int .i64 t850, .int .i64 t851] 50 (0, 0)) (bp) hb); replace BK857 := Aside0.mk (blk_below (g := gb857) (o := .cells #[.int .i64 t853, .int .i64 t854, .int .i64 t855] 27 (0, 0)) (bp) hb); replace HB := bs hb; (try clear hb)) | ((with_reducible refine zg 42 rfl ?_); refine z3 42 27 0 0 0 ?_; intro gb862 hg w206 BK862 hb; have GW862 := sg hg; have NB792_862 := nl hg BK792; have NB797_862 := nl hg BK797; have NB816_862 := nl hg BK816; have NB822_862 := nl hg BK822; have NB828_862 := nl hg BK828; have NB852_862 := nl hg BK852; have NB857_862 := nl hg BK857; replace BK792 := bb BK792 hb; replace BK797 := bb BK797 hb; replace BK816 := bb BK816 hb; replace BK822 := bb BK822 hb; replace BK828 := bb BK828 hb; replace BK852 := bb BK852 hb; replace BK857 := bb BK857 hb; replace HB := bs hb; clear hb hg; obtain ⟨hnb212, hnc212⟩ := zm NB852_862; obtain ⟨hnb213, hnc213⟩ := zm NB857_862; obtain ⟨hcz214_0, hcz214_1, hcz214_2, hfz214_0, hfz214_1, hfz214_2⟩ := cq3 BK862) | ((with_reducible refine zf 28 rfl ?_); refine g1 (some 294) Try.func28 #[.slice A0 l0.length c0] ?_; (with_reducible refine (spec_DrawAreOneClass.calls kj93 _ _ l0 t863 t864 t865 t866 t867 t868 t869 _ ?side1 ?side2 A176.out).mono ?_); (case side1 => exact Kd.C_below HR0.out (bl)); (case side2 => exact HC0.out); rintro e w215 ⟨rfl, hb⟩; refine ⟨_, rfl, ?_⟩; replace BK792 := Aside0.mk (blk_below (g := gb792) (o := .cells #[.int .i64 t788, .int .i64 t789, .int .i64 t790] 27 (0, 0)) (bp) hb); replace BK797 := Aside0.mk (blk_below (g := gb797) (o := .cells #[.int .i64 t793, .int .i64 t794, .int .i64 t795] 27 (0, 0)) (bp) hb); replace BK816 := Aside0.mk (blk_below (g := gb816) (o := .cells #[.int .i64 t813, .int .i64 t814, .int .i64 t815] 27 (0, 0)) (bp) hb); replace BK822 := Aside0.mk (blk_below (g := gb822) (o := .cells #[.int .i64 t817, .int .i64 t818, .int .i64 t819] 27 (0, 0)) (bp) hb); replace BK828 := Aside0.mk (blk_below (g := gb828) (o := .cells #[.int .i64 t823, .int .i64 t824, .int .i64 t825] 27 (0, 0)) (bp) hb); replace BK852 := Aside0.mk (blk_below (g := gb852) (o := .cells #[.int .i64 t849, .int .i64 t850, .int .i64 t851] 50 (0, 0)) (bp) hb); replace BK857 := Aside0.mk (blk_below (g := gb857) (o := .cells #[.int .i64 t853, .int .i64 t854, .int .i64 t855] 27 (0, 0)) (bp) hb); replace BK862 := Aside0.mk (blk_below (g := gb862) (o := .cells #[.int .i64 t858, .int .i64 t859, .int .i64 t860] 27 (0, 0)) (bp) hb); replace HB := bs hb; (try clear hb)) | ((with_reducible refine zg 45 rfl ?_); refine z3 45 27 0 0 0 ?_; intro gb870 hg w216 BK870 hb; have GW870 := sg hg; have NB792_870 := nl hg BK792; have NB797_870 := nl hg BK797; have NB816_870 := nl hg BK816; have NB822_870 := nl hg BK822; have NB828_870 := nl hg BK828; have NB852_870 := nl hg BK852; have NB857_870 := nl hg BK857; have NB862_870 := nl hg BK862; replace BK792 := bb BK792 hb; replace BK797 := bb BK797 hb; replace BK816 := bb BK816 hb; replace BK822 := bb BK822 hb; replace BK828 := bb BK828 hb; replace BK852 := bb BK852 hb; replace BK857 := bb BK857 hb; replace BK862 := bb BK862 hb; replace HB := bs hb; clear hb hg) | ((with_reducible refine zg 46 rfl ?_); refine z3 46 27 0 0 0 ?_; intro gb871 hg w217 BK871 hb; have GW871 := sg hg; have NB792_871 := nl hg BK792; have NB797_871 := nl hg BK797; have NB816_871 := nl hg BK816; have NB822_871 := nl hg BK822; have NB828_871 := nl hg BK828; have NB852_871 := nl hg BK852; have NB857_871 := nl hg BK857; have NB862_871 := nl hg BK862; have NB870_871 := nl hg BK870; replace BK792 := bb BK792 hb; replace BK797 := bb BK797 hb; replace BK816 := bb BK816 hb; replace BK822 := bb BK822 hb; replace BK828 := bb BK828 hb; replace BK852 := bb BK852 hb; replace BK857 := bb BK857 hb; replace BK862 := bb BK862 hb; replace BK870 := bb BK870 hb; replace HB := bs hb; clear hb hg; obtain ⟨hnb223, hnc223⟩ := zm NB852_870; obtain ⟨hnb224, hnc224⟩ := zm NB857_870; obtain ⟨hnb225, hnc225⟩ := zm NB862_870; obtain ⟨hnb226, hnc226⟩ := zn NB870_871; obtain ⟨hcz227_0, hcz227_1, hcz227_2, hfz227_0, hfz227_1, hfz227_2⟩ := cq3 BK870; obtain ⟨hnb233, hnc233⟩ := zm NB852_871; obtain ⟨hnb234, hnc234⟩ := zm NB857_871; obtain ⟨hnb235, hnc235⟩ := zm NB862_871; obtain ⟨hcz236_0, hcz236_1, hcz236_2, hfz236_0, hfz236_1, hfz236_2⟩ := cq3 BK871) | ((with_reducible refine zf 23 rfl ?_); refine g1 (some 302) Try.func23 #[.int .i64 t863, .agg #[.int .i64 t864, .int .i64 t865, .int .i64 t866], .agg #[.int .i64 t867, .int .i64 t868, .int .i64 t869]] ?_; (with_reducible refine (impl_AreOneClass.calls kj93 t863 t864 t865 t866 t867 t868 t869 t872 t873 _ A177.out).mono ?_); rintro e w237 ⟨rfl, hb⟩; refine ⟨_, rfl, ?_⟩; replace BK792 := Aside0.mk (blk_below (g := gb792) (o := .cells #[.int .i64 t788, .int .i64 t789, .int .i64 t790] 27 (0, 0)) (bp) hb); replace BK797 := Aside0.mk (blk_below (g := gb797) (o := .cells #[.int .i64 t793, .int .i64 t794, .int .i64 t795] 27 (0, 0)) (bp) hb); replace BK816 := Aside0.mk (blk_below (g := gb816) (o := .cells #[.int .i64 t813, .int .i64 t814, .int .i64 t815] 27 (0, 0)) (bp) hb); replace BK822 := Aside0.mk (blk_below (g := gb822) (o := .cells #[.int .i64 t817, .int .i64 t818, .int .i64 t819] 27 (0, 0)) (bp) hb); replace BK828 := Aside0.mk (blk_below (g := gb828) (o := .cells #[.int .i64 t823, .int .i64 t824, .int .i64 t825] 27 (0, 0)) (bp) hb); replace BK852 := Aside0.mk (blk_below (g := gb852) (o := .cells #[.int .i64 t849, .int .i64 t850, .int .i64 t851] 50 (0, 0)) (bp) hb); replace BK857 := Aside0.mk (blk_below (g := gb857) (o := .cells #[.int .i64 t853, .int .i64 t854, .int .i64 t855] 27 (0, 0)) (bp) hb); replace BK862 := Aside0.mk (blk_below (g := gb862) (o := .cells #[.int .i64 t858, .int .i64 t859, .int .i64 t860] 27 (0, 0)) (bp) hb); replace BK870 := Aside0.mk (blk_below (g := gb870) (o := .cells #[.int .i64 t864, .int .i64 t865, .int .i64 t866] 27 (0, 0)) (bp) hb); replace BK871 := Aside0.mk (blk_below (g := gb871) (o := .cells #[.int .i64 t867, .int .i64 t868, .int .i64 t869] 27 (0, 0)) (bp) hb); replace HB := bs hb; (try clear hb); obtain ⟨hcz238_0, hcz238_1, hcz238_2, hfz238_0, hfz238_1, hfz238_2⟩ := cq3 BK870; obtain ⟨hcz239_0, hcz239_1, hcz239_2, hfz239_0, hfz239_1, hfz239_2⟩ := cq3 BK871) | ((with_reducible refine zf 29 rfl ?_); refine g1 (some 309) Try.func29 #[.int .i64 t863, .agg #[.int .i64 t864, .int .i64 t865, .int .i64 t866], .agg #[.int .i64 t867, .int .i64 t868, .int .i64 t869]] ?_; (with_reducible refine (spec_AreOneClass.calls kj93 t863 t864 t865 t866 t867 t868 t869 t874 t875 _ A178.out).mono ?_); rintro e w240 ⟨rfl, hb⟩; refine ⟨_, rfl, ?_⟩; replace BK792 := bb BK792 hb; replace BK797 := bb BK797 hb; replace BK816 := bb BK816 hb; replace BK822 := bb BK822 hb; replace BK828 := bb BK828 hb; replace BK852 := bb BK852 hb; replace BK857 := bb BK857 hb; replace BK862 := bb BK862 hb; replace BK870 := bb BK870 hb; replace BK871 := bb BK871 hb; replace HB := bs hb; (try clear hb)) | ((with_reducible refine zf 30 rfl ?_); refine g1 (some 314) Try.func30 #[.slice A0 l0.length c0] ?_; (with_reducible refine (spec_DrawHoldsVector.calls kj93 _ _ l0 t876 t877 t878 t879 t880 t881 _ ?side1 ?side2 A179.out).mono ?_); (case side1 => repeat (first | exact (Kd.C_below HR0.out HB.out) | (with_reducible refine Kd.C_alloc ?_ _) | (with_reducible refine Kd.C_drewN ?_ _) | (with_reducible refine Kd.C_drew ?_))); (case side2 => exact HC0.out); rintro e w241 ⟨rfl, hb⟩; refine ⟨_, rfl, ?_⟩; replace BK792 := bb BK792 hb; replace BK797 := bb BK797 hb; replace BK816 := bb BK816 hb; replace BK822 := bb BK822 hb; replace BK828 := bb BK828 hb; replace BK852 := bb BK852 hb; replace BK857 := bb BK857 hb; replace BK862 := bb BK862 hb; replace BK870 := bb BK870 hb; replace BK871 := bb BK871 hb; replace HB := bs hb; (try clear hb)) | ((with_reducible refine zg 52 rfl ?_); refine z3 52 27 0 0 0 ?_; intro gb882 hg w242 BK882 hb; have GW882 := sg hg; have NB792_882 := nl hg BK792; have NB797_882 := nl hg BK797; have NB816_882 := nl hg BK816; have NB822_882 := nl hg BK822; have NB828_882 := nl hg BK828; have NB852_882 := nl hg BK852; have NB857_882 := nl hg BK857; have NB862_882 := nl hg BK862; have NB870_882 := nl hg BK870; have NB871_882 := nl hg BK871; replace BK792 := bb BK792 hb; replace BK797 := bb BK797 hb; replace BK816 := bb BK816 hb; replace BK822 := bb BK822 hb; replace BK828 := bb BK828 hb; replace BK852 := bb BK852 hb; replace BK857 := bb BK857 hb; replace BK862 := bb BK862 hb; replace BK870 := bb BK870 hb; replace BK871 := bb BK871 hb; replace HB := bs hb; clear hb hg; obtain ⟨hnb248, hnc248⟩ := zm NB852_882; obtain ⟨hnb249, hnc249⟩ := zm NB857_882; obtain ⟨hnb250, hnc250⟩ := zm NB862_882; obtain ⟨hnb251, hnc251⟩ := zm NB870_882; obtain ⟨hnb252, hnc252⟩ := zm NB871_882; obtain ⟨hcz253_0, hcz253_1, hcz253_2, hfz253_0, hfz253_1, hfz253_2⟩ := cq3 BK882) | ((with_reducible refine zf 15 rfl ?_); refine g1 (some 324) Try.func15 #[.int .i64 t876, .agg #[.int .i64 t877, .int .i64 t878, .int .i64 t879], .int .i64 t880, .int .i64 t881] ?_; (with_reducible refine (impl_HoldsVector.calls kj93 t876 t877 t878 t879 t880 t881 t883 t884 _ A180.out).mono ?_); rintro e w254 ⟨rfl, hb⟩; refine ⟨_, rfl, ?_⟩; replace BK792 := Aside0.mk (blk_below (g := gb792) (o := .cells #[.int .i64 t788, .int .i64 t789, .int .i64 t790] 27 (0, 0)) (bp) hb); replace BK797 := Aside0.mk (blk_below (g := gb797) (o := .cells #[.int .i64 t793, .int .i64 t794, .int .i64 t795] 27 (0, 0)) (bp) hb); replace BK816 := Aside0.mk (blk_below (g := gb816) (o := .cells #[.int .i64 t813, .int .i64 t814, .int .i64 t815] 27 (0, 0)) (bp) hb); replace BK822 := Aside0.mk (blk_below (g := gb822) (o := .cells #[.int .i64 t817, .int .i64 t818, .int .i64 t819] 27 (0, 0)) (bp) hb); replace BK828 := Aside0.mk (blk_below (g := gb828) (o := .cells #[.int .i64 t823, .int .i64 t824, .int .i64 t825] 27 (0, 0)) (bp) hb); replace BK852 := Aside0.mk (blk_below (g := gb852) (o := .cells #[.int .i64 t849, .int .i64 t850, .int .i64 t851] 50 (0, 0)) (bp) hb); replace BK857 := Aside0.mk (blk_below (g := gb857) (o := .cells #[.int .i64 t853, .int .i64 t854, .int .i64 t855] 27 (0, 0)) (bp) hb); replace BK862 := Aside0.mk (blk_below (g := gb862) (o := .cells #[.int .i64 t858, .int .i64 t859, .int .i64 t860] 27 (0, 0)) (bp) hb); replace BK870 := Aside0.mk (blk_below (g := gb870) (o := .cells #[.int .i64 t864, .int .i64 t865, .int .i64 t866] 27 (0, 0)) (bp) hb); replace BK871 := Aside0.mk (blk_below (g := gb871) (o := .cells #[.int .i64 t867, .int .i64 t868, .int .i64 t869] 27 (0, 0)) (bp) hb); replace BK882 := Aside0.mk (blk_below (g := gb882) (o := .cells #[.int .i64 t877, .int .i64 t878, .int .i64 t879] 27 (0, 0)) (bp) hb); replace HB := bs hb; (try clear hb); obtain ⟨hcz255_0, hcz255_1, hcz255_2, hfz255_0, hfz255_1, hfz255_2⟩ := cq3 BK882) | ((with_reducible refine zf 31 rfl ?_); refine g1 (some 332) Try.func31 #[.int .i64 t876, .agg #[.int .i64 t877, .int .i64 t878, .int .i64 t879], .int .i64 t880, .int .i64 t881] ?_; (with_reducible refine (spec_HoldsVector.calls kj93 t876 t877 t878 t879 t880 t881 t885 t886 _ A181.out).mono ?_); rintro e w256 ⟨rfl, hb⟩; refine ⟨_, rfl, ?_⟩; replace BK792 := bb BK792 hb; replace BK797 := bb BK797 hb; replace BK816 := bb BK816 hb; replace BK822 := bb BK822 hb; replace BK828 := bb BK828 hb; replace BK852 := bb BK852 hb; replace BK857 := bb BK857 hb; replace BK862 := bb BK862 hb; replace BK870 := bb BK870 hb; replace BK871 := bb BK871 hb; replace BK882 := bb BK882 hb; replace HB := bs hb; (try clear hb); obtain ⟨hcz257_0, hcz257_1, hcz257_2, hfz257_0, hfz257_1, hfz257_2⟩ := cq3 BK857; obtain ⟨hcz258_0, hcz258_1, hcz258_2, hfz258_0, hfz258_1, hfz258_2⟩ := cq3 BK862))
          go_ret
          exact ⟨er, bl⟩
         ·obtain ⟨c186b0, c186b1⟩ := zy c186
          exact absurd ((Option.some.inj H).trans hr.out) (by simp)
        ·have c185b0 : (t872 == t874) = false := by simpa using c185
         (try (have c185b1 : decide (t872 = t874) = false := by simpa using c185))
         (try (have c185b2 : (t872 == t874) = false := by simpa using c185))
         (try (have c185b3 : ¬ (t872 = t874) := by simpa using c185))
         clear c185
         exact absurd ((Option.some.inj H).trans hr.out) (by simp)
       ·obtain ⟨c184b0, c184b1⟩ := zy c184
        exact absurd ((Option.some.inj H).trans hr.out) (by simp)
      ·have c183b0 : (t853 == t858 && (t854 == t859 && (t855 == t860))) = false := by simpa using c183
       (try (have c183b1 : decide (t853 = t858 && (t854 == t859 && (t855 == t860))) = false := by simpa using c183))
       (try (have c183b2 : (t853 == t858 && (t854 == t859 && (t855 == t860))) = false := by simpa using c183))
       (try (have c183b3 : ¬ (t853 = t858 && (t854 == t859 && (t855 == t860))) := by simpa using c183))
       clear c183
       exact absurd ((Option.some.inj H).trans hr.out) (by simp)
     ·obtain ⟨c182b0, c182b1⟩ := zy c182
      exact absurd ((Option.some.inj H).trans hr.out) (by simp)
end Go.Proofs.Ytkfodnlogflcpaa.PFnLattices

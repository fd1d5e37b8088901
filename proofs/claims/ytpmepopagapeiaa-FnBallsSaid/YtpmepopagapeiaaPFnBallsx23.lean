-- Printed by the kit's print and repaired by a program of this session.
import Derived.Test.YtpmepopagapeiaaPFnBallsx0
import Derived.Test.YtpmepopagapeiaaPFnBallsx1
import Derived.Test.YtpmepopagapeiaaPFnBallsx2
import Derived.Test.YtpmepopagapeiaaPFnBallsx3
import Derived.Test.YtpmepopagapeiaaPFnBallsx4
import Derived.Test.YtpmepopagapeiaaPFnBallsx5
import Derived.Test.YtpmepopagapeiaaPFnBallsx7
import Derived.Test.YtpmepopagapeiaaPFnBallsx8
import Derived.Test.YtpmepopagapeiaaPFnBallsx9
import Derived.Test.YtpmepopagapeiaaPFnBallsx11
import Derived.Test.YtpmepopagapeiaaPFnBallsx13
import Derived.Test.YtpmepopagapeiaaPFnBallsx14
import Derived.Test.YtpmepopagapeiaaPFnBallsx15
import Derived.Test.YtpmepopagapeiaaPFnBallsx16
import Derived.Test.YtpmepopagapeiaaPFnBallsx18
import Derived.Test.YtpmepopagapeiaaPFnBallsx19
import Derived.Deep.Light
import Derived.Test.YtpmepopagapeiaaPFnBallsx20
import Derived.Test.YtpmepopagapeiaaPFnBallsx21
import Derived.Test.YtpmepopagapeiaaPFnBallsx22
namespace Go.Proofs.Ytpmepopagapeiaa.PFnBalls
open Go.RowKit Go.Proofs.YtpmepopagapeiaaW.PrintWords Go.Proofs.YtpmepopagapeiaaW.PrintLast Go.Proofs.YtpmepopagapeiaaW.PrintMore
attribute [local go_sem] max2_int min2_int max_two min_two max_three min_three max_four min_four
set_option linter.unusedVariables false
set_option linter.unusedSimpArgs false

attribute [local go_sem high] eqA27 eqA63
set_option maxHeartbeats 60000000 in
set_option maxRecDepth 100000 in
theorem laws_FnBalls.part3 {A0 : Option Addr} {c0 : Nat} {l0 : List Int} {r : Bool} {w : World} {t628} {t629} {t630} {t631} {t632} {t633} {t634} {t635} {t637} {t638} {t639} {t640} {gb636 : Nat} {gb641 : Nat} {kj20 : Nat} {kq : Nat} {wc : World}
    {Du Dv Dw Dx Dy Dz Ea Eb Ec Ed Ee Ef Eg Eh Ei Ej Ek El Em En Eo Ep Er Es Et Eu Ew Ex Ey Ez Fa Fb Fc Fd Fe Ff Fg Fh Fi Fj Fk Fl Fm Fn Fo Fp Fq Fr Fs Ft Fu Fv Fw Fx Fy Fz Ga Gb Gc Gd Ge Gf Gg Gh Gi Gj Gk Gl Gm Gn Gp Gq Gr Gs Gt Gu Gv Gw Gx Gy Gz Ha Hb Hc Hd He Hf Hg Hh Hi Hj Hk Hl Hm Hn Ho Hp Hq Hr Hs Ht Hu Hv Hw Hx Hy Hz Ia Ib Ic Id Ie If Ig Ih Ii Ij Ik Il Im In Io Ip Iq Ir Is It Iu Iv Iw Ix Iy Iz Ja Jb Jc Jd Je Jf Jg Jh Ji Jj Jk Jl Jm Jn Jo Jp Jq Jr Js Jt Ju Jv Jw Jx Jy Jz Ka Kb Ke Kf Kg Kh Ki Kj Kk Kl Km Kn Ko Kp Kq Kr Ks Kt Ku Kv Kw Kx Ky Kz La Lb Lc Ld Le Lf Lg Lh Li Lj Lk Ll Lm Ln Lo Lp Lq Lr Ls Lt Lu Lv Lw Lx Ly Lz Ma Mb Mc Md Me Mf Mg Mh Mi Mj Mk Ml Mm Mn Mo Mp Mq Mr Ms Mt Mu Mv Mw Mx My Mz Na Nb Nc Nd Nf Ng Nh Nk Nl Nm Nn No Np Nq Nr Ns Nt Nu Nv Nw Nx Ny Nz Oa Ob Oc Od Oe Of Og Oh Oi Oj Ok Ol Om On Oo Oq Os Ot Ou Ov Ow Ox Oy Oz Pa Pb Pc Pd Pe Pf Pg Ph Pi Pj Pk Pl Pm Pn Po Pp Pq : Value}
    (HA : Aside0 (laws_FnBalls.j2 kq l0 = some r)) (HJ25 : Aside0 (kq ≤ kj20)) (BK636 : Aside0 (wc.heap[gb636]? = some (.cells #[.int .i64 t632, .int .i64 t633, .int .i64 t634] 27 (0, 0)))) (BK641 : Aside0 (wc.heap[gb641]? = some (.cells #[.int .i64 t637, .int .i64 t638, .int .i64 t639] 27 (0, 0)))) (HB : Aside0 (Below w.heap.size w wc)) (GW636 : Aside0 (w.heap.size ≤ gb636)) (GW641 : Aside0 (w.heap.size ≤ gb641)) (NB636_641 : Aside0 (gb636 ≠ gb641)) (HR0 : Aside0 (Kd.C (Kd.int .u8) w A0 l0.length l0)) (HC0 : Aside0 (l0.length ≤ c0)) (hr : Aside0 (r = true)) :
    Code.wp Try.prog ((sufO 7 Try.f10.body).getD .ret) (bodyPost Try.prog Try.f10 fun e w' => e = .returned (.bool r) ∧ Below w.heap.size w w') { tmps := #[Value.slice A0 l0.length c0, undef, Du, Value.int IntKind.i64 t628, Value.int IntKind.i64 t629, Value.int IntKind.i64 t630, Value.int IntKind.i64 t631, Value.pointer (some { block := gb636, off := 0 }), Value.int IntKind.i64 t635, Value.pointer (some { block := gb641, off := 0 }), Value.int IntKind.i64 t640, Dv, Dw, undef, undef, undef, undef, undef, undef, undef, undef, undef, undef, undef, undef, undef, undef, undef, undef, undef, undef, undef, undef, undef, undef, undef, undef, undef, undef, undef, undef, undef, undef, undef, undef, undef, undef, undef, undef, undef, undef, undef, undef, undef, undef, undef, Dx, Dy, Dz, Ea, Eb, Ec, Ed, Ee, Ef, Eg, Eh, Ei, Ej, Ek, El, Em, En, Eo, Ep, Er, Es, Et, Eu, Ew, Ex, Ey, Ez, Fa, Fb, Fc, Fd, Fe, Ff, Fg, Fh, Fi, Fj, Fk, Fl, Fm, Fn, Fo, Fp, Fq, Fr, Fs, Ft, Fu, Fv, Fw, Fx, Fy, Fz, Ga, Gb, Gc, Gd, Ge, Gf, Gg, Gh, Gi, Gj, Gk, Gl, Gm, Gn, Gp, Gq, Gr, Gs, Gt, Gu, Gv, Gw, Gx, Gy, Gz, Ha, Hb, Hc, Hd, He, Hf, Hg, Hh, Hi, Hj, Hk, Hl, Hm, Hn, Ho, Hp, Hq, Hr, Hs, Ht, Hu, Hv, Hw, Hx, Hy, Hz, Ia, Ib, Ic, Id, Ie, If, Ig, Ih, Ii, Ij, Ik, Il, Im, In, Io, Ip, Iq, Ir, Is, It, Iu, Iv, Iw, Ix, Iy, Iz, Ja, Jb, Jc, Jd, Je, Jf, Jg, Jh, Ji, Jj, Jk, Jl, Jm, Jn, Jo, Jp, Jq, Jr, Js, Jt, Ju, Jv, Jw, Jx, Jy, Jz, Ka, Kb, Ke, Kf, Kg, Kh, Ki, Kj, Kk, Kl, Km, Kn, Ko, Kp, Kq, Kr, Ks, Kt, Ku, Kv, Kw, Kx, Ky, Kz, La, Lb, Lc, Ld, Le, Lf, Lg, Lh, Li, Lj, Lk, Ll, Lm, Ln, Lo, Lp, Lq, Lr, Ls, Lt, Lu, Lv, Lw, Lx, Ly, Lz, Ma, Mb, Mc, Md, Me, Mf, Mg, Mh, Mi, Mj, Mk, Ml, Mm, Mn, Mo, Mp, Mq, Mr, Ms, Mt, Mu, Mv, Mw, Mx, My, Mz, Na, Nb, Nc, Nd, Nf, Ng, Nh, Nk, Nl, Nm, Nn, No, Np, Nq, Nr, Ns, Nt, Nu, Nv, Nw, Nx, Ny, Nz, Oa, Ob, Oc, Od, Oe, Of, Og, Oh, Oi, Oj, Ok, Ol, Om, On, Oo, Oq, Os, Ot, Ou, Ov, Ow, Ox, Oy, Oz, Pa, Pb, Pc, Pd, Pe, Pf, Pg, Ph, Pi, Pj, Pk, Pl, Pm, Pn, Po, Pp, Pq], defers := [] } wc := by
 refine sufWp rfl ?_
 cases kq with
 | zero => exact absurd HA.out (by simp [laws_FnBalls.j2])
 | succ kj25 =>
  have H := HA.out
  clear HA
  rw [laws_FnBalls.j2] at H
  replace H := zi H
  obtain ⟨⟨t645, t646, t647, t648⟩, A38, H⟩ := H
  try dsimp only at H
  replace H := zi H
  obtain ⟨⟨t650, t651, t652⟩, A39, H⟩ := H
  try dsimp only at H
  replace H := zi H
  obtain ⟨⟨t654, t655, t656⟩, A40, H⟩ := H
  try dsimp only at H
  have HC41 := Aside0.mk H
  clear H
  go_upto_region 15 with (first | ((with_reducible refine zf 66 rfl ?_); refine g1 (some 129) Try.func66 #[.slice A0 l0.length c0] ?_; (with_reducible refine (spec_DrawCentreOf.calls kj25 _ _ l0 t645 t646 t647 t648 _ ?side1 ?side2 A38.out).mono ?_); (case side1 => repeat (first | exact (Kd.C_below HR0.out HB.out) | (with_reducible refine Kd.C_alloc ?_ _) | (with_reducible refine Kd.C_drewN ?_ _) | (with_reducible refine Kd.C_drew ?_))); (case side2 => exact HC0.out); rintro e w42 ⟨rfl, hb⟩; refine ⟨_, rfl, ?_⟩; replace BK636 := bb BK636 hb; replace BK641 := bb BK641 hb; replace HB := bs hb; (try clear hb)) | ((with_reducible refine zg 14 rfl ?_); refine z3 14 27 0 0 0 ?_; intro gb649 hg w43 BK649 hb; have GW649 := sg hg; have NB636_649 := nl hg BK636; have NB641_649 := nl hg BK641; replace BK636 := bb BK636 hb; replace BK641 := bb BK641 hb; replace HB := bs hb; clear hb hg; obtain ⟨hcz46_0, hcz46_1, hcz46_2, hfz46_0, hfz46_1, hfz46_2⟩ := cq3 BK649) | ((with_reducible refine zf 67 rfl ?_); refine g1 (some 135) Try.func67 #[.int .i64 t645, .agg #[.int .i64 t646, .int .i64 t647, .int .i64 t648]] ?_; (with_reducible refine (impl_CentreOf.calls kj25 t645 t646 t647 t648 t650 t651 t652 _ A39.out).mono ?_); rintro e w47 ⟨rfl, hb⟩; refine ⟨_, rfl, ?_⟩; replace BK636 := Aside0.mk (blk_below (g := gb636) (o := .cells #[.int .i64 t632, .int .i64 t633, .int .i64 t634] 27 (0, 0)) (bp) hb); replace BK641 := Aside0.mk (blk_below (g := gb641) (o := .cells #[.int .i64 t637, .int .i64 t638, .int .i64 t639] 27 (0, 0)) (bp) hb); replace BK649 := Aside0.mk (blk_below (g := gb649) (o := .cells #[.int .i64 t646, .int .i64 t647, .int .i64 t648] 27 (0, 0)) (bp) hb); replace HB := bs hb; (try clear hb)) | ((with_reducible refine zg 15 rfl ?_); refine zb 15 63 #[.int .i64 0, .int .i64 0] ?_; intro gb653 hg w48 BK653 hb; have GW653 := sg hg; have NB636_653 := nl hg BK636; have NB641_653 := nl hg BK641; have NB649_653 := nl hg BK649; replace BK636 := bb BK636 hb; replace BK641 := bb BK641 hb; replace BK649 := bb BK649 hb; replace HB := bs hb; clear hb hg; obtain ⟨hnb51, hnc51⟩ := zm NB649_653; obtain ⟨hcz52_0, hcz52_1, hfz52_0, hfz52_1⟩ := z2 BK653; obtain ⟨hcz53_0, hcz53_1, hcz53_2, hfz53_0, hfz53_1, hfz53_2⟩ := cq3 BK649) | ((with_reducible refine zf 68 rfl ?_); refine g1 (some 141) Try.func68 #[.int .i64 t645, .agg #[.int .i64 t646, .int .i64 t647, .int .i64 t648]] ?_; (with_reducible refine (spec_CentreOf.calls kj25 t645 t646 t647 t648 t654 t655 t656 _ A40.out).mono ?_); rintro e w54 ⟨rfl, hb⟩; refine ⟨_, rfl, ?_⟩; replace BK636 := Aside0.mk (blk_below (g := gb636) (o := .cells #[.int .i64 t632, .int .i64 t633, .int .i64 t634] 27 (0, 0)) (bp) hb); replace BK641 := Aside0.mk (blk_below (g := gb641) (o := .cells #[.int .i64 t637, .int .i64 t638, .int .i64 t639] 27 (0, 0)) (bp) hb); replace BK649 := Aside0.mk (blk_below (g := gb649) (o := .cells #[.int .i64 t646, .int .i64 t647, .int .i64 t648] 27 (0, 0)) (bp) hb); replace BK653 := Aside0.mk (blk_below (g := gb653) (o := .cells #[.int .i64 t650, .int .i64 t651] 63 (0, 0)) (bp) hb); replace HB := bs hb; (try clear hb)) | ((with_reducible refine zg 17 rfl ?_); refine zb 17 63 #[.int .i64 0, .int .i64 0] ?_; intro gb657 hg w55 BK657 hb; have GW657 := sg hg; have NB636_657 := nl hg BK636; have NB641_657 := nl hg BK641; have NB649_657 := nl hg BK649; have NB653_657 := nl hg BK653; replace BK636 := bb BK636 hb; replace BK641 := bb BK641 hb; replace BK649 := bb BK649 hb; replace BK653 := bb BK653 hb; replace HB := bs hb; clear hb hg; obtain ⟨hnb58, hnc58⟩ := zm NB649_657; obtain ⟨hnb59, hnc59⟩ := zm NB653_657; obtain ⟨hcz60_0, hcz60_1, hfz60_0, hfz60_1⟩ := z2 BK657))
  (try simp only [Act.put, zq, zr, zt])
  go_cut [160] (fun v160 wc => ∃ (kq : Nat) (x160_40 : Bool), v160 = .bool x160_40 ∧ Aside0 (laws_FnBalls.j3 kq l0 t645 t652 x160_40 t646 t647 t648 t650 t651 = some r) ∧ Aside0 (kq ≤ kj25) ∧ Aside0 (wc.heap[gb636]? = some (.cells #[.int .i64 t632, .int .i64 t633, .int .i64 t634] 27 (0, 0))) ∧ Aside0 (wc.heap[gb641]? = some (.cells #[.int .i64 t637, .int .i64 t638, .int .i64 t639] 27 (0, 0))) ∧ Aside0 (wc.heap[gb649]? = some (.cells #[.int .i64 t646, .int .i64 t647, .int .i64 t648] 27 (0, 0))) ∧ Aside0 (wc.heap[gb653]? = some (.cells #[.int .i64 t650, .int .i64 t651] 63 (0, 0))) ∧ Aside0 (wc.heap[gb657]? = some (.cells #[.int .i64 t654, .int .i64 t655] 63 (0, 0))) ∧ Aside0 (Below w.heap.size w wc))
  case first =>
   as_aux_lemma =>
   have H := HC41.out
   clear HC41
   replace H := ii H
   rcases H with ⟨c61, H⟩ | ⟨c61, H⟩
   ·obtain ⟨c61b0, c61b1⟩ := zz c61
    clear c61
    (first | rw [c61b0] | (simp only [i64_w, i32_w]; rw [c61b0]) | skip)
    replace H := ii H
    rcases H with ⟨c62, H⟩ | ⟨c62, H⟩
    ·have c62b0 : (!(t650 == t654) || (!(t651 == t655))) = true := c62
     clear c62
     have H' := Aside0.mk H
     clear H
     try go_wp2
     have n0_ : Aside0 (((w55.setCell ⟨gb657, 0, none⟩ (.int .i64 t654)).setCell ⟨gb657, 1, none⟩ (.int .i64 t655)).heap[gb636]? = some (.cells #[.int .i64 t632, .int .i64 t633, .int .i64 t634] 27 (0, 0))) := ⟨bp⟩
     have n1_ : Aside0 (((w55.setCell ⟨gb657, 0, none⟩ (.int .i64 t654)).setCell ⟨gb657, 1, none⟩ (.int .i64 t655)).heap[gb641]? = some (.cells #[.int .i64 t637, .int .i64 t638, .int .i64 t639] 27 (0, 0))) := ⟨bp⟩
     have n2_ : Aside0 (((w55.setCell ⟨gb657, 0, none⟩ (.int .i64 t654)).setCell ⟨gb657, 1, none⟩ (.int .i64 t655)).heap[gb649]? = some (.cells #[.int .i64 t646, .int .i64 t647, .int .i64 t648] 27 (0, 0))) := ⟨bp⟩
     have n3_ : Aside0 (((w55.setCell ⟨gb657, 0, none⟩ (.int .i64 t654)).setCell ⟨gb657, 1, none⟩ (.int .i64 t655)).heap[gb653]? = some (.cells #[.int .i64 t650, .int .i64 t651] 63 (0, 0))) := ⟨bp⟩
     have n4_ : Aside0 (((w55.setCell ⟨gb657, 0, none⟩ (.int .i64 t654)).setCell ⟨gb657, 1, none⟩ (.int .i64 t655)).heap[gb657]? = some (.cells #[.int .i64 t654, .int .i64 t655] 63 (0, 0))) := ⟨bp⟩
     have n5_ : Aside0 (Below w.heap.size w ((w55.setCell ⟨gb657, 0, none⟩ (.int .i64 t654)).setCell ⟨gb657, 1, none⟩ (.int .i64 t655))) := ⟨bl⟩
     (try clear BK636)
     (try clear BK641)
     (try clear BK649)
     (try clear BK653)
     (try clear BK657)
     (try clear HB)
     generalize ((w55.setCell ⟨gb657, 0, none⟩ (.int .i64 t654)).setCell ⟨gb657, 1, none⟩ (.int .i64 t655)) = w63 at n0_ n1_ n2_ n3_ n4_ n5_ ⊢
     have BK636 := n0_
     have BK641 := n1_
     have BK649 := n2_
     have BK653 := n3_
     have BK657 := n4_
     have HB := n5_
     clear n0_ n1_ n2_ n3_ n4_ n5_
     replace BK636 := Aside0.mk (blk_drew BK636.out)
     replace BK641 := Aside0.mk (blk_drew BK641.out)
     replace BK649 := Aside0.mk (blk_drew BK649.out)
     replace BK653 := Aside0.mk (blk_drew BK653.out)
     replace BK657 := Aside0.mk (blk_drew BK657.out)
     replace HB := Aside0.mk (below_drew1 HB.out)
     refine sw 17 (fun w' => w'.cell? ⟨gb653, 0, none⟩ = some (.int .i64 t650) ∧ w'.cell? ⟨gb653, 1, none⟩ = some (.int .i64 t651) ∧ w'.cell? ⟨gb657, 0, none⟩ = some (.int .i64 t654) ∧ w'.cell? ⟨gb657, 1, none⟩ = some (.int .i64 t655)) laws_FnBalls.tab15 laws_FnBalls.bits15 ⟨(blk_cell BK653.out 0).trans rfl, (blk_cell BK653.out 1).trans rfl, (blk_cell BK657.out 0).trans rfl, (blk_cell BK657.out 1).trans rfl⟩ (fun hHeld HT_ HW_ => ?_)
     generalize w63.drew = w64 at BK636 BK641 BK649 BK653 BK657 HB hHeld ⊢
     refine pu 0 (some 144) (tA 17 1) HT_ ?_
     refine pu 1 (some 145) (tA 17 3) HT_ ?_
     refine pu 2 (some 146) (tA 17 7) HT_ ?_
     refine pu 3 (some 147) (tA 17 15) HT_ ?_
     refine tk4 4 (some 148) (tA 17 31) HT_ HW_ hHeld ?_
     refine tk4 5 (some 149) (tA 17 63) HT_ HW_ hHeld ?_
     refine pu 6 (some 150) (tA 17 127) HT_ ?_
     refine pu 7 (some 151) (tA 17 255) HT_ ?_
     refine pu 8 (some 152) (tA 17 511) HT_ ?_
     refine pv 9 (some 153) (tA 17 1023) HT_ ?_
     refine pv 10 (some 154) (tA 17 2047) HT_ ?_
     refine pv 11 (some 155) (tA 17 4095) HT_ ?_
     refine pv 12 (some 156) (tA 17 8191) HT_ ?_
     refine pv 13 (some 157) (tA 17 16383) HT_ ?_
     refine pv 14 (some 158) (tA 17 32767) HT_ ?_
     refine pv 15 (some 159) (tA 17 65535) HT_ ?_
     refine pu 16 (some 160) (tA 17 131071) HT_ ?_
     refine done_ (done_of HT_.out (by kernel_rfl)) ?_
     try go_wp2
     go_meet
     case rel => go_light; exact ⟨_, (true), (by first | rfl | (simp; done) | (simp [*]; done)), H', ⟨by have := HJ25.out; first | omega | exact Nat.le_refl _⟩, ⟨be BK636⟩, ⟨be BK641⟩, ⟨be BK649⟩, ⟨be BK653⟩, ⟨be BK657⟩, ⟨bl⟩⟩
    ·have c62b0 : (!(t650 == t654) || (!(t651 == t655))) = false := by simpa using c62
     clear c62
     replace H := zi H
     obtain ⟨t658, A65, H⟩ := H
     try dsimp only at H
     replace H := zi H
     obtain ⟨t659, A66, H⟩ := H
     try dsimp only at H
     have H' := Aside0.mk H
     clear H
     try go_wp2
     have n0_ : Aside0 (((w55.setCell ⟨gb657, 0, none⟩ (.int .i64 t654)).setCell ⟨gb657, 1, none⟩ (.int .i64 t655)).heap[gb636]? = some (.cells #[.int .i64 t632, .int .i64 t633, .int .i64 t634] 27 (0, 0))) := ⟨bp⟩
     have n1_ : Aside0 (((w55.setCell ⟨gb657, 0, none⟩ (.int .i64 t654)).setCell ⟨gb657, 1, none⟩ (.int .i64 t655)).heap[gb641]? = some (.cells #[.int .i64 t637, .int .i64 t638, .int .i64 t639] 27 (0, 0))) := ⟨bp⟩
     have n2_ : Aside0 (((w55.setCell ⟨gb657, 0, none⟩ (.int .i64 t654)).setCell ⟨gb657, 1, none⟩ (.int .i64 t655)).heap[gb649]? = some (.cells #[.int .i64 t646, .int .i64 t647, .int .i64 t648] 27 (0, 0))) := ⟨bp⟩
     have n3_ : Aside0 (((w55.setCell ⟨gb657, 0, none⟩ (.int .i64 t654)).setCell ⟨gb657, 1, none⟩ (.int .i64 t655)).heap[gb653]? = some (.cells #[.int .i64 t650, .int .i64 t651] 63 (0, 0))) := ⟨bp⟩
     have n4_ : Aside0 (((w55.setCell ⟨gb657, 0, none⟩ (.int .i64 t654)).setCell ⟨gb657, 1, none⟩ (.int .i64 t655)).heap[gb657]? = some (.cells #[.int .i64 t654, .int .i64 t655] 63 (0, 0))) := ⟨bp⟩
     have n5_ : Aside0 (Below w.heap.size w ((w55.setCell ⟨gb657, 0, none⟩ (.int .i64 t654)).setCell ⟨gb657, 1, none⟩ (.int .i64 t655))) := ⟨bl⟩
     (try clear BK636)
     (try clear BK641)
     (try clear BK649)
     (try clear BK653)
     (try clear BK657)
     (try clear HB)
     generalize ((w55.setCell ⟨gb657, 0, none⟩ (.int .i64 t654)).setCell ⟨gb657, 1, none⟩ (.int .i64 t655)) = w67 at n0_ n1_ n2_ n3_ n4_ n5_ ⊢
     have BK636 := n0_
     have BK641 := n1_
     have BK649 := n2_
     have BK653 := n3_
     have BK657 := n4_
     have HB := n5_
     clear n0_ n1_ n2_ n3_ n4_ n5_
     replace BK636 := Aside0.mk (blk_drew BK636.out)
     replace BK641 := Aside0.mk (blk_drew BK641.out)
     replace BK649 := Aside0.mk (blk_drew BK649.out)
     replace BK653 := Aside0.mk (blk_drew BK653.out)
     replace BK657 := Aside0.mk (blk_drew BK657.out)
     replace HB := Aside0.mk (below_drew1 HB.out)
     refine sw 17 (fun w' => w'.cell? ⟨gb653, 0, none⟩ = some (.int .i64 t650) ∧ w'.cell? ⟨gb653, 1, none⟩ = some (.int .i64 t651) ∧ w'.cell? ⟨gb657, 0, none⟩ = some (.int .i64 t654) ∧ w'.cell? ⟨gb657, 1, none⟩ = some (.int .i64 t655) ∧ w'.cell? ⟨gb649, 0, none⟩ = some (.int .i64 t646) ∧ w'.cell? ⟨gb649, 1, none⟩ = some (.int .i64 t647) ∧ w'.cell? ⟨gb649, 2, none⟩ = some (.int .i64 t648)) laws_FnBalls.tab15 laws_FnBalls.bits15 ⟨(blk_cell BK653.out 0).trans rfl, (blk_cell BK653.out 1).trans rfl, (blk_cell BK657.out 0).trans rfl, (blk_cell BK657.out 1).trans rfl, (blk_cell BK649.out 0).trans rfl, (blk_cell BK649.out 1).trans rfl, (blk_cell BK649.out 2).trans rfl⟩ (fun hHeld HT_ HW_ => ?_)
     generalize w67.drew = w68 at BK636 BK641 BK649 BK653 BK657 HB hHeld ⊢
     refine pu 0 (some 144) (tA 17 1) HT_ ?_
     refine pu 1 (some 145) (tA 17 3) HT_ ?_
     refine pu 2 (some 146) (tA 17 7) HT_ ?_
     refine pu 3 (some 147) (tA 17 15) HT_ ?_
     refine tk7 4 (some 148) (tA 17 31) HT_ HW_ hHeld ?_
     refine tk7 5 (some 149) (tA 17 63) HT_ HW_ hHeld ?_
     refine pu 6 (some 150) (tA 17 127) HT_ ?_
     refine pu 7 (some 151) (tA 17 255) HT_ ?_
     refine pu 8 (some 152) (tA 17 511) HT_ ?_
     refine pu 9 (some 153) (tA 17 1023) HT_ ?_
     refine pu 12 (some 156) (tA 17 5119) HT_ ?_
     refine tk7 10 (some 154) (tA 17 6143) HT_ HW_ hHeld ?_
     refine tk7 13 (some 157) (tA 17 14335) HT_ HW_ hHeld ?_
     refine o1 11 (some 155) (tA 17 16383) HT_ (fun K hK => ?_)
     refine gs Try.func65 #[.int .i64 t645, .agg #[.int .i64 t646, .int .i64 t647, .int .i64 t648]] ?_
     with_reducible refine (impl_IsBall.calls kj25 t645 t646 t647 t648 t658 _ A65.out).mono ?_
     rintro e w69 ⟨rfl, hb⟩
     refine ⟨_, rfl, ?_⟩
     replace BK636 := bb BK636 hb
     replace BK641 := bb BK641 hb
     replace BK649 := bb BK649 hb
     replace BK653 := bb BK653 hb
     replace BK657 := bb BK657 hb
     replace HB := bs hb
     (try clear hb)
     (try clear hb2)
     (try clear hk)
     (try clear hi)
     refine hK.out _ _ ⟨(blk_cell BK653.out 0).trans rfl, (blk_cell BK653.out 1).trans rfl, (blk_cell BK657.out 0).trans rfl, (blk_cell BK657.out 1).trans rfl, (blk_cell BK649.out 0).trans rfl, (blk_cell BK649.out 1).trans rfl, (blk_cell BK649.out 2).trans rfl⟩ (fun hHeld => ?_)
     clear hK K
     refine nm (some 155) ?_
     refine o1 14 (some 158) (tA 17 32767) HT_ (fun K hK => ?_)
     refine gs Try.func69 #[.int .i64 t645, .agg #[.int .i64 t646, .int .i64 t647, .int .i64 t648]] ?_
     with_reducible refine (spec_IsBall.calls kj25 t645 t646 t647 t648 t659 _ A66.out).mono ?_
     rintro e w70 ⟨rfl, hb⟩
     refine ⟨_, rfl, ?_⟩
     replace BK636 := bb BK636 hb
     replace BK641 := bb BK641 hb
     replace BK649 := bb BK649 hb
     replace BK653 := bb BK653 hb
     replace BK657 := bb BK657 hb
     replace HB := bs hb
     (try clear hb)
     (try clear hb2)
     (try clear hk)
     (try clear hi)
     refine hK.out _ _ ⟨(blk_cell BK653.out 0).trans rfl, (blk_cell BK653.out 1).trans rfl, (blk_cell BK657.out 0).trans rfl, (blk_cell BK657.out 1).trans rfl, (blk_cell BK649.out 0).trans rfl, (blk_cell BK649.out 1).trans rfl, (blk_cell BK649.out 2).trans rfl⟩ (fun hHeld => ?_)
     clear hK K
     refine nm (some 158) ?_
     refine pu 15 (some 159) (tA 17 65535) HT_ ?_
     refine pu 16 (some 160) (tA 17 131071) HT_ ?_
     refine done_ (done_of HT_.out (by kernel_rfl)) ?_
     try go_wp2
     go_meet
     case rel => go_light; exact ⟨_, ((t658 != t659)), (by first | rfl | (simp; done) | (simp [*]; done)), H', ⟨by have := HJ25.out; first | omega | exact Nat.le_refl _⟩, ⟨be BK636⟩, ⟨be BK641⟩, ⟨be BK649⟩, ⟨be BK653⟩, ⟨be BK657⟩, ⟨bl⟩⟩
   ·obtain ⟨c61b0, c61b1⟩ := zy c61
    (first | rw [c61b0] | (simp only [i64_w, i32_w]; rw [c61b0]) | skip)
    have H' := Aside0.mk H
    clear H
    try go_wp2
    have n0_ : Aside0 (((w55.setCell ⟨gb657, 0, none⟩ (.int .i64 t654)).setCell ⟨gb657, 1, none⟩ (.int .i64 t655)).heap[gb636]? = some (.cells #[.int .i64 t632, .int .i64 t633, .int .i64 t634] 27 (0, 0))) := ⟨bp⟩
    have n1_ : Aside0 (((w55.setCell ⟨gb657, 0, none⟩ (.int .i64 t654)).setCell ⟨gb657, 1, none⟩ (.int .i64 t655)).heap[gb641]? = some (.cells #[.int .i64 t637, .int .i64 t638, .int .i64 t639] 27 (0, 0))) := ⟨bp⟩
    have n2_ : Aside0 (((w55.setCell ⟨gb657, 0, none⟩ (.int .i64 t654)).setCell ⟨gb657, 1, none⟩ (.int .i64 t655)).heap[gb649]? = some (.cells #[.int .i64 t646, .int .i64 t647, .int .i64 t648] 27 (0, 0))) := ⟨bp⟩
    have n3_ : Aside0 (((w55.setCell ⟨gb657, 0, none⟩ (.int .i64 t654)).setCell ⟨gb657, 1, none⟩ (.int .i64 t655)).heap[gb653]? = some (.cells #[.int .i64 t650, .int .i64 t651] 63 (0, 0))) := ⟨bp⟩
    have n4_ : Aside0 (((w55.setCell ⟨gb657, 0, none⟩ (.int .i64 t654)).setCell ⟨gb657, 1, none⟩ (.int .i64 t655)).heap[gb657]? = some (.cells #[.int .i64 t654, .int .i64 t655] 63 (0, 0))) := ⟨bp⟩
    have n5_ : Aside0 (Below w.heap.size w ((w55.setCell ⟨gb657, 0, none⟩ (.int .i64 t654)).setCell ⟨gb657, 1, none⟩ (.int .i64 t655))) := ⟨bl⟩
    (try clear BK636)
    (try clear BK641)
    (try clear BK649)
    (try clear BK653)
    (try clear BK657)
    (try clear HB)
    generalize ((w55.setCell ⟨gb657, 0, none⟩ (.int .i64 t654)).setCell ⟨gb657, 1, none⟩ (.int .i64 t655)) = w71 at n0_ n1_ n2_ n3_ n4_ n5_ ⊢
    have BK636 := n0_
    have BK641 := n1_
    have BK649 := n2_
    have BK653 := n3_
    have BK657 := n4_
    have HB := n5_
    clear n0_ n1_ n2_ n3_ n4_ n5_
    replace BK636 := Aside0.mk (blk_drew BK636.out)
    replace BK641 := Aside0.mk (blk_drew BK641.out)
    replace BK649 := Aside0.mk (blk_drew BK649.out)
    replace BK653 := Aside0.mk (blk_drew BK653.out)
    replace BK657 := Aside0.mk (blk_drew BK657.out)
    replace HB := Aside0.mk (below_drew1 HB.out)
    refine sw 17 (fun w' => True) laws_FnBalls.tab15 laws_FnBalls.bits15 trivial (fun hHeld HT_ HW_ => ?_)
    generalize w71.drew = w72 at BK636 BK641 BK649 BK653 BK657 HB hHeld ⊢
    refine pu 0 (some 144) (tA 17 1) HT_ ?_
    refine pu 1 (some 145) (tA 17 3) HT_ ?_
    refine pu 2 (some 146) (tA 17 7) HT_ ?_
    refine pu 3 (some 147) (tA 17 15) HT_ ?_
    refine pv 4 (some 148) (tA 17 31) HT_ ?_
    refine pv 5 (some 149) (tA 17 63) HT_ ?_
    refine pv 6 (some 150) (tA 17 127) HT_ ?_
    refine pu 7 (some 151) (tA 17 255) HT_ ?_
    refine pu 8 (some 152) (tA 17 511) HT_ ?_
    refine pv 9 (some 153) (tA 17 1023) HT_ ?_
    refine pv 10 (some 154) (tA 17 2047) HT_ ?_
    refine pv 11 (some 155) (tA 17 4095) HT_ ?_
    refine pv 12 (some 156) (tA 17 8191) HT_ ?_
    refine pv 13 (some 157) (tA 17 16383) HT_ ?_
    refine pv 14 (some 158) (tA 17 32767) HT_ ?_
    refine pv 15 (some 159) (tA 17 65535) HT_ ?_
    refine pu 16 (some 160) (tA 17 131071) HT_ ?_
    refine done_ (done_of HT_.out (by kernel_rfl)) ?_
    try go_wp2
    go_meet
    case rel => go_light; exact ⟨_, (true), (by first | rfl | (simp; done) | (simp [*]; done)), H', ⟨by have := HJ25.out; first | omega | exact Nat.le_refl _⟩, ⟨be BK636⟩, ⟨be BK641⟩, ⟨be BK649⟩, ⟨be BK653⟩, ⟨be BK657⟩, ⟨bl⟩⟩
  case rest =>
   obtain ⟨kq, x160_40, rfl, HA, HJ40, BK636, BK641, BK649, BK653, BK657, HB⟩ := hcut
   refine ‹∀ (a : Act) (w : World), Code.wp _ _ _ a w → _› _ _ ?_
   exact laws_FnBalls.part2 HA HJ40 BK636 BK641 BK649 BK653 BK657 HB GW636 GW641 GW649 GW653 GW657 NB636_641 NB636_649 NB636_653 NB636_657 NB641_649 NB641_653 NB641_657 NB649_653 NB649_657 NB653_657 HR0 HC0 hr _ ‹∀ (a : Act) (w : World), Code.wp _ _ _ a w → _›
end Go.Proofs.Ytpmepopagapeiaa.PFnBalls

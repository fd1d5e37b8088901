-- Printed by the kit's print and repaired by a program of this session.
import Derived.Test.YtkfodnlogflcpaaPFnLatticesx0
import Derived.Test.YtkfodnlogflcpaaPFnLatticesx1
import Derived.Test.YtkfodnlogflcpaaPFnLatticesx2
import Derived.Test.YtkfodnlogflcpaaPFnLatticesx3
import Derived.Test.YtkfodnlogflcpaaPFnLatticesx6
import Derived.Test.YtkfodnlogflcpaaPFnLatticesx7
import Derived.Test.YtkfodnlogflcpaaPFnLatticesx8
import Derived.Test.YtkfodnlogflcpaaPFnLatticesx9
import Derived.Test.YtkfodnlogflcpaaPFnLatticesx10
import Derived.Test.YtkfodnlogflcpaaPFnLatticesx11
import Derived.Test.YtkfodnlogflcpaaPFnLatticesx12
import Derived.Test.YtkfodnlogflcpaaPFnLatticesx13
import Derived.Test.YtkfodnlogflcpaaPFnLatticesx14
import Derived.Test.YtkfodnlogflcpaaPFnLatticesx15
import Derived.Test.YtkfodnlogflcpaaPFnLatticesx19
import Derived.Test.YtkfodnlogflcpaaPFnLatticesx20
import Derived.Test.YtkfodnlogflcpaaPFnLatticesx21
import Derived.Deep.Light
import Derived.Test.YtkfodnlogflcpaaPFnLatticesx22
import Derived.Test.YtkfodnlogflcpaaPFnLatticesx23
namespace Go.Proofs.Ytkfodnlogflcpaa.PFnLattices
open Go.RowKit Go.Proofs.YtkfodnlogflcpaaW.PrintWords Go.Proofs.YtkfodnlogflcpaaW.PrintLast Go.Proofs.YtkfodnlogflcpaaW.PrintMore
attribute [local go_sem] max2_int min2_int max_two min_two max_three min_three max_four min_four
set_option linter.unusedVariables false
set_option linter.unusedSimpArgs false

attribute [local go_sem high] eqA27 eqA50
set_option maxHeartbeats 60000000 in
set_option maxRecDepth 100000 in
theorem laws_FnLattices.part2 {A0 : Option Addr} {c0 : Nat} {l0 : List Int} {r : Bool} {w : World} {t783} {t784} {t785} {t786} {t787} {t788} {t789} {t790} {t791} {t793} {t794} {t795} {t796} {gb792 : Nat} {gb797 : Nat} {kj6 : Nat} {kq : Nat} {wc : World}
    {qh qi qj qk ql qm qn qo qp qq qr qt qu qv qw qx qy qz ra rb rc re rf rg rh ri rj rk rl rm rn ro rp rq rr rt ru rv rx ry rz sa sb sc sd se sf sh si sj sk sl sm sn so sp sq sr ss st su sv sx sy ta tb tc td te tf tg th ti tj tk tl tm tn Zq tp tq tr tt tu tv tw tx tz ua ub uc ud ue uf ug uh ui uj uk ul um un uo uq ur us ut uu uv uw ux uy uz vk vl vm vn vo vp vq vr vt vu vv vw vx vy vz xa xb xc xd xe xf xg xh xi xj xk xl xm xn xo xp xq xr xt xu xv xw xx xy xz ya yb yc yd ye yf yg yh yi yj yk yl ym yn yo yp yq yr yt yu yv yw yx yy yz zc zh zj zk zl zo zp zu zv zw Aa Ab Ac Ad Ae Af Ag Ah Ai Aj Ak Al Am An Ao Ap Aq Ar As At Au Av Aw Ax Ay Az Ba Bb Bc Bd Be Bf Bg Bh Bi Bj Bk Bl Bm Bn Bo Bp Bq Br Bs Bt Bu Bv Bw Bx By Bz Ca Cb Cc Cd Ce Cf Cg Ch Ci Cj Ck Cl Cm Cn Co Cp Cq Cr Cs Ct Cu Cv Cw Cx Cy Cz Da Db Dc Dd De Df Dg Dh Di Dj Dk Dl Dm Dn Do Dp Dq Dr Ds Dt Du Dv Dw Dx Dy Dz Ea Eb Ec Ed Ee Ef Eg Eh Ei Ej Ek El Em En Eo Ep Er Es Et Eu Ew Ex Ey : Value}
    (HA : Aside0 (laws_FnLattices.j1 kq l0 = some r)) (HJ20 : Aside0 (kq ≤ kj6)) (BK792 : Aside0 (wc.heap[gb792]? = some (.cells #[.int .i64 t788, .int .i64 t789, .int .i64 t790] 27 (0, 0)))) (BK797 : Aside0 (wc.heap[gb797]? = some (.cells #[.int .i64 t793, .int .i64 t794, .int .i64 t795] 27 (0, 0)))) (HB : Aside0 (Below w.heap.size w wc)) (GW792 : Aside0 (w.heap.size ≤ gb792)) (GW797 : Aside0 (w.heap.size ≤ gb797)) (NB792_797 : Aside0 (gb792 ≠ gb797)) (HR0 : Aside0 (Kd.C (Kd.int .u8) w A0 l0.length l0)) (HC0 : Aside0 (l0.length ≤ c0)) (hr : Aside0 (r = true)) :
    Code.wp Try.prog ((sufO 7 Try.f4.body).getD .ret) (bodyPost Try.prog Try.f4 fun e w' => e = .returned (.bool r) ∧ Below w.heap.size w w') { tmps := #[Value.slice A0 l0.length c0, undef, qh, Value.int IntKind.i64 t783, Value.int IntKind.i64 t784, Value.int IntKind.i64 t785, Value.int IntKind.i64 t786, Value.int IntKind.i64 t787, Value.pointer (some { block := gb792, off := 0 }), Value.int IntKind.i64 t791, Value.pointer (some { block := gb797, off := 0 }), Value.int IntKind.i64 t796, qi, qj, qk, ql, qm, qn, qo, qp, qq, qr, undef, undef, undef, undef, undef, undef, undef, undef, undef, undef, undef, undef, undef, undef, undef, undef, undef, undef, undef, undef, undef, undef, undef, undef, undef, undef, undef, undef, undef, undef, undef, undef, undef, undef, undef, undef, undef, qt, qu, qv, qw, qx, qy, qz, ra, rb, rc, re, rf, rg, rh, ri, rj, rk, rl, rm, rn, ro, rp, rq, rr, rt, ru, rv, rx, ry, rz, sa, sb, sc, sd, se, sf, sh, si, sj, sk, sl, sm, sn, so, sp, sq, sr, ss, st, su, sv, sx, sy, ta, tb, tc, td, te, tf, tg, th, ti, tj, tk, tl, tm, tn, Zq, tp, tq, tr, tt, tu, tv, tw, tx, tz, ua, ub, uc, ud, ue, uf, ug, uh, ui, uj, uk, ul, um, un, uo, uq, ur, us, ut, uu, uv, uw, ux, uy, uz, vk, vl, vm, vn, vo, vp, vq, vr, vt, vu, vv, vw, vx, vy, vz, xa, xb, xc, xd, xe, xf, xg, xh, xi, xj, xk, xl, xm, xn, xo, xp, xq, xr, xt, xu, xv, xw, xx, xy, xz, ya, yb, yc, yd, ye, yf, yg, yh, yi, yj, yk, yl, ym, yn, yo, yp, yq, yr, yt, yu, yv, yw, yx, yy, yz, zc, zh, zj, zk, zl, zo, zp, zu, zv, zw, Aa, Ab, Ac, Ad, Ae, Af, Ag, Ah, Ai, Aj, Ak, Al, Am, An, Ao, Ap, Aq, Ar, As, At, Au, Av, Aw, Ax, Ay, Az, Ba, Bb, Bc, Bd, Be, Bf, Bg, Bh, Bi, Bj, Bk, Bl, Bm, Bn, Bo, Bp, Bq, Br, Bs, Bt, Bu, Bv, Bw, Bx, By, Bz, Ca, Cb, Cc, Cd, Ce, Cf, Cg, Ch, Ci, Cj, Ck, Cl, Cm, Cn, Co, Cp, Cq, Cr, Cs, Ct, Cu, Cv, Cw, Cx, Cy, Cz, Da, Db, Dc, Dd, De, Df, Dg, Dh, Di, Dj, Dk, Dl, Dm, Dn, Do, Dp, Dq, Dr, Ds, Dt, Du, Dv, Dw, Dx, Dy, Dz, Ea, Eb, Ec, Ed, Ee, Ef, Eg, Eh, Ei, Ej, Ek, El, Em, En, Eo, Ep, Er, Es, Et, Eu, Ew, Ex, Ey], defers := [] } wc := by
 refine sufWp rfl ?_
 cases kq with
 | zero => exact absurd HA.out (by simp [laws_FnLattices.j1])
 | succ kj20 =>
  have H := HA.out
  clear HA
  rw [laws_FnLattices.j1] at H
  replace H := zi H
  obtain ⟨⟨t812, t813, t814, t815⟩, A55, H⟩ := H
  try dsimp only at H
  replace H := zi H
  obtain ⟨⟨t817, t818, t819, t820, t821⟩, A56, H⟩ := H
  try dsimp only at H
  replace H := zi H
  obtain ⟨⟨t823, t824, t825, t826, t827⟩, A57, H⟩ := H
  try dsimp only at H
  have HC58 := Aside0.mk H
  clear H
  go_upto_region 19 with (first | ((with_reducible refine zf 19 rfl ?_); refine g1 (some 184) Try.func19 #[.slice A0 l0.length c0] ?_; (with_reducible refine (spec_DrawPrimitiveOf.calls kj20 _ _ l0 t812 t813 t814 t815 _ ?side1 ?side2 A55.out).mono ?_); (case side1 => repeat (first | exact (Kd.C_below HR0.out HB.out) | (with_reducible refine Kd.C_alloc ?_ _) | (with_reducible refine Kd.C_drewN ?_ _) | (with_reducible refine Kd.C_drew ?_))); (case side2 => exact HC0.out); rintro e w59 ⟨rfl, hb⟩; refine ⟨_, rfl, ?_⟩; replace BK792 := bb BK792 hb; replace BK797 := bb BK797 hb; replace HB := bs hb; (try clear hb)) | ((with_reducible refine zg 23 rfl ?_); refine z3 23 27 0 0 0 ?_; intro gb816 hg w60 BK816 hb; have GW816 := sg hg; have NB792_816 := nl hg BK792; have NB797_816 := nl hg BK797; replace BK792 := bb BK792 hb; replace BK797 := bb BK797 hb; replace HB := bs hb; clear hb hg; obtain ⟨hcz63_0, hcz63_1, hcz63_2, hfz63_0, hfz63_1, hfz63_2⟩ := cq3 BK816) | ((with_reducible refine zf 20 rfl ?_); refine g1 (some 190) Try.func20 #[.int .i64 t812, .agg #[.int .i64 t813, .int .i64 t814, .int .i64 t815]] ?_; (with_reducible refine (impl_PrimitiveOf.calls kj20 t812 t813 t814 t815 t817 t818 t819 t820 t821 _ A56.out).mono ?_); rintro e w64 ⟨rfl, hb⟩; refine ⟨_, rfl, ?_⟩; replace BK792 := Aside0.mk (blk_below (g := gb792) (o := .cells #[.int .i64 t788, .int .i64 t789, .int .i64 t790] 27 (0, 0)) (bp) hb); replace BK797 := Aside0.mk (blk_below (g := gb797) (o := .cells #[.int .i64 t793, .int .i64 t794, .int .i64 t795] 27 (0, 0)) (bp) hb); replace BK816 := Aside0.mk (blk_below (g := gb816) (o := .cells #[.int .i64 t813, .int .i64 t814, .int .i64 t815] 27 (0, 0)) (bp) hb); replace HB := bs hb; (try clear hb)) | ((with_reducible refine zg 24 rfl ?_); refine z3 24 27 0 0 0 ?_; intro gb822 hg w65 BK822 hb; have GW822 := sg hg; have NB792_822 := nl hg BK792; have NB797_822 := nl hg BK797; have NB816_822 := nl hg BK816; replace BK792 := bb BK792 hb; replace BK797 := bb BK797 hb; replace BK816 := bb BK816 hb; replace HB := bs hb; clear hb hg; obtain ⟨hnb68, hnc68⟩ := zm NB816_822; obtain ⟨hcz69_0, hcz69_1, hcz69_2, hfz69_0, hfz69_1, hfz69_2⟩ := cq3 BK822; obtain ⟨hcz70_0, hcz70_1, hcz70_2, hfz70_0, hfz70_1, hfz70_2⟩ := cq3 BK816) | ((with_reducible refine zf 21 rfl ?_); refine g1 (some 197) Try.func21 #[.int .i64 t812, .agg #[.int .i64 t813, .int .i64 t814, .int .i64 t815]] ?_; (with_reducible refine (spec_PrimitiveOf.calls kj20 t812 t813 t814 t815 t823 t824 t825 t826 t827 _ A57.out).mono ?_); rintro e w71 ⟨rfl, hb⟩; refine ⟨_, rfl, ?_⟩; replace BK792 := Aside0.mk (blk_below (g := gb792) (o := .cells #[.int .i64 t788, .int .i64 t789, .int .i64 t790] 27 (0, 0)) (bp) hb); replace BK797 := Aside0.mk (blk_below (g := gb797) (o := .cells #[.int .i64 t793, .int .i64 t794, .int .i64 t795] 27 (0, 0)) (bp) hb); replace BK816 := Aside0.mk (blk_below (g := gb816) (o := .cells #[.int .i64 t813, .int .i64 t814, .int .i64 t815] 27 (0, 0)) (bp) hb); replace BK822 := Aside0.mk (blk_below (g := gb822) (o := .cells #[.int .i64 t817, .int .i64 t818, .int .i64 t819] 27 (0, 0)) (bp) hb); replace HB := bs hb; (try clear hb)) | ((with_reducible refine zg 27 rfl ?_); refine z3 27 27 0 0 0 ?_; intro gb828 hg w72 BK828 hb; have GW828 := sg hg; have NB792_828 := nl hg BK792; have NB797_828 := nl hg BK797; have NB816_828 := nl hg BK816; have NB822_828 := nl hg BK822; replace BK792 := bb BK792 hb; replace BK797 := bb BK797 hb; replace BK816 := bb BK816 hb; replace BK822 := bb BK822 hb; replace HB := bs hb; clear hb hg; obtain ⟨hnb75, hnc75⟩ := zm NB816_828; obtain ⟨hnb76, hnc76⟩ := zm NB822_828; obtain ⟨hcz77_0, hcz77_1, hcz77_2, hfz77_0, hfz77_1, hfz77_2⟩ := cq3 BK828))
  (try simp only [Act.put, zq, zr, zt])
  go_cut [222] (fun v222 wc => ∃ (kq : Nat) (x222_57 : Bool), v222 = .bool x222_57 ∧ Aside0 (laws_FnLattices.j2 kq l0 t812 t821 x222_57 t813 t814 t815 t817 t818 t819 = some r) ∧ Aside0 (kq ≤ kj20) ∧ Aside0 (wc.heap[gb792]? = some (.cells #[.int .i64 t788, .int .i64 t789, .int .i64 t790] 27 (0, 0))) ∧ Aside0 (wc.heap[gb797]? = some (.cells #[.int .i64 t793, .int .i64 t794, .int .i64 t795] 27 (0, 0))) ∧ Aside0 (wc.heap[gb816]? = some (.cells #[.int .i64 t813, .int .i64 t814, .int .i64 t815] 27 (0, 0))) ∧ Aside0 (wc.heap[gb822]? = some (.cells #[.int .i64 t817, .int .i64 t818, .int .i64 t819] 27 (0, 0))) ∧ Aside0 (wc.heap[gb828]? = some (.cells #[.int .i64 t823, .int .i64 t824, .int .i64 t825] 27 (0, 0))) ∧ Aside0 (Below w.heap.size w wc))
  case first =>
   as_aux_lemma =>
   have H := HC58.out
   clear HC58
   replace H := ii H
   rcases H with ⟨c78, H⟩ | ⟨c78, H⟩
   ·obtain ⟨c78b0, c78b1⟩ := zz c78
    clear c78
    (first | rw [c78b0] | (simp only [i64_w, i32_w]; rw [c78b0]) | skip)
    replace H := ii H
    rcases H with ⟨c79, H⟩ | ⟨c79, H⟩
    ·have c79b0 : (!(t817 == t823) || (!(t818 == t824) || (!(t819 == t825)))) = true := c79
     as_aux_lemma =>
     clear c79
     have H' := Aside0.mk H
     clear H
     try go_wp2
     have n0_ : Aside0 ((((w72.setCell ⟨gb828, 0, none⟩ (.int .i64 t823)).setCell ⟨gb828, 1, none⟩ (.int .i64 t824)).setCell ⟨gb828, 2, none⟩ (.int .i64 t825)).heap[gb792]? = some (.cells #[.int .i64 t788, .int .i64 t789, .int .i64 t790] 27 (0, 0))) := ⟨bp⟩
     have n1_ : Aside0 ((((w72.setCell ⟨gb828, 0, none⟩ (.int .i64 t823)).setCell ⟨gb828, 1, none⟩ (.int .i64 t824)).setCell ⟨gb828, 2, none⟩ (.int .i64 t825)).heap[gb797]? = some (.cells #[.int .i64 t793, .int .i64 t794, .int .i64 t795] 27 (0, 0))) := ⟨bp⟩
     have n2_ : Aside0 ((((w72.setCell ⟨gb828, 0, none⟩ (.int .i64 t823)).setCell ⟨gb828, 1, none⟩ (.int .i64 t824)).setCell ⟨gb828, 2, none⟩ (.int .i64 t825)).heap[gb816]? = some (.cells #[.int .i64 t813, .int .i64 t814, .int .i64 t815] 27 (0, 0))) := ⟨bp⟩
     have n3_ : Aside0 ((((w72.setCell ⟨gb828, 0, none⟩ (.int .i64 t823)).setCell ⟨gb828, 1, none⟩ (.int .i64 t824)).setCell ⟨gb828, 2, none⟩ (.int .i64 t825)).heap[gb822]? = some (.cells #[.int .i64 t817, .int .i64 t818, .int .i64 t819] 27 (0, 0))) := ⟨bp⟩
     have n4_ : Aside0 ((((w72.setCell ⟨gb828, 0, none⟩ (.int .i64 t823)).setCell ⟨gb828, 1, none⟩ (.int .i64 t824)).setCell ⟨gb828, 2, none⟩ (.int .i64 t825)).heap[gb828]? = some (.cells #[.int .i64 t823, .int .i64 t824, .int .i64 t825] 27 (0, 0))) := ⟨bp⟩
     have n5_ : Aside0 (Below w.heap.size w (((w72.setCell ⟨gb828, 0, none⟩ (.int .i64 t823)).setCell ⟨gb828, 1, none⟩ (.int .i64 t824)).setCell ⟨gb828, 2, none⟩ (.int .i64 t825))) := ⟨bl⟩
     (try clear BK792)
     (try clear BK797)
     (try clear BK816)
     (try clear BK822)
     (try clear BK828)
     (try clear HB)
     generalize (((w72.setCell ⟨gb828, 0, none⟩ (.int .i64 t823)).setCell ⟨gb828, 1, none⟩ (.int .i64 t824)).setCell ⟨gb828, 2, none⟩ (.int .i64 t825)) = w80 at n0_ n1_ n2_ n3_ n4_ n5_ ⊢
     have BK792 := n0_
     have BK797 := n1_
     have BK816 := n2_
     have BK822 := n3_
     have BK828 := n4_
     have HB := n5_
     clear n0_ n1_ n2_ n3_ n4_ n5_
     replace BK792 := Aside0.mk (blk_drew BK792.out)
     replace BK797 := Aside0.mk (blk_drew BK797.out)
     replace BK816 := Aside0.mk (blk_drew BK816.out)
     replace BK822 := Aside0.mk (blk_drew BK822.out)
     replace BK828 := Aside0.mk (blk_drew BK828.out)
     replace HB := Aside0.mk (below_drew1 HB.out)
     refine sw 22 (fun w' => w'.cell? ⟨gb822, 0, none⟩ = some (.int .i64 t817) ∧ w'.cell? ⟨gb822, 1, none⟩ = some (.int .i64 t818) ∧ w'.cell? ⟨gb822, 2, none⟩ = some (.int .i64 t819) ∧ w'.cell? ⟨gb828, 0, none⟩ = some (.int .i64 t823) ∧ w'.cell? ⟨gb828, 1, none⟩ = some (.int .i64 t824) ∧ w'.cell? ⟨gb828, 2, none⟩ = some (.int .i64 t825)) laws_FnLattices.tab19 laws_FnLattices.bits19 (e3r BK822 (e3 BK828)) (fun hHeld HT_ HW_ => ?_)
     generalize w80.drew = w81 at BK792 BK797 BK816 BK822 BK828 HB hHeld ⊢
     refine pu 0 (some 201) (tA 22 1) HT_ ?_
     refine pu 1 (some 202) (tA 22 3) HT_ ?_
     refine pu 2 (some 203) (tA 22 7) HT_ ?_
     refine pu 3 (some 204) (tA 22 15) HT_ ?_
     refine tk6 4 (some 205) (tA 22 31) HT_ HW_ hHeld ?_
     refine tk6 5 (some 206) (tA 22 63) HT_ HW_ hHeld ?_
     refine pu 6 (some 207) (tA 22 127) HT_ ?_
     refine pu 7 (some 208) (tA 22 255) HT_ ?_
     refine pu 8 (some 209) (tA 22 511) HT_ ?_
     refine pv 9 (some 210) (tA 22 1023) HT_ ?_
     refine pv 10 (some 211) (tA 22 2047) HT_ ?_
     refine pv 11 (some 212) (tA 22 4095) HT_ ?_
     refine pu 12 (some 213) (tA 22 8191) HT_ ?_
     refine pu 13 (some 214) (tA 22 16383) HT_ ?_
     refine pv 14 (some 215) (tA 22 32767) HT_ ?_
     refine pv 15 (some 216) (tA 22 65535) HT_ ?_
     refine pv 16 (some 217) (tA 22 131071) HT_ ?_
     refine pv 17 (some 218) (tA 22 262143) HT_ ?_
     refine pv 18 (some 219) (tA 22 524287) HT_ ?_
     refine pv 19 (some 220) (tA 22 1048575) HT_ ?_
     refine pv 20 (some 221) (tA 22 2097151) HT_ ?_
     refine pu 21 (some 222) (tA 22 4194303) HT_ ?_
     refine done_ (done_of HT_.out (by kernel_rfl)) ?_
     try go_wp2
     go_meet
     case rel => go_light; exact ⟨_, (true), (by first | rfl | (simp; done) | (simp [*]; done)), H', ⟨by have := HJ20.out; first | omega | exact Nat.le_refl _⟩, ⟨be BK792⟩, ⟨be BK797⟩, ⟨be BK816⟩, ⟨be BK822⟩, ⟨be BK828⟩, ⟨bl⟩⟩
    ·have c79b0 : (!(t817 == t823) || (!(t818 == t824) || (!(t819 == t825)))) = false := by simpa using c79
     clear c79
     replace H := ii H
     rcases H with ⟨c82, H⟩ | ⟨c82, H⟩
     ·obtain ⟨c82b0, c82b1⟩ := zz c82
      as_aux_lemma =>
      clear c82
      replace H := zi H
      obtain ⟨t829, A83, H⟩ := H
      try dsimp only at H
      replace H := zi H
      obtain ⟨t830, A84, H⟩ := H
      try dsimp only at H
      have H' := Aside0.mk H
      clear H
      try go_wp2
      have n0_ : Aside0 ((((w72.setCell ⟨gb828, 0, none⟩ (.int .i64 t823)).setCell ⟨gb828, 1, none⟩ (.int .i64 t824)).setCell ⟨gb828, 2, none⟩ (.int .i64 t825)).heap[gb792]? = some (.cells #[.int .i64 t788, .int .i64 t789, .int .i64 t790] 27 (0, 0))) := ⟨bp⟩
      have n1_ : Aside0 ((((w72.setCell ⟨gb828, 0, none⟩ (.int .i64 t823)).setCell ⟨gb828, 1, none⟩ (.int .i64 t824)).setCell ⟨gb828, 2, none⟩ (.int .i64 t825)).heap[gb797]? = some (.cells #[.int .i64 t793, .int .i64 t794, .int .i64 t795] 27 (0, 0))) := ⟨bp⟩
      have n2_ : Aside0 ((((w72.setCell ⟨gb828, 0, none⟩ (.int .i64 t823)).setCell ⟨gb828, 1, none⟩ (.int .i64 t824)).setCell ⟨gb828, 2, none⟩ (.int .i64 t825)).heap[gb816]? = some (.cells #[.int .i64 t813, .int .i64 t814, .int .i64 t815] 27 (0, 0))) := ⟨bp⟩
      have n3_ : Aside0 ((((w72.setCell ⟨gb828, 0, none⟩ (.int .i64 t823)).setCell ⟨gb828, 1, none⟩ (.int .i64 t824)).setCell ⟨gb828, 2, none⟩ (.int .i64 t825)).heap[gb822]? = some (.cells #[.int .i64 t817, .int .i64 t818, .int .i64 t819] 27 (0, 0))) := ⟨bp⟩
      have n4_ : Aside0 ((((w72.setCell ⟨gb828, 0, none⟩ (.int .i64 t823)).setCell ⟨gb828, 1, none⟩ (.int .i64 t824)).setCell ⟨gb828, 2, none⟩ (.int .i64 t825)).heap[gb828]? = some (.cells #[.int .i64 t823, .int .i64 t824, .int .i64 t825] 27 (0, 0))) := ⟨bp⟩
      have n5_ : Aside0 (Below w.heap.size w (((w72.setCell ⟨gb828, 0, none⟩ (.int .i64 t823)).setCell ⟨gb828, 1, none⟩ (.int .i64 t824)).setCell ⟨gb828, 2, none⟩ (.int .i64 t825))) := ⟨bl⟩
      (try clear BK792)
      (try clear BK797)
      (try clear BK816)
      (try clear BK822)
      (try clear BK828)
      (try clear HB)
      generalize (((w72.setCell ⟨gb828, 0, none⟩ (.int .i64 t823)).setCell ⟨gb828, 1, none⟩ (.int .i64 t824)).setCell ⟨gb828, 2, none⟩ (.int .i64 t825)) = w85 at n0_ n1_ n2_ n3_ n4_ n5_ ⊢
      have BK792 := n0_
      have BK797 := n1_
      have BK816 := n2_
      have BK822 := n3_
      have BK828 := n4_
      have HB := n5_
      clear n0_ n1_ n2_ n3_ n4_ n5_
      replace BK792 := Aside0.mk (blk_drew BK792.out)
      replace BK797 := Aside0.mk (blk_drew BK797.out)
      replace BK816 := Aside0.mk (blk_drew BK816.out)
      replace BK822 := Aside0.mk (blk_drew BK822.out)
      replace BK828 := Aside0.mk (blk_drew BK828.out)
      replace HB := Aside0.mk (below_drew1 HB.out)
      refine sw 22 (fun w' => w'.cell? ⟨gb822, 0, none⟩ = some (.int .i64 t817) ∧ w'.cell? ⟨gb822, 1, none⟩ = some (.int .i64 t818) ∧ w'.cell? ⟨gb822, 2, none⟩ = some (.int .i64 t819) ∧ w'.cell? ⟨gb828, 0, none⟩ = some (.int .i64 t823) ∧ w'.cell? ⟨gb828, 1, none⟩ = some (.int .i64 t824) ∧ w'.cell? ⟨gb828, 2, none⟩ = some (.int .i64 t825) ∧ w'.cell? ⟨gb816, 0, none⟩ = some (.int .i64 t813) ∧ w'.cell? ⟨gb816, 1, none⟩ = some (.int .i64 t814) ∧ w'.cell? ⟨gb816, 2, none⟩ = some (.int .i64 t815)) laws_FnLattices.tab19 laws_FnLattices.bits19 (e3r BK822 (e3r BK828 (e3 BK816))) (fun hHeld HT_ HW_ => ?_)
      generalize w85.drew = w86 at BK792 BK797 BK816 BK822 BK828 HB hHeld ⊢
      refine pu 0 (some 201) (tA 22 1) HT_ ?_
      refine pu 1 (some 202) (tA 22 3) HT_ ?_
      refine pu 2 (some 203) (tA 22 7) HT_ ?_
      refine pu 3 (some 204) (tA 22 15) HT_ ?_
      refine tk9 4 (some 205) (tA 22 31) HT_ HW_ hHeld ?_
      refine tk9 5 (some 206) (tA 22 63) HT_ HW_ hHeld ?_
      refine pu 6 (some 207) (tA 22 127) HT_ ?_
      refine pu 7 (some 208) (tA 22 255) HT_ ?_
      refine pu 8 (some 209) (tA 22 511) HT_ ?_
      refine pu 9 (some 210) (tA 22 1023) HT_ ?_
      refine pu 10 (some 211) (tA 22 2047) HT_ ?_
      refine pu 11 (some 212) (tA 22 4095) HT_ ?_
      refine pu 12 (some 213) (tA 22 8191) HT_ ?_
      refine pu 13 (some 214) (tA 22 16383) HT_ ?_
      refine pu 14 (some 215) (tA 22 32767) HT_ ?_
      refine pu 17 (some 218) (tA 22 163839) HT_ ?_
      refine tk9 15 (some 216) (tA 22 196607) HT_ HW_ hHeld ?_
      refine tk9 18 (some 219) (tA 22 458751) HT_ HW_ hHeld ?_
      refine o1 16 (some 217) (tA 22 524287) HT_ (fun K hK => ?_)
      refine gs Try.func18 #[.int .i64 t812, .agg #[.int .i64 t813, .int .i64 t814, .int .i64 t815]] ?_
      with_reducible refine (impl_IsLattice.calls kj20 t812 t813 t814 t815 t829 _ A83.out).mono ?_
      rintro e w87 ⟨rfl, hb⟩
      refine ⟨_, rfl, ?_⟩
      replace BK792 := bb BK792 hb
      replace BK797 := bb BK797 hb
      replace BK816 := bb BK816 hb
      replace BK822 := bb BK822 hb
      replace BK828 := bb BK828 hb
      replace HB := bs hb
      (try clear hb)
      (try clear hb2)
      (try clear hk)
      (try clear hi)
      refine hK.out _ _ (e3r BK822 (e3r BK828 (e3 BK816))) (fun hHeld => ?_)
      clear hK K
      refine nm (some 217) ?_
      refine o1 19 (some 220) (tA 22 1048575) HT_ (fun K hK => ?_)
      refine gs Try.func22 #[.int .i64 t812, .agg #[.int .i64 t813, .int .i64 t814, .int .i64 t815]] ?_
      with_reducible refine (spec_IsLattice.calls kj20 t812 t813 t814 t815 t830 _ A84.out).mono ?_
      rintro e w88 ⟨rfl, hb⟩
      refine ⟨_, rfl, ?_⟩
      replace BK792 := bb BK792 hb
      replace BK797 := bb BK797 hb
      replace BK816 := bb BK816 hb
      replace BK822 := bb BK822 hb
      replace BK828 := bb BK828 hb
      replace HB := bs hb
      (try clear hb)
      (try clear hb2)
      (try clear hk)
      (try clear hi)
      refine hK.out _ _ (e3r BK822 (e3r BK828 (e3 BK816))) (fun hHeld => ?_)
      clear hK K
      refine nm (some 220) ?_
      refine pu 20 (some 221) (tA 22 2097151) HT_ ?_
      refine pu 21 (some 222) (tA 22 4194303) HT_ ?_
      refine done_ (done_of HT_.out (by kernel_rfl)) ?_
      try go_wp2
      go_meet
      case rel => go_light; exact ⟨_, ((t829 != t830)), (by first | rfl | (simp; done) | (simp [*]; done)), H', ⟨by have := HJ20.out; first | omega | exact Nat.le_refl _⟩, ⟨be BK792⟩, ⟨be BK797⟩, ⟨be BK816⟩, ⟨be BK822⟩, ⟨be BK828⟩, ⟨bl⟩⟩
     ·obtain ⟨c82b0, c82b1⟩ := zy c82
      as_aux_lemma =>
      have H' := Aside0.mk H
      clear H
      try go_wp2
      have n0_ : Aside0 ((((w72.setCell ⟨gb828, 0, none⟩ (.int .i64 t823)).setCell ⟨gb828, 1, none⟩ (.int .i64 t824)).setCell ⟨gb828, 2, none⟩ (.int .i64 t825)).heap[gb792]? = some (.cells #[.int .i64 t788, .int .i64 t789, .int .i64 t790] 27 (0, 0))) := ⟨bp⟩
      have n1_ : Aside0 ((((w72.setCell ⟨gb828, 0, none⟩ (.int .i64 t823)).setCell ⟨gb828, 1, none⟩ (.int .i64 t824)).setCell ⟨gb828, 2, none⟩ (.int .i64 t825)).heap[gb797]? = some (.cells #[.int .i64 t793, .int .i64 t794, .int .i64 t795] 27 (0, 0))) := ⟨bp⟩
      have n2_ : Aside0 ((((w72.setCell ⟨gb828, 0, none⟩ (.int .i64 t823)).setCell ⟨gb828, 1, none⟩ (.int .i64 t824)).setCell ⟨gb828, 2, none⟩ (.int .i64 t825)).heap[gb816]? = some (.cells #[.int .i64 t813, .int .i64 t814, .int .i64 t815] 27 (0, 0))) := ⟨bp⟩
      have n3_ : Aside0 ((((w72.setCell ⟨gb828, 0, none⟩ (.int .i64 t823)).setCell ⟨gb828, 1, none⟩ (.int .i64 t824)).setCell ⟨gb828, 2, none⟩ (.int .i64 t825)).heap[gb822]? = some (.cells #[.int .i64 t817, .int .i64 t818, .int .i64 t819] 27 (0, 0))) := ⟨bp⟩
      have n4_ : Aside0 ((((w72.setCell ⟨gb828, 0, none⟩ (.int .i64 t823)).setCell ⟨gb828, 1, none⟩ (.int .i64 t824)).setCell ⟨gb828, 2, none⟩ (.int .i64 t825)).heap[gb828]? = some (.cells #[.int .i64 t823, .int .i64 t824, .int .i64 t825] 27 (0, 0))) := ⟨bp⟩
      have n5_ : Aside0 (Below w.heap.size w (((w72.setCell ⟨gb828, 0, none⟩ (.int .i64 t823)).setCell ⟨gb828, 1, none⟩ (.int .i64 t824)).setCell ⟨gb828, 2, none⟩ (.int .i64 t825))) := ⟨bl⟩
      (try clear BK792)
      (try clear BK797)
      (try clear BK816)
      (try clear BK822)
      (try clear BK828)
      (try clear HB)
      generalize (((w72.setCell ⟨gb828, 0, none⟩ (.int .i64 t823)).setCell ⟨gb828, 1, none⟩ (.int .i64 t824)).setCell ⟨gb828, 2, none⟩ (.int .i64 t825)) = w89 at n0_ n1_ n2_ n3_ n4_ n5_ ⊢
      have BK792 := n0_
      have BK797 := n1_
      have BK816 := n2_
      have BK822 := n3_
      have BK828 := n4_
      have HB := n5_
      clear n0_ n1_ n2_ n3_ n4_ n5_
      replace BK792 := Aside0.mk (blk_drew BK792.out)
      replace BK797 := Aside0.mk (blk_drew BK797.out)
      replace BK816 := Aside0.mk (blk_drew BK816.out)
      replace BK822 := Aside0.mk (blk_drew BK822.out)
      replace BK828 := Aside0.mk (blk_drew BK828.out)
      replace HB := Aside0.mk (below_drew1 HB.out)
      refine sw 22 (fun w' => w'.cell? ⟨gb822, 0, none⟩ = some (.int .i64 t817) ∧ w'.cell? ⟨gb822, 1, none⟩ = some (.int .i64 t818) ∧ w'.cell? ⟨gb822, 2, none⟩ = some (.int .i64 t819) ∧ w'.cell? ⟨gb828, 0, none⟩ = some (.int .i64 t823) ∧ w'.cell? ⟨gb828, 1, none⟩ = some (.int .i64 t824) ∧ w'.cell? ⟨gb828, 2, none⟩ = some (.int .i64 t825)) laws_FnLattices.tab19 laws_FnLattices.bits19 (e3r BK822 (e3 BK828)) (fun hHeld HT_ HW_ => ?_)
      generalize w89.drew = w90 at BK792 BK797 BK816 BK822 BK828 HB hHeld ⊢
      refine pu 0 (some 201) (tA 22 1) HT_ ?_
      refine pu 1 (some 202) (tA 22 3) HT_ ?_
      refine pu 2 (some 203) (tA 22 7) HT_ ?_
      refine pu 3 (some 204) (tA 22 15) HT_ ?_
      refine tk6 4 (some 205) (tA 22 31) HT_ HW_ hHeld ?_
      refine tk6 5 (some 206) (tA 22 63) HT_ HW_ hHeld ?_
      refine pu 6 (some 207) (tA 22 127) HT_ ?_
      refine pu 7 (some 208) (tA 22 255) HT_ ?_
      refine pu 8 (some 209) (tA 22 511) HT_ ?_
      refine pu 9 (some 210) (tA 22 1023) HT_ ?_
      refine pu 10 (some 211) (tA 22 2047) HT_ ?_
      refine pu 11 (some 212) (tA 22 4095) HT_ ?_
      refine pu 12 (some 213) (tA 22 8191) HT_ ?_
      refine pu 13 (some 214) (tA 22 16383) HT_ ?_
      refine pv 14 (some 215) (tA 22 32767) HT_ ?_
      refine pv 15 (some 216) (tA 22 65535) HT_ ?_
      refine pv 16 (some 217) (tA 22 131071) HT_ ?_
      refine pv 17 (some 218) (tA 22 262143) HT_ ?_
      refine pv 18 (some 219) (tA 22 524287) HT_ ?_
      refine pv 19 (some 220) (tA 22 1048575) HT_ ?_
      refine pv 20 (some 221) (tA 22 2097151) HT_ ?_
      refine pu 21 (some 222) (tA 22 4194303) HT_ ?_
      refine done_ (done_of HT_.out (by kernel_rfl)) ?_
      try go_wp2
      go_meet
      case rel => go_light; exact ⟨_, (true), (by first | rfl | (simp; done) | (simp [*]; done)), H', ⟨by have := HJ20.out; first | omega | exact Nat.le_refl _⟩, ⟨be BK792⟩, ⟨be BK797⟩, ⟨be BK816⟩, ⟨be BK822⟩, ⟨be BK828⟩, ⟨bl⟩⟩
   ·obtain ⟨c78b0, c78b1⟩ := zy c78
    as_aux_lemma =>
    (first | rw [c78b0] | (simp only [i64_w, i32_w]; rw [c78b0]) | skip)
    have H' := Aside0.mk H
    clear H
    try go_wp2
    have n0_ : Aside0 ((((w72.setCell ⟨gb828, 0, none⟩ (.int .i64 t823)).setCell ⟨gb828, 1, none⟩ (.int .i64 t824)).setCell ⟨gb828, 2, none⟩ (.int .i64 t825)).heap[gb792]? = some (.cells #[.int .i64 t788, .int .i64 t789, .int .i64 t790] 27 (0, 0))) := ⟨bp⟩
    have n1_ : Aside0 ((((w72.setCell ⟨gb828, 0, none⟩ (.int .i64 t823)).setCell ⟨gb828, 1, none⟩ (.int .i64 t824)).setCell ⟨gb828, 2, none⟩ (.int .i64 t825)).heap[gb797]? = some (.cells #[.int .i64 t793, .int .i64 t794, .int .i64 t795] 27 (0, 0))) := ⟨bp⟩
    have n2_ : Aside0 ((((w72.setCell ⟨gb828, 0, none⟩ (.int .i64 t823)).setCell ⟨gb828, 1, none⟩ (.int .i64 t824)).setCell ⟨gb828, 2, none⟩ (.int .i64 t825)).heap[gb816]? = some (.cells #[.int .i64 t813, .int .i64 t814, .int .i64 t815] 27 (0, 0))) := ⟨bp⟩
    have n3_ : Aside0 ((((w72.setCell ⟨gb828, 0, none⟩ (.int .i64 t823)).setCell ⟨gb828, 1, none⟩ (.int .i64 t824)).setCell ⟨gb828, 2, none⟩ (.int .i64 t825)).heap[gb822]? = some (.cells #[.int .i64 t817, .int .i64 t818, .int .i64 t819] 27 (0, 0))) := ⟨bp⟩
    have n4_ : Aside0 ((((w72.setCell ⟨gb828, 0, none⟩ (.int .i64 t823)).setCell ⟨gb828, 1, none⟩ (.int .i64 t824)).setCell ⟨gb828, 2, none⟩ (.int .i64 t825)).heap[gb828]? = some (.cells #[.int .i64 t823, .int .i64 t824, .int .i64 t825] 27 (0, 0))) := ⟨bp⟩
    have n5_ : Aside0 (Below w.heap.size w (((w72.setCell ⟨gb828, 0, none⟩ (.int .i64 t823)).setCell ⟨gb828, 1, none⟩ (.int .i64 t824)).setCell ⟨gb828, 2, none⟩ (.int .i64 t825))) := ⟨bl⟩
    (try clear BK792)
    (try clear BK797)
    (try clear BK816)
    (try clear BK822)
    (try clear BK828)
    (try clear HB)
    generalize (((w72.setCell ⟨gb828, 0, none⟩ (.int .i64 t823)).setCell ⟨gb828, 1, none⟩ (.int .i64 t824)).setCell ⟨gb828, 2, none⟩ (.int .i64 t825)) = w91 at n0_ n1_ n2_ n3_ n4_ n5_ ⊢
    have BK792 := n0_
    have BK797 := n1_
    have BK816 := n2_
    have BK822 := n3_
    have BK828 := n4_
    have HB := n5_
    clear n0_ n1_ n2_ n3_ n4_ n5_
    replace BK792 := Aside0.mk (blk_drew BK792.out)
    replace BK797 := Aside0.mk (blk_drew BK797.out)
    replace BK816 := Aside0.mk (blk_drew BK816.out)
    replace BK822 := Aside0.mk (blk_drew BK822.out)
    replace BK828 := Aside0.mk (blk_drew BK828.out)
    replace HB := Aside0.mk (below_drew1 HB.out)
    refine sw 22 (fun w' => True) laws_FnLattices.tab19 laws_FnLattices.bits19 trivial (fun hHeld HT_ HW_ => ?_)
    generalize w91.drew = w92 at BK792 BK797 BK816 BK822 BK828 HB hHeld ⊢
    refine pu 0 (some 201) (tA 22 1) HT_ ?_
    refine pu 1 (some 202) (tA 22 3) HT_ ?_
    refine pu 2 (some 203) (tA 22 7) HT_ ?_
    refine pu 3 (some 204) (tA 22 15) HT_ ?_
    refine pv 4 (some 205) (tA 22 31) HT_ ?_
    refine pv 5 (some 206) (tA 22 63) HT_ ?_
    refine pv 6 (some 207) (tA 22 127) HT_ ?_
    refine pu 7 (some 208) (tA 22 255) HT_ ?_
    refine pu 8 (some 209) (tA 22 511) HT_ ?_
    refine pv 9 (some 210) (tA 22 1023) HT_ ?_
    refine pv 10 (some 211) (tA 22 2047) HT_ ?_
    refine pv 11 (some 212) (tA 22 4095) HT_ ?_
    refine pu 12 (some 213) (tA 22 8191) HT_ ?_
    refine pu 13 (some 214) (tA 22 16383) HT_ ?_
    refine pv 14 (some 215) (tA 22 32767) HT_ ?_
    refine pv 15 (some 216) (tA 22 65535) HT_ ?_
    refine pv 16 (some 217) (tA 22 131071) HT_ ?_
    refine pv 17 (some 218) (tA 22 262143) HT_ ?_
    refine pv 18 (some 219) (tA 22 524287) HT_ ?_
    refine pv 19 (some 220) (tA 22 1048575) HT_ ?_
    refine pv 20 (some 221) (tA 22 2097151) HT_ ?_
    refine pu 21 (some 222) (tA 22 4194303) HT_ ?_
    refine done_ (done_of HT_.out (by kernel_rfl)) ?_
    try go_wp2
    go_meet
    case rel => go_light; exact ⟨_, (true), (by first | rfl | (simp; done) | (simp [*]; done)), H', ⟨by have := HJ20.out; first | omega | exact Nat.le_refl _⟩, ⟨be BK792⟩, ⟨be BK797⟩, ⟨be BK816⟩, ⟨be BK822⟩, ⟨be BK828⟩, ⟨bl⟩⟩
  case rest =>
   obtain ⟨kq, x222_57, rfl, HA, HJ57, BK792, BK797, BK816, BK822, BK828, HB⟩ := hcut
   refine ‹∀ (a : Act) (w : World), Code.wp _ _ _ a w → _› _ _ ?_
   exact laws_FnLattices.part HA HJ57 BK792 BK797 BK816 BK822 BK828 HB GW792 GW797 GW816 GW822 GW828 NB792_797 NB792_816 NB792_822 NB792_828 NB797_816 NB797_822 NB797_828 NB816_822 NB816_828 NB822_828 HR0 HC0 hr _ ‹∀ (a : Act) (w : World), Code.wp _ _ _ a w → _›
end Go.Proofs.Ytkfodnlogflcpaa.PFnLattices

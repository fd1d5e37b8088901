-- Printed by the kit's print and repaired by a program of this session.
import Derived.Test.YtgdkmchphpjifaaGreatDoorPFnEndsx0
import Derived.Test.YtgdkmchphpjifaaGreatDoorPFnEndsx11
import Derived.Test.YtgdkmchphpjifaaGreatDoorPFnEndsx13
import Derived.Test.YtgdkmchphpjifaaGreatDoorPFnEndsx14
namespace Go.Proofs.YtgdkmchphpjifaaGreatDoor.PFnEnds
open Go.RowKit Go.Proofs.YtgdkmchphpjifaaGreatDoorW.PrintWords Go.Proofs.YtgdkmchphpjifaaGreatDoorW.PrintLast Go.Proofs.YtgdkmchphpjifaaGreatDoorW.PrintMore
attribute [local go_sem] max2_int min2_int max_two min_two max_three min_three max_four min_four
set_option linter.unusedVariables false
set_option linter.unusedSimpArgs false

/-! ### spec_l01Read: function 47 -/
def spec_l01Read.j0 : Nat → Int → List ByteArray → Int → Bool → Option (Int × Int × Int × Bool)
 | 0, _, _, _, _ => none
 | k + 1, x0, x7, x8, x34 => if x34 = true then (some (0, 0, 0, false)) else (if 0 < (x7.length : Int) then ((spec_l01Number.f k (rdOf ByteArray.empty x7 0)).bind fun t456 => (if 1 < (x7.length : Int) then ((spec_l01Number.f k (rdOf ByteArray.empty x7 1)).bind fun t458 => ((spec_l01Is.f k x0 x8 t456 t458).bind fun t460 => (if t460 = true then (some (x8, t456, t458, true)) else (some (0, 0, 0, false))))) else (none))) else (none))
def spec_l01Read.f (k : Nat) (a0 : Int) (a1 : ByteArray) : Option (Int × Int × Int × Bool) := (spec_l01Split.f k a1 64).bind fun t445 => (if (t445.length : Int) = 2 then (if 0 < (t445.length : Int) then ((spec_l01Split.f k (rdOf ByteArray.empty t445 0) 46).bind fun t449 => (if 1 < (t445.length : Int) then ((spec_l01Signed.f k (rdOf ByteArray.empty t445 1)).bind fun bt453 => (if (t449.length : Int) = 2 then (spec_l01Read.j0 k a0 t449 bt453.1 (!bt453.2)) else (spec_l01Read.j0 k a0 t449 bt453.1 true))) else (none))) else (none)) else (some (0, 0, 0, false)))
def spec_l01Read.T8 : Bool × List (List Nat × List Nat) := (true, [([], []), ([], []), ([1], [1]), ([2], [2]), ([3], [3]), ([], []), ([5], [5]), ([6], [6]), ([7, 4], [7]), ([0, 4, 8], [0, 4, 8]), ([], []), ([10, 9, 8, 0, 1, 2, 3, 4, 5, 6, 7, 8, 9, 10], [9, 10])])
def spec_l01Read.B8 : List Nat := [0, 0, 2, 6, 14, 0, 32, 96, 254, 511, 0, 2047]
theorem spec_l01Read.tab8 : rtab .any (opsOf Tryz.f47 8) = spec_l01Read.T8 := by kernel_rfl
theorem spec_l01Read.bits8 : waitsOk spec_l01Read.T8.2 spec_l01Read.B8 = true := by kernel_rfl
set_option maxHeartbeats 8000000 in
set_option maxRecDepth 100000 in
theorem spec_l01Read.calls (k : Nat) (a0 : Int) (a1 : ByteArray) (r1 : Int) (r2 : Int) (r3 : Int) (r4 : Bool) (w : World) (h : spec_l01Read.f k a0 a1 = some (r1, r2, r3, r4)) :
  Calls Tryz.prog 47 #[.int .i64 a0, .string a1] w fun e w' => e = .returned (.tuple #[.agg #[.int .i64 r1, .int .i64 r2, .int .i64 r3], .bool r4]) ∧ Below w.heap.size w w' := by
 have hu35 := Tryz.underlying35
 have HB := Aside0.mk (Below.refl w.heap.size w)
 unfold spec_l01Read.f at h
 have H := h
 clear h
 replace H := zi H
 obtain ⟨t445, A3, H⟩ := H
 try dsimp only at H
 replace H := ii H
 rcases H with ⟨c4, H⟩ | ⟨c4, H⟩
 ·obtain ⟨c4b0, c4b1⟩ := zz c4
  clear c4
  replace H := ii H
  rcases H with ⟨c5, H⟩ | ⟨c5, H⟩
  ·have c5b0 := decide_eq_true c5
   have c5b1 : decide (0 < t445.length) = true := decide_eq_true (by omega)
   clear c5
   replace H := zi H
   obtain ⟨t449, A6, H⟩ := H
   try dsimp only at H
   replace H := ii H
   rcases H with ⟨c7, H⟩ | ⟨c7, H⟩
   ·have c7b0 := decide_eq_true c7
    have c7b1 : decide (1 < t445.length) = true := decide_eq_true (by omega)
    clear c7
    replace H := zi H
    obtain ⟨⟨t453, t454⟩, A8, H⟩ := H
    try dsimp only at H
    have HC9 := Aside0.mk H
    clear H
    go_enter Tryz.func47, Tryz.ntmps47
    go_upto_region 6 with (first | ((with_reducible refine zg 4 rfl ?_); refine z3 4 35 0 0 0 ?_; intro gb444 hg w10 BK444 hb; have GW444 := sg hg; replace HB := bs hb; clear hb hg) | ((with_reducible refine zf 68 rfl ?_); refine g1 (some 12) Tryz.func68 #[.string a1, .int .u8 64] ?_; (with_reducible refine (spec_l01Split.calls k a1 64 t445 _ A3.out).mono ?_); rintro e w11 ⟨v446, rfl, ho0, hb⟩; refine ⟨_, rfl, ?_⟩; have HO447 := Aside0.mk (Kd.R_lower ho0 (below_size (bl))); replace BK444 := bb BK444 hb; replace HB := bs hb; (try clear hb); (try clear hb2); (try clear hk); (try clear hi); (try clear ho0); obtain ⟨Ao12, co12, eo12⟩ := Kd.R_slice HO447.out; subst eo12; have p448 : 0 ≤ (0 : Int) := (by omega); have q448 : 0 < (t445.length : Int) := of_decide_eq_true (by first | (with_reducible assumption) | assumption); obtain ⟨ad448, e448, hx448_0⟩ := Kd.at_string (Kd.R_reads' HO447.out).2.2 0 p448 q448; cases e448; have qi448 : (0 < t445.length) = True := eq_true (by omega); (try rw [show ((0 : Int)).toNat = 0 from rfl] at hx448_0); (try rw [Addr.add_zero'] at hx448_0); replace p448 := eq_true p448; replace q448 := eq_true q448) | ((with_reducible refine zf 68 rfl ?_); refine g1 (some 20) Tryz.func68 #[.string (rdOf ByteArray.empty t445 0), .int .u8 46] ?_; (with_reducible refine (spec_l01Split.calls k (rdOf ByteArray.empty t445 0) 46 t449 _ A6.out).mono ?_); rintro e w13 ⟨v450, rfl, ho0, hb⟩; refine ⟨_, rfl, ?_⟩; have HO451 := Aside0.mk (Kd.R_lower (Kd.R_new' ho0 (Kd.R_lt (by (with_reducible repeat (first | apply Kd.R_alloc | apply Kd.R_drewN | apply Kd.R_drew)); exact HO447.out))) (below_size (bl))); replace HO447 := Aside0.mk (Kd.R_elder' (by (with_reducible repeat (first | apply Kd.R_alloc | apply Kd.R_drewN | apply Kd.R_drew)); exact HO447.out) (Kd.R_base ho0) hb); replace BK444 := bb BK444 hb; replace HB := bs hb; (try clear hb); (try clear hb2); (try clear hk); (try clear hi); (try clear ho0); have p452 : 0 ≤ (1 : Int) := (by omega); have q452 : 1 < (t445.length : Int) := of_decide_eq_true (by first | (with_reducible assumption) | assumption); obtain ⟨ad452, e452, hx452_0⟩ := Kd.at_string (Kd.R_reads' HO447.out).2.2 1 p452 q452; obtain rfl : ad448 = ad452 := (by injection e452); (try simp only [show (1 : Int).toNat = 1 from rfl, Nat.reduceMul, Nat.reduceEqDiff, Go.Addr.add, ↓reduceIte] at hx452_0); have qi452 : (1 < t445.length) = True := eq_true (by omega); (try rw [show ((1 : Int)).toNat = 1 from rfl] at hx452_0); replace p452 := eq_true p452; replace q452 := eq_true q452) | ((with_reducible refine zf 69 rfl ?_); refine g1 (some 25) Tryz.func69 #[.string (rdOf ByteArray.empty t445 1)] ?_; (with_reducible refine (spec_l01Signed.calls k (rdOf ByteArray.empty t445 1) t453 t454 _ A8.out).mono ?_); rintro e w' ⟨rfl, ⟨nd, rfl⟩⟩; refine ⟨_, rfl, ?_⟩))
    (try simp only [Act.put, zq, zr, zt])
    go_cut [34] (fun v34 wc => ∃ (kq : Nat) (x34_8 : Bool), v34 = .bool x34_8 ∧ Aside0 (spec_l01Read.j0 kq a0 t449 t453 x34_8 = some (r1, r2, r3, r4)) ∧ Aside0 (kq ≤ k) ∧ Aside0 (Kd.R Kd.string 9 wc w.heap.size (fun _ => True) v450 t449) ∧ Aside0 (wc.heap[gb444]? = some (.cells #[.int .i64 0, .int .i64 0, .int .i64 0] 35 (0, 0))) ∧ Aside0 (Below w.heap.size w wc))
    case first =>
     have H := HC9.out
     clear HC9
     replace H := ii H
     rcases H with ⟨c14, H⟩ | ⟨c14, H⟩
     ·obtain ⟨c14b0, c14b1⟩ := zz c14
      clear c14
      (first | rw [c14b0] | (simp only [i64_w, i32_w]; rw [c14b0]) | skip)
      have H' := Aside0.mk H
      clear H
      obtain ⟨Ao15, co15, eo15⟩ := Kd.R_slice HO451.out
      subst eo15
      go_wp2
      go_meet
      case rel => exact ⟨_, (!t454), (by first | rfl | (simp; done) | (simp [*]; done)), H', ⟨by first | omega | exact Nat.le_refl _⟩, ⟨by (with_reducible repeat (first | apply Kd.R_alloc | apply Kd.R_drewN | apply Kd.R_drew)); exact Kd.R_mono HO451.out (fun _ hk => trivial)⟩, ⟨be BK444⟩, ⟨bl⟩⟩
     ·obtain ⟨c14b0, c14b1⟩ := zy c14
      (first | rw [c14b0] | (simp only [i64_w, i32_w]; rw [c14b0]) | skip)
      have H' := Aside0.mk H
      clear H
      obtain ⟨Ao16, co16, eo16⟩ := Kd.R_slice HO451.out
      subst eo16
      go_wp2
      go_meet
      case rel => exact ⟨_, (true), (by first | rfl | (simp; done) | (simp [*]; done)), H', ⟨by first | omega | exact Nat.le_refl _⟩, ⟨by (with_reducible repeat (first | apply Kd.R_alloc | apply Kd.R_drewN | apply Kd.R_drew)); exact Kd.R_mono HO451.out (fun _ hk => trivial)⟩, ⟨be BK444⟩, ⟨bl⟩⟩
    case rest =>
     clear HC9
     obtain ⟨kq, x34_8, rfl, HA, HJ8, HO_7, BK444, HB⟩ := hcut
     cases kq with
     | zero => exact absurd HA.out (by simp [spec_l01Read.j0])
     | succ kj8 =>
      have H := HA.out
      clear HA
      simp only [spec_l01Read.j0] at H
      by_cases c17 : x34_8 = true
      ·subst c17
       rw [if_pos rfl] at H
       simp only [Option.some.injEq, Prod.mk.injEq] at H
       obtain ⟨rfl, rfl, rfl, rfl⟩ := H
       obtain ⟨hcz18_0, hcz18_1, hcz18_2, hfz18_0, hfz18_1, hfz18_2⟩ := cq3 BK444
       go_wp2
       refine bodyPost_ret (results_ct rfl _ _ gb444 35 #[.int .i64 0, .int .i64 0, .int .i64 0] (0, 0) _ rfl (bp) Tryz.underlying35 rfl (by kernel_rfl)) rfl ?_
       exact ⟨er, bl⟩
      ·replace c17 := Bool.eq_false_iff.mpr c17
       subst c17
       have H1 : (if 0 < (t449.length : Int) then ((spec_l01Number.f kj8 (rdOf ByteArray.empty t449 0)).bind fun t456 => (if 1 < (t449.length : Int) then ((spec_l01Number.f kj8 (rdOf ByteArray.empty t449 1)).bind fun t458 => ((spec_l01Is.f kj8 a0 t453 t456 t458).bind fun t460 => (if t460 = true then (some (t453, t456, t458, true)) else (some (0, 0, 0, false))))) else (none))) else (none)) = some (r1, r2, r3, r4) := by rw [if_neg (show ¬ (false = true) by decide)] at H; exact H
       clear H
       have H := H1
       clear H1
       replace H := ii H
       rcases H with ⟨c19, H⟩ | ⟨c19, H⟩
       ·have c19b0 := decide_eq_true c19
        have c19b1 : decide (0 < t449.length) = true := decide_eq_true (by omega)
        clear c19
        replace H := zi H
        obtain ⟨t456, A20, H⟩ := H
        try dsimp only at H
        replace H := ii H
        rcases H with ⟨c21, H⟩ | ⟨c21, H⟩
        ·have c21b0 := decide_eq_true c21
         have c21b1 : decide (1 < t449.length) = true := decide_eq_true (by omega)
         clear c21
         replace H := zi H
         obtain ⟨t458, A22, H⟩ := H
         try dsimp only at H
         replace H := zi H
         obtain ⟨t460, A23, H⟩ := H
         try dsimp only at H
         by_cases c24 : t460 = true
         ·subst c24
          rw [if_pos rfl] at H
          simp only [Option.some.injEq, Prod.mk.injEq] at H
          obtain ⟨rfl, rfl, rfl, rfl⟩ := H
          try go_wp2
          replace HO_7 := Aside0.mk (Kd.R_drew HO_7.out)
          replace BK444 := Aside0.mk (blk_drew BK444.out)
          replace HB := Aside0.mk (below_drew1 HB.out)
          obtain ⟨Ao26, co26, eo26⟩ := Kd.R_slice HO_7.out
          (first | subst eo26 | (injection eo26 with f1_ f2_ f3_; have f4_ := f1_.symm; have f5_ := f3_.symm; clear f1_ f2_ f3_; subst f4_; subst f5_))
          have p455 : 0 ≤ (0 : Int) := (by omega)
          have q455 : 0 < (t449.length : Int) := za
          obtain ⟨ad455, e455, hx455_0⟩ := Kd.at_string (Kd.R_reads' HO_7.out).2.2 0 p455 q455
          cases e455
          have qi455 : (0 < t449.length) = True := eq_true (by omega)
          (try rw [show ((0 : Int)).toNat = 0 from rfl] at hx455_0)
          (try rw [Addr.add_zero'] at hx455_0)
          replace p455 := eq_true p455
          replace q455 := eq_true q455
          have p457 : 0 ≤ (1 : Int) := (by omega)
          have q457 : 1 < (t449.length : Int) := za
          obtain ⟨ad457, e457, hx457_0⟩ := Kd.at_string (Kd.R_reads' HO_7.out).2.2 1 p457 q457
          obtain rfl : ad455 = ad457 := (by injection e457)
          (try simp only [show (1 : Int).toNat = 1 from rfl, Nat.reduceMul, Nat.reduceEqDiff, Go.Addr.add, ↓reduceIte] at hx457_0)
          have qi457 : (1 < t449.length) = True := eq_true (by omega)
          (try rw [show ((1 : Int)).toNat = 1 from rfl] at hx457_0)
          replace p457 := eq_true p457
          replace q457 := eq_true q457
          refine sw 12 (fun w' => w'.cell? ad455 = some (.string (rdOf ByteArray.empty t449 0)) ∧ w'.cell? ⟨ad455.block, ad455.off + 1, none⟩ = some (.string (rdOf ByteArray.empty t449 1))) spec_l01Read.tab8 spec_l01Read.bits8 ⟨hx455_0, hx457_0⟩ (fun hHeld HT_ HW_ => ?_)
          generalize wc.drew = w25 at HO_7 BK444 HB hx455_0 hx457_0 hHeld ⊢
          refine pu 0 (some 36) (tA 12 1) HT_ ?_
          refine pu 1 (some 37) (tA 12 3) HT_ ?_
          refine pu 2 (some 38) (tA 12 7) HT_ ?_
          refine pu 5 (some 41) (tA 12 39) HT_ ?_
          refine pu 6 (some 42) (tA 12 103) HT_ ?_
          refine tk2 3 (some 39) (tA 12 111) HT_ HW_ hHeld ?_
          refine tk2 7 (some 43) (tA 12 239) HT_ HW_ hHeld ?_
          refine join_ (σ := Nat) 1 (tA 12 2047) (fun s_ => [(40, .int .i64 t456), (44, .int .i64 t458), (10, .pointer (some ⟨s_, 0, none⟩)), (45, .agg #[.int .i64 t453, .int .i64 t456, .int .i64 t458])]) (fun s_ w' => (w'.cell? ad455 = some (.string (rdOf ByteArray.empty t449 0)) ∧ w'.cell? ⟨ad455.block, ad455.off + 1, none⟩ = some (.string (rdOf ByteArray.empty t449 1))) ∧ (Kd.R Kd.string 9 w' w.heap.size (fun _ => True) (.slice (some ad455) t449.length co26) t449) ∧ (w'.heap[gb444]? = some (.cells #[.int .i64 0, .int .i64 0, .int .i64 0] 35 (0, 0))) ∧ (w'.heap[s_]? = some (.cells #[.int .i64 0, .int .i64 0, .int .i64 0] 35 (0, 0))) ∧ (w.heap.size ≤ s_) ∧ (w.heap.size ≤ s_) ∧ (gb444 ≠ s_) ∧ (s_ ≠ gb444) ∧ (Below w.heap.size w w')) ?_ ?_
          rotate_left
          ·intro hCont
           refine two_ (i := 4) (j := 10) (Ni := some 40) (Nj := some 10) (tA 12 255) (tA 12 1263) rfl rfl rfl rfl (two_of HT_.out (by kernel_rfl)) (by decide) (by decide) (fun K hK => ?_) (fun K hK => ?_)
           ·skip
            refine gs Tryz.func70 #[.string (rdOf ByteArray.empty t449 0)] ?_
            with_reducible refine (spec_l01Number.calls kj8 (rdOf ByteArray.empty t449 0) t456 _ A20.out).mono ?_
            rintro e w' ⟨rfl, ⟨nd, rfl⟩⟩
            refine ⟨_, rfl, ?_⟩
            refine hK.out _ _ ⟨hHeld.1, hHeld.2⟩ (fun hHeld => ?_)
            clear hK K
            refine nm (some 40) ?_
            refine two_ (i := 8) (j := 10) (Ni := some 44) (Nj := some 10) (tA 12 511) (tA 12 1279) rfl rfl rfl rfl (two_of HT_.out (by kernel_rfl)) (by decide) (by decide) (fun K hK => ?_) (fun K hK => ?_)
            ·skip
             refine gs Tryz.func70 #[.string (rdOf ByteArray.empty t449 1)] ?_
             with_reducible refine (spec_l01Number.calls kj8 (rdOf ByteArray.empty t449 1) t458 _ A22.out).mono ?_
             rintro e w' ⟨rfl, ⟨nd, rfl⟩⟩
             refine ⟨_, rfl, ?_⟩
             refine hK.out _ _ ⟨hHeld.1, hHeld.2⟩ (fun hHeld => ?_)
             clear hK K
             refine nm (some 44) ?_
             refine pu 9 (some 45) (tA 12 1023) HT_ ?_
             refine o1 10 (some 10) (tA 12 2047) HT_ (fun K hK => ?_)
             refine box_step ?hg (N := 10) ?hd (cs := #[.int .i64 0, .int .i64 0, .int .i64 0]) (t := 35) ?hr ?_; (case hd => rfl); (case hg => rfl); (case hr => first | (go_simp; done) | (go_simp; rfl))
             intro gb459 hg w27 hbox hb
             have HS0_ := (hb.cell (World.block_lt_of_cell? _ _ (hHeld.1))).trans (hHeld.1)
             have HS1_ := (hb.cell (World.block_lt_of_cell? _ _ (hHeld.2))).trans (hHeld.2)
             have BK459 := Aside0.mk (hbox)
             have GW459 := Aside0.mk ((by rw [hg]; exact (below_size (bl)) : w.heap.size ≤ gb459))
             have GE459 := Aside0.mk ((by rw [hg]; exact (below_size (bl)) : w.heap.size ≤ gb459))
             have NB444_459 := nl hg BK444
             have NB459_444 := ng hg BK444
             replace HO_7 := Aside0.mk (Kd.R_below (by (with_reducible repeat (first | apply Kd.R_alloc | apply Kd.R_drewN | apply Kd.R_drew)); exact HO_7.out) hb)
             replace BK444 := bb BK444 hb
             replace HB := bs hb
             clear hb hg
             refine hK.out _ _ ⟨HS0_, HS1_⟩ (fun hHeld => ?_)
             clear hK K
             refine nm (some 10) ?_
             exact norm_ (by simp only [putAll, Act.put, zq, zr, zt]) (hCont (gb459) _ ⟨hHeld, (by (with_reducible repeat (first | apply Kd.R_alloc | apply Kd.R_drewN | apply Kd.R_drew)); exact HO_7.out), (be BK444), (be BK459), GW459.out, GE459.out, NB444_459.out, NB459_444.out, (bl)⟩)
            ·skip
             refine box_step ?hg (N := 10) ?hd (cs := #[.int .i64 0, .int .i64 0, .int .i64 0]) (t := 35) ?hr ?_; (case hd => rfl); (case hg => rfl); (case hr => first | (go_simp; done) | (go_simp; rfl))
             intro gb459 hg w27 hbox hb
             have HS0_ := (hb.cell (World.block_lt_of_cell? _ _ (hHeld.1))).trans (hHeld.1)
             have HS1_ := (hb.cell (World.block_lt_of_cell? _ _ (hHeld.2))).trans (hHeld.2)
             have BK459 := Aside0.mk (hbox)
             have GW459 := Aside0.mk ((by rw [hg]; exact (below_size (bl)) : w.heap.size ≤ gb459))
             have GE459 := Aside0.mk ((by rw [hg]; exact (below_size (bl)) : w.heap.size ≤ gb459))
             have NB444_459 := nl hg BK444
             have NB459_444 := ng hg BK444
             replace HO_7 := Aside0.mk (Kd.R_below (by (with_reducible repeat (first | apply Kd.R_alloc | apply Kd.R_drewN | apply Kd.R_drew)); exact HO_7.out) hb)
             replace BK444 := bb BK444 hb
             replace HB := bs hb
             clear hb hg
             refine hK.out _ _ ⟨HS0_, HS1_⟩ (fun hHeld => ?_)
             clear hK K
             refine nm (some 10) ?_
             refine o1 8 (some 44) (tA 12 1535) HT_ (fun K hK => ?_)
             refine gs Tryz.func70 #[.string (rdOf ByteArray.empty t449 1)] ?_
             with_reducible refine (spec_l01Number.calls kj8 (rdOf ByteArray.empty t449 1) t458 _ A22.out).mono ?_
             rintro e w' ⟨rfl, ⟨nd, rfl⟩⟩
             refine ⟨_, rfl, ?_⟩
             refine hK.out _ _ ⟨hHeld.1, hHeld.2⟩ (fun hHeld => ?_)
             clear hK K
             refine nm (some 44) ?_
             refine pu 9 (some 45) (tA 12 2047) HT_ ?_
             exact norm_ (by simp only [putAll, Act.put, zq, zr, zt]) (hCont (gb459) _ ⟨hHeld, (by (with_reducible repeat (first | apply Kd.R_alloc | apply Kd.R_drewN | apply Kd.R_drew)); exact HO_7.out), (be BK444), (be BK459), GW459.out, GE459.out, NB444_459.out, NB459_444.out, (bl)⟩)
           ·skip
            refine box_step ?hg (N := 10) ?hd (cs := #[.int .i64 0, .int .i64 0, .int .i64 0]) (t := 35) ?hr ?_; (case hd => rfl); (case hg => rfl); (case hr => first | (go_simp; done) | (go_simp; rfl))
            intro gb459 hg w27 hbox hb
            have HS0_ := (hb.cell (World.block_lt_of_cell? _ _ (hHeld.1))).trans (hHeld.1)
            have HS1_ := (hb.cell (World.block_lt_of_cell? _ _ (hHeld.2))).trans (hHeld.2)
            have BK459 := Aside0.mk (hbox)
            have GW459 := Aside0.mk ((by rw [hg]; exact (below_size (bl)) : w.heap.size ≤ gb459))
            have GE459 := Aside0.mk ((by rw [hg]; exact (below_size (bl)) : w.heap.size ≤ gb459))
            have NB444_459 := nl hg BK444
            have NB459_444 := ng hg BK444
            replace HO_7 := Aside0.mk (Kd.R_below (by (with_reducible repeat (first | apply Kd.R_alloc | apply Kd.R_drewN | apply Kd.R_drew)); exact HO_7.out) hb)
            replace BK444 := bb BK444 hb
            replace HB := bs hb
            clear hb hg
            refine hK.out _ _ ⟨HS0_, HS1_⟩ (fun hHeld => ?_)
            clear hK K
            refine nm (some 10) ?_
            refine o1 4 (some 40) (tA 12 1279) HT_ (fun K hK => ?_)
            refine gs Tryz.func70 #[.string (rdOf ByteArray.empty t449 0)] ?_
            with_reducible refine (spec_l01Number.calls kj8 (rdOf ByteArray.empty t449 0) t456 _ A20.out).mono ?_
            rintro e w' ⟨rfl, ⟨nd, rfl⟩⟩
            refine ⟨_, rfl, ?_⟩
            refine hK.out _ _ ⟨hHeld.1, hHeld.2⟩ (fun hHeld => ?_)
            clear hK K
            refine nm (some 40) ?_
            refine o1 8 (some 44) (tA 12 1535) HT_ (fun K hK => ?_)
            refine gs Tryz.func70 #[.string (rdOf ByteArray.empty t449 1)] ?_
            with_reducible refine (spec_l01Number.calls kj8 (rdOf ByteArray.empty t449 1) t458 _ A22.out).mono ?_
            rintro e w' ⟨rfl, ⟨nd, rfl⟩⟩
            refine ⟨_, rfl, ?_⟩
            refine hK.out _ _ ⟨hHeld.1, hHeld.2⟩ (fun hHeld => ?_)
            clear hK K
            refine nm (some 44) ?_
            refine pu 9 (some 45) (tA 12 2047) HT_ ?_
            exact norm_ (by simp only [putAll, Act.put, zq, zr, zt]) (hCont (gb459) _ ⟨hHeld, (by (with_reducible repeat (first | apply Kd.R_alloc | apply Kd.R_drewN | apply Kd.R_drew)); exact HO_7.out), (be BK444), (be BK459), GW459.out, GE459.out, NB444_459.out, NB459_444.out, (bl)⟩)
          rintro gb459 w28 ⟨hS_, h0_, h1_, h2_, h3_, h4_, h5_, h6_, h7_⟩
          have n0_ : Aside0 (Kd.R Kd.string 9 w28 w.heap.size (fun _ => True) (.slice (some ad455) t449.length co26) t449) := ⟨h0_⟩
          have n1_ : Aside0 (w28.heap[gb444]? = some (.cells #[.int .i64 0, .int .i64 0, .int .i64 0] 35 (0, 0))) := ⟨h1_⟩
          have n2_ : Aside0 (w28.heap[gb459]? = some (.cells #[.int .i64 0, .int .i64 0, .int .i64 0] 35 (0, 0))) := ⟨h2_⟩
          have n3_ : Aside0 (w.heap.size ≤ gb459) := ⟨h3_⟩
          have n4_ : Aside0 (w.heap.size ≤ gb459) := ⟨h4_⟩
          have n5_ : Aside0 (gb444 ≠ gb459) := ⟨h5_⟩
          have n6_ : Aside0 (gb459 ≠ gb444) := ⟨h6_⟩
          have n7_ : Aside0 (Below w.heap.size w w28) := ⟨h7_⟩
          clear HO_7
          clear BK444
          clear HB
          clear h0_ h1_ h2_ h3_ h4_ h5_ h6_ h7_
          have HO_7 := n0_
          have BK444 := n1_
          have BK459 := n2_
          have GW459 := n3_
          have GE459 := n4_
          have NB444_459 := n5_
          have NB459_444 := n6_
          have HB := n7_
          clear n0_ n1_ n2_ n3_ n4_ n5_ n6_ n7_
          have hHeld : w28.cell? ad455 = some (.string (rdOf ByteArray.empty t449 0)) ∧ w28.cell? ⟨ad455.block, ad455.off + 1, none⟩ = some (.string (rdOf ByteArray.empty t449 1)) := hS_
          refine norm_ (a' := ?_) ?_ ?_
          rotate_left
          ·simp only [putAll, Act.put, zq, zr, zt]
           rfl
          refine o1 11 none (tA 12 4095) HT_ (fun K hK => ?_)
          have hs29 : w28.cell? ⟨gb459, 0, none⟩ = some (.int .i64 0) := (blk_cell BK459.out 0).trans rfl
          have hfs29 := blk_frozen BK459.out 0
          have hns29_0 := NB444_459.out
          have hms29_0 := NB459_444.out
          have hs30 : w28.cell? ⟨gb459, 1, none⟩ = some (.int .i64 0) := (blk_cell BK459.out 1).trans rfl
          have hfs30 := blk_frozen BK459.out 1
          have hns30_0 := NB444_459.out
          have hms30_0 := NB459_444.out
          have hs31 : w28.cell? ⟨gb459, 2, none⟩ = some (.int .i64 0) := (blk_cell BK459.out 2).trans rfl
          have hfs31 := blk_frozen BK459.out 2
          have hns31_0 := NB444_459.out
          have hms31_0 := NB459_444.out
          refine skip_ (w1 := ?_) (by rfl) rfl ?_ ?_
          rotate_left
          ·go_simp
           rfl
          refine hK.out _ _ ⟨((cell_far (p := ⟨gb459, _, none⟩) (by first | exact Kd.own_blk (Kd.R_ne HO_7.out BK459.out (by decide)) | (rw [add_block]; exact Kd.own_blk (Kd.R_ne HO_7.out BK459.out (by decide))) | (show (Addr.add _ _).block ≠ _; rw [add_block]; exact Kd.own_blk (Kd.R_ne HO_7.out BK459.out (by decide))) | (dsimp only; exact Kd.own_blk (Kd.R_ne HO_7.out BK459.out (by decide)))) _).trans (((cell_far (p := ⟨gb459, _, none⟩) (by first | exact Kd.own_blk (Kd.R_ne HO_7.out BK459.out (by decide)) | (rw [add_block]; exact Kd.own_blk (Kd.R_ne HO_7.out BK459.out (by decide))) | (show (Addr.add _ _).block ≠ _; rw [add_block]; exact Kd.own_blk (Kd.R_ne HO_7.out BK459.out (by decide))) | (dsimp only; exact Kd.own_blk (Kd.R_ne HO_7.out BK459.out (by decide)))) _).trans (((cell_far (p := ⟨gb459, _, none⟩) (by first | exact Kd.own_blk (Kd.R_ne HO_7.out BK459.out (by decide)) | (rw [add_block]; exact Kd.own_blk (Kd.R_ne HO_7.out BK459.out (by decide))) | (show (Addr.add _ _).block ≠ _; rw [add_block]; exact Kd.own_blk (Kd.R_ne HO_7.out BK459.out (by decide))) | (dsimp only; exact Kd.own_blk (Kd.R_ne HO_7.out BK459.out (by decide)))) _).trans (hHeld.1)))))), ((cell_far (p := ⟨gb459, _, none⟩) (by first | exact Kd.own_blk (Kd.R_ne HO_7.out BK459.out (by decide)) | (rw [add_block]; exact Kd.own_blk (Kd.R_ne HO_7.out BK459.out (by decide))) | (show (Addr.add _ _).block ≠ _; rw [add_block]; exact Kd.own_blk (Kd.R_ne HO_7.out BK459.out (by decide))) | (dsimp only; exact Kd.own_blk (Kd.R_ne HO_7.out BK459.out (by decide)))) _).trans (((cell_far (p := ⟨gb459, _, none⟩) (by first | exact Kd.own_blk (Kd.R_ne HO_7.out BK459.out (by decide)) | (rw [add_block]; exact Kd.own_blk (Kd.R_ne HO_7.out BK459.out (by decide))) | (show (Addr.add _ _).block ≠ _; rw [add_block]; exact Kd.own_blk (Kd.R_ne HO_7.out BK459.out (by decide))) | (dsimp only; exact Kd.own_blk (Kd.R_ne HO_7.out BK459.out (by decide)))) _).trans (((cell_far (p := ⟨gb459, _, none⟩) (by first | exact Kd.own_blk (Kd.R_ne HO_7.out BK459.out (by decide)) | (rw [add_block]; exact Kd.own_blk (Kd.R_ne HO_7.out BK459.out (by decide))) | (show (Addr.add _ _).block ≠ _; rw [add_block]; exact Kd.own_blk (Kd.R_ne HO_7.out BK459.out (by decide))) | (dsimp only; exact Kd.own_blk (Kd.R_ne HO_7.out BK459.out (by decide)))) _).trans (hHeld.2))))))⟩ (fun hHeld => ?_)
          clear hK K
          refine done_ (done_of HT_.out (by kernel_rfl)) ?_
          have hnb32 := NB459_444.out
          have hnc32 := NB444_459.out
          obtain ⟨hcz33_0, hcz33_1, hcz33_2, hfz33_0, hfz33_1, hfz33_2⟩ := cq3 BK459
          try go_wp2_with (first | ((with_reducible refine zf 66 rfl ?_); refine g1 (some 48) Tryz.func66 #[.int .i64 a0, .agg #[.int .i64 t453, .int .i64 t456, .int .i64 t458]] ?_; (with_reducible refine (spec_l01Is.calls kj8 a0 t453 t456 t458 true _ A23.out).mono ?_); rintro e w34 ⟨rfl, hb⟩; refine ⟨_, rfl, ?_⟩; replace HO_7 := Aside0.mk (Kd.R_below (by (with_reducible repeat (first | apply Kd.R_alloc | apply Kd.R_drewN | apply Kd.R_drew)); exact (Kd.R_mono (Kd.R_far (p := ⟨gb459, 2, none⟩) (Kd.R_far (p := ⟨gb459, 1, none⟩) (Kd.R_far (p := ⟨gb459, 0, none⟩) (Kd.R_types HO_7.out BK459.out (by decide)) (fun _ hk => hk.2) (.int .i64 t453)) (fun _ hk => hk.2) (.int .i64 t456)) (fun _ hk => hk.2) (.int .i64 t458)) (fun _ h_ => h_.1))) hb); replace BK444 := Aside0.mk (blk_below (g := gb444) (o := .cells #[.int .i64 0, .int .i64 0, .int .i64 0] 35 (0, 0)) (bp) hb); replace BK459 := Aside0.mk (blk_below (g := gb459) (o := .cells #[.int .i64 t453, .int .i64 t456, .int .i64 t458] 35 (0, 0)) (bp) hb); replace HB := bs hb; (try clear hb); obtain ⟨hcz35_0, hcz35_1, hcz35_2, hfz35_0, hfz35_1, hfz35_2⟩ := cq3 BK459; obtain ⟨hcz36_0, hcz36_1, hcz36_2, hfz36_0, hfz36_1, hfz36_2⟩ := cq3 BK444))
          refine bodyPost_ret (results_ct rfl _ _ gb444 35 #[.int .i64 t453, .int .i64 t456, .int .i64 t458] (0, 0) _ rfl (bp) Tryz.underlying35 rfl (by kernel_rfl)) rfl ?_
          exact ⟨er, bl⟩
         ·replace c24 := Bool.eq_false_iff.mpr c24
          subst c24
          have H1 : (some (0, 0, 0, false)) = some (r1, r2, r3, r4) := by rw [if_neg (show ¬ (false = true) by decide)] at H; exact H
          clear H
          have H := H1
          clear H1
          simp only [Option.some.injEq, Prod.mk.injEq] at H
          obtain ⟨rfl, rfl, rfl, rfl⟩ := H
          try go_wp2
          replace HO_7 := Aside0.mk (Kd.R_drew HO_7.out)
          replace BK444 := Aside0.mk (blk_drew BK444.out)
          replace HB := Aside0.mk (below_drew1 HB.out)
          obtain ⟨Ao38, co38, eo38⟩ := Kd.R_slice HO_7.out
          (first | subst eo38 | (injection eo38 with f1_ f2_ f3_; have f4_ := f1_.symm; have f5_ := f3_.symm; clear f1_ f2_ f3_; subst f4_; subst f5_))
          have p455 : 0 ≤ (0 : Int) := (by omega)
          have q455 : 0 < (t449.length : Int) := za
          obtain ⟨ad455, e455, hx455_0⟩ := Kd.at_string (Kd.R_reads' HO_7.out).2.2 0 p455 q455
          cases e455
          have qi455 : (0 < t449.length) = True := eq_true (by omega)
          (try rw [show ((0 : Int)).toNat = 0 from rfl] at hx455_0)
          (try rw [Addr.add_zero'] at hx455_0)
          replace p455 := eq_true p455
          replace q455 := eq_true q455
          have p457 : 0 ≤ (1 : Int) := (by omega)
          have q457 : 1 < (t449.length : Int) := za
          obtain ⟨ad457, e457, hx457_0⟩ := Kd.at_string (Kd.R_reads' HO_7.out).2.2 1 p457 q457
          obtain rfl : ad455 = ad457 := (by injection e457)
          (try simp only [show (1 : Int).toNat = 1 from rfl, Nat.reduceMul, Nat.reduceEqDiff, Go.Addr.add, ↓reduceIte] at hx457_0)
          have qi457 : (1 < t449.length) = True := eq_true (by omega)
          (try rw [show ((1 : Int)).toNat = 1 from rfl] at hx457_0)
          replace p457 := eq_true p457
          replace q457 := eq_true q457
          refine sw 12 (fun w' => w'.cell? ad455 = some (.string (rdOf ByteArray.empty t449 0)) ∧ w'.cell? ⟨ad455.block, ad455.off + 1, none⟩ = some (.string (rdOf ByteArray.empty t449 1))) spec_l01Read.tab8 spec_l01Read.bits8 ⟨hx455_0, hx457_0⟩ (fun hHeld HT_ HW_ => ?_)
          generalize wc.drew = w37 at HO_7 BK444 HB hx455_0 hx457_0 hHeld ⊢
          refine pu 0 (some 36) (tA 12 1) HT_ ?_
          refine pu 1 (some 37) (tA 12 3) HT_ ?_
          refine pu 2 (some 38) (tA 12 7) HT_ ?_
          refine pu 5 (some 41) (tA 12 39) HT_ ?_
          refine pu 6 (some 42) (tA 12 103) HT_ ?_
          refine tk2 3 (some 39) (tA 12 111) HT_ HW_ hHeld ?_
          refine tk2 7 (some 43) (tA 12 239) HT_ HW_ hHeld ?_
          refine join_ (σ := Nat) 1 (tA 12 2047) (fun s_ => [(40, .int .i64 t456), (44, .int .i64 t458), (10, .pointer (some ⟨s_, 0, none⟩)), (45, .agg #[.int .i64 t453, .int .i64 t456, .int .i64 t458])]) (fun s_ w' => (w'.cell? ad455 = some (.string (rdOf ByteArray.empty t449 0)) ∧ w'.cell? ⟨ad455.block, ad455.off + 1, none⟩ = some (.string (rdOf ByteArray.empty t449 1))) ∧ (Kd.R Kd.string 9 w' w.heap.size (fun _ => True) (.slice (some ad455) t449.length co38) t449) ∧ (w'.heap[gb444]? = some (.cells #[.int .i64 0, .int .i64 0, .int .i64 0] 35 (0, 0))) ∧ (w'.heap[s_]? = some (.cells #[.int .i64 0, .int .i64 0, .int .i64 0] 35 (0, 0))) ∧ (w.heap.size ≤ s_) ∧ (w.heap.size ≤ s_) ∧ (gb444 ≠ s_) ∧ (s_ ≠ gb444) ∧ (Below w.heap.size w w')) ?_ ?_
          rotate_left
          ·intro hCont
           refine two_ (i := 4) (j := 10) (Ni := some 40) (Nj := some 10) (tA 12 255) (tA 12 1263) rfl rfl rfl rfl (two_of HT_.out (by kernel_rfl)) (by decide) (by decide) (fun K hK => ?_) (fun K hK => ?_)
           ·skip
            refine gs Tryz.func70 #[.string (rdOf ByteArray.empty t449 0)] ?_
            with_reducible refine (spec_l01Number.calls kj8 (rdOf ByteArray.empty t449 0) t456 _ A20.out).mono ?_
            rintro e w' ⟨rfl, ⟨nd, rfl⟩⟩
            refine ⟨_, rfl, ?_⟩
            refine hK.out _ _ ⟨hHeld.1, hHeld.2⟩ (fun hHeld => ?_)
            clear hK K
            refine nm (some 40) ?_
            refine two_ (i := 8) (j := 10) (Ni := some 44) (Nj := some 10) (tA 12 511) (tA 12 1279) rfl rfl rfl rfl (two_of HT_.out (by kernel_rfl)) (by decide) (by decide) (fun K hK => ?_) (fun K hK => ?_)
            ·skip
             refine gs Tryz.func70 #[.string (rdOf ByteArray.empty t449 1)] ?_
             with_reducible refine (spec_l01Number.calls kj8 (rdOf ByteArray.empty t449 1) t458 _ A22.out).mono ?_
             rintro e w' ⟨rfl, ⟨nd, rfl⟩⟩
             refine ⟨_, rfl, ?_⟩
             refine hK.out _ _ ⟨hHeld.1, hHeld.2⟩ (fun hHeld => ?_)
             clear hK K
             refine nm (some 44) ?_
             refine pu 9 (some 45) (tA 12 1023) HT_ ?_
             refine o1 10 (some 10) (tA 12 2047) HT_ (fun K hK => ?_)
             refine box_step ?hg (N := 10) ?hd (cs := #[.int .i64 0, .int .i64 0, .int .i64 0]) (t := 35) ?hr ?_; (case hd => rfl); (case hg => rfl); (case hr => first | (go_simp; done) | (go_simp; rfl))
             intro gb459 hg w39 hbox hb
             have HS0_ := (hb.cell (World.block_lt_of_cell? _ _ (hHeld.1))).trans (hHeld.1)
             have HS1_ := (hb.cell (World.block_lt_of_cell? _ _ (hHeld.2))).trans (hHeld.2)
             have BK459 := Aside0.mk (hbox)
             have GW459 := Aside0.mk ((by rw [hg]; exact (below_size (bl)) : w.heap.size ≤ gb459))
             have GE459 := Aside0.mk ((by rw [hg]; exact (below_size (bl)) : w.heap.size ≤ gb459))
             have NB444_459 := nl hg BK444
             have NB459_444 := ng hg BK444
             replace HO_7 := Aside0.mk (Kd.R_below (by (with_reducible repeat (first | apply Kd.R_alloc | apply Kd.R_drewN | apply Kd.R_drew)); exact HO_7.out) hb)
             replace BK444 := bb BK444 hb
             replace HB := bs hb
             clear hb hg
             refine hK.out _ _ ⟨HS0_, HS1_⟩ (fun hHeld => ?_)
             clear hK K
             refine nm (some 10) ?_
             exact norm_ (by simp only [putAll, Act.put, zq, zr, zt]) (hCont (gb459) _ ⟨hHeld, (by (with_reducible repeat (first | apply Kd.R_alloc | apply Kd.R_drewN | apply Kd.R_drew)); exact HO_7.out), (be BK444), (be BK459), GW459.out, GE459.out, NB444_459.out, NB459_444.out, (bl)⟩)
            ·skip
             refine box_step ?hg (N := 10) ?hd (cs := #[.int .i64 0, .int .i64 0, .int .i64 0]) (t := 35) ?hr ?_; (case hd => rfl); (case hg => rfl); (case hr => first | (go_simp; done) | (go_simp; rfl))
             intro gb459 hg w39 hbox hb
             have HS0_ := (hb.cell (World.block_lt_of_cell? _ _ (hHeld.1))).trans (hHeld.1)
             have HS1_ := (hb.cell (World.block_lt_of_cell? _ _ (hHeld.2))).trans (hHeld.2)
             have BK459 := Aside0.mk (hbox)
             have GW459 := Aside0.mk ((by rw [hg]; exact (below_size (bl)) : w.heap.size ≤ gb459))
             have GE459 := Aside0.mk ((by rw [hg]; exact (below_size (bl)) : w.heap.size ≤ gb459))
             have NB444_459 := nl hg BK444
             have NB459_444 := ng hg BK444
             replace HO_7 := Aside0.mk (Kd.R_below (by (with_reducible repeat (first | apply Kd.R_alloc | apply Kd.R_drewN | apply Kd.R_drew)); exact HO_7.out) hb)
             replace BK444 := bb BK444 hb
             replace HB := bs hb
             clear hb hg
             refine hK.out _ _ ⟨HS0_, HS1_⟩ (fun hHeld => ?_)
             clear hK K
             refine nm (some 10) ?_
             refine o1 8 (some 44) (tA 12 1535) HT_ (fun K hK => ?_)
             refine gs Tryz.func70 #[.string (rdOf ByteArray.empty t449 1)] ?_
             with_reducible refine (spec_l01Number.calls kj8 (rdOf ByteArray.empty t449 1) t458 _ A22.out).mono ?_
             rintro e w' ⟨rfl, ⟨nd, rfl⟩⟩
             refine ⟨_, rfl, ?_⟩
             refine hK.out _ _ ⟨hHeld.1, hHeld.2⟩ (fun hHeld => ?_)
             clear hK K
             refine nm (some 44) ?_
             refine pu 9 (some 45) (tA 12 2047) HT_ ?_
             exact norm_ (by simp only [putAll, Act.put, zq, zr, zt]) (hCont (gb459) _ ⟨hHeld, (by (with_reducible repeat (first | apply Kd.R_alloc | apply Kd.R_drewN | apply Kd.R_drew)); exact HO_7.out), (be BK444), (be BK459), GW459.out, GE459.out, NB444_459.out, NB459_444.out, (bl)⟩)
           ·skip
            refine box_step ?hg (N := 10) ?hd (cs := #[.int .i64 0, .int .i64 0, .int .i64 0]) (t := 35) ?hr ?_; (case hd => rfl); (case hg => rfl); (case hr => first | (go_simp; done) | (go_simp; rfl))
            intro gb459 hg w39 hbox hb
            have HS0_ := (hb.cell (World.block_lt_of_cell? _ _ (hHeld.1))).trans (hHeld.1)
            have HS1_ := (hb.cell (World.block_lt_of_cell? _ _ (hHeld.2))).trans (hHeld.2)
            have BK459 := Aside0.mk (hbox)
            have GW459 := Aside0.mk ((by rw [hg]; exact (below_size (bl)) : w.heap.size ≤ gb459))
            have GE459 := Aside0.mk ((by rw [hg]; exact (below_size (bl)) : w.heap.size ≤ gb459))
            have NB444_459 := nl hg BK444
            have NB459_444 := ng hg BK444
            replace HO_7 := Aside0.mk (Kd.R_below (by (with_reducible repeat (first | apply Kd.R_alloc | apply Kd.R_drewN | apply Kd.R_drew)); exact HO_7.out) hb)
            replace BK444 := bb BK444 hb
            replace HB := bs hb
            clear hb hg
            refine hK.out _ _ ⟨HS0_, HS1_⟩ (fun hHeld => ?_)
            clear hK K
            refine nm (some 10) ?_
            refine o1 4 (some 40) (tA 12 1279) HT_ (fun K hK => ?_)
            refine gs Tryz.func70 #[.string (rdOf ByteArray.empty t449 0)] ?_
            with_reducible refine (spec_l01Number.calls kj8 (rdOf ByteArray.empty t449 0) t456 _ A20.out).mono ?_
            rintro e w' ⟨rfl, ⟨nd, rfl⟩⟩
            refine ⟨_, rfl, ?_⟩
            refine hK.out _ _ ⟨hHeld.1, hHeld.2⟩ (fun hHeld => ?_)
            clear hK K
            refine nm (some 40) ?_
            refine o1 8 (some 44) (tA 12 1535) HT_ (fun K hK => ?_)
            refine gs Tryz.func70 #[.string (rdOf ByteArray.empty t449 1)] ?_
            with_reducible refine (spec_l01Number.calls kj8 (rdOf ByteArray.empty t449 1) t458 _ A22.out).mono ?_
            rintro e w' ⟨rfl, ⟨nd, rfl⟩⟩
            refine ⟨_, rfl, ?_⟩
            refine hK.out _ _ ⟨hHeld.1, hHeld.2⟩ (fun hHeld => ?_)
            clear hK K
            refine nm (some 44) ?_
            refine pu 9 (some 45) (tA 12 2047) HT_ ?_
            exact norm_ (by simp only [putAll, Act.put, zq, zr, zt]) (hCont (gb459) _ ⟨hHeld, (by (with_reducible repeat (first | apply Kd.R_alloc | apply Kd.R_drewN | apply Kd.R_drew)); exact HO_7.out), (be BK444), (be BK459), GW459.out, GE459.out, NB444_459.out, NB459_444.out, (bl)⟩)
          rintro gb459 w40 ⟨hS_, h0_, h1_, h2_, h3_, h4_, h5_, h6_, h7_⟩
          have n0_ : Aside0 (Kd.R Kd.string 9 w40 w.heap.size (fun _ => True) (.slice (some ad455) t449.length co38) t449) := ⟨h0_⟩
          have n1_ : Aside0 (w40.heap[gb444]? = some (.cells #[.int .i64 0, .int .i64 0, .int .i64 0] 35 (0, 0))) := ⟨h1_⟩
          have n2_ : Aside0 (w40.heap[gb459]? = some (.cells #[.int .i64 0, .int .i64 0, .int .i64 0] 35 (0, 0))) := ⟨h2_⟩
          have n3_ : Aside0 (w.heap.size ≤ gb459) := ⟨h3_⟩
          have n4_ : Aside0 (w.heap.size ≤ gb459) := ⟨h4_⟩
          have n5_ : Aside0 (gb444 ≠ gb459) := ⟨h5_⟩
          have n6_ : Aside0 (gb459 ≠ gb444) := ⟨h6_⟩
          have n7_ : Aside0 (Below w.heap.size w w40) := ⟨h7_⟩
          clear HO_7
          clear BK444
          clear HB
          clear h0_ h1_ h2_ h3_ h4_ h5_ h6_ h7_
          have HO_7 := n0_
          have BK444 := n1_
          have BK459 := n2_
          have GW459 := n3_
          have GE459 := n4_
          have NB444_459 := n5_
          have NB459_444 := n6_
          have HB := n7_
          clear n0_ n1_ n2_ n3_ n4_ n5_ n6_ n7_
          have hHeld : w40.cell? ad455 = some (.string (rdOf ByteArray.empty t449 0)) ∧ w40.cell? ⟨ad455.block, ad455.off + 1, none⟩ = some (.string (rdOf ByteArray.empty t449 1)) := hS_
          refine norm_ (a' := ?_) ?_ ?_
          rotate_left
          ·simp only [putAll, Act.put, zq, zr, zt]
           rfl
          refine o1 11 none (tA 12 4095) HT_ (fun K hK => ?_)
          have hs41 : w40.cell? ⟨gb459, 0, none⟩ = some (.int .i64 0) := (blk_cell BK459.out 0).trans rfl
          have hfs41 := blk_frozen BK459.out 0
          have hns41_0 := NB444_459.out
          have hms41_0 := NB459_444.out
          have hs42 : w40.cell? ⟨gb459, 1, none⟩ = some (.int .i64 0) := (blk_cell BK459.out 1).trans rfl
          have hfs42 := blk_frozen BK459.out 1
          have hns42_0 := NB444_459.out
          have hms42_0 := NB459_444.out
          have hs43 : w40.cell? ⟨gb459, 2, none⟩ = some (.int .i64 0) := (blk_cell BK459.out 2).trans rfl
          have hfs43 := blk_frozen BK459.out 2
          have hns43_0 := NB444_459.out
          have hms43_0 := NB459_444.out
          refine skip_ (w1 := ?_) (by rfl) rfl ?_ ?_
          rotate_left
          ·go_simp
           rfl
          refine hK.out _ _ ⟨((cell_far (p := ⟨gb459, _, none⟩) (by first | exact Kd.own_blk (Kd.R_ne HO_7.out BK459.out (by decide)) | (rw [add_block]; exact Kd.own_blk (Kd.R_ne HO_7.out BK459.out (by decide))) | (show (Addr.add _ _).block ≠ _; rw [add_block]; exact Kd.own_blk (Kd.R_ne HO_7.out BK459.out (by decide))) | (dsimp only; exact Kd.own_blk (Kd.R_ne HO_7.out BK459.out (by decide)))) _).trans (((cell_far (p := ⟨gb459, _, none⟩) (by first | exact Kd.own_blk (Kd.R_ne HO_7.out BK459.out (by decide)) | (rw [add_block]; exact Kd.own_blk (Kd.R_ne HO_7.out BK459.out (by decide))) | (show (Addr.add _ _).block ≠ _; rw [add_block]; exact Kd.own_blk (Kd.R_ne HO_7.out BK459.out (by decide))) | (dsimp only; exact Kd.own_blk (Kd.R_ne HO_7.out BK459.out (by decide)))) _).trans (((cell_far (p := ⟨gb459, _, none⟩) (by first | exact Kd.own_blk (Kd.R_ne HO_7.out BK459.out (by decide)) | (rw [add_block]; exact Kd.own_blk (Kd.R_ne HO_7.out BK459.out (by decide))) | (show (Addr.add _ _).block ≠ _; rw [add_block]; exact Kd.own_blk (Kd.R_ne HO_7.out BK459.out (by decide))) | (dsimp only; exact Kd.own_blk (Kd.R_ne HO_7.out BK459.out (by decide)))) _).trans (hHeld.1)))))), ((cell_far (p := ⟨gb459, _, none⟩) (by first | exact Kd.own_blk (Kd.R_ne HO_7.out BK459.out (by decide)) | (rw [add_block]; exact Kd.own_blk (Kd.R_ne HO_7.out BK459.out (by decide))) | (show (Addr.add _ _).block ≠ _; rw [add_block]; exact Kd.own_blk (Kd.R_ne HO_7.out BK459.out (by decide))) | (dsimp only; exact Kd.own_blk (Kd.R_ne HO_7.out BK459.out (by decide)))) _).trans (((cell_far (p := ⟨gb459, _, none⟩) (by first | exact Kd.own_blk (Kd.R_ne HO_7.out BK459.out (by decide)) | (rw [add_block]; exact Kd.own_blk (Kd.R_ne HO_7.out BK459.out (by decide))) | (show (Addr.add _ _).block ≠ _; rw [add_block]; exact Kd.own_blk (Kd.R_ne HO_7.out BK459.out (by decide))) | (dsimp only; exact Kd.own_blk (Kd.R_ne HO_7.out BK459.out (by decide)))) _).trans (((cell_far (p := ⟨gb459, _, none⟩) (by first | exact Kd.own_blk (Kd.R_ne HO_7.out BK459.out (by decide)) | (rw [add_block]; exact Kd.own_blk (Kd.R_ne HO_7.out BK459.out (by decide))) | (show (Addr.add _ _).block ≠ _; rw [add_block]; exact Kd.own_blk (Kd.R_ne HO_7.out BK459.out (by decide))) | (dsimp only; exact Kd.own_blk (Kd.R_ne HO_7.out BK459.out (by decide)))) _).trans (hHeld.2))))))⟩ (fun hHeld => ?_)
          clear hK K
          refine done_ (done_of HT_.out (by kernel_rfl)) ?_
          have hnb44 := NB459_444.out
          have hnc44 := NB444_459.out
          obtain ⟨hcz45_0, hcz45_1, hcz45_2, hfz45_0, hfz45_1, hfz45_2⟩ := cq3 BK459
          try go_wp2_with (first | ((with_reducible refine zf 66 rfl ?_); refine g1 (some 48) Tryz.func66 #[.int .i64 a0, .agg #[.int .i64 t453, .int .i64 t456, .int .i64 t458]] ?_; (with_reducible refine (spec_l01Is.calls kj8 a0 t453 t456 t458 false _ A23.out).mono ?_); rintro e w46 ⟨rfl, hb⟩; refine ⟨_, rfl, ?_⟩; replace HO_7 := Aside0.mk (Kd.R_below (by (with_reducible repeat (first | apply Kd.R_alloc | apply Kd.R_drewN | apply Kd.R_drew)); exact (Kd.R_mono (Kd.R_far (p := ⟨gb459, 2, none⟩) (Kd.R_far (p := ⟨gb459, 1, none⟩) (Kd.R_far (p := ⟨gb459, 0, none⟩) (Kd.R_types HO_7.out BK459.out (by decide)) (fun _ hk => hk.2) (.int .i64 t453)) (fun _ hk => hk.2) (.int .i64 t456)) (fun _ hk => hk.2) (.int .i64 t458)) (fun _ h_ => h_.1))) hb); replace BK444 := Aside0.mk (blk_below (g := gb444) (o := .cells #[.int .i64 0, .int .i64 0, .int .i64 0] 35 (0, 0)) (bp) hb); replace BK459 := Aside0.mk (blk_below (g := gb459) (o := .cells #[.int .i64 t453, .int .i64 t456, .int .i64 t458] 35 (0, 0)) (bp) hb); replace HB := bs hb; (try clear hb); obtain ⟨hcz47_0, hcz47_1, hcz47_2, hfz47_0, hfz47_1, hfz47_2⟩ := cq3 BK444))
          refine bodyPost_ret (results_ct rfl _ _ gb444 35 #[.int .i64 0, .int .i64 0, .int .i64 0] (0, 0) _ rfl (bp) Tryz.underlying35 rfl (by kernel_rfl)) rfl ?_
          exact ⟨er, bl⟩
        ·exact absurd H (by simp)
       ·exact absurd H (by simp)
   ·exact absurd H (by simp)
  ·exact absurd H (by simp)
 ·obtain ⟨c4b0, c4b1⟩ := zy c4
  simp only [Option.some.injEq, Prod.mk.injEq] at H
  obtain ⟨rfl, rfl, rfl, rfl⟩ := H
  go_enter Tryz.func47, Tryz.ntmps47
  go_wp2_with (first | ((with_reducible refine zg 4 rfl ?_); refine z3 4 35 0 0 0 ?_; intro gb444 hg w48 BK444 hb; have GW444 := sg hg; replace HB := bs hb; clear hb hg) | ((with_reducible refine zf 68 rfl ?_); refine g1 (some 12) Tryz.func68 #[.string a1, .int .u8 64] ?_; (with_reducible refine (spec_l01Split.calls k a1 64 t445 _ A3.out).mono ?_); rintro e w49 ⟨v446, rfl, ho0, hb⟩; refine ⟨_, rfl, ?_⟩; have HO447 := Aside0.mk (Kd.R_lower ho0 (below_size (bl))); replace BK444 := bb BK444 hb; replace HB := bs hb; (try clear hb); (try clear hb2); (try clear hk); (try clear hi); (try clear ho0); obtain ⟨Ao50, co50, eo50⟩ := Kd.R_slice HO447.out; subst eo50; obtain ⟨hcz51_0, hcz51_1, hcz51_2, hfz51_0, hfz51_1, hfz51_2⟩ := cq3 BK444))
  refine bodyPost_ret (results_ct rfl _ _ gb444 35 #[.int .i64 0, .int .i64 0, .int .i64 0] (0, 0) _ rfl (bp) Tryz.underlying35 rfl (by kernel_rfl)) rfl ?_
  exact ⟨er, bl⟩

end Go.Proofs.YtgdkmchphpjifaaGreatDoor.PFnEnds

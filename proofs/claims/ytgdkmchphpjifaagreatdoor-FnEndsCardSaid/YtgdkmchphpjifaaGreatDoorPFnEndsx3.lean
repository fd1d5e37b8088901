-- Printed by the kit's print and repaired by a program of this session.
import Derived.Test.YtgdkmchphpjifaaGreatDoorPFnEndsx0
namespace Go.Proofs.YtgdkmchphpjifaaGreatDoor.PFnEnds
open Go.RowKit Go.Proofs.YtgdkmchphpjifaaGreatDoorW.PrintWords Go.Proofs.YtgdkmchphpjifaaGreatDoorW.PrintLast Go.Proofs.YtgdkmchphpjifaaGreatDoorW.PrintMore
attribute [local go_sem] max2_int min2_int max_two min_two max_three min_three max_four min_four
set_option linter.unusedVariables false
set_option linter.unusedSimpArgs false

/-! ### laws_big: function 4 -/
def laws_big.f (l0 : List Int) : Option (Bool) := some (decide ((l0.length : Int) > 4096))
set_option maxHeartbeats 8000000 in
set_option maxRecDepth 100000 in
theorem laws_big.calls (A0 : Option Addr) (c0 : Nat) (l0 : List Int) (r : Bool) (w : World) (hr0 : Kd.C (Kd.int .u8) w A0 l0.length l0) (hc0 : l0.length ≤ c0) (h : laws_big.f l0 = some r) :
  Calls Tryz.prog 4 #[.slice A0 l0.length c0] w fun e w' => e = .returned (.bool r) ∧ Drawn0 w w' := by
 have HR0 := Aside0.mk hr0
 have HC0 := Aside0.mk hc0
 clear hr0 hc0
 unfold laws_big.f at h
 have H := h
 clear h
 obtain rfl := Option.some.inj H
 go_enter Tryz.func4, Tryz.ntmps4
 go_wp2
 go_ret
 exact zx

/-- A state of type 79 at block g of W; what its slices lead to came in by w0. -/
def IsS79 (w0 W : World) (g : Nat) (f0 : List Int) (f1 : Int) (f2 : Int) : Prop := ∃ A0 c0, W.heap[g]? = some (.cells #[.slice A0 f0.length c0, .int .i64 f1, .int .u64 f2] 79 (0, 0)) ∧ w0.heap.size ≤ g ∧ Kd.C (Kd.int .u8) w0 A0 f0.length f0
theorem IsS79.grown {w0 W : World} {g : Nat} {f0 : List Int} {f1 : Int} {f2 : Int} {W1 : World} {row : Option Nat} (h : IsS79 w0 W g f0 f1 f2) (hw : W.grownBy W1 row) (hne : some g ≠ row) : IsS79 w0 W1 g f0 f1 f2 := by
 obtain ⟨A0, c0, hb, hg, hr0⟩ := h
 exact ⟨A0, c0, blk_grown hb hw hne, hg, hr0⟩
theorem IsS79.own_neN {w0 W : World} {g : Nat} {f0 : List Int} {f1 : Int} {f2 : Int} {α : Type} {d : Kd α} {e : Nat} {base : Nat} {ok : Nat → Prop} {v : Value} {xs : List α} (h : IsS79 w0 W g f0 f1 f2) (ho : Kd.N d e W base ok v xs) (ht : e ≠ 79) : some g ≠ v.ownBlock := by
 obtain ⟨A0, c0, hb, hg, hr0⟩ := h
 exact Kd.N_ne ho hb ht
theorem IsS79.fresh {w0 W : World} {g : Nat} {f0 : List Int} {f1 : Int} {f2 : Int} (h : IsS79 w0 W g f0 f1 f2) : ∀ k, W.heap.size ≤ k → k ≠ g := by
 obtain ⟨A0, c0, hb, hg, hr0⟩ := h
 exact Kd.freshB hb
theorem IsS79.kept {w0 W : World} {g : Nat} {f0 : List Int} {f1 : Int} {f2 : Int} {W1 : World} {S : Nat → Prop} (h : IsS79 w0 W g f0 f1 f2) (hk : Kept W W1 S) (hne : ¬ S g) : IsS79 w0 W1 g f0 f1 f2 := by
 obtain ⟨A0, c0, hb, hg, hr0⟩ := h
 exact ⟨A0, c0, blk_kept hb hk hne, hg, hr0⟩
theorem IsS79.below {w0 W : World} {g : Nat} {f0 : List Int} {f1 : Int} {f2 : Int} {W1 : World} (h : IsS79 w0 W g f0 f1 f2) (hw : Below W.heap.size W W1) : IsS79 w0 W1 g f0 f1 f2 := h.grown (grown_of_below hw none) (by simp)
theorem IsS79.alloc {w0 W : World} {g : Nat} {f0 : List Int} {f1 : Int} {f2 : Int} (h : IsS79 w0 W g f0 f1 f2) (o : Obj) : IsS79 w0 (W.alloc o) g f0 f1 f2 := h.below (below_alloc (Below.refl _ _) o)
theorem IsS79.drewN {w0 W : World} {g : Nat} {f0 : List Int} {f1 : Int} {f2 : Int} (h : IsS79 w0 W g f0 f1 f2) (m : Nat) : IsS79 w0 (W.drewN m) g f0 f1 f2 := h
theorem IsS79.drew {w0 W : World} {g : Nat} {f0 : List Int} {f1 : Int} {f2 : Int} (h : IsS79 w0 W g f0 f1 f2) : IsS79 w0 W.drew g f0 f1 f2 := h
theorem IsS79.at_ {w0 W : World} {g : Nat} {f0 : List Int} {f1 : Int} {f2 : Int} {w' : World} {m : Nat} (hq : W.drewN m = w') (h : IsS79 w0 W g f0 f1 f2) : IsS79 w0 w' g f0 f1 f2 := by subst hq; exact IsS79.drewN h m
theorem IsS79.apart {w0 W : World} {g : Nat} {f0 : List Int} {f1 : Int} {f2 : Int} {α : Type} {d : Kd α} {e : Nat} {base : Nat} {ok : Nat → Prop} {v : Value} {xs : List α} (h : IsS79 w0 W g f0 f1 f2) (ho : d.R e W base ok v xs) (ht : ∀ q, q ∈ e :: d.E → q ≠ 79) : d.R e W base (fun k => ok k ∧ k ≠ g) v xs := by
 obtain ⟨A0, c0, hb, hg, hr0⟩ := h
 exact Kd.R_types ho hb ht
theorem IsS79.own_ne {w0 W : World} {g : Nat} {f0 : List Int} {f1 : Int} {f2 : Int} {α : Type} {d : Kd α} {e : Nat} {base : Nat} {ok : Nat → Prop} {v : Value} {xs : List α} (h : IsS79 w0 W g f0 f1 f2) (ho : d.R e W base ok v xs) (ht : e ≠ 79) : some g ≠ v.ownBlock := by
 obtain ⟨A0, c0, hb, hg, hr0⟩ := h
 exact Kd.R_ne ho hb ht
theorem IsS79.apartQ {w0 W : World} {g : Nat} {f0 : List Int} {f1 : Int} {f2 : Int} {α : Type} {d : Kd α} {e : Nat} {base : Nat} {ok : Nat → Prop} {v : Value} {xs : List α} (h : IsS79 w0 W g f0 f1 f2) (ho : d.Q e W base ok v xs) (ht : ∀ q, q ∈ e :: d.E → q ≠ 79) : d.Q e W base (fun k => ok k ∧ k ≠ g) v xs := by
 obtain ⟨A0, c0, hb, hg, hr0⟩ := h
 exact Kd.Q_types ho hb ht
theorem IsS79.own_neQ {w0 W : World} {g : Nat} {f0 : List Int} {f1 : Int} {f2 : Int} {α : Type} {d : Kd α} {e : Nat} {base : Nat} {ok : Nat → Prop} {v : Value} {xs : List α} (h : IsS79 w0 W g f0 f1 f2) (ho : d.Q e W base ok v xs) (ht : e ≠ 79) : some g ≠ v.ownBlock := by
 obtain ⟨A0, c0, hb, hg, hr0⟩ := h
 exact Kd.Q_ne ho hb ht
theorem IsS79.apartS {w0 W : World} {g : Nat} {f0 : List Int} {f1 : Int} {f2 : Int} {α : Type} {d : Kd α} {e : Nat} {base : Nat} {ok : Nat → Prop} {v : Value} {xs : List α} (h : IsS79 w0 W g f0 f1 f2) (ho : d.S e W base ok v xs) (ht : ∀ q, q ∈ e :: d.E → q ≠ 79) : d.S e W base (fun k => ok k ∧ k ≠ g) v xs := by
 obtain ⟨A0, c0, hb, hg, hr0⟩ := h
 exact Kd.S_types ho hb ht
theorem IsS79.own_neS {w0 W : World} {g : Nat} {f0 : List Int} {f1 : Int} {f2 : Int} {α : Type} {d : Kd α} {e : Nat} {base : Nat} {ok : Nat → Prop} {v : Value} {xs : List α} (h : IsS79 w0 W g f0 f1 f2) (ho : d.S e W base ok v xs) (ht : e ≠ 79) : some g ≠ v.ownBlock := by
 obtain ⟨A0, c0, hb, hg, hr0⟩ := h
 exact Kd.S_ne ho hb ht
theorem IsS79.lt {w0 W : World} {g : Nat} {f0 : List Int} {f1 : Int} {f2 : Int} (h : IsS79 w0 W g f0 f1 f2) : g < W.heap.size := by
 obtain ⟨A0, c0, hb, hg, hr0⟩ := h
 exact blk_lt hb
theorem IsS79.ge {w0 W : World} {g : Nat} {f0 : List Int} {f1 : Int} {f2 : Int} (h : IsS79 w0 W g f0 f1 f2) : w0.heap.size ≤ g := by
 obtain ⟨A0, c0, hb, hg, hr0⟩ := h
 exact hg
theorem IsS79.ne_blk {w0 W : World} {g : Nat} {f0 : List Int} {f1 : Int} {f2 : Int} {a : Nat} {cs : Array Value} {t : TypeId} {fr : Nat × Nat} (h : IsS79 w0 W g f0 f1 f2) (hb2 : W.heap[a]? = some (.cells cs t fr)) (ht : t ≠ 79) : g ≠ a := by
 obtain ⟨A0, c0, hb, hg, hr0⟩ := h
 rintro rfl
 rw [hb] at hb2
 injection hb2 with hb2
 injection hb2 with _ ht2
 exact ht ht2.symm
theorem IsS79.far {w0 W : World} {g : Nat} {f0 : List Int} {f1 : Int} {f2 : Int} {p : Addr} (h : IsS79 w0 W g f0 f1 f2) (hne : g ≠ p.block) (u : Value) : IsS79 w0 (W.setCell p u) g f0 f1 f2 := by
 obtain ⟨A0, c0, hb, hg, hr0⟩ := h
 exact ⟨A0, c0, blk_far hb hne u, hg, hr0⟩
theorem cellS79_0 {W : World} {g : Nat} {A0 : Option Addr} {c0 : Nat} {f0 : List Int} {f1 : Int} {f2 : Int} (h : W.heap[g]? = some (.cells #[.slice A0 f0.length c0, .int .i64 f1, .int .u64 f2] 79 (0, 0))) : W.cell? ⟨g, 0, none⟩ = some (.slice A0 f0.length c0) := (blk_cell h 0).trans rfl
theorem cellS79_1 {W : World} {g : Nat} {A0 : Option Addr} {c0 : Nat} {f0 : List Int} {f1 : Int} {f2 : Int} (h : W.heap[g]? = some (.cells #[.slice A0 f0.length c0, .int .i64 f1, .int .u64 f2] 79 (0, 0))) : W.cell? ⟨g, 1, none⟩ = some (.int .i64 f1) := (blk_cell h 1).trans rfl
theorem IsS79.set_1 {w0 W : World} {g : Nat} {f0 : List Int} {f1 : Int} {f2 : Int} (h : IsS79 w0 W g f0 f1 f2) (x : Int) : IsS79 w0 (W.setCell ⟨g, 1, none⟩ (.int .i64 x)) g f0 x f2 := by
 obtain ⟨A0, c0, hb, hg, hr0⟩ := h
 exact ⟨A0, c0, by simpa using blk_set hb 1 (.int .i64 x), hg, hr0⟩
theorem cellS79_2 {W : World} {g : Nat} {A0 : Option Addr} {c0 : Nat} {f0 : List Int} {f1 : Int} {f2 : Int} (h : W.heap[g]? = some (.cells #[.slice A0 f0.length c0, .int .i64 f1, .int .u64 f2] 79 (0, 0))) : W.cell? ⟨g, 2, none⟩ = some (.int .u64 f2) := (blk_cell h 2).trans rfl
theorem IsS79.set_2 {w0 W : World} {g : Nat} {f0 : List Int} {f1 : Int} {f2 : Int} (h : IsS79 w0 W g f0 f1 f2) (x : Int) : IsS79 w0 (W.setCell ⟨g, 2, none⟩ (.int .u64 x)) g f0 f1 x := by
 obtain ⟨A0, c0, hb, hg, hr0⟩ := h
 exact ⟨A0, c0, by simpa using blk_set hb 2 (.int .u64 x), hg, hr0⟩
theorem IsS79.new (w0 W : World) (A0 : Option Addr) (c0 : Nat) (f0 : List Int) (f1 : Int) (f2 : Int) (hB : Below w0.heap.size w0 W) (hr0 : Kd.C (Kd.int .u8) w0 A0 f0.length f0) : IsS79 w0 (W.alloc (.cells #[.slice A0 f0.length c0, .int .i64 f1, .int .u64 f2] 79)) W.heap.size f0 f1 f2 := ⟨A0, c0, by simpa using heap_alloc_new W _, hB.size, hr0⟩
theorem IsS79.a {w0 W : World} {g : Nat} {f0 : List Int} {f1 : Int} {f2 : Int} (h : IsS79 w0 W g f0 f1 f2 := by repeat (first | (with_reducible first | exact HI0.out | apply IsS79.alloc | apply IsS79.drewN | apply IsS79.drew | apply IsS79.set_1 | apply IsS79.set_2 | refine IsS79.far ?_ (Aside0.out (by assumption)) _) | exact HI0.out)) : IsS79 w0 W g f0 f1 f2 := h
theorem IsS79.b {w W0 W : World} (hB : Aside0 (Below w.heap.size w W0) := by exact HB)
    (h : Below w.heap.size w W := by repeat (first | (with_reducible first | exact HB.out | apply below_alloc | apply pw_below_drewN | apply below_drew1 | refine below_set ?_ (IsS79.ge HI0.out) | refine below_set ?_ (Aside0.out (by assumption))) | exact HB.out)) : Below w.heap.size w W := h

/-! ### spec_l01From: function 26 -/
def spec_l01From.l0 : Nat → List Int → Int → List Int → Int → Int → Option (List Int × Int × Int)
 | 0, _, _, _, _, _ => none
 | k + 1, x0, x4, x102000, x102001, x102002 => if x4 < (x0.length : Int) then (if x4 < 4096 then (if 0 ≤ x4 then (spec_l01From.l0 k x0 (wrap64 (x4 + 1)) x102000 x102001 (IntKind.u64.wrap ((IntKind.u64.wrap ((IntKind.u64.wrap (x102002 * 1099511628211)) + (IntKind.u64.wrap (rd x0 x4)))) + 71))) else (none)) else (some (x102000, x102001, x102002))) else (some (x102000, x102001, x102002))
def spec_l01From.f (k : Nat) (l0 : List Int) : Option (List Int × Int × Int) := spec_l01From.l0 k l0 0 l0 0 (IntKind.u64.wrap (12527 + (IntKind.u64.wrap ((l0.length : Int)))))
def spec_l01From.T5 : Bool × List (List Nat × List Nat) := (true, [([], []), ([], []), ([1], [1]), ([2], [2]), ([3], [3]), ([4], [4]), ([], []), ([], []), ([6, 7], [6, 7]), ([8], [8]), ([9], [9]), ([5, 10], [5, 10]), ([11], [11]), ([0, 0, 1, 2, 3, 4, 5, 6, 7, 8, 9, 10, 11, 12], [0]), ([13, 0, 1, 2, 3, 4, 5, 6, 7, 8, 9, 10, 11, 12], [13]), ([14, 12, 0, 1, 2, 3, 4, 5, 6, 7, 8, 9, 10, 11, 12], [12, 14])])
def spec_l01From.B5 : List Nat := [0, 0, 2, 6, 14, 30, 0, 0, 192, 448, 960, 2046, 4094, 8191, 16383, 32767]
theorem spec_l01From.tab5 : rtab .any (opsOf Tryz.f26 5) = spec_l01From.T5 := by kernel_rfl
theorem spec_l01From.bits5 : waitsOk spec_l01From.T5.2 spec_l01From.B5 = true := by kernel_rfl
set_option maxHeartbeats 8000000 in
set_option maxRecDepth 100000 in
theorem spec_l01From.calls (k : Nat) (A0 : Option Addr) (c0 : Nat) (l0 : List Int) (r1 : List Int) (r2 : Int) (r3 : Int) (w0 w : World) (hB : Below w0.heap.size w0 w) (hr0 : Kd.C (Kd.int .u8) w0 A0 l0.length l0) (hc0 : l0.length ≤ c0) (h : spec_l01From.f k l0 = some (r1, r2, r3)) :
  Calls Tryz.prog 26 #[.slice A0 l0.length c0] w fun e w' => ∃ g_ : Nat, e = .returned (.pointer (some ⟨g_, 0, none⟩)) ∧ IsS79 w0 w' g_ r1 r2 r3 ∧ Below w0.heap.size w0 w' ∧ Below w.heap.size w w' := by
 have hu79 := Tryz.underlying79
 have HR0 := Aside0.mk hr0
 have HC0 := Aside0.mk hc0
 clear hr0 hc0
 have HBW := Aside0.mk (Below.refl w.heap.size w)
 have HW0 := Aside0.mk hB.size
 have HB := Aside0.mk hB
 clear hB
 unfold spec_l01From.f at h
 have H := h
 clear h
 have H' := Aside0.mk H
 clear H
 go_enter Tryz.func26, Tryz.ntmps26
 go_wp2_with (first | ((with_reducible refine zg 11 rfl ?_); refine zb 11 79 #[.slice A0 l0.length c0, .int .i64 0, .int .u64 (IntKind.u64.wrap (12527 + (IntKind.u64.wrap ((l0.length : Int)))))] ?_; intro gb101 hg w2 BK101 hb; have GW101 := Aside0.mk ((by rw [hg]; exact (below_size (by repeat (first | (with_reducible first | exact HBW.out | apply below_alloc | apply pw_below_drewN | apply below_drew1) | exact HBW.out))) : w.heap.size ≤ gb101)); have GE101 := Aside0.mk ((Nat.le_trans HW0.out (by rw [hg]; exact (below_size (by repeat (first | (with_reducible first | exact HBW.out | apply below_alloc | apply pw_below_drewN | apply below_drew1) | exact HBW.out))) : w.heap.size ≤ gb101) : w0.heap.size ≤ gb101)); replace HBW := Aside0.mk (below_step HBW.out hb); replace HB := bs hb; clear hb hg))
 go_loopg [4] k (fun kq v4 w' => ∃ (x4_1 : Int) (x102002_1 : Int), v4 = .int .i64 x4_1 ∧ Aside0 (spec_l01From.l0 kq l0 x4_1 l0 0 x102002_1 = some (r1, r2, r3)) ∧ Aside0 (kq ≤ k) ∧ Aside0 (w'.heap[gb101]? = some (.cells #[(.slice A0 l0.length c0), .int .i64 0, .int .u64 x102002_1] 79 (0, 0))) ∧ Aside0 (Below w0.heap.size w0 w') ∧ Aside0 (Below w.heap.size w w'))
 case atStart => exact ⟨(0), (IntKind.u64.wrap (12527 + (IntKind.u64.wrap ((l0.length : Int))))), (by first | rfl | (simp; done) | (simp [*]; done)), H', ⟨Nat.le_refl _⟩, ⟨be BK101⟩, ⟨bl⟩, ⟨by repeat (first | (with_reducible first | exact HBW.out | apply below_alloc | apply pw_below_drewN | apply below_drew1 | refine below_set ?_ GW101.out) | exact HBW.out)⟩⟩
 case round =>
  clear H'
  obtain ⟨x4_1, x102002_1, rfl, HA, HK1, BK101, HB, HBW⟩ := hrel
  cases gk with
  | zero => exact absurd HA.out (by simp [spec_l01From.l0])
  | succ k1 =>
   have H := HA.out
   clear HA
   simp only [spec_l01From.l0] at H
   replace H := ii H
   rcases H with ⟨c3, H⟩ | ⟨c3, H⟩
   ·have c3b0 := decide_eq_true c3
    clear c3
    replace H := ii H
    rcases H with ⟨c4, H⟩ | ⟨c4, H⟩
    ·have c4b0 := decide_eq_true c4
     clear c4
     replace H := ii H
     rcases H with ⟨c5, H⟩ | ⟨c5, H⟩
     ·have c5b0 := decide_eq_true c5
      clear c5
      have H' := Aside0.mk H
      clear H
      try go_wp2
      have n0_ := Aside0.mk (blk_drew BK101.out)
      have n1_ := Aside0.mk (below_drew1 HB.out)
      have n1w_ := Aside0.mk (below_drew1 HBW.out)
      clear BK101
      clear HB
      clear HBW
      have BK101 := n0_
      have HB := n1_
      have HBW := n1w_
      clear n0_ n1_
      have p102 : 0 ≤ (x4_1 : Int) := za
      have q102 : x4_1 < (l0.length : Int) := za
      obtain ⟨ad102, e102, hx102_0⟩ := Kd.at_int HR0.out x4_1 p102 q102
      have hw102_0 := hx102_0
      cases e102
      replace hx102_0 := pw_cell_below HB.out hx102_0
      replace p102 := eq_true p102
      replace q102 := eq_true q102
      refine start_ (n := 16) (S := fun w' => w'.cell? ⟨gb101, 0, none⟩ = some (.slice (some ad102) l0.length c0) ∧ w'.cell? ⟨gb101, 1, none⟩ = some (.int .i64 0) ∧ w'.cell? ⟨gb101, 2, none⟩ = some (.int .u64 x102002_1) ∧ w'.cell? (ad102.add (x4_1).toNat) = some (.int .u8 (rd l0 x4_1))) (ds := [15]) (tA 16 0) (by kernel_rfl) rfl rfl ⟨(blk_cell BK101.out 0).trans rfl, (blk_cell BK101.out 1).trans rfl, (blk_cell BK101.out 2).trans rfl, ((HB.out.cell (World.block_lt_of_cell? _ _ hw102_0)).trans hw102_0)⟩ (fun hHeld => ?_); refine with_tabW spec_l01From.tab5 spec_l01From.bits5 (fun HT_ HW_ => ?_)
      generalize wr.drew = w6 at BK101 HB HBW hx102_0 hHeld ⊢
      refine pu 0 (some 22) (tA 16 1) HT_ ?_
      refine pu 1 (some 23) (tA 16 3) HT_ ?_
      refine pu 2 (some 24) (tA 16 7) HT_ ?_
      refine pu 3 (some 25) (tA 16 15) HT_ ?_
      refine pu 6 (some 28) (tA 16 79) HT_ ?_
      refine pu 7 (some 29) (tA 16 207) HT_ ?_
      refine pu 8 (some 30) (tA 16 463) HT_ ?_
      refine tk4 4 (some 26) (tA 16 479) HT_ HW_ hHeld ?_
      refine pu 5 (some 27) (tA 16 511) HT_ ?_
      refine tk4 9 (some 31) (tA 16 1023) HT_ HW_ hHeld ?_
      refine pu 10 (some 32) (tA 16 2047) HT_ ?_
      refine pu 11 (some 33) (tA 16 4095) HT_ ?_
      refine pu 12 (some 34) (tA 16 8191) HT_ ?_
      refine pu 13 (some 35) (tA 16 16383) HT_ ?_
      refine pu 14 (some 36) (tA 16 32767) HT_ ?_
      refine last_ (i := 15) (N := none) (tA 16 65535) rfl rfl (one_of HT_.out (by kernel_rfl)) (by decide) (fun K hK => ?_)
      have hs7 : w6.cell? ⟨gb101, 2, none⟩ = some (.int .u64 x102002_1) := (blk_cell BK101.out 2).trans rfl
      have hfs7 := blk_frozen BK101.out 2
      refine skip_ (w1 := ?_) (by rfl) rfl ?_ ?_
      rotate_left
      ·go_simp
       rfl
      refine hK.out _ _ ?_
      clear hK K
      refine done_ (done_of HT_.out (by kernel_rfl)) ?_
      try go_wp2
      go_roundg k1
      case measure => have := HK1.out; omega
      case rel => exact ⟨(wrap64 (x4_1 + 1)), (IntKind.u64.wrap ((IntKind.u64.wrap ((IntKind.u64.wrap (x102002_1 * 1099511628211)) + (IntKind.u64.wrap (rd l0 x4_1)))) + 71)), (by first | rfl | (simp; done) | (simp [*]; done)), H', ⟨by have := HK1.out; omega⟩, ⟨bp⟩, ⟨bl⟩, ⟨by repeat (first | (with_reducible first | exact HBW.out | apply below_alloc | apply pw_below_drewN | apply below_drew1 | refine below_set ?_ GW101.out) | exact HBW.out)⟩⟩
     ·exact absurd H (by simp)
    ·have c4b0 := decide_eq_false c4
     clear c4
     simp only [Option.some.injEq, Prod.mk.injEq] at H
     obtain ⟨rfl, rfl, rfl⟩ := H
     go_wp2
     go_ret
     exact ⟨_, rfl, (show IsS79 w0 _ gb101 l0 0 x102002_1 from ⟨_, _, bp, GE101.out, HR0.out⟩), bl, by repeat (first | (with_reducible first | exact HBW.out | apply below_alloc | apply pw_below_drewN | apply below_drew1 | refine below_set ?_ GW101.out) | exact HBW.out)⟩
   ·have c3b0 := decide_eq_false c3
    clear c3
    simp only [Option.some.injEq, Prod.mk.injEq] at H
    obtain ⟨rfl, rfl, rfl⟩ := H
    go_wp2
    go_ret
    exact ⟨_, rfl, (show IsS79 w0 _ gb101 l0 0 x102002_1 from ⟨_, _, bp, GE101.out, HR0.out⟩), bl, by repeat (first | (with_reducible first | exact HBW.out | apply below_alloc | apply pw_below_drewN | apply below_drew1 | refine below_set ?_ GW101.out) | exact HBW.out)⟩

/-! ### spec_l01Next: function 44 -/
def spec_l01Next.f (s0_0 : List Int) (s0_1 : Int) (s0_2 : Int) (a1 : Int) : Option (Int × Int × Int) := if a1 < 1 then (some (0, s0_1, s0_2)) else (if s0_1 < (s0_0.length : Int) then (if 0 ≤ s0_1 then (if a1 = 0 then (none) else (some (Int.tmod (wrap64 ((wrap64 (Go.bits .and .u64 ((IntKind.u64.wrap ((IntKind.u64.wrap (s0_2 * 6364136223846793005)) + 1442695040888963407)) / 8388608) 17179869183)) + (wrap64 (rd s0_0 s0_1)))) a1, wrap64 (s0_1 + 1), IntKind.u64.wrap ((IntKind.u64.wrap (s0_2 * 6364136223846793005)) + 1442695040888963407)))) else (none)) else (if a1 = 0 then (none) else (some (Int.tmod (wrap64 (Go.bits .and .u64 ((IntKind.u64.wrap ((IntKind.u64.wrap (s0_2 * 6364136223846793005)) + 1442695040888963407)) / 8388608) 17179869183)) a1, s0_1, IntKind.u64.wrap ((IntKind.u64.wrap (s0_2 * 6364136223846793005)) + 1442695040888963407)))))
set_option maxHeartbeats 8000000 in
set_option maxRecDepth 100000 in
theorem spec_l01Next.calls (g : Nat) (s0_0 : List Int) (s0_1 : Int) (s0_2 : Int) (a1 : Int) (r1 : Int) (r2 : Int) (r3 : Int) (w0 w : World) (hI : IsS79 w0 w g s0_0 s0_1 s0_2) (hB : Below w0.heap.size w0 w) (h : spec_l01Next.f s0_0 s0_1 s0_2 a1 = some (r1, r2, r3)) :
  Calls Tryz.prog 44 #[.pointer (some ⟨g, 0, none⟩), .int .i64 a1] w fun e w' => e = .returned (.int .i64 r1) ∧ IsS79 w0 w' g s0_0 r2 r3 ∧ Below w0.heap.size w0 w' ∧ KeepBut w w' g none := by
 have HI0 := Aside0.mk hI
 have HK := Aside0.mk (KeepBut.refl w g none)
 have HL := Aside0.mk hB.size
 clear hI
 have HW0 := Aside0.mk hB.size
 have HB := Aside0.mk hB
 clear hB
 unfold spec_l01Next.f at h
 have H := h
 clear h
 replace H := ii H
 rcases H with ⟨c3, H⟩ | ⟨c3, H⟩
 ·have c3b0 := decide_eq_true c3
  clear c3
  simp only [Option.some.injEq, Prod.mk.injEq] at H
  obtain ⟨rfl, rfl, rfl⟩ := H
  go_enter Tryz.func44, Tryz.ntmps44
  go_wp2
  repeat (go_quiet (fail); try go_wp2)
  go_ret
  exact ⟨er, IsS79.a, IsS79.b, kl⟩
 ·have c3b0 := decide_eq_false c3
  clear c3
  replace H := ii H
  rcases H with ⟨c4, H⟩ | ⟨c4, H⟩
  ·have c4b0 := decide_eq_true c4
   clear c4
   replace H := ii H
   rcases H with ⟨c5, H⟩ | ⟨c5, H⟩
   ·have c5b0 := decide_eq_true c5
    clear c5
    replace H := ii H
    rcases H with ⟨c6, H⟩ | ⟨c6, H⟩
    ·exact absurd H (by simp)
    ·obtain ⟨c6b0, c6b1⟩ := zy c6
     simp only [Option.some.injEq, Prod.mk.injEq] at H
     obtain ⟨rfl, rfl, rfl⟩ := H
     obtain ⟨ASz7_0, cSz7_0, HGz7, hgz7, HSz7_0⟩ := HI0.out
     have hcz7_0 := cellS79_0 HGz7
     have hcz7_1 := cellS79_1 HGz7
     have hcz7_2 := cellS79_2 HGz7
     have hfz7_1 := blk_frozen HGz7 1
     have hfz7_2 := blk_frozen HGz7 2
     clear HGz7 hgz7
     have p103 : 0 ≤ (s0_1 : Int) := za
     have q103 : s0_1 < (s0_0.length : Int) := za
     obtain ⟨ad103, e103, hx103_0⟩ := Kd.at_int HSz7_0 s0_1 p103 q103
     cases e103
     have hn103_0 : ad103.block ≠ g := Nat.ne_of_lt (Nat.lt_of_lt_of_le (by have := World.block_lt_of_cell? _ _ hx103_0; first | rwa [add_block] at this | exact this) (IsS79.ge HI0.out))
     replace hx103_0 := pw_cell_below HB.out hx103_0
     replace hx103_0 := (cell_far (p := ⟨g, 2, none⟩) (by first | (rw [add_block]; exact hn103_0) | (show (Addr.add _ _).block ≠ _; rw [add_block]; exact hn103_0) | exact hn103_0) (.int .u64 (IntKind.u64.wrap ((IntKind.u64.wrap (s0_2 * 6364136223846793005)) + 1442695040888963407)))).trans hx103_0
     (try have hy103_0 := fun (n_ : Nat) => (show (((w.drewN n_).setCell ⟨g, 2, none⟩ (.int .u64 (IntKind.u64.wrap ((IntKind.u64.wrap (s0_2 * 6364136223846793005)) + 1442695040888963407))))).cell? _ = some _ from hx103_0))
     clear hn103_0
     replace p103 := eq_true p103
     replace q103 := eq_true q103
     go_enter Tryz.func44, Tryz.ntmps44
     go_wp2
     repeat (go_quiet (fail); try go_wp2)
     go_ret
     exact ⟨er, IsS79.a, IsS79.b, kl⟩
   ·exact absurd H (by simp)
  ·have c4b0 := decide_eq_false c4
   clear c4
   replace H := ii H
   rcases H with ⟨c8, H⟩ | ⟨c8, H⟩
   ·exact absurd H (by simp)
   ·obtain ⟨c8b0, c8b1⟩ := zy c8
    simp only [Option.some.injEq, Prod.mk.injEq] at H
    obtain ⟨rfl, rfl, rfl⟩ := H
    obtain ⟨ASz9_0, cSz9_0, HGz9, hgz9, HSz9_0⟩ := HI0.out
    have hcz9_0 := cellS79_0 HGz9
    have hcz9_1 := cellS79_1 HGz9
    have hcz9_2 := cellS79_2 HGz9
    have hfz9_1 := blk_frozen HGz9 1
    have hfz9_2 := blk_frozen HGz9 2
    clear HGz9 hgz9
    go_enter Tryz.func44, Tryz.ntmps44
    go_wp2
    repeat (go_quiet (fail); try go_wp2)
    go_ret
    exact ⟨er, IsS79.a, IsS79.b, kl⟩

/-! ### spec_l01Pick: function 28 -/
def spec_l01Pick.f (s0_0 : List Int) (s0_1 : Int) (s0_2 : Int) (l1 : List Int) : Option (Int × Int × Int) := (spec_l01Next.f s0_0 s0_1 s0_2 (l1.length : Int)).bind fun bt104 => (if 0 ≤ bt104.1 then (if bt104.1 < (l1.length : Int) then (some (rd l1 bt104.1, bt104.2.1, bt104.2.2)) else (none)) else (none))
set_option maxHeartbeats 8000000 in
set_option maxRecDepth 100000 in
theorem spec_l01Pick.calls (g : Nat) (s0_0 : List Int) (s0_1 : Int) (s0_2 : Int) (A1 : Option Addr) (c1 : Nat) (l1 : List Int) (r1 : Int) (r2 : Int) (r3 : Int) (w0 w : World) (hI : IsS79 w0 w g s0_0 s0_1 s0_2) (hB : Below w0.heap.size w0 w) (hr1 : Kd.C (Kd.int .i64) w A1 l1.length l1) (hc1 : l1.length ≤ c1) (hf1 : ∀ ad, A1 = some ad → 0 < l1.length → ad.block ≠ g) (h : spec_l01Pick.f s0_0 s0_1 s0_2 l1 = some (r1, r2, r3)) :
  Calls Tryz.prog 28 #[.pointer (some ⟨g, 0, none⟩), .slice A1 l1.length c1] w fun e w' => e = .returned (.int .i64 r1) ∧ IsS79 w0 w' g s0_0 r2 r3 ∧ Below w0.heap.size w0 w' ∧ KeepBut w w' g none := by
 have HR1 := Aside0.mk hr1
 have HC1 := Aside0.mk hc1
 clear hr1 hc1
 have HI0 := Aside0.mk hI
 have HK := Aside0.mk (KeepBut.refl w g none)
 have HL := Aside0.mk hB.size
 clear hI
 have HW0 := Aside0.mk hB.size
 have HB := Aside0.mk hB
 clear hB
 unfold spec_l01Pick.f at h
 have H := h
 clear h
 replace H := zi H
 obtain ⟨⟨t104, t105, t106⟩, A3, H⟩ := H
 try dsimp only at H
 replace H := ii H
 rcases H with ⟨c4, H⟩ | ⟨c4, H⟩
 ·have c4b0 := decide_eq_true c4
  clear c4
  replace H := ii H
  rcases H with ⟨c5, H⟩ | ⟨c5, H⟩
  ·have c5b0 := decide_eq_true c5
   clear c5
   simp only [Option.some.injEq, Prod.mk.injEq] at H
   obtain ⟨rfl, rfl, rfl⟩ := H
   go_enter Tryz.func28, Tryz.ntmps28
   go_wp2_with (first | ((with_reducible refine zf 44 rfl ?_); refine g1 (some 9) Tryz.func44 #[.pointer (some ⟨g, 0, none⟩), .int .i64 (l1.length : Int)] ?_; (with_reducible refine (spec_l01Next.calls g s0_0 s0_1 s0_2 (l1.length : Int) t104 t105 t106 w0 _ ?side1 ?side2 A3.out).mono ?_); (case side1 => exact IsS79.a); (case side2 => exact IsS79.b); rintro e w6 ⟨rfl, hi, hb, hk⟩; refine ⟨_, rfl, ?_⟩; replace HK := Aside0.mk (KeepBut.trans (kl) hk (.inl rfl)); replace HI0 := Aside0.mk (hi); replace HB := Aside0.mk (hb); (try clear hb hk); have p107 : 0 ≤ (t104 : Int) := of_decide_eq_true (by first | (with_reducible assumption) | assumption); have q107 : t104 < (l1.length : Int) := of_decide_eq_true (by first | (with_reducible assumption) | assumption); obtain ⟨ad107, e107, hx107_0⟩ := Kd.at_int HR1.out t104 p107 q107; cases e107; replace hx107_0 := keep_cell HK.out hx107_0 (by first | (rw [add_block]; exact hf1 _ rfl (by omega)) | exact hf1 _ rfl (by omega) | exact hf1 ad107 rfl (by omega)); replace p107 := eq_true p107; replace q107 := eq_true q107))
   go_ret
   exact ⟨er, IsS79.a, IsS79.b, kl⟩
  ·exact absurd H (by simp)
 ·exact absurd H (by simp)

/-! ### spec_l01Power: function 57 -/
def spec_l01Power.l0 : Nat → Int → Int → Int → Option (Int)
 | 0, _, _, _ => none
 | k + 1, x0, x1, x5 => if x1 > 0 then (spec_l01Power.l0 k x0 (wrap64 (x1 - 1)) (wrap64 (x5 * x0))) else (some x5)
def spec_l01Power.f (k : Nat) (a0 : Int) (a1 : Int) : Option (Int) := spec_l01Power.l0 k a0 a1 1
set_option maxHeartbeats 8000000 in
set_option maxRecDepth 100000 in
theorem spec_l01Power.calls (k : Nat) (a0 : Int) (a1 : Int) (r : Int) (w : World) (h : spec_l01Power.f k a0 a1 = some r) :
  Calls Tryz.prog 57 #[.int .i64 a0, .int .i64 a1] w fun e w' => e = .returned (.int .i64 r) ∧ Drawn0 w w' := by
 unfold spec_l01Power.f at h
 have H := h
 clear h
 have H' := Aside0.mk H
 clear H
 go_enter Tryz.func57, Tryz.ntmps57
 go_wp2
 go_loopg [1, 5] k (fun kq v1 v5 w' => ∃ (x1_1 : Int) (x5_1 : Int), v1 = .int .i64 x1_1 ∧ v5 = .int .i64 x5_1 ∧ Aside0 (spec_l01Power.l0 kq a0 x1_1 x5_1 = some r) ∧ Aside0 (kq ≤ k) ∧ Drawn0 w w')
 case atStart => exact ⟨(a1), (1), (by first | rfl | (simp; done) | (simp [*]; done)), (by first | rfl | (simp; done) | (simp [*]; done)), H', ⟨Nat.le_refl _⟩, by repeat (first | exact Drawn0.refl _ | apply Drawn0.step)⟩
 case round =>
  clear H'
  obtain ⟨x1_1, x5_1, rfl, rfl, HA, HK1, ⟨m1, rfl⟩⟩ := hrel
  cases gk with
  | zero => exact absurd HA.out (by simp [spec_l01Power.l0])
  | succ k1 =>
   have H := HA.out
   clear HA
   simp only [spec_l01Power.l0] at H
   replace H := ii H
   rcases H with ⟨c3, H⟩ | ⟨c3, H⟩
   ·have c3b0 := decide_eq_true c3
    clear c3
    have H' := Aside0.mk H
    clear H
    go_wp2
    go_roundg k1
    case measure => have := HK1.out; omega
    case rel => exact ⟨(wrap64 (x1_1 - 1)), (wrap64 (x5_1 * a0)), (by first | rfl | (simp; done) | (simp [*]; done)), (by first | rfl | (simp; done) | (simp [*]; done)), H', ⟨by have := HK1.out; omega⟩, by repeat (first | exact Drawn0.refl _ | apply Drawn0.step)⟩
   ·have c3b0 := decide_eq_false c3
    clear c3
    obtain rfl := Option.some.inj H
    go_wp2
    go_ret
    exact zx

/-! ### spec_l01Parts: function 27 -/
def spec_l01Parts.f (k : Nat) (s0_0 : List Int) (s0_1 : Int) (s0_2 : Int) (a1 : Int) (a2 : Int) : Option (Int × Int × Int × Int) := (spec_l01Next.f s0_0 s0_1 s0_2 20).bind fun bt108 => ((spec_l01Next.f s0_0 bt108.2.1 bt108.2.2 a2).bind fun bt111 => ((spec_l01Pick.f s0_0 bt111.2.1 bt111.2.2 (([0, wrap64 (bt108.1 - 10), wrap64 (bt111.1 - (wrap64 (Int.tdiv a2 2))), a2, wrap64 (-a2), wrap64 (a2 + 1)] : List Int))).bind fun bt117 => ((spec_l01Next.f s0_0 bt117.2.1 bt117.2.2 30).bind fun bt120 => ((spec_l01Next.f s0_0 bt120.2.1 bt120.2.2 6).bind fun bt123 => ((spec_l01Power.f k (mn (mx a1 2) 7) bt123.1).bind fun t126 => ((spec_l01Next.f s0_0 bt123.2.1 bt123.2.2 4).bind fun bt127 => ((spec_l01Power.f k (mn (mx a1 2) 7) bt127.1).bind fun t130 => ((spec_l01Next.f s0_0 bt127.2.1 bt127.2.2 9).bind fun bt131 => ((spec_l01Next.f s0_0 bt131.2.1 bt131.2.2 a2).bind fun bt134 => ((spec_l01Pick.f s0_0 bt134.2.1 bt134.2.2 (([1, (-1), wrap64 (1 + bt120.1), t126, wrap64 (t130 * (wrap64 (1 + bt131.1))), bt134.1] : List Int))).bind fun bt140 => ((spec_l01Next.f s0_0 bt140.2.1 bt140.2.2 30).bind fun bt143 => (if bt143.1 = 0 then ((spec_l01Pick.f s0_0 bt143.2.1 bt143.2.2 (([0, wrap64 (a2 + 1)] : List Int))).bind fun bt149 => (some (bt117.1, bt149.1, bt149.2.1, bt149.2.2))) else (some (bt117.1, bt140.1, bt143.2.1, bt143.2.2))))))))))))))
set_option maxHeartbeats 8000000 in
set_option maxRecDepth 100000 in
theorem spec_l01Parts.calls (k : Nat) (g : Nat) (s0_0 : List Int) (s0_1 : Int) (s0_2 : Int) (a1 : Int) (a2 : Int) (r1 : Int) (r2 : Int) (r3 : Int) (r4 : Int) (w0 w : World) (hI : IsS79 w0 w g s0_0 s0_1 s0_2) (hB : Below w0.heap.size w0 w) (h : spec_l01Parts.f k s0_0 s0_1 s0_2 a1 a2 = some (r1, r2, r3, r4)) :
  Calls Tryz.prog 27 #[.pointer (some ⟨g, 0, none⟩), .int .i64 a1, .int .i64 a2] w fun e w' => e = .returned (.tuple #[.int .i64 r1, .int .i64 r2]) ∧ IsS79 w0 w' g s0_0 r3 r4 ∧ Below w0.heap.size w0 w' ∧ KeepBut w w' g none := by
 have HI0 := Aside0.mk hI
 have HK := Aside0.mk (KeepBut.refl w g none)
 have HL := Aside0.mk hB.size
 clear hI
 have HW0 := Aside0.mk hB.size
 have HB := Aside0.mk hB
 clear hB
 unfold spec_l01Parts.f at h
 have H := h
 clear h
 obtain ⟨ji4, hji4⟩ : ∃ j_ : Int, (mx a1 2) = j_ := ⟨_, rfl⟩
 replace H : ((spec_l01Next.f s0_0 s0_1 s0_2 20).bind fun bt108 => ((spec_l01Next.f s0_0 bt108.2.1 bt108.2.2 a2).bind fun bt111 => ((spec_l01Pick.f s0_0 bt111.2.1 bt111.2.2 (([0, wrap64 (bt108.1 - 10), wrap64 (bt111.1 - (wrap64 (Int.tdiv a2 2))), a2, wrap64 (-a2), wrap64 (a2 + 1)] : List Int))).bind fun bt117 => ((spec_l01Next.f s0_0 bt117.2.1 bt117.2.2 30).bind fun bt120 => ((spec_l01Next.f s0_0 bt120.2.1 bt120.2.2 6).bind fun bt123 => ((spec_l01Power.f k (mn (ji4) 7) bt123.1).bind fun t126 => ((spec_l01Next.f s0_0 bt123.2.1 bt123.2.2 4).bind fun bt127 => ((spec_l01Power.f k (mn (ji4) 7) bt127.1).bind fun t130 => ((spec_l01Next.f s0_0 bt127.2.1 bt127.2.2 9).bind fun bt131 => ((spec_l01Next.f s0_0 bt131.2.1 bt131.2.2 a2).bind fun bt134 => ((spec_l01Pick.f s0_0 bt134.2.1 bt134.2.2 (([1, (-1), wrap64 (1 + bt120.1), t126, wrap64 (t130 * (wrap64 (1 + bt131.1))), bt134.1] : List Int))).bind fun bt140 => ((spec_l01Next.f s0_0 bt140.2.1 bt140.2.2 30).bind fun bt143 => (if bt143.1 = 0 then ((spec_l01Pick.f s0_0 bt143.2.1 bt143.2.2 (([0, wrap64 (a2 + 1)] : List Int))).bind fun bt149 => (some (bt117.1, bt149.1, bt149.2.1, bt149.2.2))) else (some (bt117.1, bt140.1, bt143.2.1, bt143.2.2))))))))))))))) = some (r1, r2, r3, r4) := by first | (rw [hji4] at H; exact H) | (simp only [hji4] at H ⊢; exact H)
 (try (have hji4l : 2 ≤ ji4 := by (rw [← hji4]; unfold mx; (repeat' split) <;> omega)))
 (try (have hji4m : 0 ≤ ji4 := by omega))
 have hji4_ : (if a1 < 2 then 2 else a1) = ji4 := hji4
 replace H := zi H
 obtain ⟨⟨t108, t109, t110⟩, A5, H⟩ := H
 try dsimp only at H
 replace H := zi H
 obtain ⟨⟨t111, t112, t113⟩, A6, H⟩ := H
 try dsimp only at H
 obtain ⟨y114, hy114⟩ : ∃ y_ : List Int, y_ = (([0, wrap64 (t108 - 10), wrap64 (t111 - (wrap64 (Int.tdiv a2 2))), a2, wrap64 (-a2), wrap64 (a2 + 1)] : List Int)) := ⟨_, rfl⟩
 replace H : ((spec_l01Pick.f s0_0 t112 t113 y114).bind fun bt117 => ((spec_l01Next.f s0_0 bt117.2.1 bt117.2.2 30).bind fun bt120 => ((spec_l01Next.f s0_0 bt120.2.1 bt120.2.2 6).bind fun bt123 => ((spec_l01Power.f k (mn (ji4) 7) bt123.1).bind fun t126 => ((spec_l01Next.f s0_0 bt123.2.1 bt123.2.2 4).bind fun bt127 => ((spec_l01Power.f k (mn (ji4) 7) bt127.1).bind fun t130 => ((spec_l01Next.f s0_0 bt127.2.1 bt127.2.2 9).bind fun bt131 => ((spec_l01Next.f s0_0 bt131.2.1 bt131.2.2 a2).bind fun bt134 => ((spec_l01Pick.f s0_0 bt134.2.1 bt134.2.2 (([1, (-1), wrap64 (1 + bt120.1), t126, wrap64 (t130 * (wrap64 (1 + bt131.1))), bt134.1] : List Int))).bind fun bt140 => ((spec_l01Next.f s0_0 bt140.2.1 bt140.2.2 30).bind fun bt143 => (if bt143.1 = 0 then ((spec_l01Pick.f s0_0 bt143.2.1 bt143.2.2 (([0, wrap64 (a2 + 1)] : List Int))).bind fun bt149 => (some (bt117.1, bt149.1, bt149.2.1, bt149.2.2))) else (some (bt117.1, bt140.1, bt143.2.1, bt143.2.2))))))))))))) = some (r1, r2, r3, r4) := by first | exact hy114 ▸ H | exact H
 have Ny114 := Aside0.mk hy114
 clear hy114
 replace H := zi H
 obtain ⟨⟨t117, t118, t119⟩, A7, H⟩ := H
 try dsimp only at H
 replace H := zi H
 obtain ⟨⟨t120, t121, t122⟩, A8, H⟩ := H
 try dsimp only at H
 obtain ⟨ji9, hji9⟩ : ∃ j_ : Int, (mn (ji4) 7) = j_ := ⟨_, rfl⟩
 replace H : ((spec_l01Next.f s0_0 t121 t122 6).bind fun bt123 => ((spec_l01Power.f k (ji9) bt123.1).bind fun t126 => ((spec_l01Next.f s0_0 bt123.2.1 bt123.2.2 4).bind fun bt127 => ((spec_l01Power.f k (ji9) bt127.1).bind fun t130 => ((spec_l01Next.f s0_0 bt127.2.1 bt127.2.2 9).bind fun bt131 => ((spec_l01Next.f s0_0 bt131.2.1 bt131.2.2 a2).bind fun bt134 => ((spec_l01Pick.f s0_0 bt134.2.1 bt134.2.2 (([1, (-1), wrap64 (1 + t120), t126, wrap64 (t130 * (wrap64 (1 + bt131.1))), bt134.1] : List Int))).bind fun bt140 => ((spec_l01Next.f s0_0 bt140.2.1 bt140.2.2 30).bind fun bt143 => (if bt143.1 = 0 then ((spec_l01Pick.f s0_0 bt143.2.1 bt143.2.2 (([0, wrap64 (a2 + 1)] : List Int))).bind fun bt149 => (some (t117, bt149.1, bt149.2.1, bt149.2.2))) else (some (t117, bt140.1, bt143.2.1, bt143.2.2))))))))))) = some (r1, r2, r3, r4) := by first | (rw [hji9] at H; exact H) | (simp only [hji9] at H ⊢; exact H)
 (try rw [hji9] at A5)
 (try rw [hji9] at A6)
 (try rw [hji9] at A7)
 (try rw [hji9] at A8)
 have hji9_ : (if 7 < (ji4) then 7 else (ji4)) = ji9 := hji9
 replace H := zi H
 obtain ⟨⟨t123, t124, t125⟩, A10, H⟩ := H
 try dsimp only at H
 replace H := zi H
 obtain ⟨t126, A11, H⟩ := H
 try dsimp only at H
 replace H := zi H
 obtain ⟨⟨t127, t128, t129⟩, A13, H⟩ := H
 try dsimp only at H
 replace H := zi H
 obtain ⟨t130, A14, H⟩ := H
 try dsimp only at H
 replace H := zi H
 obtain ⟨⟨t131, t132, t133⟩, A15, H⟩ := H
 try dsimp only at H
 replace H := zi H
 obtain ⟨⟨t134, t135, t136⟩, A16, H⟩ := H
 try dsimp only at H
 obtain ⟨y137, hy137⟩ : ∃ y_ : List Int, y_ = (([1, (-1), wrap64 (1 + t120), t126, wrap64 (t130 * (wrap64 (1 + t131))), t134] : List Int)) := ⟨_, rfl⟩
 replace H : ((spec_l01Pick.f s0_0 t135 t136 y137).bind fun bt140 => ((spec_l01Next.f s0_0 bt140.2.1 bt140.2.2 30).bind fun bt143 => (if bt143.1 = 0 then ((spec_l01Pick.f s0_0 bt143.2.1 bt143.2.2 (([0, wrap64 (a2 + 1)] : List Int))).bind fun bt149 => (some (t117, bt149.1, bt149.2.1, bt149.2.2))) else (some (t117, bt140.1, bt143.2.1, bt143.2.2))))) = some (r1, r2, r3, r4) := by first | exact hy137 ▸ H | exact H
 have Ny137 := Aside0.mk hy137
 clear hy137
 replace H := zi H
 obtain ⟨⟨t140, t141, t142⟩, A17, H⟩ := H
 try dsimp only at H
 replace H := zi H
 obtain ⟨⟨t143, t144, t145⟩, A18, H⟩ := H
 try dsimp only at H
 replace H := ii H
 rcases H with ⟨c19, H⟩ | ⟨c19, H⟩
 ·obtain ⟨c19b0, c19b1⟩ := zz c19
  clear c19
  obtain ⟨y146, hy146⟩ : ∃ y_ : List Int, y_ = (([0, wrap64 (a2 + 1)] : List Int)) := ⟨_, rfl⟩
  replace H : ((spec_l01Pick.f s0_0 t144 t145 y146).bind fun bt149 => (some (t117, bt149.1, bt149.2.1, bt149.2.2))) = some (r1, r2, r3, r4) := by first | exact hy146 ▸ H | exact H
  have Ny146 := Aside0.mk hy146
  clear hy146
  replace H := zi H
  obtain ⟨⟨t149, t150, t151⟩, A20, H⟩ := H
  try dsimp only at H
  simp only [Option.some.injEq, Prod.mk.injEq] at H
  obtain ⟨rfl, rfl, rfl, rfl⟩ := H
  go_enter Tryz.func27, Tryz.ntmps27
  go_wp2_with (first | ((with_reducible refine zf 44 rfl ?_); refine g1 (some 14) Tryz.func44 #[.pointer (some ⟨g, 0, none⟩), .int .i64 20] ?_; (with_reducible refine (spec_l01Next.calls g s0_0 s0_1 s0_2 20 t108 t109 t110 w0 _ ?side1 ?side2 A5.out).mono ?_); (case side1 => exact IsS79.a); (case side2 => exact IsS79.b); rintro e w21 ⟨rfl, hi, hb, hk⟩; refine ⟨_, rfl, ?_⟩; replace HK := Aside0.mk (KeepBut.trans (kl) hk (.inl rfl)); replace HI0 := Aside0.mk (hi); replace HB := Aside0.mk (hb); (try clear hb hk)) | ((with_reducible refine zf 44 rfl ?_); refine g1 (some 18) Tryz.func44 #[.pointer (some ⟨g, 0, none⟩), .int .i64 a2] ?_; (with_reducible refine (spec_l01Next.calls g s0_0 t109 t110 a2 t111 t112 t113 w0 _ ?side1 ?side2 A6.out).mono ?_); (case side1 => exact IsS79.a); (case side2 => exact IsS79.b); rintro e w22 ⟨rfl, hi, hb, hk⟩; refine ⟨_, rfl, ?_⟩; replace HK := Aside0.mk (KeepBut.trans (kl) hk (.inl rfl)); replace HI0 := Aside0.mk (hi); replace HB := Aside0.mk (hb); (try clear hb hk)) | ((with_reducible refine zg 27 rfl ?_); refine Kd.R_lit (Kd.int .i64) _ 2 ?hg (N := 27) ?hd (xs := ([0, wrap64 (t108 - 10), wrap64 (t111 - (wrap64 (Int.tdiv a2 2))), a2, wrap64 (-a2), wrap64 (a2 + 1)] : List Int)) (inner := [.int .i64 0, .int .i64 (wrap64 (t108 - 10)), .int .i64 (wrap64 (t111 - (wrap64 (Int.tdiv a2 2)))), .int .i64 a2, .int .i64 (wrap64 (-a2)), .int .i64 (wrap64 (a2 + 1))]) (ok := fun _ => True) (okp := fun _ => True) ?hr ?hp (fun _ hk => hk) trivial (Below.refl _ _) (Nat.le_refl _) (by simp) ?_; (case hd => rfl); (case hg => rfl); (case hr => first | (go_simp; done) | (go_simp; rfl)); (case hp => exact (Reps.one (show Kd.M (Kd.int .i64) _ _ _ 0 [.int .i64 0] from rfl) (Reps.one (show Kd.M (Kd.int .i64) _ _ _ (wrap64 (t108 - 10)) [.int .i64 (wrap64 (t108 - 10))] from rfl) (Reps.one (show Kd.M (Kd.int .i64) _ _ _ (wrap64 (t111 - (wrap64 (Int.tdiv a2 2)))) [.int .i64 (wrap64 (t111 - (wrap64 (Int.tdiv a2 2))))] from rfl) (Reps.one (show Kd.M (Kd.int .i64) _ _ _ a2 [.int .i64 a2] from rfl) (Reps.one (show Kd.M (Kd.int .i64) _ _ _ (wrap64 (-a2)) [.int .i64 (wrap64 (-a2))] from rfl) (Reps.one (show Kd.M (Kd.int .i64) _ _ _ (wrap64 (a2 + 1)) [.int .i64 (wrap64 (a2 + 1))] from rfl) (Reps.none _ _)))))))); intro v115 w23 ho24 hb hg_ hnew_; clear hg_ hnew_; (first | rw [← Ny114.out] at ho24 | (simp only [Int.reduceToNat] at ho24; rw [← Ny114.out] at ho24)); have HO116 := Aside0.mk (Kd.R_lower ho24 (keep_size (w := w) (g := g) (row := none) (kl))); replace HK := Aside0.mk (KeepBut.trans (kl) (KeepBut.of_below hb g none) (.inl rfl)); replace HB := Aside0.mk (below_step IsS79.b hb); replace HI0 := Aside0.mk (IsS79.below (IsS79.a) hb); clear hb ho24; obtain ⟨Ao25, co25, eo25⟩ := Kd.R_slice HO116.out; subst eo25) | ((with_reducible refine zf 28 rfl ?_); refine g1 (some 28) Tryz.func28 #[.pointer (some ⟨g, 0, none⟩), .slice Ao25 y114.length co25] ?_; (with_reducible refine (spec_l01Pick.calls g s0_0 t112 t113 _ _ y114 t117 t118 t119 w0 _ ?side1 ?side2 ?side3 ?side4 ?side5 A7.out).mono ?_); (case side1 => exact IsS79.a); (case side2 => exact IsS79.b); (case side3 => repeat (first | exact (Kd.R_reads' HO116.out).2.2 | (with_reducible refine Kd.C_alloc ?_ _) | (with_reducible refine Kd.C_drewN ?_ _) | (with_reducible refine Kd.C_drew ?_))); (case side4 => exact (Kd.R_reads' HO116.out).2.1); (case side5 => exact far_slice (IsS79.own_ne HI0.out HO116.out (by decide))); rintro e w26 ⟨rfl, hi, hb, hk⟩; refine ⟨_, rfl, ?_⟩; replace HO116 := Aside0.mk (Kd.R_mono (Kd.R_keep (IsS79.apart (IsS79.a : IsS79 w0 _ g s0_0 t112 t113) (by (with_reducible repeat (first | apply Kd.R_alloc | apply Kd.R_drewN | apply Kd.R_drew)); exact HO116.out) (by decide)) hk (fun _ h => h.2)) (fun _ h => h.1)); replace HK := Aside0.mk (KeepBut.trans (kl) hk (.inl rfl)); replace HI0 := Aside0.mk (hi); replace HB := Aside0.mk (hb); (try clear hb hk)) | ((with_reducible refine zf 44 rfl ?_); refine g1 (some 31) Tryz.func44 #[.pointer (some ⟨g, 0, none⟩), .int .i64 30] ?_; (with_reducible refine (spec_l01Next.calls g s0_0 t118 t119 30 t120 t121 t122 w0 _ ?side1 ?side2 A8.out).mono ?_); (case side1 => exact IsS79.a); (case side2 => exact IsS79.b); rintro e w27 ⟨rfl, hi, hb, hk⟩; refine ⟨_, rfl, ?_⟩; replace HO116 := Aside0.mk (Kd.R_mono (Kd.R_keep (IsS79.apart (IsS79.a : IsS79 w0 _ g s0_0 t118 t119) (by (with_reducible repeat (first | apply Kd.R_alloc | apply Kd.R_drewN | apply Kd.R_drew)); exact HO116.out) (by decide)) hk (fun _ h => h.2)) (fun _ h => h.1)); replace HK := Aside0.mk (KeepBut.trans (kl) hk (.inl rfl)); replace HI0 := Aside0.mk (hi); replace HB := Aside0.mk (hb); (try clear hb hk)) | ((with_reducible refine zf 44 rfl ?_); refine g1 (some 36) Tryz.func44 #[.pointer (some ⟨g, 0, none⟩), .int .i64 6] ?_; (with_reducible refine (spec_l01Next.calls g s0_0 t121 t122 6 t123 t124 t125 w0 _ ?side1 ?side2 A10.out).mono ?_); (case side1 => exact IsS79.a); (case side2 => exact IsS79.b); rintro e w28 ⟨rfl, hi, hb, hk⟩; refine ⟨_, rfl, ?_⟩; replace HO116 := Aside0.mk (Kd.R_mono (Kd.R_keep (IsS79.apart (IsS79.a : IsS79 w0 _ g s0_0 t121 t122) (by (with_reducible repeat (first | apply Kd.R_alloc | apply Kd.R_drewN | apply Kd.R_drew)); exact HO116.out) (by decide)) hk (fun _ h => h.2)) (fun _ h => h.1)); replace HK := Aside0.mk (KeepBut.trans (kl) hk (.inl rfl)); replace HI0 := Aside0.mk (hi); replace HB := Aside0.mk (hb); (try clear hb hk)) | ((with_reducible refine zf 57 rfl ?_); refine goesL_ (some 37) rfl rfl Tryz.func57 (by kernel_rfl) rfl #[.int .i64 ji9, .int .i64 t123] rfl (by (try simp only [List.map_toArray, List.map_cons, List.map_nil]); first | done | (simp only [hji9]; rfl) | rfl | (simp only [List.length_drop, List.length_take]; rfl)) ?_; (with_reducible refine (spec_l01Power.calls k ji9 t123 t126 _ A11.out).mono ?_); rintro e w' ⟨rfl, ⟨nd, rfl⟩⟩; refine ⟨_, rfl, ?_⟩) | ((with_reducible refine zf 44 rfl ?_); refine g1 (some 41) Tryz.func44 #[.pointer (some ⟨g, 0, none⟩), .int .i64 4] ?_; (with_reducible refine (spec_l01Next.calls g s0_0 t124 t125 4 t127 t128 t129 w0 _ ?side1 ?side2 A13.out).mono ?_); (case side1 => exact IsS79.a); (case side2 => exact IsS79.b); rintro e w29 ⟨rfl, hi, hb, hk⟩; refine ⟨_, rfl, ?_⟩; replace HO116 := Aside0.mk (Kd.R_mono (Kd.R_keep (IsS79.apart (IsS79.a : IsS79 w0 _ g s0_0 t124 t125) (by (with_reducible repeat (first | apply Kd.R_alloc | apply Kd.R_drewN | apply Kd.R_drew)); exact HO116.out) (by decide)) hk (fun _ h => h.2)) (fun _ h => h.1)); replace HK := Aside0.mk (KeepBut.trans (kl) hk (.inl rfl)); replace HI0 := Aside0.mk (hi); replace HB := Aside0.mk (hb); (try clear hb hk)) | ((with_reducible refine zf 57 rfl ?_); refine goesL_ (some 42) rfl rfl Tryz.func57 (by kernel_rfl) rfl #[.int .i64 ji9, .int .i64 t127] rfl (by (try simp only [List.map_toArray, List.map_cons, List.map_nil]); first | done | (simp only [hji9]; rfl) | rfl | (simp only [List.length_drop, List.length_take]; rfl)) ?_; (with_reducible refine (spec_l01Power.calls k ji9 t127 t130 _ A14.out).mono ?_); rintro e w' ⟨rfl, ⟨nd, rfl⟩⟩; refine ⟨_, rfl, ?_⟩) | ((with_reducible refine zf 44 rfl ?_); refine g1 (some 44) Tryz.func44 #[.pointer (some ⟨g, 0, none⟩), .int .i64 9] ?_; (with_reducible refine (spec_l01Next.calls g s0_0 t128 t129 9 t131 t132 t133 w0 _ ?side1 ?side2 A15.out).mono ?_); (case side1 => exact IsS79.a); (case side2 => exact IsS79.b); rintro e w30 ⟨rfl, hi, hb, hk⟩; refine ⟨_, rfl, ?_⟩; replace HO116 := Aside0.mk (Kd.R_mono (Kd.R_keep (IsS79.apart (IsS79.a : IsS79 w0 _ g s0_0 t128 t129) (by (with_reducible repeat (first | apply Kd.R_alloc | apply Kd.R_drewN | apply Kd.R_drew)); exact HO116.out) (by decide)) hk (fun _ h => h.2)) (fun _ h => h.1)); replace HK := Aside0.mk (KeepBut.trans (kl) hk (.inl rfl)); replace HI0 := Aside0.mk (hi); replace HB := Aside0.mk (hb); (try clear hb hk)) | ((with_reducible refine zf 44 rfl ?_); refine g1 (some 49) Tryz.func44 #[.pointer (some ⟨g, 0, none⟩), .int .i64 a2] ?_; (with_reducible refine (spec_l01Next.calls g s0_0 t132 t133 a2 t134 t135 t136 w0 _ ?side1 ?side2 A16.out).mono ?_); (case side1 => exact IsS79.a); (case side2 => exact IsS79.b); rintro e w31 ⟨rfl, hi, hb, hk⟩; refine ⟨_, rfl, ?_⟩; replace HO116 := Aside0.mk (Kd.R_mono (Kd.R_keep (IsS79.apart (IsS79.a : IsS79 w0 _ g s0_0 t132 t133) (by (with_reducible repeat (first | apply Kd.R_alloc | apply Kd.R_drewN | apply Kd.R_drew)); exact HO116.out) (by decide)) hk (fun _ h => h.2)) (fun _ h => h.1)); replace HK := Aside0.mk (KeepBut.trans (kl) hk (.inl rfl)); replace HI0 := Aside0.mk (hi); replace HB := Aside0.mk (hb); (try clear hb hk)) | ((with_reducible refine zg 50 rfl ?_); refine Kd.R_lit (Kd.int .i64) _ 2 ?hg (N := 50) ?hd (xs := ([1, (-1), wrap64 (1 + t120), t126, wrap64 (t130 * (wrap64 (1 + t131))), t134] : List Int)) (inner := [.int .i64 1, .int .i64 (-1), .int .i64 (wrap64 (1 + t120)), .int .i64 t126, .int .i64 (wrap64 (t130 * (wrap64 (1 + t131)))), .int .i64 t134]) (ok := fun _ => True) (okp := fun _ => True) ?hr ?hp (fun _ hk => hk) trivial (Below.refl _ _) (Nat.le_refl _) (by simp) ?_; (case hd => rfl); (case hg => rfl); (case hr => first | (go_simp; done) | (go_simp; rfl)); (case hp => exact (Reps.one (show Kd.M (Kd.int .i64) _ _ _ 1 [.int .i64 1] from rfl) (Reps.one (show Kd.M (Kd.int .i64) _ _ _ (-1) [.int .i64 (-1)] from rfl) (Reps.one (show Kd.M (Kd.int .i64) _ _ _ (wrap64 (1 + t120)) [.int .i64 (wrap64 (1 + t120))] from rfl) (Reps.one (show Kd.M (Kd.int .i64) _ _ _ t126 [.int .i64 t126] from rfl) (Reps.one (show Kd.M (Kd.int .i64) _ _ _ (wrap64 (t130 * (wrap64 (1 + t131)))) [.int .i64 (wrap64 (t130 * (wrap64 (1 + t131))))] from rfl) (Reps.one (show Kd.M (Kd.int .i64) _ _ _ t134 [.int .i64 t134] from rfl) (Reps.none _ _)))))))); intro v138 w32 ho33 hb hg_ hnew_; clear hg_ hnew_; (first | rw [← Ny137.out] at ho33 | (simp only [Int.reduceToNat] at ho33; rw [← Ny137.out] at ho33)); have HO139 := Aside0.mk (Kd.R_lower (Kd.R_new' ho33 (Kd.R_lt (by (with_reducible repeat (first | apply Kd.R_alloc | apply Kd.R_drewN | apply Kd.R_drew)); exact HO116.out))) (keep_size (w := w) (g := g) (row := none) (kl))); replace HO116 := Aside0.mk (Kd.R_elder' (by (with_reducible repeat (first | apply Kd.R_alloc | apply Kd.R_drewN | apply Kd.R_drew)); exact HO116.out) (Kd.R_base ho33) hb); replace HK := Aside0.mk (KeepBut.trans (kl) (KeepBut.of_below hb g none) (.inl rfl)); replace HB := Aside0.mk (below_step IsS79.b hb); replace HI0 := Aside0.mk (IsS79.below (IsS79.a) hb); clear hb ho33; obtain ⟨Ao34, co34, eo34⟩ := Kd.R_slice HO139.out; subst eo34) | ((with_reducible refine zf 28 rfl ?_); refine g1 (some 51) Tryz.func28 #[.pointer (some ⟨g, 0, none⟩), .slice Ao34 y137.length co34] ?_; (with_reducible refine (spec_l01Pick.calls g s0_0 t135 t136 _ _ y137 t140 t141 t142 w0 _ ?side1 ?side2 ?side3 ?side4 ?side5 A17.out).mono ?_); (case side1 => exact IsS79.a); (case side2 => exact IsS79.b); (case side3 => repeat (first | exact (Kd.R_reads' HO139.out).2.2 | (with_reducible refine Kd.C_alloc ?_ _) | (with_reducible refine Kd.C_drewN ?_ _) | (with_reducible refine Kd.C_drew ?_))); (case side4 => exact (Kd.R_reads' HO139.out).2.1); (case side5 => exact far_slice (IsS79.own_ne HI0.out HO139.out (by decide))); rintro e w35 ⟨rfl, hi, hb, hk⟩; refine ⟨_, rfl, ?_⟩; replace HO116 := Aside0.mk (Kd.R_mono (Kd.R_keep (IsS79.apart (IsS79.a : IsS79 w0 _ g s0_0 t135 t136) (by (with_reducible repeat (first | apply Kd.R_alloc | apply Kd.R_drewN | apply Kd.R_drew)); exact HO116.out) (by decide)) hk (fun _ h => h.2)) (fun _ h => h.1)); replace HO139 := Aside0.mk (Kd.R_mono (Kd.R_keep (IsS79.apart (IsS79.a : IsS79 w0 _ g s0_0 t135 t136) (by (with_reducible repeat (first | apply Kd.R_alloc | apply Kd.R_drewN | apply Kd.R_drew)); exact HO139.out) (by decide)) hk (fun _ h => h.2)) (fun _ h => h.1)); replace HK := Aside0.mk (KeepBut.trans (kl) hk (.inl rfl)); replace HI0 := Aside0.mk (hi); replace HB := Aside0.mk (hb); (try clear hb hk)) | ((with_reducible refine zf 44 rfl ?_); refine g1 (some 53) Tryz.func44 #[.pointer (some ⟨g, 0, none⟩), .int .i64 30] ?_; (with_reducible refine (spec_l01Next.calls g s0_0 t141 t142 30 t143 t144 t145 w0 _ ?side1 ?side2 A18.out).mono ?_); (case side1 => exact IsS79.a); (case side2 => exact IsS79.b); rintro e w36 ⟨rfl, hi, hb, hk⟩; refine ⟨_, rfl, ?_⟩; replace HO116 := Aside0.mk (Kd.R_mono (Kd.R_keep (IsS79.apart (IsS79.a : IsS79 w0 _ g s0_0 t141 t142) (by (with_reducible repeat (first | apply Kd.R_alloc | apply Kd.R_drewN | apply Kd.R_drew)); exact HO116.out) (by decide)) hk (fun _ h => h.2)) (fun _ h => h.1)); replace HO139 := Aside0.mk (Kd.R_mono (Kd.R_keep (IsS79.apart (IsS79.a : IsS79 w0 _ g s0_0 t141 t142) (by (with_reducible repeat (first | apply Kd.R_alloc | apply Kd.R_drewN | apply Kd.R_drew)); exact HO139.out) (by decide)) hk (fun _ h => h.2)) (fun _ h => h.1)); replace HK := Aside0.mk (KeepBut.trans (kl) hk (.inl rfl)); replace HI0 := Aside0.mk (hi); replace HB := Aside0.mk (hb); (try clear hb hk)) | ((with_reducible refine zg 58 rfl ?_); refine Kd.R_lit (Kd.int .i64) _ 2 ?hg (N := 58) ?hd (xs := ([0, wrap64 (a2 + 1)] : List Int)) (inner := [.int .i64 0, .int .i64 (wrap64 (a2 + 1))]) (ok := fun _ => True) (okp := fun _ => True) ?hr ?hp (fun _ hk => hk) trivial (Below.refl _ _) (Nat.le_refl _) (by simp) ?_; (case hd => rfl); (case hg => rfl); (case hr => first | (go_simp; done) | (go_simp; rfl)); (case hp => exact (Reps.one (show Kd.M (Kd.int .i64) _ _ _ 0 [.int .i64 0] from rfl) (Reps.one (show Kd.M (Kd.int .i64) _ _ _ (wrap64 (a2 + 1)) [.int .i64 (wrap64 (a2 + 1))] from rfl) (Reps.none _ _)))); intro v147 w37 ho38 hb hg_ hnew_; clear hg_ hnew_; (first | rw [← Ny146.out] at ho38 | (simp only [Int.reduceToNat] at ho38; rw [← Ny146.out] at ho38)); have HO148 := Aside0.mk (Kd.R_lower (Kd.R_new' (Kd.R_new' ho38 (Kd.R_lt (by (with_reducible repeat (first | apply Kd.R_alloc | apply Kd.R_drewN | apply Kd.R_drew)); exact HO116.out))) (Kd.R_lt (by (with_reducible repeat (first | apply Kd.R_alloc | apply Kd.R_drewN | apply Kd.R_drew)); exact HO139.out))) (keep_size (w := w) (g := g) (row := none) (kl))); replace HO116 := Aside0.mk (Kd.R_elder' (by (with_reducible repeat (first | apply Kd.R_alloc | apply Kd.R_drewN | apply Kd.R_drew)); exact HO116.out) (Kd.R_base ho38) hb); replace HO139 := Aside0.mk (Kd.R_elder' (by (with_reducible repeat (first | apply Kd.R_alloc | apply Kd.R_drewN | apply Kd.R_drew)); exact HO139.out) (Kd.R_base ho38) hb); replace HK := Aside0.mk (KeepBut.trans (kl) (KeepBut.of_below hb g none) (.inl rfl)); replace HB := Aside0.mk (below_step IsS79.b hb); replace HI0 := Aside0.mk (IsS79.below (IsS79.a) hb); clear hb ho38; obtain ⟨Ao39, co39, eo39⟩ := Kd.R_slice HO148.out; subst eo39) | ((with_reducible refine zf 28 rfl ?_); refine g1 (some 59) Tryz.func28 #[.pointer (some ⟨g, 0, none⟩), .slice Ao39 y146.length co39] ?_; (with_reducible refine (spec_l01Pick.calls g s0_0 t144 t145 _ _ y146 t149 t150 t151 w0 _ ?side1 ?side2 ?side3 ?side4 ?side5 A20.out).mono ?_); (case side1 => exact IsS79.a); (case side2 => exact IsS79.b); (case side3 => repeat (first | exact (Kd.R_reads' HO148.out).2.2 | (with_reducible refine Kd.C_alloc ?_ _) | (with_reducible refine Kd.C_drewN ?_ _) | (with_reducible refine Kd.C_drew ?_))); (case side4 => exact (Kd.R_reads' HO148.out).2.1); (case side5 => exact far_slice (IsS79.own_ne HI0.out HO148.out (by decide))); rintro e w40 ⟨rfl, hi, hb, hk⟩; refine ⟨_, rfl, ?_⟩; replace HO116 := Aside0.mk (Kd.R_mono (Kd.R_keep (IsS79.apart (IsS79.a : IsS79 w0 _ g s0_0 t144 t145) (by (with_reducible repeat (first | apply Kd.R_alloc | apply Kd.R_drewN | apply Kd.R_drew)); exact HO116.out) (by decide)) hk (fun _ h => h.2)) (fun _ h => h.1)); replace HO139 := Aside0.mk (Kd.R_mono (Kd.R_keep (IsS79.apart (IsS79.a : IsS79 w0 _ g s0_0 t144 t145) (by (with_reducible repeat (first | apply Kd.R_alloc | apply Kd.R_drewN | apply Kd.R_drew)); exact HO139.out) (by decide)) hk (fun _ h => h.2)) (fun _ h => h.1)); replace HO148 := Aside0.mk (Kd.R_mono (Kd.R_keep (IsS79.apart (IsS79.a : IsS79 w0 _ g s0_0 t144 t145) (by (with_reducible repeat (first | apply Kd.R_alloc | apply Kd.R_drewN | apply Kd.R_drew)); exact HO148.out) (by decide)) hk (fun _ h => h.2)) (fun _ h => h.1)); replace HK := Aside0.mk (KeepBut.trans (kl) hk (.inl rfl)); replace HI0 := Aside0.mk (hi); replace HB := Aside0.mk (hb); (try clear hb hk)))
  go_ret2
  exact ⟨by first | rfl | (simp [errW_none, errW_some] <;> rfl) | (simp only [← hji4, ← hji9]; first | rfl | (simp [errW_none, errW_some] <;> rfl)) | (simp [*, errW_none, errW_some] <;> rfl), IsS79.a, IsS79.b, kl⟩
 ·obtain ⟨c19b0, c19b1⟩ := zy c19
  simp only [Option.some.injEq, Prod.mk.injEq] at H
  obtain ⟨rfl, rfl, rfl, rfl⟩ := H
  go_enter Tryz.func27, Tryz.ntmps27
  go_wp2_with (first | ((with_reducible refine zf 44 rfl ?_); refine g1 (some 14) Tryz.func44 #[.pointer (some ⟨g, 0, none⟩), .int .i64 20] ?_; (with_reducible refine (spec_l01Next.calls g s0_0 s0_1 s0_2 20 t108 t109 t110 w0 _ ?side1 ?side2 A5.out).mono ?_); (case side1 => exact IsS79.a); (case side2 => exact IsS79.b); rintro e w41 ⟨rfl, hi, hb, hk⟩; refine ⟨_, rfl, ?_⟩; replace HK := Aside0.mk (KeepBut.trans (kl) hk (.inl rfl)); replace HI0 := Aside0.mk (hi); replace HB := Aside0.mk (hb); (try clear hb hk)) | ((with_reducible refine zf 44 rfl ?_); refine g1 (some 18) Tryz.func44 #[.pointer (some ⟨g, 0, none⟩), .int .i64 a2] ?_; (with_reducible refine (spec_l01Next.calls g s0_0 t109 t110 a2 t111 t112 t113 w0 _ ?side1 ?side2 A6.out).mono ?_); (case side1 => exact IsS79.a); (case side2 => exact IsS79.b); rintro e w42 ⟨rfl, hi, hb, hk⟩; refine ⟨_, rfl, ?_⟩; replace HK := Aside0.mk (KeepBut.trans (kl) hk (.inl rfl)); replace HI0 := Aside0.mk (hi); replace HB := Aside0.mk (hb); (try clear hb hk)) | ((with_reducible refine zg 27 rfl ?_); refine Kd.R_lit (Kd.int .i64) _ 2 ?hg (N := 27) ?hd (xs := ([0, wrap64 (t108 - 10), wrap64 (t111 - (wrap64 (Int.tdiv a2 2))), a2, wrap64 (-a2), wrap64 (a2 + 1)] : List Int)) (inner := [.int .i64 0, .int .i64 (wrap64 (t108 - 10)), .int .i64 (wrap64 (t111 - (wrap64 (Int.tdiv a2 2)))), .int .i64 a2, .int .i64 (wrap64 (-a2)), .int .i64 (wrap64 (a2 + 1))]) (ok := fun _ => True) (okp := fun _ => True) ?hr ?hp (fun _ hk => hk) trivial (Below.refl _ _) (Nat.le_refl _) (by simp) ?_; (case hd => rfl); (case hg => rfl); (case hr => first | (go_simp; done) | (go_simp; rfl)); (case hp => exact (Reps.one (show Kd.M (Kd.int .i64) _ _ _ 0 [.int .i64 0] from rfl) (Reps.one (show Kd.M (Kd.int .i64) _ _ _ (wrap64 (t108 - 10)) [.int .i64 (wrap64 (t108 - 10))] from rfl) (Reps.one (show Kd.M (Kd.int .i64) _ _ _ (wrap64 (t111 - (wrap64 (Int.tdiv a2 2)))) [.int .i64 (wrap64 (t111 - (wrap64 (Int.tdiv a2 2))))] from rfl) (Reps.one (show Kd.M (Kd.int .i64) _ _ _ a2 [.int .i64 a2] from rfl) (Reps.one (show Kd.M (Kd.int .i64) _ _ _ (wrap64 (-a2)) [.int .i64 (wrap64 (-a2))] from rfl) (Reps.one (show Kd.M (Kd.int .i64) _ _ _ (wrap64 (a2 + 1)) [.int .i64 (wrap64 (a2 + 1))] from rfl) (Reps.none _ _)))))))); intro v115 w43 ho44 hb hg_ hnew_; clear hg_ hnew_; (first | rw [← Ny114.out] at ho44 | (simp only [Int.reduceToNat] at ho44; rw [← Ny114.out] at ho44)); have HO116 := Aside0.mk (Kd.R_lower ho44 (keep_size (w := w) (g := g) (row := none) (kl))); replace HK := Aside0.mk (KeepBut.trans (kl) (KeepBut.of_below hb g none) (.inl rfl)); replace HB := Aside0.mk (below_step IsS79.b hb); replace HI0 := Aside0.mk (IsS79.below (IsS79.a) hb); clear hb ho44; obtain ⟨Ao45, co45, eo45⟩ := Kd.R_slice HO116.out; subst eo45) | ((with_reducible refine zf 28 rfl ?_); refine g1 (some 28) Tryz.func28 #[.pointer (some ⟨g, 0, none⟩), .slice Ao45 y114.length co45] ?_; (with_reducible refine (spec_l01Pick.calls g s0_0 t112 t113 _ _ y114 t117 t118 t119 w0 _ ?side1 ?side2 ?side3 ?side4 ?side5 A7.out).mono ?_); (case side1 => exact IsS79.a); (case side2 => exact IsS79.b); (case side3 => repeat (first | exact (Kd.R_reads' HO116.out).2.2 | (with_reducible refine Kd.C_alloc ?_ _) | (with_reducible refine Kd.C_drewN ?_ _) | (with_reducible refine Kd.C_drew ?_))); (case side4 => exact (Kd.R_reads' HO116.out).2.1); (case side5 => exact far_slice (IsS79.own_ne HI0.out HO116.out (by decide))); rintro e w46 ⟨rfl, hi, hb, hk⟩; refine ⟨_, rfl, ?_⟩; replace HO116 := Aside0.mk (Kd.R_mono (Kd.R_keep (IsS79.apart (IsS79.a : IsS79 w0 _ g s0_0 t112 t113) (by (with_reducible repeat (first | apply Kd.R_alloc | apply Kd.R_drewN | apply Kd.R_drew)); exact HO116.out) (by decide)) hk (fun _ h => h.2)) (fun _ h => h.1)); replace HK := Aside0.mk (KeepBut.trans (kl) hk (.inl rfl)); replace HI0 := Aside0.mk (hi); replace HB := Aside0.mk (hb); (try clear hb hk)) | ((with_reducible refine zf 44 rfl ?_); refine g1 (some 31) Tryz.func44 #[.pointer (some ⟨g, 0, none⟩), .int .i64 30] ?_; (with_reducible refine (spec_l01Next.calls g s0_0 t118 t119 30 t120 t121 t122 w0 _ ?side1 ?side2 A8.out).mono ?_); (case side1 => exact IsS79.a); (case side2 => exact IsS79.b); rintro e w47 ⟨rfl, hi, hb, hk⟩; refine ⟨_, rfl, ?_⟩; replace HO116 := Aside0.mk (Kd.R_mono (Kd.R_keep (IsS79.apart (IsS79.a : IsS79 w0 _ g s0_0 t118 t119) (by (with_reducible repeat (first | apply Kd.R_alloc | apply Kd.R_drewN | apply Kd.R_drew)); exact HO116.out) (by decide)) hk (fun _ h => h.2)) (fun _ h => h.1)); replace HK := Aside0.mk (KeepBut.trans (kl) hk (.inl rfl)); replace HI0 := Aside0.mk (hi); replace HB := Aside0.mk (hb); (try clear hb hk)) | ((with_reducible refine zf 44 rfl ?_); refine g1 (some 36) Tryz.func44 #[.pointer (some ⟨g, 0, none⟩), .int .i64 6] ?_; (with_reducible refine (spec_l01Next.calls g s0_0 t121 t122 6 t123 t124 t125 w0 _ ?side1 ?side2 A10.out).mono ?_); (case side1 => exact IsS79.a); (case side2 => exact IsS79.b); rintro e w48 ⟨rfl, hi, hb, hk⟩; refine ⟨_, rfl, ?_⟩; replace HO116 := Aside0.mk (Kd.R_mono (Kd.R_keep (IsS79.apart (IsS79.a : IsS79 w0 _ g s0_0 t121 t122) (by (with_reducible repeat (first | apply Kd.R_alloc | apply Kd.R_drewN | apply Kd.R_drew)); exact HO116.out) (by decide)) hk (fun _ h => h.2)) (fun _ h => h.1)); replace HK := Aside0.mk (KeepBut.trans (kl) hk (.inl rfl)); replace HI0 := Aside0.mk (hi); replace HB := Aside0.mk (hb); (try clear hb hk)) | ((with_reducible refine zf 57 rfl ?_); refine goesL_ (some 37) rfl rfl Tryz.func57 (by kernel_rfl) rfl #[.int .i64 ji9, .int .i64 t123] rfl (by (try simp only [List.map_toArray, List.map_cons, List.map_nil]); first | done | (simp only [hji9]; rfl) | rfl | (simp only [List.length_drop, List.length_take]; rfl)) ?_; (with_reducible refine (spec_l01Power.calls k ji9 t123 t126 _ A11.out).mono ?_); rintro e w' ⟨rfl, ⟨nd, rfl⟩⟩; refine ⟨_, rfl, ?_⟩) | ((with_reducible refine zf 44 rfl ?_); refine g1 (some 41) Tryz.func44 #[.pointer (some ⟨g, 0, none⟩), .int .i64 4] ?_; (with_reducible refine (spec_l01Next.calls g s0_0 t124 t125 4 t127 t128 t129 w0 _ ?side1 ?side2 A13.out).mono ?_); (case side1 => exact IsS79.a); (case side2 => exact IsS79.b); rintro e w49 ⟨rfl, hi, hb, hk⟩; refine ⟨_, rfl, ?_⟩; replace HO116 := Aside0.mk (Kd.R_mono (Kd.R_keep (IsS79.apart (IsS79.a : IsS79 w0 _ g s0_0 t124 t125) (by (with_reducible repeat (first | apply Kd.R_alloc | apply Kd.R_drewN | apply Kd.R_drew)); exact HO116.out) (by decide)) hk (fun _ h => h.2)) (fun _ h => h.1)); replace HK := Aside0.mk (KeepBut.trans (kl) hk (.inl rfl)); replace HI0 := Aside0.mk (hi); replace HB := Aside0.mk (hb); (try clear hb hk)) | ((with_reducible refine zf 57 rfl ?_); refine goesL_ (some 42) rfl rfl Tryz.func57 (by kernel_rfl) rfl #[.int .i64 ji9, .int .i64 t127] rfl (by (try simp only [List.map_toArray, List.map_cons, List.map_nil]); first | done | (simp only [hji9]; rfl) | rfl | (simp only [List.length_drop, List.length_take]; rfl)) ?_; (with_reducible refine (spec_l01Power.calls k ji9 t127 t130 _ A14.out).mono ?_); rintro e w' ⟨rfl, ⟨nd, rfl⟩⟩; refine ⟨_, rfl, ?_⟩) | ((with_reducible refine zf 44 rfl ?_); refine g1 (some 44) Tryz.func44 #[.pointer (some ⟨g, 0, none⟩), .int .i64 9] ?_; (with_reducible refine (spec_l01Next.calls g s0_0 t128 t129 9 t131 t132 t133 w0 _ ?side1 ?side2 A15.out).mono ?_); (case side1 => exact IsS79.a); (case side2 => exact IsS79.b); rintro e w50 ⟨rfl, hi, hb, hk⟩; refine ⟨_, rfl, ?_⟩; replace HO116 := Aside0.mk (Kd.R_mono (Kd.R_keep (IsS79.apart (IsS79.a : IsS79 w0 _ g s0_0 t128 t129) (by (with_reducible repeat (first | apply Kd.R_alloc | apply Kd.R_drewN | apply Kd.R_drew)); exact HO116.out) (by decide)) hk (fun _ h => h.2)) (fun _ h => h.1)); replace HK := Aside0.mk (KeepBut.trans (kl) hk (.inl rfl)); replace HI0 := Aside0.mk (hi); replace HB := Aside0.mk (hb); (try clear hb hk)) | ((with_reducible refine zf 44 rfl ?_); refine g1 (some 49) Tryz.func44 #[.pointer (some ⟨g, 0, none⟩), .int .i64 a2] ?_; (with_reducible refine (spec_l01Next.calls g s0_0 t132 t133 a2 t134 t135 t136 w0 _ ?side1 ?side2 A16.out).mono ?_); (case side1 => exact IsS79.a); (case side2 => exact IsS79.b); rintro e w51 ⟨rfl, hi, hb, hk⟩; refine ⟨_, rfl, ?_⟩; replace HO116 := Aside0.mk (Kd.R_mono (Kd.R_keep (IsS79.apart (IsS79.a : IsS79 w0 _ g s0_0 t132 t133) (by (with_reducible repeat (first | apply Kd.R_alloc | apply Kd.R_drewN | apply Kd.R_drew)); exact HO116.out) (by decide)) hk (fun _ h => h.2)) (fun _ h => h.1)); replace HK := Aside0.mk (KeepBut.trans (kl) hk (.inl rfl)); replace HI0 := Aside0.mk (hi); replace HB := Aside0.mk (hb); (try clear hb hk)) | ((with_reducible refine zg 50 rfl ?_); refine Kd.R_lit (Kd.int .i64) _ 2 ?hg (N := 50) ?hd (xs := ([1, (-1), wrap64 (1 + t120), t126, wrap64 (t130 * (wrap64 (1 + t131))), t134] : List Int)) (inner := [.int .i64 1, .int .i64 (-1), .int .i64 (wrap64 (1 + t120)), .int .i64 t126, .int .i64 (wrap64 (t130 * (wrap64 (1 + t131)))), .int .i64 t134]) (ok := fun _ => True) (okp := fun _ => True) ?hr ?hp (fun _ hk => hk) trivial (Below.refl _ _) (Nat.le_refl _) (by simp) ?_; (case hd => rfl); (case hg => rfl); (case hr => first | (go_simp; done) | (go_simp; rfl)); (case hp => exact (Reps.one (show Kd.M (Kd.int .i64) _ _ _ 1 [.int .i64 1] from rfl) (Reps.one (show Kd.M (Kd.int .i64) _ _ _ (-1) [.int .i64 (-1)] from rfl) (Reps.one (show Kd.M (Kd.int .i64) _ _ _ (wrap64 (1 + t120)) [.int .i64 (wrap64 (1 + t120))] from rfl) (Reps.one (show Kd.M (Kd.int .i64) _ _ _ t126 [.int .i64 t126] from rfl) (Reps.one (show Kd.M (Kd.int .i64) _ _ _ (wrap64 (t130 * (wrap64 (1 + t131)))) [.int .i64 (wrap64 (t130 * (wrap64 (1 + t131))))] from rfl) (Reps.one (show Kd.M (Kd.int .i64) _ _ _ t134 [.int .i64 t134] from rfl) (Reps.none _ _)))))))); intro v138 w52 ho53 hb hg_ hnew_; clear hg_ hnew_; (first | rw [← Ny137.out] at ho53 | (simp only [Int.reduceToNat] at ho53; rw [← Ny137.out] at ho53)); have HO139 := Aside0.mk (Kd.R_lower (Kd.R_new' ho53 (Kd.R_lt (by (with_reducible repeat (first | apply Kd.R_alloc | apply Kd.R_drewN | apply Kd.R_drew)); exact HO116.out))) (keep_size (w := w) (g := g) (row := none) (kl))); replace HO116 := Aside0.mk (Kd.R_elder' (by (with_reducible repeat (first | apply Kd.R_alloc | apply Kd.R_drewN | apply Kd.R_drew)); exact HO116.out) (Kd.R_base ho53) hb); replace HK := Aside0.mk (KeepBut.trans (kl) (KeepBut.of_below hb g none) (.inl rfl)); replace HB := Aside0.mk (below_step IsS79.b hb); replace HI0 := Aside0.mk (IsS79.below (IsS79.a) hb); clear hb ho53; obtain ⟨Ao54, co54, eo54⟩ := Kd.R_slice HO139.out; subst eo54) | ((with_reducible refine zf 28 rfl ?_); refine g1 (some 51) Tryz.func28 #[.pointer (some ⟨g, 0, none⟩), .slice Ao54 y137.length co54] ?_; (with_reducible refine (spec_l01Pick.calls g s0_0 t135 t136 _ _ y137 t140 t141 t142 w0 _ ?side1 ?side2 ?side3 ?side4 ?side5 A17.out).mono ?_); (case side1 => exact IsS79.a); (case side2 => exact IsS79.b); (case side3 => repeat (first | exact (Kd.R_reads' HO139.out).2.2 | (with_reducible refine Kd.C_alloc ?_ _) | (with_reducible refine Kd.C_drewN ?_ _) | (with_reducible refine Kd.C_drew ?_))); (case side4 => exact (Kd.R_reads' HO139.out).2.1); (case side5 => exact far_slice (IsS79.own_ne HI0.out HO139.out (by decide))); rintro e w55 ⟨rfl, hi, hb, hk⟩; refine ⟨_, rfl, ?_⟩; replace HO116 := Aside0.mk (Kd.R_mono (Kd.R_keep (IsS79.apart (IsS79.a : IsS79 w0 _ g s0_0 t135 t136) (by (with_reducible repeat (first | apply Kd.R_alloc | apply Kd.R_drewN | apply Kd.R_drew)); exact HO116.out) (by decide)) hk (fun _ h => h.2)) (fun _ h => h.1)); replace HO139 := Aside0.mk (Kd.R_mono (Kd.R_keep (IsS79.apart (IsS79.a : IsS79 w0 _ g s0_0 t135 t136) (by (with_reducible repeat (first | apply Kd.R_alloc | apply Kd.R_drewN | apply Kd.R_drew)); exact HO139.out) (by decide)) hk (fun _ h => h.2)) (fun _ h => h.1)); replace HK := Aside0.mk (KeepBut.trans (kl) hk (.inl rfl)); replace HI0 := Aside0.mk (hi); replace HB := Aside0.mk (hb); (try clear hb hk)) | ((with_reducible refine zf 44 rfl ?_); refine g1 (some 53) Tryz.func44 #[.pointer (some ⟨g, 0, none⟩), .int .i64 30] ?_; (with_reducible refine (spec_l01Next.calls g s0_0 t141 t142 30 t143 t144 t145 w0 _ ?side1 ?side2 A18.out).mono ?_); (case side1 => exact IsS79.a); (case side2 => exact IsS79.b); rintro e w56 ⟨rfl, hi, hb, hk⟩; refine ⟨_, rfl, ?_⟩; replace HO116 := Aside0.mk (Kd.R_mono (Kd.R_keep (IsS79.apart (IsS79.a : IsS79 w0 _ g s0_0 t141 t142) (by (with_reducible repeat (first | apply Kd.R_alloc | apply Kd.R_drewN | apply Kd.R_drew)); exact HO116.out) (by decide)) hk (fun _ h => h.2)) (fun _ h => h.1)); replace HO139 := Aside0.mk (Kd.R_mono (Kd.R_keep (IsS79.apart (IsS79.a : IsS79 w0 _ g s0_0 t141 t142) (by (with_reducible repeat (first | apply Kd.R_alloc | apply Kd.R_drewN | apply Kd.R_drew)); exact HO139.out) (by decide)) hk (fun _ h => h.2)) (fun _ h => h.1)); replace HK := Aside0.mk (KeepBut.trans (kl) hk (.inl rfl)); replace HI0 := Aside0.mk (hi); replace HB := Aside0.mk (hb); (try clear hb hk)))
  go_ret2
  exact ⟨by first | rfl | (simp [errW_none, errW_some] <;> rfl) | (simp only [← hji4, ← hji9]; first | rfl | (simp [errW_none, errW_some] <;> rfl)) | (simp [*, errW_none, errW_some] <;> rfl), IsS79.a, IsS79.b, kl⟩

/-! ### spec_DrawEndOf: function 5 -/
def spec_DrawEndOf.f (k : Nat) (l0 : List Int) : Option (Int × Int) := (spec_l01From.f k l0).bind fun bt152 => ((spec_l01Pick.f bt152.1 bt152.2.1 bt152.2.2 (([100, 1000000, 100000000000000000] : List Int))).bind fun bt159 => ((spec_l01Parts.f k bt152.1 bt159.2.1 bt159.2.2 2 bt159.1).bind fun bt162 => (some (bt162.1, bt162.2.1))))
set_option maxHeartbeats 8000000 in
set_option maxRecDepth 100000 in
theorem spec_DrawEndOf.calls (k : Nat) (A0 : Option Addr) (c0 : Nat) (l0 : List Int) (r1 : Int) (r2 : Int) (w : World) (hr0 : Kd.C (Kd.int .u8) w A0 l0.length l0) (hc0 : l0.length ≤ c0) (h : spec_DrawEndOf.f k l0 = some (r1, r2)) :
  Calls Tryz.prog 5 #[.slice A0 l0.length c0] w fun e w' => e = .returned (.tuple #[.int .i64 r1, .int .i64 r2]) ∧ Below w.heap.size w w' := by
 have HR0 := Aside0.mk hr0
 have HC0 := Aside0.mk hc0
 clear hr0 hc0
 have HB := Aside0.mk (Below.refl w.heap.size w)
 unfold spec_DrawEndOf.f at h
 have H := h
 clear h
 replace H := zi H
 obtain ⟨⟨t152, t153, t154⟩, A2, H⟩ := H
 try dsimp only at H
 obtain ⟨y156, hy156⟩ : ∃ y_ : List Int, y_ = (([100, 1000000, 100000000000000000] : List Int)) := ⟨_, rfl⟩
 replace H : ((spec_l01Pick.f t152 t153 t154 y156).bind fun bt159 => ((spec_l01Parts.f k t152 bt159.2.1 bt159.2.2 2 bt159.1).bind fun bt162 => (some (bt162.1, bt162.2.1)))) = some (r1, r2) := by first | exact hy156 ▸ H | exact H
 have Ny156 := Aside0.mk hy156
 clear hy156
 replace H := zi H
 obtain ⟨⟨t159, t160, t161⟩, A3, H⟩ := H
 try dsimp only at H
 replace H := zi H
 obtain ⟨⟨t162, t163, t164, t165⟩, A4, H⟩ := H
 try dsimp only at H
 simp only [Option.some.injEq, Prod.mk.injEq] at H
 obtain ⟨rfl, rfl⟩ := H
 go_enter Tryz.func5, Tryz.ntmps5
 go_wp2_with (first | ((with_reducible refine zf 26 rfl ?_); refine g1 (some 8) Tryz.func26 #[.slice A0 l0.length c0] ?_; (with_reducible refine (spec_l01From.calls k _ _ l0 t152 t153 t154 w _ ?side1 ?side2 ?side3 A2.out).mono ?_); (case side1 => exact bl); (case side2 => exact HR0.out); (case side3 => exact HC0.out); rintro e w5 ⟨g155, rfl, hi, hb, hb2⟩; refine ⟨_, rfl, ?_⟩; have HI155 := Aside0.mk (hi); replace HB := Aside0.mk (hb); (try clear hb); (try clear hb2); (try clear hk); (try clear hi)) | ((with_reducible refine zg 12 rfl ?_); refine Kd.R_lit (Kd.int .i64) _ 2 ?hg (N := 12) ?hd (xs := ([100, 1000000, 100000000000000000] : List Int)) (inner := [.int .i64 100, .int .i64 1000000, .int .i64 100000000000000000]) (ok := fun _ => True) (okp := fun _ => True) ?hr ?hp (fun _ hk => hk) trivial (Below.refl _ _) (Nat.le_refl _) (by simp) ?_; (case hd => rfl); (case hg => rfl); (case hr => first | (go_simp; done) | (go_simp; rfl)); (case hp => exact (Reps.one (show Kd.M (Kd.int .i64) _ _ _ 100 [.int .i64 100] from rfl) (Reps.one (show Kd.M (Kd.int .i64) _ _ _ 1000000 [.int .i64 1000000] from rfl) (Reps.one (show Kd.M (Kd.int .i64) _ _ _ 100000000000000000 [.int .i64 100000000000000000] from rfl) (Reps.none _ _))))); intro v157 w6 ho7 hb hg_ hnew_; clear hg_ hnew_; (first | rw [← Ny156.out] at ho7 | (simp only [Int.reduceToNat] at ho7; rw [← Ny156.out] at ho7)); have HO158 := Aside0.mk (Kd.R_lower ho7 (below_size (by repeat (first | (with_reducible first | exact HB.out | apply below_alloc | apply pw_below_drewN | apply below_drew1 | refine below_set ?_ (IsS79.ge HI155.out)) | exact HB.out)))); replace HB := Aside0.mk (below_step (by repeat (first | (with_reducible first | exact HB.out | apply below_alloc | apply pw_below_drewN | apply below_drew1 | refine below_set ?_ (IsS79.ge HI155.out)) | exact HB.out)) hb); replace HI155 := Aside0.mk (IsS79.below (by repeat (first | (with_reducible first | exact HI155.out | apply IsS79.alloc | apply IsS79.drewN | apply IsS79.drew | apply IsS79.set_1 | apply IsS79.set_2) | exact HI155.out)) hb); clear hb ho7; obtain ⟨Ao8, co8, eo8⟩ := Kd.R_slice HO158.out; subst eo8) | ((with_reducible refine zf 28 rfl ?_); refine g1 (some 13) Tryz.func28 #[.pointer (some ⟨g155, 0, none⟩), .slice Ao8 y156.length co8] ?_; (with_reducible refine (spec_l01Pick.calls g155 t152 t153 t154 _ _ y156 t159 t160 t161 w _ ?side1 ?side2 ?side3 ?side4 ?side5 A3.out).mono ?_); (case side1 => repeat (first | (with_reducible first | exact HI155.out | apply IsS79.alloc | apply IsS79.drewN | apply IsS79.drew | apply IsS79.set_1 | apply IsS79.set_2) | exact HI155.out)); (case side2 => repeat (first | (with_reducible first | exact HB.out | apply below_alloc | apply pw_below_drewN | apply below_drew1 | refine below_set ?_ (IsS79.ge HI155.out)) | exact HB.out)); (case side3 => repeat (first | exact (Kd.R_reads' HO158.out).2.2 | (with_reducible refine Kd.C_alloc ?_ _) | (with_reducible refine Kd.C_drewN ?_ _) | (with_reducible refine Kd.C_drew ?_))); (case side4 => exact (Kd.R_reads' HO158.out).2.1); (case side5 => exact far_slice (IsS79.own_ne HI155.out HO158.out (by decide))); rintro e w9 ⟨rfl, hi, hb, hk⟩; refine ⟨_, rfl, ?_⟩; replace HO158 := Aside0.mk (Kd.R_mono (Kd.R_keep (IsS79.apart (show IsS79 w _ g155 t152 t153 t154 from by repeat (first | (with_reducible first | exact HI155.out | apply IsS79.alloc | apply IsS79.drewN | apply IsS79.drew | apply IsS79.set_1 | apply IsS79.set_2) | exact HI155.out)) (by (with_reducible repeat (first | apply Kd.R_alloc | apply Kd.R_drewN | apply Kd.R_drew)); exact HO158.out) (by decide)) hk (fun _ h => h.2)) (fun _ h => h.1)); replace HI155 := Aside0.mk (hi); replace HB := Aside0.mk (hb); (try clear hb hk)) | ((with_reducible refine zf 27 rfl ?_); refine g1 (some 14) Tryz.func27 #[.pointer (some ⟨g155, 0, none⟩), .int .i64 2, .int .i64 t159] ?_; (with_reducible refine (spec_l01Parts.calls k g155 t152 t160 t161 2 t159 t162 t163 t164 t165 w _ ?side1 ?side2 A4.out).mono ?_); (case side1 => repeat (first | (with_reducible first | exact HI155.out | apply IsS79.alloc | apply IsS79.drewN | apply IsS79.drew | apply IsS79.set_1 | apply IsS79.set_2) | exact HI155.out)); (case side2 => repeat (first | (with_reducible first | exact HB.out | apply below_alloc | apply pw_below_drewN | apply below_drew1 | refine below_set ?_ (IsS79.ge HI155.out)) | exact HB.out)); rintro e w10 ⟨rfl, hi, hb, hk⟩; refine ⟨_, rfl, ?_⟩; replace HO158 := Aside0.mk (Kd.R_mono (Kd.R_keep (IsS79.apart (show IsS79 w _ g155 t152 t160 t161 from by repeat (first | (with_reducible first | exact HI155.out | apply IsS79.alloc | apply IsS79.drewN | apply IsS79.drew | apply IsS79.set_1 | apply IsS79.set_2) | exact HI155.out)) (by (with_reducible repeat (first | apply Kd.R_alloc | apply Kd.R_drewN | apply Kd.R_drew)); exact HO158.out) (by decide)) hk (fun _ h => h.2)) (fun _ h => h.1)); replace HI155 := Aside0.mk (hi); replace HB := Aside0.mk (hb); (try clear hb hk)))
 go_ret2
 exact ⟨er, by repeat (first | (with_reducible first | exact HB.out | apply below_alloc | apply pw_below_drewN | apply below_drew1 | refine below_set ?_ (IsS79.ge HI155.out)) | exact HB.out)⟩

/-! ### impl_within: function 29 -/
def impl_within.l0 : Nat → Int → List Int → Int → Int → Option (Bool)
 | 0, _, _, _, _ => none
 | k + 1, x0, x7, x8, x9 => if x9 < x8 then (if 0 ≤ x9 then (if x9 < (x7.length : Int) then (if (rd x7 x9) < (wrap64 (-x0)) then (some false) else (if (rd x7 x9) > x0 then (some false) else (impl_within.l0 k x0 x7 x8 (wrap64 (x9 + 1))))) else (none)) else (none)) else (some true)
def impl_within.f (k : Nat) (a0 : Int) (l1 : List Int) : Option (Bool) := impl_within.l0 k a0 l1 (l1.length : Int) 0
set_option maxHeartbeats 8000000 in
set_option maxRecDepth 100000 in
theorem impl_within.calls (k : Nat) (a0 : Int) (A1 : Option Addr) (c1 : Nat) (l1 : List Int) (r : Bool) (w : World) (hr1 : Kd.C (Kd.int .i64) w A1 l1.length l1) (hc1 : l1.length ≤ c1) (h : impl_within.f k a0 l1 = some r) :
  Calls Tryz.prog 29 #[.int .i64 a0, .slice A1 l1.length c1] w fun e w' => e = .returned (.bool r) ∧ Drawn0 w w' := by
 have HR1 := Aside0.mk hr1
 have HC1 := Aside0.mk hc1
 clear hr1 hc1
 unfold impl_within.f at h
 have H := h
 clear h
 have H' := Aside0.mk H
 clear H
 go_enter Tryz.func29, Tryz.ntmps29
 go_wp2
 go_loopg [9] k (fun kq v9 w' => ∃ (x9_1 : Int), v9 = .int .i64 x9_1 ∧ Aside0 (impl_within.l0 kq a0 l1 (l1.length : Int) x9_1 = some r) ∧ Aside0 (kq ≤ k) ∧ Drawn0 w w')
 case atStart => exact ⟨(0), (by first | rfl | (simp; done) | (simp [*]; done)), H', ⟨Nat.le_refl _⟩, by repeat (first | exact Drawn0.refl _ | apply Drawn0.step)⟩
 case round =>
  clear H'
  obtain ⟨x9_1, rfl, HA, HK1, ⟨m1, rfl⟩⟩ := hrel
  cases gk with
  | zero => exact absurd HA.out (by simp [impl_within.l0])
  | succ k1 =>
   have H := HA.out
   clear HA
   simp only [impl_within.l0] at H
   replace H := ii H
   rcases H with ⟨c3, H⟩ | ⟨c3, H⟩
   ·have c3b0 := decide_eq_true c3
    clear c3
    replace H := ii H
    rcases H with ⟨c4, H⟩ | ⟨c4, H⟩
    ·have c4b0 := decide_eq_true c4
     clear c4
     replace H := ii H
     rcases H with ⟨c5, H⟩ | ⟨c5, H⟩
     ·have c5b0 := decide_eq_true c5
      clear c5
      replace H := ii H
      rcases H with ⟨c6, H⟩ | ⟨c6, H⟩
      ·have c6b0 := decide_eq_true c6
       clear c6
       obtain rfl := Option.some.inj H
       have p166 : 0 ≤ (x9_1 : Int) := za
       have q166 : x9_1 < (l1.length : Int) := za
       obtain ⟨ad166, e166, hx166_0⟩ := Kd.at_int HR1.out x9_1 p166 q166
       cases e166
       replace p166 := eq_true p166
       replace q166 := eq_true q166
       go_wp2
       go_ret
       exact zx
      ·have c6b0 := decide_eq_false c6
       clear c6
       replace H := ii H
       rcases H with ⟨c7, H⟩ | ⟨c7, H⟩
       ·have c7b0 := decide_eq_true c7
        clear c7
        obtain rfl := Option.some.inj H
        have p166 : 0 ≤ (x9_1 : Int) := za
        have q166 : x9_1 < (l1.length : Int) := za
        obtain ⟨ad166, e166, hx166_0⟩ := Kd.at_int HR1.out x9_1 p166 q166
        cases e166
        replace p166 := eq_true p166
        replace q166 := eq_true q166
        go_wp2
        go_ret
        exact zx
       ·have c7b0 := decide_eq_false c7
        clear c7
        have H' := Aside0.mk H
        clear H
        have p166 : 0 ≤ (x9_1 : Int) := za
        have q166 : x9_1 < (l1.length : Int) := za
        obtain ⟨ad166, e166, hx166_0⟩ := Kd.at_int HR1.out x9_1 p166 q166
        cases e166
        replace p166 := eq_true p166
        replace q166 := eq_true q166
        go_wp2
        go_roundg k1
        case measure => have := HK1.out; omega
        case rel => exact ⟨(wrap64 (x9_1 + 1)), (by first | rfl | (simp; done) | (simp [*]; done)), H', ⟨by have := HK1.out; omega⟩, by repeat (first | exact Drawn0.refl _ | apply Drawn0.step)⟩
     ·exact absurd H (by simp)
    ·exact absurd H (by simp)
   ·have c3b0 := decide_eq_false c3
    clear c3
    obtain rfl := Option.some.inj H
    go_wp2
    go_ret
    exact zx

/-! ### impl_fittedEnd: function 30 -/
def impl_fittedEnd.f (a0_0 : Int) (a0_1 : Int) (a1 : Bool) : Option (Int × Int × Int) := if a1 = true then (some (a0_0, a0_1, 0)) else (some (0, 0, 3))
set_option maxHeartbeats 8000000 in
set_option maxRecDepth 100000 in
theorem impl_fittedEnd.calls (a0_0 : Int) (a0_1 : Int) (a1 : Bool) (r1 : Int) (r2 : Int) (r3 : Int) (w : World) (h : impl_fittedEnd.f a0_0 a0_1 a1 = some (r1, r2, r3)) :
  Calls Tryz.prog 30 #[.agg #[.int .i64 a0_0, .int .i64 a0_1], .bool a1] w fun e w' => e = .returned (.tuple #[.agg #[.int .i64 r1, .int .i64 r2], .int .i64 r3]) ∧ Below w.heap.size w w' := by
 have hu27 := Tryz.underlying27
 have HB := Aside0.mk (Below.refl w.heap.size w)
 unfold impl_fittedEnd.f at h
 have H := h
 clear h
 by_cases c3 : a1 = true
 ·subst c3
  rw [if_pos rfl] at H
  simp only [Option.some.injEq, Prod.mk.injEq] at H
  obtain ⟨rfl, rfl, rfl⟩ := H
  go_enter Tryz.func30, Tryz.ntmps30
  go_wp2_with (first | ((with_reducible refine zg 2 rfl ?_); refine zb 2 27 #[.int .i64 a0_0, .int .i64 a0_1] ?_; intro gb167 hg w4 BK167 hb; have GW167 := sg hg; replace HB := bs hb; clear hb hg) | ((with_reducible refine zg 4 rfl ?_); refine zb 4 27 #[.int .i64 0, .int .i64 0] ?_; intro gb168 hg w5 BK168 hb; have GW168 := sg hg; have NB167_168 := nl hg BK167; replace BK167 := bb BK167 hb; replace HB := bs hb; clear hb hg; obtain ⟨hnb6, hnc6⟩ := zn NB167_168; obtain ⟨hcz7_0, hcz7_1, hfz7_0, hfz7_1⟩ := z2 BK167; obtain ⟨hcz8_0, hcz8_1, hfz8_0, hfz8_1⟩ := z2 BK168))
  refine bodyPost_ret (results_ct rfl _ _ gb168 27 #[.int .i64 a0_0, .int .i64 a0_1] (0, 0) _ rfl (bp) Tryz.underlying27 rfl (by kernel_rfl)) rfl ?_
  exact ⟨er, bl⟩
 ·replace c3 := Bool.eq_false_iff.mpr c3
  subst c3
  have H1 : (some (0, 0, 3)) = some (r1, r2, r3) := by rw [if_neg (show ¬ (false = true) by decide)] at H; exact H
  clear H
  have H := H1
  clear H1
  simp only [Option.some.injEq, Prod.mk.injEq] at H
  obtain ⟨rfl, rfl, rfl⟩ := H
  go_enter Tryz.func30, Tryz.ntmps30
  go_wp2_with (first | ((with_reducible refine zg 2 rfl ?_); refine zb 2 27 #[.int .i64 a0_0, .int .i64 a0_1] ?_; intro gb167 hg w9 BK167 hb; have GW167 := sg hg; replace HB := bs hb; clear hb hg) | ((with_reducible refine zg 4 rfl ?_); refine zb 4 27 #[.int .i64 0, .int .i64 0] ?_; intro gb168 hg w10 BK168 hb; have GW168 := sg hg; have NB167_168 := nl hg BK167; replace BK167 := bb BK167 hb; replace HB := bs hb; clear hb hg; obtain ⟨hnb11, hnc11⟩ := zm NB167_168; obtain ⟨hcz12_0, hcz12_1, hfz12_0, hfz12_1⟩ := z2 BK168))
  refine bodyPost_ret (results_ct rfl _ _ gb168 27 #[.int .i64 0, .int .i64 0] (0, 0) _ rfl (bp) Tryz.underlying27 rfl (by kernel_rfl)) rfl ?_
  exact ⟨er, bl⟩

end Go.Proofs.YtgdkmchphpjifaaGreatDoor.PFnEnds

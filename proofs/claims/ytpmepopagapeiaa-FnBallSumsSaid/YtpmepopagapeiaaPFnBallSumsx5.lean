-- Printed by the kit's print and repaired by a program of this session.
import Derived.Test.YtpmepopagapeiaaPFnBallSumsx0
import Derived.Test.YtpmepopagapeiaaPFnBallSumsx2
import Derived.Test.YtpmepopagapeiaaPFnBallSumsx3
import Derived.Test.YtpmepopagapeiaaPFnBallSumsx4
namespace Go.Proofs.Ytpmepopagapeiaa.PFnBallSums
open Go.RowKit Go.Proofs.YtpmepopagapeiaaW.PrintWords Go.Proofs.YtpmepopagapeiaaW.PrintLast Go.Proofs.YtpmepopagapeiaaW.PrintMore
attribute [local go_sem] max2_int min2_int max_two min_two max_three min_three max_four min_four   -- for this text's walks alone
set_option linter.unusedVariables false
set_option linter.unusedSimpArgs false

/-! ### spec_l01Two: function 92 -/
mutual
def spec_l01Two.j0 : Nat → Int → Int → List Int → Int → Int → Int → Int → Int → Option (Int × Int × Int × Int × Int × Int × Int)
 | 0, _, _, _, _, _, _, _, _ => none
 | k + 1, x6, x8, x233000, x233001, x233002, x240000, x240001, x240002 => (spec_l01Draw.f k x233000 x233001 x233002 x8).bind fun bt241 => ((spec_l01Bad.f x233000 bt241.2.2.2.1 bt241.2.2.2.2 bt241.1 bt241.2.1 bt241.2.2.1).bind fun bt246 => ((spec_l01Next.f x233000 bt246.2.2.2.1 bt246.2.2.2.2 3).bind fun bt252 => (if bt252.1 = 0 then ((spec_l01Is.f k x8 x240000 x240001 x240002).bind fun t255 => (spec_l01Two.j1 k x6 x8 t255 x233000 bt252.2.1 bt252.2.2 x240000 x240001 x240002 bt246.1 bt246.2.1 bt246.2.2.1)) else (spec_l01Two.j1 k x6 x8 false x233000 bt252.2.1 bt252.2.2 x240000 x240001 x240002 bt246.1 bt246.2.1 bt246.2.2.1))))
def spec_l01Two.j1 : Nat → Int → Int → Bool → List Int → Int → Int → Int → Int → Int → Int → Int → Int → Option (Int × Int × Int × Int × Int × Int × Int)
 | 0, _, _, _, _, _, _, _, _, _, _, _, _ => none
 | k + 1, x6, x8, x36, x233000, x233001, x233002, x240000, x240001, x240002, x252000, x252001, x252002 => if x36 = true then ((spec_l01Next.f x233000 x233001 x233002 4).bind fun bt256 => (spec_l01Two.l0 k x6 x8 bt256.1 x240000 x240001 x240002 x240000 x240001 x240002)) else (some (x6, x240000, x240001, x240002, x252000, x252001, x252002))
def spec_l01Two.l0 : Nat → Int → Int → Int → Int → Int → Int → Int → Int → Int → Option (Int × Int × Int × Int × Int × Int × Int)
 | 0, _, _, _, _, _, _, _, _, _ => none
 | k + 1, x6, x8, x10, x240000, x240001, x240002, x252000, x252001, x252002 => if x10 > 0 then ((spec_l01Parent.f k x8 x252000 x252001 x252002).bind fun bt259 => (if bt259.2.2.2 = true then (spec_l01Two.l0 k x6 x8 (wrap64 (x10 - 1)) x240000 x240001 x240002 bt259.1 bt259.2.1 bt259.2.2.1) else (spec_l01Two.l0 k x6 x8 (wrap64 (x10 - 1)) x240000 x240001 x240002 x252000 x252001 x252002))) else (some (x6, x240000, x240001, x240002, x252000, x252001, x252002))
end
def spec_l01Two.f (k : Nat) (l0 : List Int) : Option (Int × Int × Int × Int × Int × Int × Int) := (spec_l01From.f k l0).bind fun bt229 => ((spec_l01Spoil.f k bt229.1 bt229.2.1 bt229.2.2).bind fun bt233 => ((spec_l01Prime.f bt233.1).bind fun t240 => (if t240 = true then (spec_l01Two.j0 k bt233.1 bt233.1 bt229.1 bt233.2.2.2.2.1 bt233.2.2.2.2.2 bt233.2.1 bt233.2.2.1 bt233.2.2.2.1) else (spec_l01Two.j0 k bt233.1 2 bt229.1 bt233.2.2.2.2.1 bt233.2.2.2.2.2 bt233.2.1 bt233.2.2.1 bt233.2.2.2.1))))
theorem spec_l01Two.mono_l : ∀ k, (∀ y0 y1 y2 y3 y4 y5 y6 y7, LeO (spec_l01Two.j0 k y0 y1 y2 y3 y4 y5 y6 y7) (spec_l01Two.j0 (k + 1) y0 y1 y2 y3 y4 y5 y6 y7)) ∧ (∀ y0 y1 y2 y3 y4 y5 y6 y7 y8 y9 y10 y11, LeO (spec_l01Two.j1 k y0 y1 y2 y3 y4 y5 y6 y7 y8 y9 y10 y11) (spec_l01Two.j1 (k + 1) y0 y1 y2 y3 y4 y5 y6 y7 y8 y9 y10 y11)) ∧ (∀ y0 y1 y2 y3 y4 y5 y6 y7 y8, LeO (spec_l01Two.l0 k y0 y1 y2 y3 y4 y5 y6 y7 y8) (spec_l01Two.l0 (k + 1) y0 y1 y2 y3 y4 y5 y6 y7 y8))
 | 0 => ⟨fun _ _ _ _ _ _ _ _ r h => by simp [spec_l01Two.j0] at h, fun _ _ _ _ _ _ _ _ _ _ _ _ r h => by simp [spec_l01Two.j1] at h, fun _ _ _ _ _ _ _ _ _ r h => by simp [spec_l01Two.l0] at h⟩
 | k + 1 => by
  obtain ⟨ih0, ih1, ih2⟩ := spec_l01Two.mono_l k
  refine ⟨?_, ?_, ?_⟩
  ·intro y0 y1 y2 y3 y4 y5 y6 y7
   unfold spec_l01Two.j0
   repeat' first
   | (with_reducible exact ih0 _ _ _ _ _ _ _ _)
   | (with_reducible exact ih1 _ _ _ _ _ _ _ _ _ _ _ _)
   | (with_reducible exact ih2 _ _ _ _ _ _ _ _ _)
   | (with_reducible exact spec_l01Draw.mono _ _ _ _ _)
   | (with_reducible exact spec_l01From.mono _ _)
   | (with_reducible exact spec_l01Is.mono _ _ _ _ _)
   | (with_reducible exact spec_l01Parent.mono _ _ _ _ _)
   | (with_reducible exact spec_l01Spoil.mono _ _ _ _)
   | (with_reducible exact LeO.refl _)
   | (with_reducible exact LeO.none _)
   | (with_reducible refine LeO.ite ?_ ?_)
   | (with_reducible refine LeO.bind ?_ (fun _ => ?_))
   | refine LeO.ite ?_ ?_
   | refine LeO.bind ?_ (fun _ => ?_)
  ·intro y0 y1 y2 y3 y4 y5 y6 y7 y8 y9 y10 y11
   unfold spec_l01Two.j1
   repeat' first
   | (with_reducible exact ih0 _ _ _ _ _ _ _ _)
   | (with_reducible exact ih1 _ _ _ _ _ _ _ _ _ _ _ _)
   | (with_reducible exact ih2 _ _ _ _ _ _ _ _ _)
   | (with_reducible exact spec_l01Draw.mono _ _ _ _ _)
   | (with_reducible exact spec_l01From.mono _ _)
   | (with_reducible exact spec_l01Is.mono _ _ _ _ _)
   | (with_reducible exact spec_l01Parent.mono _ _ _ _ _)
   | (with_reducible exact spec_l01Spoil.mono _ _ _ _)
   | (with_reducible exact LeO.refl _)
   | (with_reducible exact LeO.none _)
   | (with_reducible refine LeO.ite ?_ ?_)
   | (with_reducible refine LeO.bind ?_ (fun _ => ?_))
   | refine LeO.ite ?_ ?_
   | refine LeO.bind ?_ (fun _ => ?_)
  ·intro y0 y1 y2 y3 y4 y5 y6 y7 y8
   unfold spec_l01Two.l0
   repeat' first
   | (with_reducible exact ih0 _ _ _ _ _ _ _ _)
   | (with_reducible exact ih1 _ _ _ _ _ _ _ _ _ _ _ _)
   | (with_reducible exact ih2 _ _ _ _ _ _ _ _ _)
   | (with_reducible exact spec_l01Draw.mono _ _ _ _ _)
   | (with_reducible exact spec_l01From.mono _ _)
   | (with_reducible exact spec_l01Is.mono _ _ _ _ _)
   | (with_reducible exact spec_l01Parent.mono _ _ _ _ _)
   | (with_reducible exact spec_l01Spoil.mono _ _ _ _)
   | (with_reducible exact LeO.refl _)
   | (with_reducible exact LeO.none _)
   | (with_reducible refine LeO.ite ?_ ?_)
   | (with_reducible refine LeO.bind ?_ (fun _ => ?_))
   | refine LeO.ite ?_ ?_
   | refine LeO.bind ?_ (fun _ => ?_)
theorem spec_l01Two.mono : ∀ a0 k, LeO (spec_l01Two.f k a0) (spec_l01Two.f (k + 1) a0) := by
 intro a0 k
 obtain ⟨ih0, ih1, ih2⟩ := spec_l01Two.mono_l k
 unfold spec_l01Two.f
 repeat' first
   | (with_reducible exact ih0 _ _ _ _ _ _ _ _)
   | (with_reducible exact ih1 _ _ _ _ _ _ _ _ _ _ _ _)
   | (with_reducible exact ih2 _ _ _ _ _ _ _ _ _)
   | (with_reducible exact spec_l01Draw.mono _ _ _ _ _)
   | (with_reducible exact spec_l01From.mono _ _)
   | (with_reducible exact spec_l01Is.mono _ _ _ _ _)
   | (with_reducible exact spec_l01Parent.mono _ _ _ _ _)
   | (with_reducible exact spec_l01Spoil.mono _ _ _ _)
   | (with_reducible exact LeO.refl _)
   | (with_reducible exact LeO.none _)
   | (with_reducible refine LeO.ite ?_ ?_)
   | (with_reducible refine LeO.bind ?_ (fun _ => ?_))
   | refine LeO.ite ?_ ?_
   | refine LeO.bind ?_ (fun _ => ?_)
set_option maxHeartbeats 8000000 in
set_option maxRecDepth 100000 in
theorem spec_l01Two.calls (k : Nat) (A0 : Option Addr) (c0 : Nat) (l0 : List Int) (r1 : Int) (r2 : Int) (r3 : Int) (r4 : Int) (r5 : Int) (r6 : Int) (r7 : Int) (w : World) (hr0 : Kd.C (Kd.int .u8) w A0 l0.length l0) (hc0 : l0.length ≤ c0) (h : spec_l01Two.f k l0 = some (r1, r2, r3, r4, r5, r6, r7)) :
  Calls Try.prog 92 #[.slice A0 l0.length c0] w fun e w' => e = .returned (.tuple #[.int .i64 r1, .agg #[.int .i64 r2, .int .i64 r3, .int .i64 r4], .agg #[.int .i64 r5, .int .i64 r6, .int .i64 r7]]) ∧ Below w.heap.size w w' := by
 have hu27 := Try.underlying27
 have HR0 := Aside0.mk hr0
 have HC0 := Aside0.mk hc0
 clear hr0 hc0
 have HB := Aside0.mk (Below.refl w.heap.size w)
 have H : ((spec_l01From.f k l0).bind fun bt229 => ((spec_l01Spoil.f k bt229.1 bt229.2.1 bt229.2.2).bind fun bt233 => ((spec_l01Prime.f bt233.1).bind fun t240 => (if t240 = true then (spec_l01Two.j0 k bt233.1 bt233.1 bt229.1 bt233.2.2.2.2.1 bt233.2.2.2.2.2 bt233.2.1 bt233.2.2.1 bt233.2.2.2.1) else (spec_l01Two.j0 k bt233.1 2 bt229.1 bt233.2.2.2.2.1 bt233.2.2.2.2.2 bt233.2.1 bt233.2.2.1 bt233.2.2.2.1))))) = some (r1, r2, r3, r4, r5, r6, r7) := h
 clear h
 replace H := Option.bind_eq_some_iff.mp H
 obtain ⟨⟨t229, t230, t231⟩, A20, H⟩ := H
 replace H : ((spec_l01Spoil.f k t229 t230 t231).bind fun bt233 => ((spec_l01Prime.f bt233.1).bind fun t240 => (if t240 = true then (spec_l01Two.j0 k bt233.1 bt233.1 t229 bt233.2.2.2.2.1 bt233.2.2.2.2.2 bt233.2.1 bt233.2.2.1 bt233.2.2.2.1) else (spec_l01Two.j0 k bt233.1 2 t229 bt233.2.2.2.2.1 bt233.2.2.2.2.2 bt233.2.1 bt233.2.2.1 bt233.2.2.2.1)))) = some (r1, r2, r3, r4, r5, r6, r7) := H
 have A2 := Aside0.mk A20
 clear A20
 replace H := Option.bind_eq_some_iff.mp H
 obtain ⟨⟨t233, t234, t235, t236, t237, t238⟩, A30, H⟩ := H
 replace H : ((spec_l01Prime.f t233).bind fun t240 => (if t240 = true then (spec_l01Two.j0 k t233 t233 t229 t237 t238 t234 t235 t236) else (spec_l01Two.j0 k t233 2 t229 t237 t238 t234 t235 t236))) = some (r1, r2, r3, r4, r5, r6, r7) := H
 have A3 := Aside0.mk A30
 clear A30
 replace H := Option.bind_eq_some_iff.mp H
 obtain ⟨t240, A40, H⟩ := H
 replace H : (if t240 = true then (spec_l01Two.j0 k t233 t233 t229 t237 t238 t234 t235 t236) else (spec_l01Two.j0 k t233 2 t229 t237 t238 t234 t235 t236)) = some (r1, r2, r3, r4, r5, r6, r7) := H
 have A4 := Aside0.mk A40
 clear A40
 have HC5 := Aside0.mk H
 clear H
 go_enter Try.func92, Try.ntmps92
 go_upto_if 23 with (first | ((with_reducible refine gate_dst (N := 3) rfl ?_); refine bx (N := 3) (cs := #[.int .i64 0, .int .i64 0, .int .i64 0]) (t := 27) ?_; intro gb227 hg w6 hbox hb; have BK227 := Aside0.mk (hbox); have GW227 := sg hg; have GE227 := sg hg; replace HB := bs hb; clear hb hbox hg) | ((with_reducible refine gate_dst (N := 4) rfl ?_); refine bx (N := 4) (cs := #[.int .i64 0, .int .i64 0, .int .i64 0]) (t := 27) ?_; intro gb228 hg w7 hbox hb; have BK228 := Aside0.mk (hbox); have GW228 := sg hg; have GE228 := sg hg; have NB227_228 := nl hg BK227; have NB228_227 := ng hg BK227; replace BK227 := bb BK227 hb; replace HB := bs hb; clear hb hbox hg) | ((with_reducible refine gate_callee (f := 98) rfl ?_); refine g1 (some 14) Try.func98 #[.slice A0 l0.length c0] ?_; (with_reducible refine (spec_l01From.calls k _ _ l0 t229 t230 t231 w _ ?side1 ?side2 ?side3 A2.out).mono ?_); (case side1 => repeat (first | (with_reducible first | exact HB.out | apply below_alloc | apply pw_below_drewN | apply below_drew1 | refine below_set ?_ GE227.out | refine below_set ?_ GE228.out) | exact HB.out)); (case side2 => exact HR0.out); (case side3 => exact HC0.out); rintro e w8 ⟨g232, rfl, hi, hb, hb2⟩; refine ⟨_, rfl, ?_⟩; have HI232 := Aside0.mk (hi); have NB232_227 := Aside0.mk (IsS127.ne_blk hi (blk_below (g := gb227) (o := .cells #[.int .i64 0, .int .i64 0, .int .i64 0] 27 (0, 0)) (be BK227) hb2) (by decide)); have NB227_232 := Aside0.mk (Ne.symm (IsS127.ne_blk hi (blk_below (g := gb227) (o := .cells #[.int .i64 0, .int .i64 0, .int .i64 0] 27 (0, 0)) (be BK227) hb2) (by decide))); have NB232_228 := Aside0.mk (IsS127.ne_blk hi (blk_below (g := gb228) (o := .cells #[.int .i64 0, .int .i64 0, .int .i64 0] 27 (0, 0)) (be BK228) hb2) (by decide)); have NB228_232 := Aside0.mk (Ne.symm (IsS127.ne_blk hi (blk_below (g := gb228) (o := .cells #[.int .i64 0, .int .i64 0, .int .i64 0] 27 (0, 0)) (be BK228) hb2) (by decide))); replace BK227 := Aside0.mk (blk_below (g := gb227) (o := .cells #[.int .i64 0, .int .i64 0, .int .i64 0] 27 (0, 0)) (be BK227) hb2); replace BK228 := Aside0.mk (blk_below (g := gb228) (o := .cells #[.int .i64 0, .int .i64 0, .int .i64 0] 27 (0, 0)) (be BK228) hb2); replace HB := Aside0.mk (hb); (try clear hb); (try clear hb2); (try clear hk); (try clear hi)) | ((with_reducible refine gate_callee (f := 99) rfl ?_); refine g1 (some 17) Try.func99 #[.pointer (some ⟨g232, 0, none⟩)] ?_; (with_reducible refine (spec_l01Spoil.calls k g232 t229 t230 t231 t233 t234 t235 t236 t237 t238 w _ ?side1 ?side2 A3.out).mono ?_); (case side1 => repeat (first | (with_reducible first | exact HI232.out | apply IsS127.alloc | apply IsS127.drewN | apply IsS127.drew | apply IsS127.set_1 | apply IsS127.set_2 | refine IsS127.far ?_ NB232_227.out _ | refine IsS127.far ?_ NB232_228.out _) | exact HI232.out)); (case side2 => repeat (first | (with_reducible first | exact HB.out | apply below_alloc | apply pw_below_drewN | apply below_drew1 | refine below_set ?_ (IsS127.ge HI232.out) | refine below_set ?_ GE227.out | refine below_set ?_ GE228.out) | exact HB.out)); rintro e w9 ⟨rfl, hi, hb, hk⟩; refine ⟨_, rfl, ?_⟩; replace BK227 := Aside0.mk (KeepBut.blk hk (g' := gb227) (o := .cells #[.int .i64 0, .int .i64 0, .int .i64 0] 27 (0, 0)) (be BK227) NB227_232.out (by simp)); replace BK228 := Aside0.mk (KeepBut.blk hk (g' := gb228) (o := .cells #[.int .i64 0, .int .i64 0, .int .i64 0] 27 (0, 0)) (be BK228) NB228_232.out (by simp)); replace HI232 := Aside0.mk (hi); replace HB := Aside0.mk (hb); (try clear hb); (try clear hb2); (try clear hk); (try clear hi)) | ((with_reducible refine gate_dst (N := 7) rfl ?_); refine bx (N := 7) (cs := #[.int .i64 0, .int .i64 0, .int .i64 0]) (t := 27) ?_; intro gb239 hg w10 hbox hb; have BK239 := Aside0.mk (hbox); have GW239 := Aside0.mk ((by rw [hg]; exact (below_size (by repeat (first | (with_reducible first | exact HB.out | apply below_alloc | apply pw_below_drewN | apply below_drew1 | refine below_set ?_ (IsS127.ge HI232.out) | refine below_set ?_ GE227.out | refine below_set ?_ GE228.out) | exact HB.out))) : w.heap.size ≤ gb239)); have GE239 := Aside0.mk ((by rw [hg]; exact (below_size (by repeat (first | (with_reducible first | exact HB.out | apply below_alloc | apply pw_below_drewN | apply below_drew1 | refine below_set ?_ (IsS127.ge HI232.out) | refine below_set ?_ GE227.out | refine below_set ?_ GE228.out) | exact HB.out))) : w.heap.size ≤ gb239)); have NB227_239 := nl hg BK227; have NB239_227 := ng hg BK227; have NB228_239 := nl hg BK228; have NB239_228 := ng hg BK228; have NB232_239 := Aside0.mk ((by rw [hg]; exact Nat.ne_of_lt (IsS127.lt (show IsS127 w _ g232 t229 t237 t238 from by repeat (first | (with_reducible first | exact HI232.out | apply IsS127.alloc | apply IsS127.drewN | apply IsS127.drew | apply IsS127.set_1 | apply IsS127.set_2 | refine IsS127.far ?_ NB232_227.out _ | refine IsS127.far ?_ NB232_228.out _) | exact HI232.out))) : g232 ≠ gb239)); have NB239_232 := Aside0.mk ((by rw [hg]; exact Nat.ne_of_gt (IsS127.lt (show IsS127 w _ g232 t229 t237 t238 from by repeat (first | (with_reducible first | exact HI232.out | apply IsS127.alloc | apply IsS127.drewN | apply IsS127.drew | apply IsS127.set_1 | apply IsS127.set_2 | refine IsS127.far ?_ NB232_227.out _ | refine IsS127.far ?_ NB232_228.out _) | exact HI232.out))) : gb239 ≠ g232)); replace BK227 := bb BK227 hb; replace BK228 := bb BK228 hb; replace HB := Aside0.mk (below_step (by repeat (first | (with_reducible first | exact HB.out | apply below_alloc | apply pw_below_drewN | apply below_drew1 | refine below_set ?_ (IsS127.ge HI232.out) | refine below_set ?_ GE227.out | refine below_set ?_ GE228.out) | exact HB.out)) hb); replace HI232 := Aside0.mk (IsS127.below (by repeat (first | (with_reducible first | exact HI232.out | apply IsS127.alloc | apply IsS127.drewN | apply IsS127.drew | apply IsS127.set_1 | apply IsS127.set_2 | refine IsS127.far ?_ NB232_227.out _ | refine IsS127.far ?_ NB232_228.out _) | exact HI232.out)) hb); clear hb hbox hg; have hnb11 := NB239_227.out; have hnc11 := NB227_239.out; have hnb12 := NB239_228.out; have hnc12 := NB228_239.out; have hnb13 := NB239_232.out; have hnc13 := NB232_239.out; obtain ⟨hcz14_0, hcz14_1, hcz14_2, hfz14_0, hfz14_1, hfz14_2⟩ := c3 BK239) | ((with_reducible refine gate_callee (f := 120) rfl ?_); refine g1 (some 22) Try.func120 #[.int .i64 t233] ?_; (with_reducible refine (spec_l01Prime.calls t233 t240 _ A4.out).mono ?_); rintro e w' ⟨rfl, ⟨nd, rfl⟩⟩; refine ⟨_, rfl, ?_⟩))
 (try simp only [Act.put, List.setIfInBounds_toArray, List.set_cons_zero, List.set_cons_succ])
 go_cut [8] (fun v8 wc => ∃ (kq : Nat) (x8_4 : Int), v8 = .int .i64 x8_4 ∧ Aside0 (spec_l01Two.j0 kq t233 x8_4 t229 t237 t238 t234 t235 t236 = some (r1, r2, r3, r4, r5, r6, r7)) ∧ Aside0 (kq ≤ k) ∧ Aside0 (wc.heap[gb227]? = some (.cells #[.int .i64 0, .int .i64 0, .int .i64 0] 27 (0, 0))) ∧ Aside0 (wc.heap[gb228]? = some (.cells #[.int .i64 0, .int .i64 0, .int .i64 0] 27 (0, 0))) ∧ Aside0 (wc.heap[gb239]? = some (.cells #[.int .i64 t234, .int .i64 t235, .int .i64 t236] 27 (0, 0))) ∧ Aside0 (IsS127 w wc g232 t229 t237 t238) ∧ Aside0 (Below w.heap.size w wc))
 case first =>
  have H := HC5.out
  clear HC5
  by_cases c15 : t240 = true
  ·subst c15
   have H1 : (spec_l01Two.j0 k t233 t233 t229 t237 t238 t234 t235 t236) = some (r1, r2, r3, r4, r5, r6, r7) := by rw [if_pos rfl] at H; exact H
   clear H
   have H := H1
   clear H1
   have H' := Aside0.mk H
   clear H
   go_wp2
   go_meet
   case rel => exact ⟨_, (t233), (by first | rfl | (simp; done) | (simp [*]; done)), H', ⟨by first | omega | exact Nat.le_refl _⟩, ⟨by (with_reducible repeat (first | apply bn | apply bd | apply ba)); refine blk_far ?_ NB227_239.out _; (with_reducible repeat (first | apply bn | apply bd | apply ba)); refine blk_far ?_ NB227_239.out _; (with_reducible repeat (first | apply bn | apply bd | apply ba)); refine blk_far ?_ NB227_239.out _; (with_reducible repeat (first | apply bn | apply bd | apply ba)); exact BK227.out⟩, ⟨by (with_reducible repeat (first | apply bn | apply bd | apply ba)); refine blk_far ?_ NB228_239.out _; (with_reducible repeat (first | apply bn | apply bd | apply ba)); refine blk_far ?_ NB228_239.out _; (with_reducible repeat (first | apply bn | apply bd | apply ba)); refine blk_far ?_ NB228_239.out _; (with_reducible repeat (first | apply bn | apply bd | apply ba)); exact BK228.out⟩, ⟨by (with_reducible repeat (first | apply bn | apply bd | apply ba)); refine blk_put (cs := #[.int .i64 t234, .int .i64 t235, .int .i64 0]) ?_ 2 _ rfl; (with_reducible repeat (first | apply bn | apply bd | apply ba)); refine blk_put (cs := #[.int .i64 t234, .int .i64 0, .int .i64 0]) ?_ 1 _ rfl; (with_reducible repeat (first | apply bn | apply bd | apply ba)); refine blk_put (cs := #[.int .i64 0, .int .i64 0, .int .i64 0]) ?_ 0 _ rfl; (with_reducible repeat (first | apply bn | apply bd | apply ba)); exact BK239.out⟩, ⟨by repeat (first | (with_reducible first | exact HI232.out | apply IsS127.alloc | apply IsS127.drewN | apply IsS127.drew | apply IsS127.set_1 | apply IsS127.set_2 | refine IsS127.far ?_ NB232_227.out _ | refine IsS127.far ?_ NB232_228.out _ | refine IsS127.far ?_ NB232_239.out _) | exact HI232.out)⟩, ⟨by repeat (first | (with_reducible first | exact HB.out | apply below_alloc | apply pw_below_drewN | apply below_drew1 | refine below_set ?_ (IsS127.ge HI232.out) | refine below_set ?_ GE227.out | refine below_set ?_ GE228.out | refine below_set ?_ GE239.out) | exact HB.out)⟩⟩
  ·replace c15 := Bool.eq_false_iff.mpr c15
   subst c15
   have H1 : (spec_l01Two.j0 k t233 2 t229 t237 t238 t234 t235 t236) = some (r1, r2, r3, r4, r5, r6, r7) := by rw [if_neg (show ¬ (false = true) by decide)] at H; exact H
   clear H
   have H := H1
   clear H1
   have H' := Aside0.mk H
   clear H
   go_wp2
   go_meet
   case rel => exact ⟨_, (2), (by first | rfl | (simp; done) | (simp [*]; done)), H', ⟨by first | omega | exact Nat.le_refl _⟩, ⟨by (with_reducible repeat (first | apply bn | apply bd | apply ba)); refine blk_far ?_ NB227_239.out _; (with_reducible repeat (first | apply bn | apply bd | apply ba)); refine blk_far ?_ NB227_239.out _; (with_reducible repeat (first | apply bn | apply bd | apply ba)); refine blk_far ?_ NB227_239.out _; (with_reducible repeat (first | apply bn | apply bd | apply ba)); exact BK227.out⟩, ⟨by (with_reducible repeat (first | apply bn | apply bd | apply ba)); refine blk_far ?_ NB228_239.out _; (with_reducible repeat (first | apply bn | apply bd | apply ba)); refine blk_far ?_ NB228_239.out _; (with_reducible repeat (first | apply bn | apply bd | apply ba)); refine blk_far ?_ NB228_239.out _; (with_reducible repeat (first | apply bn | apply bd | apply ba)); exact BK228.out⟩, ⟨by (with_reducible repeat (first | apply bn | apply bd | apply ba)); refine blk_put (cs := #[.int .i64 t234, .int .i64 t235, .int .i64 0]) ?_ 2 _ rfl; (with_reducible repeat (first | apply bn | apply bd | apply ba)); refine blk_put (cs := #[.int .i64 t234, .int .i64 0, .int .i64 0]) ?_ 1 _ rfl; (with_reducible repeat (first | apply bn | apply bd | apply ba)); refine blk_put (cs := #[.int .i64 0, .int .i64 0, .int .i64 0]) ?_ 0 _ rfl; (with_reducible repeat (first | apply bn | apply bd | apply ba)); exact BK239.out⟩, ⟨by repeat (first | (with_reducible first | exact HI232.out | apply IsS127.alloc | apply IsS127.drewN | apply IsS127.drew | apply IsS127.set_1 | apply IsS127.set_2 | refine IsS127.far ?_ NB232_227.out _ | refine IsS127.far ?_ NB232_228.out _ | refine IsS127.far ?_ NB232_239.out _) | exact HI232.out)⟩, ⟨by repeat (first | (with_reducible first | exact HB.out | apply below_alloc | apply pw_below_drewN | apply below_drew1 | refine below_set ?_ (IsS127.ge HI232.out) | refine below_set ?_ GE227.out | refine below_set ?_ GE228.out | refine below_set ?_ GE239.out) | exact HB.out)⟩⟩
 case rest =>
  clear HC5
  try clear c1
  try clear p2
  try clear c9
  try clear c11
  try clear c12
  try clear c13
  try clear c15
  try clear hcz14_0 hcz14_1 hcz14_2
  try clear hfz14_0 hfz14_1 hfz14_2
  obtain ⟨kq, x8_4, rfl, HA, HJ4, BK227, BK228, BK239, HI232, HB⟩ := hcut
  cases kq with
  | zero => exact absurd HA.out (by simp [spec_l01Two.j0])
  | succ kj4 =>
   have H := HA.out
   clear HA
   simp only [spec_l01Two.j0] at H
   replace H := Option.bind_eq_some_iff.mp H
   obtain ⟨⟨t241, t242, t243, t244, t245⟩, A160, H⟩ := H
   replace H : ((spec_l01Bad.f t229 t244 t245 t241 t242 t243).bind fun bt246 => ((spec_l01Next.f t229 bt246.2.2.2.1 bt246.2.2.2.2 3).bind fun bt252 => (if bt252.1 = 0 then ((spec_l01Is.f kj4 x8_4 t234 t235 t236).bind fun t255 => (spec_l01Two.j1 kj4 t233 x8_4 t255 t229 bt252.2.1 bt252.2.2 t234 t235 t236 bt246.1 bt246.2.1 bt246.2.2.1)) else (spec_l01Two.j1 kj4 t233 x8_4 false t229 bt252.2.1 bt252.2.2 t234 t235 t236 bt246.1 bt246.2.1 bt246.2.2.1)))) = some (r1, r2, r3, r4, r5, r6, r7) := H
   have A16 := Aside0.mk A160
   clear A160
   replace H := Option.bind_eq_some_iff.mp H
   obtain ⟨⟨t246, t247, t248, t249, t250⟩, A170, H⟩ := H
   replace H : ((spec_l01Next.f t229 t249 t250 3).bind fun bt252 => (if bt252.1 = 0 then ((spec_l01Is.f kj4 x8_4 t234 t235 t236).bind fun t255 => (spec_l01Two.j1 kj4 t233 x8_4 t255 t229 bt252.2.1 bt252.2.2 t234 t235 t236 t246 t247 t248)) else (spec_l01Two.j1 kj4 t233 x8_4 false t229 bt252.2.1 bt252.2.2 t234 t235 t236 t246 t247 t248))) = some (r1, r2, r3, r4, r5, r6, r7) := H
   have A17 := Aside0.mk A170
   clear A170
   have HC18 := Aside0.mk H
   clear H
   go_upto_region 7 with (first | ((with_reducible refine gate_callee (f := 116) rfl ?_); refine g1 (some 27) Try.func116 #[.pointer (some ⟨g232, 0, none⟩), .int .i64 x8_4] ?_; (with_reducible refine (spec_l01Draw.calls kj4 g232 t229 t237 t238 x8_4 t241 t242 t243 t244 t245 w _ ?side1 ?side2 A16.out).mono ?_); (case side1 => repeat (first | (with_reducible first | exact HI232.out | apply IsS127.alloc | apply IsS127.drewN | apply IsS127.drew | apply IsS127.set_1 | apply IsS127.set_2 | refine IsS127.far ?_ NB232_227.out _ | refine IsS127.far ?_ NB232_228.out _ | refine IsS127.far ?_ NB232_239.out _) | exact HI232.out)); (case side2 => repeat (first | (with_reducible first | exact HB.out | apply below_alloc | apply pw_below_drewN | apply below_drew1 | refine below_set ?_ (IsS127.ge HI232.out) | refine below_set ?_ GE227.out | refine below_set ?_ GE228.out | refine below_set ?_ GE239.out) | exact HB.out)); rintro e w19 ⟨rfl, hi, hb, hk⟩; refine ⟨_, rfl, ?_⟩; replace BK227 := Aside0.mk (KeepBut.blk hk (g' := gb227) (o := .cells #[.int .i64 0, .int .i64 0, .int .i64 0] 27 (0, 0)) (be BK227) NB227_232.out (by simp)); replace BK228 := Aside0.mk (KeepBut.blk hk (g' := gb228) (o := .cells #[.int .i64 0, .int .i64 0, .int .i64 0] 27 (0, 0)) (be BK228) NB228_232.out (by simp)); replace BK239 := Aside0.mk (KeepBut.blk hk (g' := gb239) (o := .cells #[.int .i64 t234, .int .i64 t235, .int .i64 t236] 27 (0, 0)) (be BK239) NB239_232.out (by simp)); replace HI232 := Aside0.mk (hi); replace HB := Aside0.mk (hb); (try clear hb); (try clear hb2); (try clear hk); (try clear hi)) | ((with_reducible refine gate_callee (f := 142) rfl ?_); refine g1 (some 28) Try.func142 #[.pointer (some ⟨g232, 0, none⟩), .agg #[.int .i64 t241, .int .i64 t242, .int .i64 t243]] ?_; (with_reducible refine (spec_l01Bad.calls g232 t229 t244 t245 t241 t242 t243 t246 t247 t248 t249 t250 w _ ?side1 ?side2 A17.out).mono ?_); (case side1 => repeat (first | (with_reducible first | exact HI232.out | apply IsS127.alloc | apply IsS127.drewN | apply IsS127.drew | apply IsS127.set_1 | apply IsS127.set_2 | refine IsS127.far ?_ NB232_227.out _ | refine IsS127.far ?_ NB232_228.out _ | refine IsS127.far ?_ NB232_239.out _) | exact HI232.out)); (case side2 => repeat (first | (with_reducible first | exact HB.out | apply below_alloc | apply pw_below_drewN | apply below_drew1 | refine below_set ?_ (IsS127.ge HI232.out) | refine below_set ?_ GE227.out | refine below_set ?_ GE228.out | refine below_set ?_ GE239.out) | exact HB.out)); rintro e w20 ⟨rfl, hi, hb, hk⟩; refine ⟨_, rfl, ?_⟩; replace BK227 := Aside0.mk (KeepBut.blk hk (g' := gb227) (o := .cells #[.int .i64 0, .int .i64 0, .int .i64 0] 27 (0, 0)) (be BK227) NB227_232.out (by simp)); replace BK228 := Aside0.mk (KeepBut.blk hk (g' := gb228) (o := .cells #[.int .i64 0, .int .i64 0, .int .i64 0] 27 (0, 0)) (be BK228) NB228_232.out (by simp)); replace BK239 := Aside0.mk (KeepBut.blk hk (g' := gb239) (o := .cells #[.int .i64 t234, .int .i64 t235, .int .i64 t236] 27 (0, 0)) (be BK239) NB239_232.out (by simp)); replace HI232 := Aside0.mk (hi); replace HB := Aside0.mk (hb); (try clear hb); (try clear hb2); (try clear hk); (try clear hi)) | ((with_reducible refine gate_dst (N := 9) rfl ?_); refine bx (N := 9) (cs := #[.int .i64 0, .int .i64 0, .int .i64 0]) (t := 27) ?_; intro gb251 hg w21 hbox hb; have BK251 := Aside0.mk (hbox); have GW251 := Aside0.mk ((by rw [hg]; exact (below_size (by repeat (first | (with_reducible first | exact HB.out | apply below_alloc | apply pw_below_drewN | apply below_drew1 | refine below_set ?_ (IsS127.ge HI232.out) | refine below_set ?_ GE227.out | refine below_set ?_ GE228.out | refine below_set ?_ GE239.out) | exact HB.out))) : w.heap.size ≤ gb251)); have GE251 := Aside0.mk ((by rw [hg]; exact (below_size (by repeat (first | (with_reducible first | exact HB.out | apply below_alloc | apply pw_below_drewN | apply below_drew1 | refine below_set ?_ (IsS127.ge HI232.out) | refine below_set ?_ GE227.out | refine below_set ?_ GE228.out | refine below_set ?_ GE239.out) | exact HB.out))) : w.heap.size ≤ gb251)); have NB227_251 := nl hg BK227; have NB251_227 := ng hg BK227; have NB228_251 := nl hg BK228; have NB251_228 := ng hg BK228; have NB239_251 := nl hg BK239; have NB251_239 := ng hg BK239; have NB232_251 := Aside0.mk ((by rw [hg]; exact Nat.ne_of_lt (IsS127.lt (show IsS127 w _ g232 t229 t249 t250 from by repeat (first | (with_reducible first | exact HI232.out | apply IsS127.alloc | apply IsS127.drewN | apply IsS127.drew | apply IsS127.set_1 | apply IsS127.set_2 | refine IsS127.far ?_ NB232_227.out _ | refine IsS127.far ?_ NB232_228.out _ | refine IsS127.far ?_ NB232_239.out _) | exact HI232.out))) : g232 ≠ gb251)); have NB251_232 := Aside0.mk ((by rw [hg]; exact Nat.ne_of_gt (IsS127.lt (show IsS127 w _ g232 t229 t249 t250 from by repeat (first | (with_reducible first | exact HI232.out | apply IsS127.alloc | apply IsS127.drewN | apply IsS127.drew | apply IsS127.set_1 | apply IsS127.set_2 | refine IsS127.far ?_ NB232_227.out _ | refine IsS127.far ?_ NB232_228.out _ | refine IsS127.far ?_ NB232_239.out _) | exact HI232.out))) : gb251 ≠ g232)); replace BK227 := bb BK227 hb; replace BK228 := bb BK228 hb; replace BK239 := bb BK239 hb; replace HB := Aside0.mk (below_step (by repeat (first | (with_reducible first | exact HB.out | apply below_alloc | apply pw_below_drewN | apply below_drew1 | refine below_set ?_ (IsS127.ge HI232.out) | refine below_set ?_ GE227.out | refine below_set ?_ GE228.out | refine below_set ?_ GE239.out) | exact HB.out)) hb); replace HI232 := Aside0.mk (IsS127.below (by repeat (first | (with_reducible first | exact HI232.out | apply IsS127.alloc | apply IsS127.drewN | apply IsS127.drew | apply IsS127.set_1 | apply IsS127.set_2 | refine IsS127.far ?_ NB232_227.out _ | refine IsS127.far ?_ NB232_228.out _ | refine IsS127.far ?_ NB232_239.out _) | exact HI232.out)) hb); clear hb hbox hg; have hnb22 := NB251_227.out; have hnc22 := NB227_251.out; have hnb23 := NB251_228.out; have hnc23 := NB228_251.out; have hnb24 := NB251_239.out; have hnc24 := NB239_251.out; have hnb25 := NB251_232.out; have hnc25 := NB232_251.out; obtain ⟨hcz26_0, hcz26_1, hcz26_2, hfz26_0, hfz26_1, hfz26_2⟩ := c3 BK251))
   (try simp only [Act.put, List.setIfInBounds_toArray, List.set_cons_zero, List.set_cons_succ])
   go_cut [36] (fun v36 wc => ∃ (kq : Nat) (x36_17 : Bool) (x233001_17 : Int) (x233002_17 : Int), v36 = .bool x36_17 ∧ Aside0 (spec_l01Two.j1 kq t233 x8_4 x36_17 t229 x233001_17 x233002_17 t234 t235 t236 t246 t247 t248 = some (r1, r2, r3, r4, r5, r6, r7)) ∧ Aside0 (kq ≤ kj4) ∧ Aside0 (wc.heap[gb227]? = some (.cells #[.int .i64 0, .int .i64 0, .int .i64 0] 27 (0, 0))) ∧ Aside0 (wc.heap[gb228]? = some (.cells #[.int .i64 0, .int .i64 0, .int .i64 0] 27 (0, 0))) ∧ Aside0 (wc.heap[gb239]? = some (.cells #[.int .i64 t234, .int .i64 t235, .int .i64 t236] 27 (0, 0))) ∧ Aside0 (wc.heap[gb251]? = some (.cells #[.int .i64 t246, .int .i64 t247, .int .i64 t248] 27 (0, 0))) ∧ Aside0 (IsS127 w wc g232 t229 x233001_17 x233002_17) ∧ Aside0 (Below w.heap.size w wc))
   case first =>
    have H := HC18.out
    clear HC18
    replace H := Option.bind_eq_some_iff.mp H
    obtain ⟨⟨t252, t253, t254⟩, A270, H⟩ := H
    replace H : (if t252 = 0 then ((spec_l01Is.f kj4 x8_4 t234 t235 t236).bind fun t255 => (spec_l01Two.j1 kj4 t233 x8_4 t255 t229 t253 t254 t234 t235 t236 t246 t247 t248)) else (spec_l01Two.j1 kj4 t233 x8_4 false t229 t253 t254 t234 t235 t236 t246 t247 t248)) = some (r1, r2, r3, r4, r5, r6, r7) := H
    have A27 := Aside0.mk A270
    clear A270
    by_cases c28 : t252 = 0
    ·rw [if_pos c28] at H
     have c28b0 : (t252 == 0) = true := beq_iff_eq.mpr c28
     have c28b1 : (t252 != 0) = false := bne_eq_false_iff_eq.mpr c28
     clear c28
     (first | rw [c28b0] | (simp only [i64_w, i32_w]; rw [c28b0]) | skip)
     replace H := Option.bind_eq_some_iff.mp H
     obtain ⟨t255, A290, H⟩ := H
     replace H : (spec_l01Two.j1 kj4 t233 x8_4 t255 t229 t253 t254 t234 t235 t236 t246 t247 t248) = some (r1, r2, r3, r4, r5, r6, r7) := H
     have A29 := Aside0.mk A290
     clear A290
     have H' := Aside0.mk H
     clear H
     go_wp2_with (first | ((with_reducible refine gate_callee (f := 101) rfl ?_); refine g1 (some 30) Try.func101 #[.pointer (some ⟨g232, 0, none⟩), .int .i64 3] ?_; (with_reducible refine (spec_l01Next.calls g232 t229 t249 t250 3 t252 t253 t254 w _ ?side1 ?side2 A27.out).mono ?_); (case side1 => repeat (first | (with_reducible first | exact HI232.out | apply IsS127.alloc | apply IsS127.drewN | apply IsS127.drew | apply IsS127.set_1 | apply IsS127.set_2 | refine IsS127.far ?_ NB232_227.out _ | refine IsS127.far ?_ NB232_228.out _ | refine IsS127.far ?_ NB232_239.out _ | refine IsS127.far ?_ NB232_251.out _) | exact HI232.out)); (case side2 => repeat (first | (with_reducible first | exact HB.out | apply below_alloc | apply pw_below_drewN | apply below_drew1 | refine below_set ?_ (IsS127.ge HI232.out) | refine below_set ?_ GE227.out | refine below_set ?_ GE228.out | refine below_set ?_ GE239.out | refine below_set ?_ GE251.out) | exact HB.out)); rintro e w30 ⟨rfl, hi, hb, hk⟩; refine ⟨_, rfl, ?_⟩; replace BK227 := Aside0.mk (KeepBut.blk hk (g' := gb227) (o := .cells #[.int .i64 0, .int .i64 0, .int .i64 0] 27 (0, 0)) (by (with_reducible repeat (first | apply bn | apply bd | apply ba)); refine blk_far ?_ NB227_251.out _; (with_reducible repeat (first | apply bn | apply bd | apply ba)); refine blk_far ?_ NB227_251.out _; (with_reducible repeat (first | apply bn | apply bd | apply ba)); refine blk_far ?_ NB227_251.out _; (with_reducible repeat (first | apply bn | apply bd | apply ba)); exact BK227.out) NB227_232.out (by simp)); replace BK228 := Aside0.mk (KeepBut.blk hk (g' := gb228) (o := .cells #[.int .i64 0, .int .i64 0, .int .i64 0] 27 (0, 0)) (by (with_reducible repeat (first | apply bn | apply bd | apply ba)); refine blk_far ?_ NB228_251.out _; (with_reducible repeat (first | apply bn | apply bd | apply ba)); refine blk_far ?_ NB228_251.out _; (with_reducible repeat (first | apply bn | apply bd | apply ba)); refine blk_far ?_ NB228_251.out _; (with_reducible repeat (first | apply bn | apply bd | apply ba)); exact BK228.out) NB228_232.out (by simp)); replace BK239 := Aside0.mk (KeepBut.blk hk (g' := gb239) (o := .cells #[.int .i64 t234, .int .i64 t235, .int .i64 t236] 27 (0, 0)) (by (with_reducible repeat (first | apply bn | apply bd | apply ba)); refine blk_far ?_ NB239_251.out _; (with_reducible repeat (first | apply bn | apply bd | apply ba)); refine blk_far ?_ NB239_251.out _; (with_reducible repeat (first | apply bn | apply bd | apply ba)); refine blk_far ?_ NB239_251.out _; (with_reducible repeat (first | apply bn | apply bd | apply ba)); exact BK239.out) NB239_232.out (by simp)); replace BK251 := Aside0.mk (KeepBut.blk hk (g' := gb251) (o := .cells #[.int .i64 t246, .int .i64 t247, .int .i64 t248] 27 (0, 0)) (by (with_reducible repeat (first | apply bn | apply bd | apply ba)); refine blk_put (cs := #[.int .i64 t246, .int .i64 t247, .int .i64 0]) ?_ 2 _ rfl; (with_reducible repeat (first | apply bn | apply bd | apply ba)); refine blk_put (cs := #[.int .i64 t246, .int .i64 0, .int .i64 0]) ?_ 1 _ rfl; (with_reducible repeat (first | apply bn | apply bd | apply ba)); refine blk_put (cs := #[.int .i64 0, .int .i64 0, .int .i64 0]) ?_ 0 _ rfl; (with_reducible repeat (first | apply bn | apply bd | apply ba)); exact BK251.out) NB251_232.out (by simp)); replace HI232 := Aside0.mk (hi); replace HB := Aside0.mk (hb); (try clear hb); (try clear hb2); (try clear hk); (try clear hi); have hnb31 := NB239_227.out; have hnc31 := NB227_239.out; have hnb32 := NB239_228.out; have hnc32 := NB228_239.out; have hnb33 := NB239_251.out; have hnc33 := NB251_239.out; have hnb34 := NB239_232.out; have hnc34 := NB232_239.out; obtain ⟨hcz35_0, hcz35_1, hcz35_2, hfz35_0, hfz35_1, hfz35_2⟩ := c3 BK239) | (go_at_call 134; (with_reducible refine (spec_l01Is.calls kj4 x8_4 t234 t235 t236 t255 _ A29.out).mono ?_); rintro e w36 ⟨rfl, hb⟩; replace BK227 := bb BK227 hb; replace BK228 := bb BK228 hb; replace BK239 := bb BK239 hb; replace BK251 := bb BK251 hb; replace HB := Aside0.mk (below_step (by repeat (first | (with_reducible first | exact HB.out | apply below_alloc | apply pw_below_drewN | apply below_drew1 | refine below_set ?_ (IsS127.ge HI232.out) | refine below_set ?_ GE227.out | refine below_set ?_ GE228.out | refine below_set ?_ GE239.out | refine below_set ?_ GE251.out) | exact HB.out)) hb); replace HI232 := Aside0.mk (IsS127.below (by repeat (first | (with_reducible first | exact HI232.out | apply IsS127.alloc | apply IsS127.drewN | apply IsS127.drew | apply IsS127.set_1 | apply IsS127.set_2 | refine IsS127.far ?_ NB232_227.out _ | refine IsS127.far ?_ NB232_228.out _ | refine IsS127.far ?_ NB232_239.out _ | refine IsS127.far ?_ NB232_251.out _) | exact HI232.out)) hb); (try clear hb); (try clear hb2); (try clear hk); (try clear hi)))
     go_meet
     case rel => exact ⟨_, (t255), (t253), (t254), (by first | rfl | (simp; done) | (simp [*]; done)), H', ⟨by have := HJ4.out; first | omega | exact Nat.le_refl _⟩, ⟨be BK227⟩, ⟨be BK228⟩, ⟨be BK239⟩, ⟨be BK251⟩, ⟨by repeat (first | (with_reducible first | exact HI232.out | apply IsS127.alloc | apply IsS127.drewN | apply IsS127.drew | apply IsS127.set_1 | apply IsS127.set_2 | refine IsS127.far ?_ NB232_227.out _ | refine IsS127.far ?_ NB232_228.out _ | refine IsS127.far ?_ NB232_239.out _ | refine IsS127.far ?_ NB232_251.out _) | exact HI232.out)⟩, ⟨by repeat (first | (with_reducible first | exact HB.out | apply below_alloc | apply pw_below_drewN | apply below_drew1 | refine below_set ?_ (IsS127.ge HI232.out) | refine below_set ?_ GE227.out | refine below_set ?_ GE228.out | refine below_set ?_ GE239.out | refine below_set ?_ GE251.out) | exact HB.out)⟩⟩
    ·rw [if_neg c28] at H
     have c28b0 : (t252 == 0) = false := beq_eq_false_iff_ne.mpr c28
     have c28b1 : (t252 != 0) = true := bne_iff_ne.mpr c28
     (first | rw [c28b0] | (simp only [i64_w, i32_w]; rw [c28b0]) | skip)
     have H' := Aside0.mk H
     clear H
     go_wp2_with (first | ((with_reducible refine gate_callee (f := 101) rfl ?_); refine g1 (some 30) Try.func101 #[.pointer (some ⟨g232, 0, none⟩), .int .i64 3] ?_; (with_reducible refine (spec_l01Next.calls g232 t229 t249 t250 3 t252 t253 t254 w _ ?side1 ?side2 A27.out).mono ?_); (case side1 => repeat (first | (with_reducible first | exact HI232.out | apply IsS127.alloc | apply IsS127.drewN | apply IsS127.drew | apply IsS127.set_1 | apply IsS127.set_2 | refine IsS127.far ?_ NB232_227.out _ | refine IsS127.far ?_ NB232_228.out _ | refine IsS127.far ?_ NB232_239.out _ | refine IsS127.far ?_ NB232_251.out _) | exact HI232.out)); (case side2 => repeat (first | (with_reducible first | exact HB.out | apply below_alloc | apply pw_below_drewN | apply below_drew1 | refine below_set ?_ (IsS127.ge HI232.out) | refine below_set ?_ GE227.out | refine below_set ?_ GE228.out | refine below_set ?_ GE239.out | refine below_set ?_ GE251.out) | exact HB.out)); rintro e w37 ⟨rfl, hi, hb, hk⟩; refine ⟨_, rfl, ?_⟩; replace BK227 := Aside0.mk (KeepBut.blk hk (g' := gb227) (o := .cells #[.int .i64 0, .int .i64 0, .int .i64 0] 27 (0, 0)) (by (with_reducible repeat (first | apply bn | apply bd | apply ba)); refine blk_far ?_ NB227_251.out _; (with_reducible repeat (first | apply bn | apply bd | apply ba)); refine blk_far ?_ NB227_251.out _; (with_reducible repeat (first | apply bn | apply bd | apply ba)); refine blk_far ?_ NB227_251.out _; (with_reducible repeat (first | apply bn | apply bd | apply ba)); exact BK227.out) NB227_232.out (by simp)); replace BK228 := Aside0.mk (KeepBut.blk hk (g' := gb228) (o := .cells #[.int .i64 0, .int .i64 0, .int .i64 0] 27 (0, 0)) (by (with_reducible repeat (first | apply bn | apply bd | apply ba)); refine blk_far ?_ NB228_251.out _; (with_reducible repeat (first | apply bn | apply bd | apply ba)); refine blk_far ?_ NB228_251.out _; (with_reducible repeat (first | apply bn | apply bd | apply ba)); refine blk_far ?_ NB228_251.out _; (with_reducible repeat (first | apply bn | apply bd | apply ba)); exact BK228.out) NB228_232.out (by simp)); replace BK239 := Aside0.mk (KeepBut.blk hk (g' := gb239) (o := .cells #[.int .i64 t234, .int .i64 t235, .int .i64 t236] 27 (0, 0)) (by (with_reducible repeat (first | apply bn | apply bd | apply ba)); refine blk_far ?_ NB239_251.out _; (with_reducible repeat (first | apply bn | apply bd | apply ba)); refine blk_far ?_ NB239_251.out _; (with_reducible repeat (first | apply bn | apply bd | apply ba)); refine blk_far ?_ NB239_251.out _; (with_reducible repeat (first | apply bn | apply bd | apply ba)); exact BK239.out) NB239_232.out (by simp)); replace BK251 := Aside0.mk (KeepBut.blk hk (g' := gb251) (o := .cells #[.int .i64 t246, .int .i64 t247, .int .i64 t248] 27 (0, 0)) (by (with_reducible repeat (first | apply bn | apply bd | apply ba)); refine blk_put (cs := #[.int .i64 t246, .int .i64 t247, .int .i64 0]) ?_ 2 _ rfl; (with_reducible repeat (first | apply bn | apply bd | apply ba)); refine blk_put (cs := #[.int .i64 t246, .int .i64 0, .int .i64 0]) ?_ 1 _ rfl; (with_reducible repeat (first | apply bn | apply bd | apply ba)); refine blk_put (cs := #[.int .i64 0, .int .i64 0, .int .i64 0]) ?_ 0 _ rfl; (with_reducible repeat (first | apply bn | apply bd | apply ba)); exact BK251.out) NB251_232.out (by simp)); replace HI232 := Aside0.mk (hi); replace HB := Aside0.mk (hb); (try clear hb); (try clear hb2); (try clear hk); (try clear hi)))
     go_meet
     case rel => exact ⟨_, (false), (t253), (t254), (by first | rfl | (simp; done) | (simp [*]; done)), H', ⟨by have := HJ4.out; first | omega | exact Nat.le_refl _⟩, ⟨be BK227⟩, ⟨be BK228⟩, ⟨be BK239⟩, ⟨be BK251⟩, ⟨by repeat (first | (with_reducible first | exact HI232.out | apply IsS127.alloc | apply IsS127.drewN | apply IsS127.drew | apply IsS127.set_1 | apply IsS127.set_2 | refine IsS127.far ?_ NB232_227.out _ | refine IsS127.far ?_ NB232_228.out _ | refine IsS127.far ?_ NB232_239.out _ | refine IsS127.far ?_ NB232_251.out _) | exact HI232.out)⟩, ⟨by repeat (first | (with_reducible first | exact HB.out | apply below_alloc | apply pw_below_drewN | apply below_drew1 | refine below_set ?_ (IsS127.ge HI232.out) | refine below_set ?_ GE227.out | refine below_set ?_ GE228.out | refine below_set ?_ GE239.out | refine below_set ?_ GE251.out) | exact HB.out)⟩⟩
   case rest =>
    clear HC18
    try clear c1
    try clear c2
    try clear p2
    try clear c3
    try clear c9
    try clear c10
    try clear c11
    try clear c12
    try clear c13
    try clear c14
    try clear c15
    try clear c22
    try clear c23
    try clear c24
    try clear c25
    try clear c28
    try clear c28b0
    try clear c28b1
    try clear c31
    try clear c32
    try clear c33
    try clear c34
    try clear hcz14_0 hcz14_1 hcz14_2
    try clear hcz26_0 hcz26_1 hcz26_2
    try clear hcz35_0 hcz35_1 hcz35_2
    try clear hfz14_0 hfz14_1 hfz14_2
    try clear hfz26_0 hfz26_1 hfz26_2
    try clear hfz35_0 hfz35_1 hfz35_2
    try clear p2
    obtain ⟨kq, x36_17, x233001_17, x233002_17, rfl, HA, HJ17, BK227, BK228, BK239, BK251, HI232, HB⟩ := hcut
    cases kq with
    | zero => exact absurd HA.out (by simp [spec_l01Two.j1])
    | succ kj17 =>
     have H := HA.out
     clear HA
     simp only [spec_l01Two.j1] at H
     by_cases c38 : x36_17 = true
     ·subst c38
      have H1 : ((spec_l01Next.f t229 x233001_17 x233002_17 4).bind fun bt256 => (spec_l01Two.l0 kj17 t233 x8_4 bt256.1 t234 t235 t236 t234 t235 t236)) = some (r1, r2, r3, r4, r5, r6, r7) := by rw [if_pos rfl] at H; exact H
      clear H
      have H := H1
      clear H1
      replace H := Option.bind_eq_some_iff.mp H
      obtain ⟨⟨t256, t257, t258⟩, A390, H⟩ := H
      replace H : (spec_l01Two.l0 kj17 t233 x8_4 t256 t234 t235 t236 t234 t235 t236) = some (r1, r2, r3, r4, r5, r6, r7) := H
      have A39 := Aside0.mk A390
      clear A390
      have H' := Aside0.mk H
      clear H
      have hnb40 := NB239_227.out
      have hnc40 := NB227_239.out
      have hnb41 := NB239_228.out
      have hnc41 := NB228_239.out
      have hnb42 := NB239_251.out
      have hnc42 := NB251_239.out
      have hnb43 := NB239_232.out
      have hnc43 := NB232_239.out
      have hcz44_0 : wc.cell? ⟨gb239, 0, none⟩ = some (.int .i64 t234) := (blk_cell BK239.out 0).trans rfl
      have hcz44_1 : wc.cell? ⟨gb239, 1, none⟩ = some (.int .i64 t235) := (blk_cell BK239.out 1).trans rfl
      have hcz44_2 : wc.cell? ⟨gb239, 2, none⟩ = some (.int .i64 t236) := (blk_cell BK239.out 2).trans rfl
      have hfz44_0 := blk_frozen BK239.out 0
      have hfz44_1 := blk_frozen BK239.out 1
      have hfz44_2 := blk_frozen BK239.out 2
      have hnb45 := NB251_227.out
      have hnc45 := NB227_251.out
      have hnb46 := NB251_228.out
      have hnc46 := NB228_251.out
      have hnb47 := NB251_232.out
      have hnc47 := NB232_251.out
      have hcz48_0 : wc.cell? ⟨gb251, 0, none⟩ = some (.int .i64 t246) := (blk_cell BK251.out 0).trans rfl
      have hcz48_1 : wc.cell? ⟨gb251, 1, none⟩ = some (.int .i64 t247) := (blk_cell BK251.out 1).trans rfl
      have hcz48_2 : wc.cell? ⟨gb251, 2, none⟩ = some (.int .i64 t248) := (blk_cell BK251.out 2).trans rfl
      have hfz48_0 := blk_frozen BK251.out 0
      have hfz48_1 := blk_frozen BK251.out 1
      have hfz48_2 := blk_frozen BK251.out 2
      go_wp2_with (first | ((with_reducible refine gate_callee (f := 101) rfl ?_); refine g1 (some 39) Try.func101 #[.pointer (some ⟨g232, 0, none⟩), .int .i64 4] ?_; (with_reducible refine (spec_l01Next.calls g232 t229 x233001_17 x233002_17 4 t256 t257 t258 w _ ?side1 ?side2 A39.out).mono ?_); (case side1 => repeat (first | (with_reducible first | exact HI232.out | apply IsS127.alloc | apply IsS127.drewN | apply IsS127.drew | apply IsS127.set_1 | apply IsS127.set_2 | refine IsS127.far ?_ NB232_227.out _ | refine IsS127.far ?_ NB232_228.out _ | refine IsS127.far ?_ NB232_239.out _ | refine IsS127.far ?_ NB232_251.out _) | exact HI232.out)); (case side2 => repeat (first | (with_reducible first | exact HB.out | apply below_alloc | apply pw_below_drewN | apply below_drew1 | refine below_set ?_ (IsS127.ge HI232.out) | refine below_set ?_ GE227.out | refine below_set ?_ GE228.out | refine below_set ?_ GE239.out | refine below_set ?_ GE251.out) | exact HB.out)); rintro e w49 ⟨rfl, hi, hb, hk⟩; refine ⟨_, rfl, ?_⟩; replace BK227 := Aside0.mk (KeepBut.blk hk (g' := gb227) (o := .cells #[.int .i64 0, .int .i64 0, .int .i64 0] 27 (0, 0)) (by (with_reducible repeat (first | apply bn | apply bd | apply ba)); refine blk_far ?_ NB227_251.out _; (with_reducible repeat (first | apply bn | apply bd | apply ba)); refine blk_far ?_ NB227_251.out _; (with_reducible repeat (first | apply bn | apply bd | apply ba)); refine blk_far ?_ NB227_251.out _; (with_reducible repeat (first | apply bn | apply bd | apply ba)); exact BK227.out) NB227_232.out (by simp)); replace BK228 := Aside0.mk (KeepBut.blk hk (g' := gb228) (o := .cells #[.int .i64 0, .int .i64 0, .int .i64 0] 27 (0, 0)) (by (with_reducible repeat (first | apply bn | apply bd | apply ba)); refine blk_far ?_ NB228_251.out _; (with_reducible repeat (first | apply bn | apply bd | apply ba)); refine blk_far ?_ NB228_251.out _; (with_reducible repeat (first | apply bn | apply bd | apply ba)); refine blk_far ?_ NB228_251.out _; (with_reducible repeat (first | apply bn | apply bd | apply ba)); exact BK228.out) NB228_232.out (by simp)); replace BK239 := Aside0.mk (KeepBut.blk hk (g' := gb239) (o := .cells #[.int .i64 t234, .int .i64 t235, .int .i64 t236] 27 (0, 0)) (by (with_reducible repeat (first | apply bn | apply bd | apply ba)); refine blk_far ?_ NB239_251.out _; (with_reducible repeat (first | apply bn | apply bd | apply ba)); refine blk_far ?_ NB239_251.out _; (with_reducible repeat (first | apply bn | apply bd | apply ba)); refine blk_far ?_ NB239_251.out _; (with_reducible repeat (first | apply bn | apply bd | apply ba)); exact BK239.out) NB239_232.out (by simp)); replace BK251 := Aside0.mk (KeepBut.blk hk (g' := gb251) (o := .cells #[.int .i64 t234, .int .i64 t235, .int .i64 t236] 27 (0, 0)) (by (with_reducible repeat (first | apply bn | apply bd | apply ba)); refine blk_put (cs := #[.int .i64 t234, .int .i64 t235, .int .i64 t248]) ?_ 2 _ rfl; (with_reducible repeat (first | apply bn | apply bd | apply ba)); refine blk_put (cs := #[.int .i64 t234, .int .i64 t247, .int .i64 t248]) ?_ 1 _ rfl; (with_reducible repeat (first | apply bn | apply bd | apply ba)); refine blk_put (cs := #[.int .i64 t246, .int .i64 t247, .int .i64 t248]) ?_ 0 _ rfl; (with_reducible repeat (first | apply bn | apply bd | apply ba)); exact BK251.out) NB251_232.out (by simp)); replace HI232 := Aside0.mk (hi); replace HB := Aside0.mk (hb); (try clear hb); (try clear hb2); (try clear hk); (try clear hi)))
      go_loopg [10] kj17 (fun kq v10 w' => ∃ (x10_3 : Int) (x252000_3 : Int) (x252001_3 : Int) (x252002_3 : Int), v10 = .int .i64 x10_3 ∧ Aside0 (spec_l01Two.l0 kq t233 x8_4 x10_3 t234 t235 t236 x252000_3 x252001_3 x252002_3 = some (r1, r2, r3, r4, r5, r6, r7)) ∧ Aside0 (kq ≤ kj17) ∧ Aside0 (w'.heap[gb227]? = some (.cells #[.int .i64 0, .int .i64 0, .int .i64 0] 27 (0, 0))) ∧ Aside0 (w'.heap[gb228]? = some (.cells #[.int .i64 0, .int .i64 0, .int .i64 0] 27 (0, 0))) ∧ Aside0 (w'.heap[gb239]? = some (.cells #[.int .i64 t234, .int .i64 t235, .int .i64 t236] 27 (0, 0))) ∧ Aside0 (w'.heap[gb251]? = some (.cells #[.int .i64 x252000_3, .int .i64 x252001_3, .int .i64 x252002_3] 27 (0, 0))) ∧ Aside0 (Below w.heap.size w w'))
      case atStart => exact ⟨(t256), (t234), (t235), (t236), (by first | rfl | (simp; done) | (simp [*]; done)), H', ⟨Nat.le_refl _⟩, ⟨be BK227⟩, ⟨be BK228⟩, ⟨be BK239⟩, ⟨be BK251⟩, ⟨by repeat (first | (with_reducible first | exact HB.out | apply below_alloc | apply pw_below_drewN | apply below_drew1 | refine below_set ?_ (IsS127.ge HI232.out) | refine below_set ?_ GE227.out | refine below_set ?_ GE228.out | refine below_set ?_ GE239.out | refine below_set ?_ GE251.out) | exact HB.out)⟩⟩
      case round =>
       clear H'
       try clear c1
       try clear c2
       try clear p2
       try clear c3
       try clear c4
       try clear c9
       try clear c10
       try clear c11
       try clear c12
       try clear c13
       try clear c14
       try clear c15
       try clear c22
       try clear c23
       try clear c24
       try clear c25
       try clear c28
       try clear c28b0
       try clear c28b1
       try clear c31
       try clear c32
       try clear c33
       try clear c34
       try clear c38
       try clear c40
       try clear c41
       try clear c42
       try clear c43
       try clear c45
       try clear c46
       try clear c47
       try clear hcz14_0 hcz14_1 hcz14_2
       try clear hcz26_0 hcz26_1 hcz26_2
       try clear hcz35_0 hcz35_1 hcz35_2
       try clear hcz44_0 hcz44_1 hcz44_2
       try clear hcz48_0 hcz48_1 hcz48_2
       try clear hfz14_0 hfz14_1 hfz14_2
       try clear hfz26_0 hfz26_1 hfz26_2
       try clear hfz35_0 hfz35_1 hfz35_2
       try clear hfz44_0 hfz44_1 hfz44_2
       try clear hfz48_0 hfz48_1 hfz48_2
       try clear p2
       obtain ⟨x10_3, x252000_3, x252001_3, x252002_3, rfl, HA, HK3, BK227, BK228, BK239, BK251, HB⟩ := hrel
       cases gk with
       | zero => exact absurd HA.out (by simp [spec_l01Two.l0])
       | succ k3 =>
        have H := HA.out
        clear HA
        simp only [spec_l01Two.l0] at H
        by_cases c50 : x10_3 > 0
        ·rw [if_pos c50] at H
         have c50b0 : decide (0 < x10_3) = true := decide_eq_true c50
         clear c50
         replace H := Option.bind_eq_some_iff.mp H
         obtain ⟨⟨t259, t260, t261, t262⟩, A510, H⟩ := H
         replace H : (if t262 = true then (spec_l01Two.l0 k3 t233 x8_4 (wrap64 (x10_3 - 1)) t234 t235 t236 t259 t260 t261) else (spec_l01Two.l0 k3 t233 x8_4 (wrap64 (x10_3 - 1)) t234 t235 t236 x252000_3 x252001_3 x252002_3)) = some (r1, r2, r3, r4, r5, r6, r7) := H
         have A51 := Aside0.mk A510
         clear A510
         by_cases c52 : t262 = true
         ·subst c52
          have H1 : (spec_l01Two.l0 k3 t233 x8_4 (wrap64 (x10_3 - 1)) t234 t235 t236 t259 t260 t261) = some (r1, r2, r3, r4, r5, r6, r7) := by rw [if_pos rfl] at H; exact H
          clear H
          have H := H1
          clear H1
          have H' := Aside0.mk H
          clear H
          have hnb53 := NB251_227.out
          have hnc53 := NB227_251.out
          have hnb54 := NB251_228.out
          have hnc54 := NB228_251.out
          have hnb55 := NB251_239.out
          have hnc55 := NB239_251.out
          have hcz56_0 : wr.cell? ⟨gb251, 0, none⟩ = some (.int .i64 x252000_3) := (blk_cell BK251.out 0).trans rfl
          have hcz56_1 : wr.cell? ⟨gb251, 1, none⟩ = some (.int .i64 x252001_3) := (blk_cell BK251.out 1).trans rfl
          have hcz56_2 : wr.cell? ⟨gb251, 2, none⟩ = some (.int .i64 x252002_3) := (blk_cell BK251.out 2).trans rfl
          have hfz56_0 := blk_frozen BK251.out 0
          have hfz56_1 := blk_frozen BK251.out 1
          have hfz56_2 := blk_frozen BK251.out 2
          go_wp2_with (first | ((with_reducible refine gate_callee (f := 106) rfl ?_); refine g1 (some 47) Try.func106 #[.int .i64 x8_4, .agg #[.int .i64 x252000_3, .int .i64 x252001_3, .int .i64 x252002_3]] ?_; (with_reducible refine (spec_l01Parent.calls k3 x8_4 x252000_3 x252001_3 x252002_3 t259 t260 t261 true _ A51.out).mono ?_); rintro e w57 ⟨rfl, hb⟩; refine ⟨_, rfl, ?_⟩; replace BK227 := bb BK227 hb; replace BK228 := bb BK228 hb; replace BK239 := bb BK239 hb; replace BK251 := bb BK251 hb; replace HB := bs hb; (try clear hb); (try clear hb2); (try clear hk); (try clear hi)) | ((with_reducible refine gate_dst (N := 11) rfl ?_); refine bx (N := 11) (cs := #[.int .i64 0, .int .i64 0, .int .i64 0]) (t := 27) ?_; intro gb263 hg w58 hbox hb; have BK263 := Aside0.mk (hbox); have GW263 := sg hg; have GE263 := sg hg; have NB227_263 := nl hg BK227; have NB263_227 := ng hg BK227; have NB228_263 := nl hg BK228; have NB263_228 := ng hg BK228; have NB239_263 := nl hg BK239; have NB263_239 := ng hg BK239; have NB251_263 := nl hg BK251; have NB263_251 := ng hg BK251; replace BK227 := bb BK227 hb; replace BK228 := bb BK228 hb; replace BK239 := bb BK239 hb; replace BK251 := bb BK251 hb; replace HB := bs hb; clear hb hbox hg; have hnb59 := NB263_227.out; have hnc59 := NB227_263.out; have hnb60 := NB263_228.out; have hnc60 := NB228_263.out; have hnb61 := NB263_239.out; have hnc61 := NB239_263.out; have hnb62 := NB263_251.out; have hnc62 := NB251_263.out; obtain ⟨hcz63_0, hcz63_1, hcz63_2, hfz63_0, hfz63_1, hfz63_2⟩ := c3 BK263; obtain ⟨hcz64_0, hcz64_1, hcz64_2, hfz64_0, hfz64_1, hfz64_2⟩ := c3 BK251))
          go_roundg k3
          case measure => have := HJ4.out; have := HJ17.out; have := HK3.out; omega
          case rel => exact ⟨(wrap64 (x10_3 - 1)), (t259), (t260), (t261), (by first | rfl | (simp; done) | (simp [*]; done)), H', ⟨by have := HJ4.out; have := HJ17.out; have := HK3.out; omega⟩, ⟨by (with_reducible repeat (first | apply bn | apply bd | apply ba)); refine blk_far ?_ NB227_251.out _; (with_reducible repeat (first | apply bn | apply bd | apply ba)); refine blk_far ?_ NB227_251.out _; (with_reducible repeat (first | apply bn | apply bd | apply ba)); refine blk_far ?_ NB227_251.out _; (with_reducible repeat (first | apply bn | apply bd | apply ba)); refine blk_far ?_ NB227_263.out _; (with_reducible repeat (first | apply bn | apply bd | apply ba)); refine blk_far ?_ NB227_263.out _; (with_reducible repeat (first | apply bn | apply bd | apply ba)); refine blk_far ?_ NB227_263.out _; (with_reducible repeat (first | apply bn | apply bd | apply ba)); exact BK227.out⟩, ⟨by (with_reducible repeat (first | apply bn | apply bd | apply ba)); refine blk_far ?_ NB228_251.out _; (with_reducible repeat (first | apply bn | apply bd | apply ba)); refine blk_far ?_ NB228_251.out _; (with_reducible repeat (first | apply bn | apply bd | apply ba)); refine blk_far ?_ NB228_251.out _; (with_reducible repeat (first | apply bn | apply bd | apply ba)); refine blk_far ?_ NB228_263.out _; (with_reducible repeat (first | apply bn | apply bd | apply ba)); refine blk_far ?_ NB228_263.out _; (with_reducible repeat (first | apply bn | apply bd | apply ba)); refine blk_far ?_ NB228_263.out _; (with_reducible repeat (first | apply bn | apply bd | apply ba)); exact BK228.out⟩, ⟨by (with_reducible repeat (first | apply bn | apply bd | apply ba)); refine blk_far ?_ NB239_251.out _; (with_reducible repeat (first | apply bn | apply bd | apply ba)); refine blk_far ?_ NB239_251.out _; (with_reducible repeat (first | apply bn | apply bd | apply ba)); refine blk_far ?_ NB239_251.out _; (with_reducible repeat (first | apply bn | apply bd | apply ba)); refine blk_far ?_ NB239_263.out _; (with_reducible repeat (first | apply bn | apply bd | apply ba)); refine blk_far ?_ NB239_263.out _; (with_reducible repeat (first | apply bn | apply bd | apply ba)); refine blk_far ?_ NB239_263.out _; (with_reducible repeat (first | apply bn | apply bd | apply ba)); exact BK239.out⟩, ⟨by (with_reducible repeat (first | apply bn | apply bd | apply ba)); refine blk_put (cs := #[.int .i64 t259, .int .i64 t260, .int .i64 x252002_3]) ?_ 2 _ rfl; (with_reducible repeat (first | apply bn | apply bd | apply ba)); refine blk_put (cs := #[.int .i64 t259, .int .i64 x252001_3, .int .i64 x252002_3]) ?_ 1 _ rfl; (with_reducible repeat (first | apply bn | apply bd | apply ba)); refine blk_put (cs := #[.int .i64 x252000_3, .int .i64 x252001_3, .int .i64 x252002_3]) ?_ 0 _ rfl; (with_reducible repeat (first | apply bn | apply bd | apply ba)); refine blk_far ?_ NB251_263.out _; (with_reducible repeat (first | apply bn | apply bd | apply ba)); refine blk_far ?_ NB251_263.out _; (with_reducible repeat (first | apply bn | apply bd | apply ba)); refine blk_far ?_ NB251_263.out _; (with_reducible repeat (first | apply bn | apply bd | apply ba)); exact BK251.out⟩, ⟨by repeat (first | (with_reducible first | exact HB.out | apply below_alloc | apply pw_below_drewN | apply below_drew1 | refine below_set ?_ GE227.out | refine below_set ?_ GE228.out | refine below_set ?_ GE239.out | refine below_set ?_ GE251.out | refine below_set ?_ GE263.out) | exact HB.out)⟩⟩
         ·replace c52 := Bool.eq_false_iff.mpr c52
          subst c52
          have H1 : (spec_l01Two.l0 k3 t233 x8_4 (wrap64 (x10_3 - 1)) t234 t235 t236 x252000_3 x252001_3 x252002_3) = some (r1, r2, r3, r4, r5, r6, r7) := by rw [if_neg (show ¬ (false = true) by decide)] at H; exact H
          clear H
          have H := H1
          clear H1
          have H' := Aside0.mk H
          clear H
          have hnb65 := NB251_227.out
          have hnc65 := NB227_251.out
          have hnb66 := NB251_228.out
          have hnc66 := NB228_251.out
          have hnb67 := NB251_239.out
          have hnc67 := NB239_251.out
          have hcz68_0 : wr.cell? ⟨gb251, 0, none⟩ = some (.int .i64 x252000_3) := (blk_cell BK251.out 0).trans rfl
          have hcz68_1 : wr.cell? ⟨gb251, 1, none⟩ = some (.int .i64 x252001_3) := (blk_cell BK251.out 1).trans rfl
          have hcz68_2 : wr.cell? ⟨gb251, 2, none⟩ = some (.int .i64 x252002_3) := (blk_cell BK251.out 2).trans rfl
          have hfz68_0 := blk_frozen BK251.out 0
          have hfz68_1 := blk_frozen BK251.out 1
          have hfz68_2 := blk_frozen BK251.out 2
          go_wp2_with (first | ((with_reducible refine gate_callee (f := 106) rfl ?_); refine g1 (some 47) Try.func106 #[.int .i64 x8_4, .agg #[.int .i64 x252000_3, .int .i64 x252001_3, .int .i64 x252002_3]] ?_; (with_reducible refine (spec_l01Parent.calls k3 x8_4 x252000_3 x252001_3 x252002_3 t259 t260 t261 false _ A51.out).mono ?_); rintro e w69 ⟨rfl, hb⟩; refine ⟨_, rfl, ?_⟩; replace BK227 := bb BK227 hb; replace BK228 := bb BK228 hb; replace BK239 := bb BK239 hb; replace BK251 := bb BK251 hb; replace HB := bs hb; (try clear hb); (try clear hb2); (try clear hk); (try clear hi)) | ((with_reducible refine gate_dst (N := 11) rfl ?_); refine bx (N := 11) (cs := #[.int .i64 0, .int .i64 0, .int .i64 0]) (t := 27) ?_; intro gb263 hg w70 hbox hb; have BK263 := Aside0.mk (hbox); have GW263 := sg hg; have GE263 := sg hg; have NB227_263 := nl hg BK227; have NB263_227 := ng hg BK227; have NB228_263 := nl hg BK228; have NB263_228 := ng hg BK228; have NB239_263 := nl hg BK239; have NB263_239 := ng hg BK239; have NB251_263 := nl hg BK251; have NB263_251 := ng hg BK251; replace BK227 := bb BK227 hb; replace BK228 := bb BK228 hb; replace BK239 := bb BK239 hb; replace BK251 := bb BK251 hb; replace HB := bs hb; clear hb hbox hg; have hnb71 := NB263_227.out; have hnc71 := NB227_263.out; have hnb72 := NB263_228.out; have hnc72 := NB228_263.out; have hnb73 := NB263_239.out; have hnc73 := NB239_263.out; have hnb74 := NB263_251.out; have hnc74 := NB251_263.out; obtain ⟨hcz75_0, hcz75_1, hcz75_2, hfz75_0, hfz75_1, hfz75_2⟩ := c3 BK263))
          go_roundg k3
          case measure => have := HJ4.out; have := HJ17.out; have := HK3.out; omega
          case rel => exact ⟨(wrap64 (x10_3 - 1)), (x252000_3), (x252001_3), (x252002_3), (by first | rfl | (simp; done) | (simp [*]; done)), H', ⟨by have := HJ4.out; have := HJ17.out; have := HK3.out; omega⟩, ⟨by (with_reducible repeat (first | apply bn | apply bd | apply ba)); refine blk_far ?_ NB227_263.out _; (with_reducible repeat (first | apply bn | apply bd | apply ba)); refine blk_far ?_ NB227_263.out _; (with_reducible repeat (first | apply bn | apply bd | apply ba)); refine blk_far ?_ NB227_263.out _; (with_reducible repeat (first | apply bn | apply bd | apply ba)); exact BK227.out⟩, ⟨by (with_reducible repeat (first | apply bn | apply bd | apply ba)); refine blk_far ?_ NB228_263.out _; (with_reducible repeat (first | apply bn | apply bd | apply ba)); refine blk_far ?_ NB228_263.out _; (with_reducible repeat (first | apply bn | apply bd | apply ba)); refine blk_far ?_ NB228_263.out _; (with_reducible repeat (first | apply bn | apply bd | apply ba)); exact BK228.out⟩, ⟨by (with_reducible repeat (first | apply bn | apply bd | apply ba)); refine blk_far ?_ NB239_263.out _; (with_reducible repeat (first | apply bn | apply bd | apply ba)); refine blk_far ?_ NB239_263.out _; (with_reducible repeat (first | apply bn | apply bd | apply ba)); refine blk_far ?_ NB239_263.out _; (with_reducible repeat (first | apply bn | apply bd | apply ba)); exact BK239.out⟩, ⟨by (with_reducible repeat (first | apply bn | apply bd | apply ba)); refine blk_far ?_ NB251_263.out _; (with_reducible repeat (first | apply bn | apply bd | apply ba)); refine blk_far ?_ NB251_263.out _; (with_reducible repeat (first | apply bn | apply bd | apply ba)); refine blk_far ?_ NB251_263.out _; (with_reducible repeat (first | apply bn | apply bd | apply ba)); exact BK251.out⟩, ⟨by repeat (first | (with_reducible first | exact HB.out | apply below_alloc | apply pw_below_drewN | apply below_drew1 | refine below_set ?_ GE227.out | refine below_set ?_ GE228.out | refine below_set ?_ GE239.out | refine below_set ?_ GE251.out | refine below_set ?_ GE263.out) | exact HB.out)⟩⟩
        ·rw [if_neg c50] at H
         have c50b0 : decide (0 < x10_3) = false := decide_eq_false c50
         clear c50
         simp only [Option.some.injEq, Prod.mk.injEq] at H
         obtain ⟨rfl, rfl, rfl, rfl, rfl, rfl, rfl⟩ := H
         try go_wp2
         have n0_ := Aside0.mk (blk_drew BK227.out)
         have n1_ := Aside0.mk (blk_drew BK228.out)
         have n2_ := Aside0.mk (blk_drew BK239.out)
         have n3_ := Aside0.mk (blk_drew BK251.out)
         have n4_ := Aside0.mk (below_drew1 HB.out)
         clear BK227
         clear BK228
         clear BK239
         clear BK251
         clear HB
         have BK227 := n0_
         have BK228 := n1_
         have BK239 := n2_
         have BK251 := n3_
         have HB := n4_
         clear n0_ n1_ n2_ n3_ n4_
         refine start_ (n := 6) (S := fun w' => w'.cell? ⟨gb239, 0, none⟩ = some (.int .i64 t234) ∧ w'.cell? ⟨gb239, 1, none⟩ = some (.int .i64 t235) ∧ w'.cell? ⟨gb239, 2, none⟩ = some (.int .i64 t236) ∧ w'.cell? ⟨gb251, 0, none⟩ = some (.int .i64 x252000_3) ∧ w'.cell? ⟨gb251, 1, none⟩ = some (.int .i64 x252001_3) ∧ w'.cell? ⟨gb251, 2, none⟩ = some (.int .i64 x252002_3)) (ds := []) #[false, false, false, false, false, false] (by kernel_rfl) rfl rfl ⟨(blk_cell BK239.out 0).trans rfl, (blk_cell BK239.out 1).trans rfl, (blk_cell BK239.out 2).trans rfl, (blk_cell BK251.out 0).trans rfl, (blk_cell BK251.out 1).trans rfl, (blk_cell BK251.out 2).trans rfl⟩ (fun hHeld => ?_)
         generalize wr.drew = w76 at BK227 BK228 BK239 BK251 HB hHeld ⊢
         refine pure_ (i := 0) (N := some 52) (v := ?_) (a' := ?_) #[true, false, false, false, false, false] rfl rfl (by kernel_rfl) (fun _ _ _ h => h) (Or.inl ⟨by rfl, ?_⟩) ?_ ?_
         rotate_left
         ·intro w'
          go_simp
          with_reducible rfl
         rotate_left
         ·simp only [Act.put, List.setIfInBounds_toArray, List.set_cons_zero, List.set_cons_succ, i64_w, i32_w]
          rfl
         refine pure_ (i := 3) (N := some 2) (v := ?_) (a' := ?_) #[true, false, false, true, false, false] rfl rfl (by kernel_rfl) (fun _ _ _ h => h) (Or.inl ⟨by rfl, ?_⟩) ?_ ?_
         rotate_left
         ·intro w'
          go_simp
          with_reducible rfl
         rotate_left
         ·simp only [Act.put, List.setIfInBounds_toArray, List.set_cons_zero, List.set_cons_succ, i64_w, i32_w]
          rfl
         refine take_ (i := 1) (N := some 53) (v := ?_) (a' := ?_) #[true, true, false, true, false, false] rfl rfl (by kernel_rfl) (fun _ _ _ h => h) (Or.inl ⟨by rfl, ?_⟩) hHeld ?_ ?_
         rotate_left
         ·rintro w' ⟨s0, s1, s2, s3, s4, s5⟩
          go_simp
          with_reducible rfl
         rotate_left
         ·simp only [Act.put, List.setIfInBounds_toArray, List.set_cons_zero, List.set_cons_succ, i64_w, i32_w]
          rfl
         refine take_ (i := 2) (N := some 54) (v := ?_) (a' := ?_) #[true, true, true, true, false, false] rfl rfl (by kernel_rfl) (fun _ _ _ h => h) (Or.inl ⟨by rfl, ?_⟩) hHeld ?_ ?_
         rotate_left
         ·rintro w' ⟨s0, s1, s2, s3, s4, s5⟩
          go_simp
          with_reducible rfl
         rotate_left
         ·simp only [Act.put, List.setIfInBounds_toArray, List.set_cons_zero, List.set_cons_succ, i64_w, i32_w]
          rfl
         refine one_ (i := 4) (N := none) #[true, true, true, true, true, false] rfl rfl (by kernel_rfl) (by decide) (fun K hK => ?_)
         have hs77 : w76.cell? ⟨gb227, 0, none⟩ = some (.int .i64 0) := (blk_cell BK227.out 0).trans rfl
         have hfs77 := blk_frozen BK227.out 0
         have hns77_1 := NB228_227.out
         have hns77_2 := NB239_227.out
         have hns77_3 := NB251_227.out
         have hms77_1 := NB227_228.out
         have hms77_2 := NB227_239.out
         have hms77_3 := NB227_251.out
         have hs78 : w76.cell? ⟨gb227, 1, none⟩ = some (.int .i64 0) := (blk_cell BK227.out 1).trans rfl
         have hfs78 := blk_frozen BK227.out 1
         have hns78_1 := NB228_227.out
         have hns78_2 := NB239_227.out
         have hns78_3 := NB251_227.out
         have hms78_1 := NB227_228.out
         have hms78_2 := NB227_239.out
         have hms78_3 := NB227_251.out
         have hs79 : w76.cell? ⟨gb227, 2, none⟩ = some (.int .i64 0) := (blk_cell BK227.out 2).trans rfl
         have hfs79 := blk_frozen BK227.out 2
         have hns79_1 := NB228_227.out
         have hns79_2 := NB239_227.out
         have hns79_3 := NB251_227.out
         have hms79_1 := NB227_228.out
         have hms79_2 := NB227_239.out
         have hms79_3 := NB227_251.out
         refine skip_ (w1 := ?_) (by rfl) rfl ?_ ?_
         rotate_left
         ·go_simp
          rfl
         refine hK.out _ _ ⟨((cell_far (p := ⟨gb227, _, none⟩) NB239_227.out _).trans (((cell_far (p := ⟨gb227, _, none⟩) NB239_227.out _).trans (((cell_far (p := ⟨gb227, _, none⟩) NB239_227.out _).trans (hHeld.1)))))), ((cell_far (p := ⟨gb227, _, none⟩) NB239_227.out _).trans (((cell_far (p := ⟨gb227, _, none⟩) NB239_227.out _).trans (((cell_far (p := ⟨gb227, _, none⟩) NB239_227.out _).trans (hHeld.2.1)))))), ((cell_far (p := ⟨gb227, _, none⟩) NB239_227.out _).trans (((cell_far (p := ⟨gb227, _, none⟩) NB239_227.out _).trans (((cell_far (p := ⟨gb227, _, none⟩) NB239_227.out _).trans (hHeld.2.2.1)))))), ((cell_far (p := ⟨gb227, _, none⟩) NB251_227.out _).trans (((cell_far (p := ⟨gb227, _, none⟩) NB251_227.out _).trans (((cell_far (p := ⟨gb227, _, none⟩) NB251_227.out _).trans (hHeld.2.2.2.1)))))), ((cell_far (p := ⟨gb227, _, none⟩) NB251_227.out _).trans (((cell_far (p := ⟨gb227, _, none⟩) NB251_227.out _).trans (((cell_far (p := ⟨gb227, _, none⟩) NB251_227.out _).trans (hHeld.2.2.2.2.1)))))), ((cell_far (p := ⟨gb227, _, none⟩) NB251_227.out _).trans (((cell_far (p := ⟨gb227, _, none⟩) NB251_227.out _).trans (((cell_far (p := ⟨gb227, _, none⟩) NB251_227.out _).trans (hHeld.2.2.2.2.2))))))⟩ (fun hHeld => ?_)
         clear hK K
         refine one_ (i := 5) (N := none) #[true, true, true, true, true, true] rfl rfl (by kernel_rfl) (by decide) (fun K hK => ?_)
         have hs80 : w76.cell? ⟨gb228, 0, none⟩ = some (.int .i64 0) := (blk_cell BK228.out 0).trans rfl
         have hfs80 := blk_frozen BK228.out 0
         have hns80_0 := NB227_228.out
         have hns80_2 := NB239_228.out
         have hns80_3 := NB251_228.out
         have hms80_0 := NB228_227.out
         have hms80_2 := NB228_239.out
         have hms80_3 := NB228_251.out
         have hs81 : w76.cell? ⟨gb228, 1, none⟩ = some (.int .i64 0) := (blk_cell BK228.out 1).trans rfl
         have hfs81 := blk_frozen BK228.out 1
         have hns81_0 := NB227_228.out
         have hns81_2 := NB239_228.out
         have hns81_3 := NB251_228.out
         have hms81_0 := NB228_227.out
         have hms81_2 := NB228_239.out
         have hms81_3 := NB228_251.out
         have hs82 : w76.cell? ⟨gb228, 2, none⟩ = some (.int .i64 0) := (blk_cell BK228.out 2).trans rfl
         have hfs82 := blk_frozen BK228.out 2
         have hns82_0 := NB227_228.out
         have hns82_2 := NB239_228.out
         have hns82_3 := NB251_228.out
         have hms82_0 := NB228_227.out
         have hms82_2 := NB228_239.out
         have hms82_3 := NB228_251.out
         refine skip_ (w1 := ?_) (by rfl) rfl ?_ ?_
         rotate_left
         ·go_simp
          rfl
         refine hK.out _ _ ⟨((cell_far (p := ⟨gb228, _, none⟩) NB239_228.out _).trans (((cell_far (p := ⟨gb228, _, none⟩) NB239_228.out _).trans (((cell_far (p := ⟨gb228, _, none⟩) NB239_228.out _).trans (hHeld.1)))))), ((cell_far (p := ⟨gb228, _, none⟩) NB239_228.out _).trans (((cell_far (p := ⟨gb228, _, none⟩) NB239_228.out _).trans (((cell_far (p := ⟨gb228, _, none⟩) NB239_228.out _).trans (hHeld.2.1)))))), ((cell_far (p := ⟨gb228, _, none⟩) NB239_228.out _).trans (((cell_far (p := ⟨gb228, _, none⟩) NB239_228.out _).trans (((cell_far (p := ⟨gb228, _, none⟩) NB239_228.out _).trans (hHeld.2.2.1)))))), ((cell_far (p := ⟨gb228, _, none⟩) NB251_228.out _).trans (((cell_far (p := ⟨gb228, _, none⟩) NB251_228.out _).trans (((cell_far (p := ⟨gb228, _, none⟩) NB251_228.out _).trans (hHeld.2.2.2.1)))))), ((cell_far (p := ⟨gb228, _, none⟩) NB251_228.out _).trans (((cell_far (p := ⟨gb228, _, none⟩) NB251_228.out _).trans (((cell_far (p := ⟨gb228, _, none⟩) NB251_228.out _).trans (hHeld.2.2.2.2.1)))))), ((cell_far (p := ⟨gb228, _, none⟩) NB251_228.out _).trans (((cell_far (p := ⟨gb228, _, none⟩) NB251_228.out _).trans (((cell_far (p := ⟨gb228, _, none⟩) NB251_228.out _).trans (hHeld.2.2.2.2.2))))))⟩ (fun hHeld => ?_)
         clear hK K
         refine done_ (by kernel_rfl) ?_
         try go_wp2
         refine bodyPost_ret (results_list (rs := [.tmp 2, .cell 3 27, .cell 4 27]) rfl (by simp) (.tmp (.cell gb227 27 #[.int .i64 t234, .int .i64 t235, .int .i64 t236] (0, 0) _ rfl (by (with_reducible repeat (first | apply bn | apply bd | apply ba)); refine blk_far ?_ NB227_228.out _; (with_reducible repeat (first | apply bn | apply bd | apply ba)); refine blk_far ?_ NB227_228.out _; (with_reducible repeat (first | apply bn | apply bd | apply ba)); refine blk_far ?_ NB227_228.out _; (with_reducible repeat (first | apply bn | apply bd | apply ba)); refine blk_put (cs := #[.int .i64 t234, .int .i64 t235, .int .i64 0]) ?_ 2 _ rfl; (with_reducible repeat (first | apply bn | apply bd | apply ba)); refine blk_put (cs := #[.int .i64 t234, .int .i64 0, .int .i64 0]) ?_ 1 _ rfl; (with_reducible repeat (first | apply bn | apply bd | apply ba)); refine blk_put (cs := #[.int .i64 0, .int .i64 0, .int .i64 0]) ?_ 0 _ rfl; (with_reducible repeat (first | apply bn | apply bd | apply ba)); exact BK227.out) Try.underlying27 rfl (by kernel_rfl) (.cell gb228 27 #[.int .i64 x252000_3, .int .i64 x252001_3, .int .i64 x252002_3] (0, 0) _ rfl (by (with_reducible repeat (first | apply bn | apply bd | apply ba)); refine blk_put (cs := #[.int .i64 x252000_3, .int .i64 x252001_3, .int .i64 0]) ?_ 2 _ rfl; (with_reducible repeat (first | apply bn | apply bd | apply ba)); refine blk_put (cs := #[.int .i64 x252000_3, .int .i64 0, .int .i64 0]) ?_ 1 _ rfl; (with_reducible repeat (first | apply bn | apply bd | apply ba)); refine blk_put (cs := #[.int .i64 0, .int .i64 0, .int .i64 0]) ?_ 0 _ rfl; (with_reducible repeat (first | apply bn | apply bd | apply ba)); refine blk_far ?_ NB228_227.out _; (with_reducible repeat (first | apply bn | apply bd | apply ba)); refine blk_far ?_ NB228_227.out _; (with_reducible repeat (first | apply bn | apply bd | apply ba)); refine blk_far ?_ NB228_227.out _; (with_reducible repeat (first | apply bn | apply bd | apply ba)); exact BK228.out) Try.underlying27 rfl (by kernel_rfl) .nil)))) rfl ?_
         exact ⟨by first | rfl | (simp [errW_none, errW_some] <;> rfl) | (simp [*, errW_none, errW_some] <;> rfl), by repeat (first | (with_reducible first | exact HB.out | apply below_alloc | apply pw_below_drewN | apply below_drew1 | refine below_set ?_ GE227.out | refine below_set ?_ GE228.out | refine below_set ?_ GE239.out | refine below_set ?_ GE251.out) | exact HB.out)⟩
     ·replace c38 := Bool.eq_false_iff.mpr c38
      subst c38
      have H1 : (some (t233, t234, t235, t236, t246, t247, t248)) = some (r1, r2, r3, r4, r5, r6, r7) := by rw [if_neg (show ¬ (false = true) by decide)] at H; exact H
      clear H
      have H := H1
      clear H1
      simp only [Option.some.injEq, Prod.mk.injEq] at H
      obtain ⟨rfl, rfl, rfl, rfl, rfl, rfl, rfl⟩ := H
      try go_wp2
      have n0_ := Aside0.mk (blk_drew BK227.out)
      have n1_ := Aside0.mk (blk_drew BK228.out)
      have n2_ := Aside0.mk (blk_drew BK239.out)
      have n3_ := Aside0.mk (blk_drew BK251.out)
      have n4_ := Aside0.mk (IsS127.drew HI232.out)
      have n5_ := Aside0.mk (below_drew1 HB.out)
      clear BK227
      clear BK228
      clear BK239
      clear BK251
      clear HI232
      clear HB
      have BK227 := n0_
      have BK228 := n1_
      have BK239 := n2_
      have BK251 := n3_
      have HI232 := n4_
      have HB := n5_
      clear n0_ n1_ n2_ n3_ n4_ n5_
      refine start_ (n := 6) (S := fun w' => w'.cell? ⟨gb239, 0, none⟩ = some (.int .i64 t234) ∧ w'.cell? ⟨gb239, 1, none⟩ = some (.int .i64 t235) ∧ w'.cell? ⟨gb239, 2, none⟩ = some (.int .i64 t236) ∧ w'.cell? ⟨gb251, 0, none⟩ = some (.int .i64 t246) ∧ w'.cell? ⟨gb251, 1, none⟩ = some (.int .i64 t247) ∧ w'.cell? ⟨gb251, 2, none⟩ = some (.int .i64 t248)) (ds := []) #[false, false, false, false, false, false] (by kernel_rfl) rfl rfl ⟨(blk_cell BK239.out 0).trans rfl, (blk_cell BK239.out 1).trans rfl, (blk_cell BK239.out 2).trans rfl, (blk_cell BK251.out 0).trans rfl, (blk_cell BK251.out 1).trans rfl, (blk_cell BK251.out 2).trans rfl⟩ (fun hHeld => ?_)
      generalize wc.drew = w83 at BK227 BK228 BK239 BK251 HI232 HB hHeld ⊢
      refine pure_ (i := 0) (N := some 52) (v := ?_) (a' := ?_) #[true, false, false, false, false, false] rfl rfl (by kernel_rfl) (fun _ _ _ h => h) (Or.inl ⟨by rfl, ?_⟩) ?_ ?_
      rotate_left
      ·intro w'
       go_simp
       with_reducible rfl
      rotate_left
      ·simp only [Act.put, List.setIfInBounds_toArray, List.set_cons_zero, List.set_cons_succ, i64_w, i32_w]
       rfl
      refine pure_ (i := 3) (N := some 2) (v := ?_) (a' := ?_) #[true, false, false, true, false, false] rfl rfl (by kernel_rfl) (fun _ _ _ h => h) (Or.inl ⟨by rfl, ?_⟩) ?_ ?_
      rotate_left
      ·intro w'
       go_simp
       with_reducible rfl
      rotate_left
      ·simp only [Act.put, List.setIfInBounds_toArray, List.set_cons_zero, List.set_cons_succ, i64_w, i32_w]
       rfl
      refine take_ (i := 1) (N := some 53) (v := ?_) (a' := ?_) #[true, true, false, true, false, false] rfl rfl (by kernel_rfl) (fun _ _ _ h => h) (Or.inl ⟨by rfl, ?_⟩) hHeld ?_ ?_
      rotate_left
      ·rintro w' ⟨s0, s1, s2, s3, s4, s5⟩
       go_simp
       with_reducible rfl
      rotate_left
      ·simp only [Act.put, List.setIfInBounds_toArray, List.set_cons_zero, List.set_cons_succ, i64_w, i32_w]
       rfl
      refine take_ (i := 2) (N := some 54) (v := ?_) (a' := ?_) #[true, true, true, true, false, false] rfl rfl (by kernel_rfl) (fun _ _ _ h => h) (Or.inl ⟨by rfl, ?_⟩) hHeld ?_ ?_
      rotate_left
      ·rintro w' ⟨s0, s1, s2, s3, s4, s5⟩
       go_simp
       with_reducible rfl
      rotate_left
      ·simp only [Act.put, List.setIfInBounds_toArray, List.set_cons_zero, List.set_cons_succ, i64_w, i32_w]
       rfl
      refine one_ (i := 4) (N := none) #[true, true, true, true, true, false] rfl rfl (by kernel_rfl) (by decide) (fun K hK => ?_)
      have hs84 : w83.cell? ⟨gb227, 0, none⟩ = some (.int .i64 0) := (blk_cell BK227.out 0).trans rfl
      have hfs84 := blk_frozen BK227.out 0
      have hns84_1 := NB228_227.out
      have hns84_2 := NB239_227.out
      have hns84_3 := NB251_227.out
      have hms84_1 := NB227_228.out
      have hms84_2 := NB227_239.out
      have hms84_3 := NB227_251.out
      have hs85 : w83.cell? ⟨gb227, 1, none⟩ = some (.int .i64 0) := (blk_cell BK227.out 1).trans rfl
      have hfs85 := blk_frozen BK227.out 1
      have hns85_1 := NB228_227.out
      have hns85_2 := NB239_227.out
      have hns85_3 := NB251_227.out
      have hms85_1 := NB227_228.out
      have hms85_2 := NB227_239.out
      have hms85_3 := NB227_251.out
      have hs86 : w83.cell? ⟨gb227, 2, none⟩ = some (.int .i64 0) := (blk_cell BK227.out 2).trans rfl
      have hfs86 := blk_frozen BK227.out 2
      have hns86_1 := NB228_227.out
      have hns86_2 := NB239_227.out
      have hns86_3 := NB251_227.out
      have hms86_1 := NB227_228.out
      have hms86_2 := NB227_239.out
      have hms86_3 := NB227_251.out
      refine skip_ (w1 := ?_) (by rfl) rfl ?_ ?_
      rotate_left
      ·go_simp
       rfl
      refine hK.out _ _ ⟨((cell_far (p := ⟨gb227, _, none⟩) NB239_227.out _).trans (((cell_far (p := ⟨gb227, _, none⟩) NB239_227.out _).trans (((cell_far (p := ⟨gb227, _, none⟩) NB239_227.out _).trans (hHeld.1)))))), ((cell_far (p := ⟨gb227, _, none⟩) NB239_227.out _).trans (((cell_far (p := ⟨gb227, _, none⟩) NB239_227.out _).trans (((cell_far (p := ⟨gb227, _, none⟩) NB239_227.out _).trans (hHeld.2.1)))))), ((cell_far (p := ⟨gb227, _, none⟩) NB239_227.out _).trans (((cell_far (p := ⟨gb227, _, none⟩) NB239_227.out _).trans (((cell_far (p := ⟨gb227, _, none⟩) NB239_227.out _).trans (hHeld.2.2.1)))))), ((cell_far (p := ⟨gb227, _, none⟩) NB251_227.out _).trans (((cell_far (p := ⟨gb227, _, none⟩) NB251_227.out _).trans (((cell_far (p := ⟨gb227, _, none⟩) NB251_227.out _).trans (hHeld.2.2.2.1)))))), ((cell_far (p := ⟨gb227, _, none⟩) NB251_227.out _).trans (((cell_far (p := ⟨gb227, _, none⟩) NB251_227.out _).trans (((cell_far (p := ⟨gb227, _, none⟩) NB251_227.out _).trans (hHeld.2.2.2.2.1)))))), ((cell_far (p := ⟨gb227, _, none⟩) NB251_227.out _).trans (((cell_far (p := ⟨gb227, _, none⟩) NB251_227.out _).trans (((cell_far (p := ⟨gb227, _, none⟩) NB251_227.out _).trans (hHeld.2.2.2.2.2))))))⟩ (fun hHeld => ?_)
      clear hK K
      refine one_ (i := 5) (N := none) #[true, true, true, true, true, true] rfl rfl (by kernel_rfl) (by decide) (fun K hK => ?_)
      have hs87 : w83.cell? ⟨gb228, 0, none⟩ = some (.int .i64 0) := (blk_cell BK228.out 0).trans rfl
      have hfs87 := blk_frozen BK228.out 0
      have hns87_0 := NB227_228.out
      have hns87_2 := NB239_228.out
      have hns87_3 := NB251_228.out
      have hms87_0 := NB228_227.out
      have hms87_2 := NB228_239.out
      have hms87_3 := NB228_251.out
      have hs88 : w83.cell? ⟨gb228, 1, none⟩ = some (.int .i64 0) := (blk_cell BK228.out 1).trans rfl
      have hfs88 := blk_frozen BK228.out 1
      have hns88_0 := NB227_228.out
      have hns88_2 := NB239_228.out
      have hns88_3 := NB251_228.out
      have hms88_0 := NB228_227.out
      have hms88_2 := NB228_239.out
      have hms88_3 := NB228_251.out
      have hs89 : w83.cell? ⟨gb228, 2, none⟩ = some (.int .i64 0) := (blk_cell BK228.out 2).trans rfl
      have hfs89 := blk_frozen BK228.out 2
      have hns89_0 := NB227_228.out
      have hns89_2 := NB239_228.out
      have hns89_3 := NB251_228.out
      have hms89_0 := NB228_227.out
      have hms89_2 := NB228_239.out
      have hms89_3 := NB228_251.out
      refine skip_ (w1 := ?_) (by rfl) rfl ?_ ?_
      rotate_left
      ·go_simp
       rfl
      refine hK.out _ _ ⟨((cell_far (p := ⟨gb228, _, none⟩) NB239_228.out _).trans (((cell_far (p := ⟨gb228, _, none⟩) NB239_228.out _).trans (((cell_far (p := ⟨gb228, _, none⟩) NB239_228.out _).trans (hHeld.1)))))), ((cell_far (p := ⟨gb228, _, none⟩) NB239_228.out _).trans (((cell_far (p := ⟨gb228, _, none⟩) NB239_228.out _).trans (((cell_far (p := ⟨gb228, _, none⟩) NB239_228.out _).trans (hHeld.2.1)))))), ((cell_far (p := ⟨gb228, _, none⟩) NB239_228.out _).trans (((cell_far (p := ⟨gb228, _, none⟩) NB239_228.out _).trans (((cell_far (p := ⟨gb228, _, none⟩) NB239_228.out _).trans (hHeld.2.2.1)))))), ((cell_far (p := ⟨gb228, _, none⟩) NB251_228.out _).trans (((cell_far (p := ⟨gb228, _, none⟩) NB251_228.out _).trans (((cell_far (p := ⟨gb228, _, none⟩) NB251_228.out _).trans (hHeld.2.2.2.1)))))), ((cell_far (p := ⟨gb228, _, none⟩) NB251_228.out _).trans (((cell_far (p := ⟨gb228, _, none⟩) NB251_228.out _).trans (((cell_far (p := ⟨gb228, _, none⟩) NB251_228.out _).trans (hHeld.2.2.2.2.1)))))), ((cell_far (p := ⟨gb228, _, none⟩) NB251_228.out _).trans (((cell_far (p := ⟨gb228, _, none⟩) NB251_228.out _).trans (((cell_far (p := ⟨gb228, _, none⟩) NB251_228.out _).trans (hHeld.2.2.2.2.2))))))⟩ (fun hHeld => ?_)
      clear hK K
      refine done_ (by kernel_rfl) ?_
      try go_wp2
      refine bodyPost_ret (results_list (rs := [.tmp 2, .cell 3 27, .cell 4 27]) rfl (by simp) (.tmp (.cell gb227 27 #[.int .i64 t234, .int .i64 t235, .int .i64 t236] (0, 0) _ rfl (by (with_reducible repeat (first | apply bn | apply bd | apply ba)); refine blk_far ?_ NB227_228.out _; (with_reducible repeat (first | apply bn | apply bd | apply ba)); refine blk_far ?_ NB227_228.out _; (with_reducible repeat (first | apply bn | apply bd | apply ba)); refine blk_far ?_ NB227_228.out _; (with_reducible repeat (first | apply bn | apply bd | apply ba)); refine blk_put (cs := #[.int .i64 t234, .int .i64 t235, .int .i64 0]) ?_ 2 _ rfl; (with_reducible repeat (first | apply bn | apply bd | apply ba)); refine blk_put (cs := #[.int .i64 t234, .int .i64 0, .int .i64 0]) ?_ 1 _ rfl; (with_reducible repeat (first | apply bn | apply bd | apply ba)); refine blk_put (cs := #[.int .i64 0, .int .i64 0, .int .i64 0]) ?_ 0 _ rfl; (with_reducible repeat (first | apply bn | apply bd | apply ba)); exact BK227.out) Try.underlying27 rfl (by kernel_rfl) (.cell gb228 27 #[.int .i64 t246, .int .i64 t247, .int .i64 t248] (0, 0) _ rfl (by (with_reducible repeat (first | apply bn | apply bd | apply ba)); refine blk_put (cs := #[.int .i64 t246, .int .i64 t247, .int .i64 0]) ?_ 2 _ rfl; (with_reducible repeat (first | apply bn | apply bd | apply ba)); refine blk_put (cs := #[.int .i64 t246, .int .i64 0, .int .i64 0]) ?_ 1 _ rfl; (with_reducible repeat (first | apply bn | apply bd | apply ba)); refine blk_put (cs := #[.int .i64 0, .int .i64 0, .int .i64 0]) ?_ 0 _ rfl; (with_reducible repeat (first | apply bn | apply bd | apply ba)); refine blk_far ?_ NB228_227.out _; (with_reducible repeat (first | apply bn | apply bd | apply ba)); refine blk_far ?_ NB228_227.out _; (with_reducible repeat (first | apply bn | apply bd | apply ba)); refine blk_far ?_ NB228_227.out _; (with_reducible repeat (first | apply bn | apply bd | apply ba)); exact BK228.out) Try.underlying27 rfl (by kernel_rfl) .nil)))) rfl ?_
      exact ⟨by first | rfl | (simp [errW_none, errW_some] <;> rfl) | (simp [*, errW_none, errW_some] <;> rfl), by repeat (first | (with_reducible first | exact HB.out | apply below_alloc | apply pw_below_drewN | apply below_drew1 | refine below_set ?_ (IsS127.ge HI232.out) | refine below_set ?_ GE227.out | refine below_set ?_ GE228.out | refine below_set ?_ GE239.out | refine below_set ?_ GE251.out) | exact HB.out)⟩

/-! ### spec_DrawAddBalls: function 22 -/
def spec_DrawAddBalls.f (k : Nat) (l0 : List Int) : Option (Int × Int × Int × Int × Int × Int × Int) := (spec_l01Two.f k l0).bind fun bt266 => (some (bt266.1, bt266.2.1, bt266.2.2.1, bt266.2.2.2.1, bt266.2.2.2.2.1, bt266.2.2.2.2.2.1, bt266.2.2.2.2.2.2))
theorem spec_DrawAddBalls.mono : ∀ a0 k, LeO (spec_DrawAddBalls.f k a0) (spec_DrawAddBalls.f (k + 1) a0) := by
 intro a0 k
 unfold spec_DrawAddBalls.f
 repeat' first
   | (with_reducible exact spec_l01Two.mono _ _)
   | (with_reducible exact LeO.refl _)
   | (with_reducible exact LeO.none _)
   | (with_reducible refine LeO.ite ?_ ?_)
   | (with_reducible refine LeO.bind ?_ (fun _ => ?_))
   | refine LeO.ite ?_ ?_
   | refine LeO.bind ?_ (fun _ => ?_)
set_option maxHeartbeats 8000000 in
set_option maxRecDepth 100000 in
theorem spec_DrawAddBalls.calls (k : Nat) (A0 : Option Addr) (c0 : Nat) (l0 : List Int) (r1 : Int) (r2 : Int) (r3 : Int) (r4 : Int) (r5 : Int) (r6 : Int) (r7 : Int) (w : World) (hr0 : Kd.C (Kd.int .u8) w A0 l0.length l0) (hc0 : l0.length ≤ c0) (h : spec_DrawAddBalls.f k l0 = some (r1, r2, r3, r4, r5, r6, r7)) :
  Calls Try.prog 22 #[.slice A0 l0.length c0] w fun e w' => e = .returned (.tuple #[.int .i64 r1, .agg #[.int .i64 r2, .int .i64 r3, .int .i64 r4], .agg #[.int .i64 r5, .int .i64 r6, .int .i64 r7]]) ∧ Below w.heap.size w w' := by
 have hu27 := Try.underlying27
 have HR0 := Aside0.mk hr0
 have HC0 := Aside0.mk hc0
 clear hr0 hc0
 have HB := Aside0.mk (Below.refl w.heap.size w)
 have H : ((spec_l01Two.f k l0).bind fun bt266 => (some (bt266.1, bt266.2.1, bt266.2.2.1, bt266.2.2.2.1, bt266.2.2.2.2.1, bt266.2.2.2.2.2.1, bt266.2.2.2.2.2.2))) = some (r1, r2, r3, r4, r5, r6, r7) := h
 clear h
 replace H := Option.bind_eq_some_iff.mp H
 obtain ⟨⟨t266, t267, t268, t269, t270, t271, t272⟩, A20, H⟩ := H
 replace H : (some (t266, t267, t268, t269, t270, t271, t272)) = some (r1, r2, r3, r4, r5, r6, r7) := H
 have A2 := Aside0.mk A20
 clear A20
 simp only [Option.some.injEq, Prod.mk.injEq] at H
 obtain ⟨rfl, rfl, rfl, rfl, rfl, rfl, rfl⟩ := H
 go_enter Try.func22, Try.ntmps22
 try go_wp2_with (first | ((with_reducible refine gate_dst (N := 3) rfl ?_); refine bx (N := 3) (cs := #[.int .i64 0, .int .i64 0, .int .i64 0]) (t := 27) ?_; intro gb264 hg w3 hbox hb; have BK264 := Aside0.mk (hbox); have GW264 := sg hg; have GE264 := sg hg; replace HB := bs hb; clear hb hbox hg) | ((with_reducible refine gate_dst (N := 4) rfl ?_); refine bx (N := 4) (cs := #[.int .i64 0, .int .i64 0, .int .i64 0]) (t := 27) ?_; intro gb265 hg w4 hbox hb; have BK265 := Aside0.mk (hbox); have GW265 := sg hg; have GE265 := sg hg; have NB264_265 := nl hg BK264; have NB265_264 := ng hg BK264; replace BK264 := bb BK264 hb; replace HB := bs hb; clear hb hbox hg) | ((with_reducible refine gate_callee (f := 92) rfl ?_); refine g1 (some 10) Try.func92 #[.slice A0 l0.length c0] ?_; (with_reducible refine (spec_l01Two.calls k _ _ l0 t266 t267 t268 t269 t270 t271 t272 _ ?side1 ?side2 A2.out).mono ?_); (case side1 => repeat (first | exact (Kd.C_below HR0.out HB.out) | (with_reducible refine Kd.C_alloc ?_ _) | (with_reducible refine Kd.C_drewN ?_ _) | (with_reducible refine Kd.C_drew ?_))); (case side2 => exact HC0.out); rintro e w5 ⟨rfl, hb⟩; refine ⟨_, rfl, ?_⟩; replace BK264 := bb BK264 hb; replace BK265 := bb BK265 hb; replace HB := bs hb; (try clear hb); (try clear hb2); (try clear hk); (try clear hi)) | ((with_reducible refine gate_dst (N := 6) rfl ?_); refine bx (N := 6) (cs := #[.int .i64 0, .int .i64 0, .int .i64 0]) (t := 27) ?_; intro gb273 hg w6 hbox hb; have BK273 := Aside0.mk (hbox); have GW273 := sg hg; have GE273 := sg hg; have NB264_273 := nl hg BK264; have NB273_264 := ng hg BK264; have NB265_273 := nl hg BK265; have NB273_265 := ng hg BK265; replace BK264 := bb BK264 hb; replace BK265 := bb BK265 hb; replace HB := bs hb; clear hb hbox hg) | ((with_reducible refine gate_dst (N := 7) rfl ?_); refine bx (N := 7) (cs := #[.int .i64 0, .int .i64 0, .int .i64 0]) (t := 27) ?_; intro gb274 hg w7 hbox hb; have BK274 := Aside0.mk (hbox); have GW274 := sg hg; have GE274 := sg hg; have NB264_274 := nl hg BK264; have NB274_264 := ng hg BK264; have NB265_274 := nl hg BK265; have NB274_265 := ng hg BK265; have NB273_274 := nl hg BK273; have NB274_273 := ng hg BK273; replace BK264 := bb BK264 hb; replace BK265 := bb BK265 hb; replace BK273 := bb BK273 hb; replace HB := bs hb; clear hb hbox hg; have hnb8 := NB273_264.out; have hnc8 := NB264_273.out; have hnb9 := NB273_265.out; have hnc9 := NB265_273.out; have hnb10 := NB273_274.out; have hnc10 := NB274_273.out; obtain ⟨hcz11_0, hcz11_1, hcz11_2, hfz11_0, hfz11_1, hfz11_2⟩ := c3 BK273; have hnb12 := NB274_264.out; have hnc12 := NB264_274.out; have hnb13 := NB274_265.out; have hnc13 := NB265_274.out; obtain ⟨hcz14_0, hcz14_1, hcz14_2, hfz14_0, hfz14_1, hfz14_2⟩ := c3 BK274))
 have n0_ : Aside0 (((((((w7.setCell ⟨gb273, 0, none⟩ (.int .i64 t267)).setCell ⟨gb273, 1, none⟩ (.int .i64 t268)).setCell ⟨gb273, 2, none⟩ (.int .i64 t269)).setCell ⟨gb274, 0, none⟩ (.int .i64 t270)).setCell ⟨gb274, 1, none⟩ (.int .i64 t271)).setCell ⟨gb274, 2, none⟩ (.int .i64 t272)).heap[gb264]? = some (.cells #[.int .i64 0, .int .i64 0, .int .i64 0] 27 (0, 0))) := ⟨by (with_reducible repeat (first | apply bn | apply bd | apply ba)); refine blk_far ?_ NB264_274.out _; (with_reducible repeat (first | apply bn | apply bd | apply ba)); refine blk_far ?_ NB264_274.out _; (with_reducible repeat (first | apply bn | apply bd | apply ba)); refine blk_far ?_ NB264_274.out _; (with_reducible repeat (first | apply bn | apply bd | apply ba)); refine blk_far ?_ NB264_273.out _; (with_reducible repeat (first | apply bn | apply bd | apply ba)); refine blk_far ?_ NB264_273.out _; (with_reducible repeat (first | apply bn | apply bd | apply ba)); refine blk_far ?_ NB264_273.out _; (with_reducible repeat (first | apply bn | apply bd | apply ba)); exact BK264.out⟩
 have n1_ : Aside0 (((((((w7.setCell ⟨gb273, 0, none⟩ (.int .i64 t267)).setCell ⟨gb273, 1, none⟩ (.int .i64 t268)).setCell ⟨gb273, 2, none⟩ (.int .i64 t269)).setCell ⟨gb274, 0, none⟩ (.int .i64 t270)).setCell ⟨gb274, 1, none⟩ (.int .i64 t271)).setCell ⟨gb274, 2, none⟩ (.int .i64 t272)).heap[gb265]? = some (.cells #[.int .i64 0, .int .i64 0, .int .i64 0] 27 (0, 0))) := ⟨by (with_reducible repeat (first | apply bn | apply bd | apply ba)); refine blk_far ?_ NB265_274.out _; (with_reducible repeat (first | apply bn | apply bd | apply ba)); refine blk_far ?_ NB265_274.out _; (with_reducible repeat (first | apply bn | apply bd | apply ba)); refine blk_far ?_ NB265_274.out _; (with_reducible repeat (first | apply bn | apply bd | apply ba)); refine blk_far ?_ NB265_273.out _; (with_reducible repeat (first | apply bn | apply bd | apply ba)); refine blk_far ?_ NB265_273.out _; (with_reducible repeat (first | apply bn | apply bd | apply ba)); refine blk_far ?_ NB265_273.out _; (with_reducible repeat (first | apply bn | apply bd | apply ba)); exact BK265.out⟩
 have n2_ : Aside0 (((((((w7.setCell ⟨gb273, 0, none⟩ (.int .i64 t267)).setCell ⟨gb273, 1, none⟩ (.int .i64 t268)).setCell ⟨gb273, 2, none⟩ (.int .i64 t269)).setCell ⟨gb274, 0, none⟩ (.int .i64 t270)).setCell ⟨gb274, 1, none⟩ (.int .i64 t271)).setCell ⟨gb274, 2, none⟩ (.int .i64 t272)).heap[gb273]? = some (.cells #[.int .i64 t267, .int .i64 t268, .int .i64 t269] 27 (0, 0))) := ⟨by (with_reducible repeat (first | apply bn | apply bd | apply ba)); refine blk_far ?_ NB273_274.out _; (with_reducible repeat (first | apply bn | apply bd | apply ba)); refine blk_far ?_ NB273_274.out _; (with_reducible repeat (first | apply bn | apply bd | apply ba)); refine blk_far ?_ NB273_274.out _; (with_reducible repeat (first | apply bn | apply bd | apply ba)); refine blk_put (cs := #[.int .i64 t267, .int .i64 t268, .int .i64 0]) ?_ 2 _ rfl; (with_reducible repeat (first | apply bn | apply bd | apply ba)); refine blk_put (cs := #[.int .i64 t267, .int .i64 0, .int .i64 0]) ?_ 1 _ rfl; (with_reducible repeat (first | apply bn | apply bd | apply ba)); refine blk_put (cs := #[.int .i64 0, .int .i64 0, .int .i64 0]) ?_ 0 _ rfl; (with_reducible repeat (first | apply bn | apply bd | apply ba)); exact BK273.out⟩
 have n3_ : Aside0 (((((((w7.setCell ⟨gb273, 0, none⟩ (.int .i64 t267)).setCell ⟨gb273, 1, none⟩ (.int .i64 t268)).setCell ⟨gb273, 2, none⟩ (.int .i64 t269)).setCell ⟨gb274, 0, none⟩ (.int .i64 t270)).setCell ⟨gb274, 1, none⟩ (.int .i64 t271)).setCell ⟨gb274, 2, none⟩ (.int .i64 t272)).heap[gb274]? = some (.cells #[.int .i64 t270, .int .i64 t271, .int .i64 t272] 27 (0, 0))) := ⟨by (with_reducible repeat (first | apply bn | apply bd | apply ba)); refine blk_put (cs := #[.int .i64 t270, .int .i64 t271, .int .i64 0]) ?_ 2 _ rfl; (with_reducible repeat (first | apply bn | apply bd | apply ba)); refine blk_put (cs := #[.int .i64 t270, .int .i64 0, .int .i64 0]) ?_ 1 _ rfl; (with_reducible repeat (first | apply bn | apply bd | apply ba)); refine blk_put (cs := #[.int .i64 0, .int .i64 0, .int .i64 0]) ?_ 0 _ rfl; (with_reducible repeat (first | apply bn | apply bd | apply ba)); refine blk_far ?_ NB274_273.out _; (with_reducible repeat (first | apply bn | apply bd | apply ba)); refine blk_far ?_ NB274_273.out _; (with_reducible repeat (first | apply bn | apply bd | apply ba)); refine blk_far ?_ NB274_273.out _; (with_reducible repeat (first | apply bn | apply bd | apply ba)); exact BK274.out⟩
 have n4_ : Aside0 (Below w.heap.size w ((((((w7.setCell ⟨gb273, 0, none⟩ (.int .i64 t267)).setCell ⟨gb273, 1, none⟩ (.int .i64 t268)).setCell ⟨gb273, 2, none⟩ (.int .i64 t269)).setCell ⟨gb274, 0, none⟩ (.int .i64 t270)).setCell ⟨gb274, 1, none⟩ (.int .i64 t271)).setCell ⟨gb274, 2, none⟩ (.int .i64 t272))) := ⟨by repeat (first | (with_reducible first | exact HB.out | apply below_alloc | apply pw_below_drewN | apply below_drew1 | refine below_set ?_ GE264.out | refine below_set ?_ GE265.out | refine below_set ?_ GE273.out | refine below_set ?_ GE274.out) | exact HB.out)⟩
 (try clear BK264)
 (try clear BK265)
 (try clear BK273)
 (try clear BK274)
 (try clear HB)
 generalize ((((((w7.setCell ⟨gb273, 0, none⟩ (.int .i64 t267)).setCell ⟨gb273, 1, none⟩ (.int .i64 t268)).setCell ⟨gb273, 2, none⟩ (.int .i64 t269)).setCell ⟨gb274, 0, none⟩ (.int .i64 t270)).setCell ⟨gb274, 1, none⟩ (.int .i64 t271)).setCell ⟨gb274, 2, none⟩ (.int .i64 t272)) = w15 at n0_ n1_ n2_ n3_ n4_ ⊢
 have BK264 := n0_
 have BK265 := n1_
 have BK273 := n2_
 have BK274 := n3_
 have HB := n4_
 clear n0_ n1_ n2_ n3_ n4_
 have n0_ := Aside0.mk (blk_drew BK264.out)
 have n1_ := Aside0.mk (blk_drew BK265.out)
 have n2_ := Aside0.mk (blk_drew BK273.out)
 have n3_ := Aside0.mk (blk_drew BK274.out)
 have n4_ := Aside0.mk (below_drew1 HB.out)
 clear BK264
 clear BK265
 clear BK273
 clear BK274
 clear HB
 have BK264 := n0_
 have BK265 := n1_
 have BK273 := n2_
 have BK274 := n3_
 have HB := n4_
 clear n0_ n1_ n2_ n3_ n4_
 refine start_ (n := 6) (S := fun w' => w'.cell? ⟨gb273, 0, none⟩ = some (.int .i64 t267) ∧ w'.cell? ⟨gb273, 1, none⟩ = some (.int .i64 t268) ∧ w'.cell? ⟨gb273, 2, none⟩ = some (.int .i64 t269) ∧ w'.cell? ⟨gb274, 0, none⟩ = some (.int .i64 t270) ∧ w'.cell? ⟨gb274, 1, none⟩ = some (.int .i64 t271) ∧ w'.cell? ⟨gb274, 2, none⟩ = some (.int .i64 t272)) (ds := []) #[false, false, false, false, false, false] (by kernel_rfl) rfl rfl ⟨(blk_cell BK273.out 0).trans rfl, (blk_cell BK273.out 1).trans rfl, (blk_cell BK273.out 2).trans rfl, (blk_cell BK274.out 0).trans rfl, (blk_cell BK274.out 1).trans rfl, (blk_cell BK274.out 2).trans rfl⟩ (fun hHeld => ?_)
 generalize w15.drew = w16 at BK264 BK265 BK273 BK274 HB hHeld ⊢
 refine pure_ (i := 0) (N := some 14) (v := ?_) (a' := ?_) #[true, false, false, false, false, false] rfl rfl (by kernel_rfl) (fun _ _ _ h => h) (Or.inl ⟨by rfl, ?_⟩) ?_ ?_
 rotate_left
 ·intro w'
  go_simp
  with_reducible rfl
 rotate_left
 ·simp only [Act.put, List.setIfInBounds_toArray, List.set_cons_zero, List.set_cons_succ, i64_w, i32_w]
  rfl
 refine pure_ (i := 3) (N := some 2) (v := ?_) (a' := ?_) #[true, false, false, true, false, false] rfl rfl (by kernel_rfl) (fun _ _ _ h => h) (Or.inl ⟨by rfl, ?_⟩) ?_ ?_
 rotate_left
 ·intro w'
  go_simp
  with_reducible rfl
 rotate_left
 ·simp only [Act.put, List.setIfInBounds_toArray, List.set_cons_zero, List.set_cons_succ, i64_w, i32_w]
  rfl
 refine take_ (i := 1) (N := some 15) (v := ?_) (a' := ?_) #[true, true, false, true, false, false] rfl rfl (by kernel_rfl) (fun _ _ _ h => h) (Or.inl ⟨by rfl, ?_⟩) hHeld ?_ ?_
 rotate_left
 ·rintro w' ⟨s0, s1, s2, s3, s4, s5⟩
  go_simp
  with_reducible rfl
 rotate_left
 ·simp only [Act.put, List.setIfInBounds_toArray, List.set_cons_zero, List.set_cons_succ, i64_w, i32_w]
  rfl
 refine take_ (i := 2) (N := some 16) (v := ?_) (a' := ?_) #[true, true, true, true, false, false] rfl rfl (by kernel_rfl) (fun _ _ _ h => h) (Or.inl ⟨by rfl, ?_⟩) hHeld ?_ ?_
 rotate_left
 ·rintro w' ⟨s0, s1, s2, s3, s4, s5⟩
  go_simp
  with_reducible rfl
 rotate_left
 ·simp only [Act.put, List.setIfInBounds_toArray, List.set_cons_zero, List.set_cons_succ, i64_w, i32_w]
  rfl
 refine one_ (i := 4) (N := none) #[true, true, true, true, true, false] rfl rfl (by kernel_rfl) (by decide) (fun K hK => ?_)
 have hs17 : w16.cell? ⟨gb264, 0, none⟩ = some (.int .i64 0) := (blk_cell BK264.out 0).trans rfl
 have hfs17 := blk_frozen BK264.out 0
 have hns17_1 := NB265_264.out
 have hns17_2 := NB273_264.out
 have hns17_3 := NB274_264.out
 have hms17_1 := NB264_265.out
 have hms17_2 := NB264_273.out
 have hms17_3 := NB264_274.out
 have hs18 : w16.cell? ⟨gb264, 1, none⟩ = some (.int .i64 0) := (blk_cell BK264.out 1).trans rfl
 have hfs18 := blk_frozen BK264.out 1
 have hns18_1 := NB265_264.out
 have hns18_2 := NB273_264.out
 have hns18_3 := NB274_264.out
 have hms18_1 := NB264_265.out
 have hms18_2 := NB264_273.out
 have hms18_3 := NB264_274.out
 have hs19 : w16.cell? ⟨gb264, 2, none⟩ = some (.int .i64 0) := (blk_cell BK264.out 2).trans rfl
 have hfs19 := blk_frozen BK264.out 2
 have hns19_1 := NB265_264.out
 have hns19_2 := NB273_264.out
 have hns19_3 := NB274_264.out
 have hms19_1 := NB264_265.out
 have hms19_2 := NB264_273.out
 have hms19_3 := NB264_274.out
 refine skip_ (w1 := ?_) (by rfl) rfl ?_ ?_
 rotate_left
 ·go_simp
  rfl
 refine hK.out _ _ ⟨((cell_far (p := ⟨gb264, _, none⟩) NB273_264.out _).trans (((cell_far (p := ⟨gb264, _, none⟩) NB273_264.out _).trans (((cell_far (p := ⟨gb264, _, none⟩) NB273_264.out _).trans (hHeld.1)))))), ((cell_far (p := ⟨gb264, _, none⟩) NB273_264.out _).trans (((cell_far (p := ⟨gb264, _, none⟩) NB273_264.out _).trans (((cell_far (p := ⟨gb264, _, none⟩) NB273_264.out _).trans (hHeld.2.1)))))), ((cell_far (p := ⟨gb264, _, none⟩) NB273_264.out _).trans (((cell_far (p := ⟨gb264, _, none⟩) NB273_264.out _).trans (((cell_far (p := ⟨gb264, _, none⟩) NB273_264.out _).trans (hHeld.2.2.1)))))), ((cell_far (p := ⟨gb264, _, none⟩) NB274_264.out _).trans (((cell_far (p := ⟨gb264, _, none⟩) NB274_264.out _).trans (((cell_far (p := ⟨gb264, _, none⟩) NB274_264.out _).trans (hHeld.2.2.2.1)))))), ((cell_far (p := ⟨gb264, _, none⟩) NB274_264.out _).trans (((cell_far (p := ⟨gb264, _, none⟩) NB274_264.out _).trans (((cell_far (p := ⟨gb264, _, none⟩) NB274_264.out _).trans (hHeld.2.2.2.2.1)))))), ((cell_far (p := ⟨gb264, _, none⟩) NB274_264.out _).trans (((cell_far (p := ⟨gb264, _, none⟩) NB274_264.out _).trans (((cell_far (p := ⟨gb264, _, none⟩) NB274_264.out _).trans (hHeld.2.2.2.2.2))))))⟩ (fun hHeld => ?_)
 clear hK K
 refine one_ (i := 5) (N := none) #[true, true, true, true, true, true] rfl rfl (by kernel_rfl) (by decide) (fun K hK => ?_)
 have hs20 : w16.cell? ⟨gb265, 0, none⟩ = some (.int .i64 0) := (blk_cell BK265.out 0).trans rfl
 have hfs20 := blk_frozen BK265.out 0
 have hns20_0 := NB264_265.out
 have hns20_2 := NB273_265.out
 have hns20_3 := NB274_265.out
 have hms20_0 := NB265_264.out
 have hms20_2 := NB265_273.out
 have hms20_3 := NB265_274.out
 have hs21 : w16.cell? ⟨gb265, 1, none⟩ = some (.int .i64 0) := (blk_cell BK265.out 1).trans rfl
 have hfs21 := blk_frozen BK265.out 1
 have hns21_0 := NB264_265.out
 have hns21_2 := NB273_265.out
 have hns21_3 := NB274_265.out
 have hms21_0 := NB265_264.out
 have hms21_2 := NB265_273.out
 have hms21_3 := NB265_274.out
 have hs22 : w16.cell? ⟨gb265, 2, none⟩ = some (.int .i64 0) := (blk_cell BK265.out 2).trans rfl
 have hfs22 := blk_frozen BK265.out 2
 have hns22_0 := NB264_265.out
 have hns22_2 := NB273_265.out
 have hns22_3 := NB274_265.out
 have hms22_0 := NB265_264.out
 have hms22_2 := NB265_273.out
 have hms22_3 := NB265_274.out
 refine skip_ (w1 := ?_) (by rfl) rfl ?_ ?_
 rotate_left
 ·go_simp
  rfl
 refine hK.out _ _ ⟨((cell_far (p := ⟨gb265, _, none⟩) NB273_265.out _).trans (((cell_far (p := ⟨gb265, _, none⟩) NB273_265.out _).trans (((cell_far (p := ⟨gb265, _, none⟩) NB273_265.out _).trans (hHeld.1)))))), ((cell_far (p := ⟨gb265, _, none⟩) NB273_265.out _).trans (((cell_far (p := ⟨gb265, _, none⟩) NB273_265.out _).trans (((cell_far (p := ⟨gb265, _, none⟩) NB273_265.out _).trans (hHeld.2.1)))))), ((cell_far (p := ⟨gb265, _, none⟩) NB273_265.out _).trans (((cell_far (p := ⟨gb265, _, none⟩) NB273_265.out _).trans (((cell_far (p := ⟨gb265, _, none⟩) NB273_265.out _).trans (hHeld.2.2.1)))))), ((cell_far (p := ⟨gb265, _, none⟩) NB274_265.out _).trans (((cell_far (p := ⟨gb265, _, none⟩) NB274_265.out _).trans (((cell_far (p := ⟨gb265, _, none⟩) NB274_265.out _).trans (hHeld.2.2.2.1)))))), ((cell_far (p := ⟨gb265, _, none⟩) NB274_265.out _).trans (((cell_far (p := ⟨gb265, _, none⟩) NB274_265.out _).trans (((cell_far (p := ⟨gb265, _, none⟩) NB274_265.out _).trans (hHeld.2.2.2.2.1)))))), ((cell_far (p := ⟨gb265, _, none⟩) NB274_265.out _).trans (((cell_far (p := ⟨gb265, _, none⟩) NB274_265.out _).trans (((cell_far (p := ⟨gb265, _, none⟩) NB274_265.out _).trans (hHeld.2.2.2.2.2))))))⟩ (fun hHeld => ?_)
 clear hK K
 refine done_ (by kernel_rfl) ?_
 try go_wp2
 refine bodyPost_ret (results_list (rs := [.tmp 2, .cell 3 27, .cell 4 27]) rfl (by simp) (.tmp (.cell gb264 27 #[.int .i64 t267, .int .i64 t268, .int .i64 t269] (0, 0) _ rfl (by (with_reducible repeat (first | apply bn | apply bd | apply ba)); refine blk_far ?_ NB264_265.out _; (with_reducible repeat (first | apply bn | apply bd | apply ba)); refine blk_far ?_ NB264_265.out _; (with_reducible repeat (first | apply bn | apply bd | apply ba)); refine blk_far ?_ NB264_265.out _; (with_reducible repeat (first | apply bn | apply bd | apply ba)); refine blk_put (cs := #[.int .i64 t267, .int .i64 t268, .int .i64 0]) ?_ 2 _ rfl; (with_reducible repeat (first | apply bn | apply bd | apply ba)); refine blk_put (cs := #[.int .i64 t267, .int .i64 0, .int .i64 0]) ?_ 1 _ rfl; (with_reducible repeat (first | apply bn | apply bd | apply ba)); refine blk_put (cs := #[.int .i64 0, .int .i64 0, .int .i64 0]) ?_ 0 _ rfl; (with_reducible repeat (first | apply bn | apply bd | apply ba)); exact BK264.out) Try.underlying27 rfl (by kernel_rfl) (.cell gb265 27 #[.int .i64 t270, .int .i64 t271, .int .i64 t272] (0, 0) _ rfl (by (with_reducible repeat (first | apply bn | apply bd | apply ba)); refine blk_put (cs := #[.int .i64 t270, .int .i64 t271, .int .i64 0]) ?_ 2 _ rfl; (with_reducible repeat (first | apply bn | apply bd | apply ba)); refine blk_put (cs := #[.int .i64 t270, .int .i64 0, .int .i64 0]) ?_ 1 _ rfl; (with_reducible repeat (first | apply bn | apply bd | apply ba)); refine blk_put (cs := #[.int .i64 0, .int .i64 0, .int .i64 0]) ?_ 0 _ rfl; (with_reducible repeat (first | apply bn | apply bd | apply ba)); refine blk_far ?_ NB265_264.out _; (with_reducible repeat (first | apply bn | apply bd | apply ba)); refine blk_far ?_ NB265_264.out _; (with_reducible repeat (first | apply bn | apply bd | apply ba)); refine blk_far ?_ NB265_264.out _; (with_reducible repeat (first | apply bn | apply bd | apply ba)); exact BK265.out) Try.underlying27 rfl (by kernel_rfl) .nil)))) rfl ?_
 exact ⟨by first | rfl | (simp [errW_none, errW_some] <;> rfl) | (simp [*, errW_none, errW_some] <;> rfl), by repeat (first | (with_reducible first | exact HB.out | apply below_alloc | apply pw_below_drewN | apply below_drew1 | refine below_set ?_ GE264.out | refine below_set ?_ GE265.out | refine below_set ?_ GE273.out | refine below_set ?_ GE274.out) | exact HB.out)⟩

end Go.Proofs.Ytpmepopagapeiaa.PFnBallSums

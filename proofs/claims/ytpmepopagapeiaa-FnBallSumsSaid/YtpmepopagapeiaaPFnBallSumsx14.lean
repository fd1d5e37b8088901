-- Printed by the kit's print and repaired by a program of this session.
import Derived.Test.YtpmepopagapeiaaPFnBallSumsx0
import Derived.Test.YtpmepopagapeiaaPFnBallSumsx1
import Derived.Test.YtpmepopagapeiaaPFnBallSumsx2
import Derived.Test.YtpmepopagapeiaaPFnBallSumsx5
import Derived.Test.YtpmepopagapeiaaPFnBallSumsx7
import Derived.Test.YtpmepopagapeiaaPFnBallSumsx8
import Derived.Test.YtpmepopagapeiaaPFnBallSumsx9
import Derived.Test.YtpmepopagapeiaaPFnBallSumsx10
import Derived.Test.YtpmepopagapeiaaPFnBallSumsx11
import Derived.Test.YtpmepopagapeiaaPFnBallSumsx12
import Derived.Test.YtpmepopagapeiaaPFnBallSumsx13
namespace Go.Proofs.Ytpmepopagapeiaa.PFnBallSums
open Go.RowKit Go.Proofs.YtpmepopagapeiaaW.PrintWords Go.Proofs.YtpmepopagapeiaaW.PrintLast Go.Proofs.YtpmepopagapeiaaW.PrintMore
attribute [local go_sem] max2_int min2_int max_two min_two max_three min_three max_four min_four   -- for this text's walks alone
set_option linter.unusedVariables false
set_option linter.unusedSimpArgs false

attribute [local go_sem high] eqA27
/-! ### laws_FnBallSums: function 6 -/
mutual
def laws_FnBallSums.j0 : Nat → List Int → Bool → Option (Bool)
 | 0, _, _ => none
 | k + 1, x0, x85 => if x85 = true then (some false) else ((spec_DrawMultiplyBall.f k x0).bind fun bt481 => ((impl_MultiplyBall.f k bt481.1 bt481.2.1 bt481.2.2.1 bt481.2.2.2.1 bt481.2.2.2.2).bind fun bt487 => ((spec_MultiplyBall.f k bt481.1 bt481.2.1 bt481.2.2.1 bt481.2.2.2.1 bt481.2.2.2.2).bind fun bt492 => (if bt487.2.2.2 = bt492.2.2.2 then (laws_FnBallSums.j1 k x0 bt481.1 bt481.2.2.2.2 bt487.2.2.2 (!(bt487.1 == bt492.1) || (!(bt487.2.1 == bt492.2.1) || (!(bt487.2.2.1 == bt492.2.2.1)))) bt481.2.1 bt481.2.2.1 bt481.2.2.2.1 bt487.1 bt487.2.1 bt487.2.2.1) else (laws_FnBallSums.j1 k x0 bt481.1 bt481.2.2.2.2 bt487.2.2.2 true bt481.2.1 bt481.2.2.1 bt481.2.2.2.1 bt487.1 bt487.2.1 bt487.2.2.1)))))
def laws_FnBallSums.j1 : Nat → List Int → Int → Int → Int → Bool → Int → Int → Int → Int → Int → Int → Option (Bool)
 | 0, _, _, _, _, _, _, _, _, _, _, _ => none
 | k + 1, x0, x12, x14, x16, x113, x487000, x487001, x487002, x492000, x492001, x492002 => if x113 = true then (some false) else (if x16 = 0 then ((impl_MultiplyBall.f k x12 x492000 x492001 x492002 (wrap64 (-x14))).bind fun bt497 => (if bt497.2.2.2 = 0 then (if (!(bt497.1 == x487000) || (!(bt497.2.1 == x487001) || (!(bt497.2.2.1 == x487002)))) = true then (some false) else (laws_FnBallSums.j2 k x0)) else (some false))) else (laws_FnBallSums.j2 k x0))
def laws_FnBallSums.j2 : Nat → List Int → Option (Bool)
 | 0, _ => none
 | k + 1, x0 => (spec_DrawOppositeBall.f k x0).bind fun bt502 => ((impl_OppositeBall.f k bt502.1 bt502.2.1 bt502.2.2.1 bt502.2.2.2).bind fun bt507 => ((spec_OppositeBall.f k bt502.1 bt502.2.1 bt502.2.2.1 bt502.2.2.2).bind fun bt512 => (if bt507.2.2.2 = bt512.2.2.2 then (laws_FnBallSums.j3 k x0 bt502.1 bt507.2.2.2 (!(bt507.1 == bt512.1) || (!(bt507.2.1 == bt512.2.1) || (!(bt507.2.2.1 == bt512.2.2.1)))) bt502.2.1 bt502.2.2.1 bt502.2.2.2 bt507.1 bt507.2.1 bt507.2.2.1) else (laws_FnBallSums.j3 k x0 bt502.1 bt507.2.2.2 true bt502.2.1 bt502.2.2.1 bt502.2.2.2 bt507.1 bt507.2.1 bt507.2.2.1))))
def laws_FnBallSums.j3 : Nat → List Int → Int → Int → Bool → Int → Int → Int → Int → Int → Int → Option (Bool)
 | 0, _, _, _, _, _, _, _, _, _, _ => none
 | k + 1, x0, x21, x24, x155, x507000, x507001, x507002, x512000, x512001, x512002 => if x155 = true then (some false) else (if x24 = 0 then ((impl_OppositeBall.f k x21 x512000 x512001 x512002).bind fun bt517 => ((impl_AddBalls.f k x21 x507000 x507001 x507002 x512000 x512001 x512002).bind fun bt522 => (if bt517.2.2.2 = 0 then (if bt522.2.2.2 = 0 then (if (!(bt517.1 == x507000) || (!(bt517.2.1 == x507001) || (!(bt517.2.2.1 == x507002)))) = true then (some false) else (if (!(bt522.1 == x507000) || (!(bt522.2.1 == 0) || (!(bt522.2.2.1 == 0)))) = true then (some false) else (laws_FnBallSums.j4 k x0))) else (some false)) else (some false)))) else (laws_FnBallSums.j4 k x0))
def laws_FnBallSums.j4 : Nat → List Int → Option (Bool)
 | 0, _ => none
 | k + 1, x0 => (spec_DrawDigitsOfBall.f k x0).bind fun bt527 => ((impl_DigitsOfBall.f k bt527.1 bt527.2.1 bt527.2.2.1 bt527.2.2.2).bind fun bt532 => ((spec_DigitsOfBall.f k bt527.1 bt527.2.1 bt527.2.2.1 bt527.2.2.2).bind fun bt536 => (if bt532.2 = bt536.2 then ((laws_likeInts.f k bt532.1 bt536.1).bind fun t540 => (laws_FnBallSums.j5 k bt527.1 bt532.1 bt532.2 (!t540) bt527.2.1 bt527.2.2.1 bt527.2.2.2)) else (laws_FnBallSums.j5 k bt527.1 bt532.1 bt532.2 true bt527.2.1 bt527.2.2.1 bt527.2.2.2))))
def laws_FnBallSums.j5 : Nat → Int → List Int → Int → Bool → Int → Int → Int → Option (Bool)
 | 0, _, _, _, _, _, _, _ => none
 | k + 1, x31, x33, x34, x214, x532000, x532001, x532002 => if x214 = true then (some false) else (if x34 = 0 then (laws_FnBallSums.l0 k x31 x33 0 (wrap64 ((x33.length : Int) - 1)) x532000 x532001 x532002) else (some true))
def laws_FnBallSums.l0 : Nat → Int → List Int → Int → Int → Int → Int → Int → Option (Bool)
 | 0, _, _, _, _, _, _, _ => none
 | k + 1, x31, x33, x37, x38, x532000, x532001, x532002 => if x38 ≥ 0 then (if 0 ≤ x38 then (if x38 < (x33.length : Int) then (laws_FnBallSums.l0 k x31 x33 (wrap64 ((wrap64 (x37 * x31)) + (rd x33 x38))) (wrap64 (x38 - 1)) x532000 x532001 x532002) else (none)) else (none)) else (if x37 = x532001 then (some true) else (some false))
end
def laws_FnBallSums.f (k : Nat) (l0 : List Int) : Option (Bool) := (laws_big.f l0).bind fun t456 => (if t456 = true then (some true) else ((spec_DrawAddBalls.f k l0).bind fun bt457 => ((impl_AddBalls.f k bt457.1 bt457.2.1 bt457.2.2.1 bt457.2.2.2.1 bt457.2.2.2.2.1 bt457.2.2.2.2.2.1 bt457.2.2.2.2.2.2).bind fun bt466 => ((spec_AddBalls.f k bt457.1 bt457.2.1 bt457.2.2.1 bt457.2.2.2.1 bt457.2.2.2.2.1 bt457.2.2.2.2.2.1 bt457.2.2.2.2.2.2).bind fun bt471 => ((impl_AddBalls.f k bt457.1 bt457.2.2.2.2.1 bt457.2.2.2.2.2.1 bt457.2.2.2.2.2.2 bt457.2.1 bt457.2.2.1 bt457.2.2.2.1).bind fun bt476 => (if bt466.2.2.2 = bt471.2.2.2 then (if (!(bt466.1 == bt471.1) || (!(bt466.2.1 == bt471.2.1) || (!(bt466.2.2.1 == bt471.2.2.1)))) = true then (laws_FnBallSums.j0 k l0 true) else (if bt476.2.2.2 = bt466.2.2.2 then (laws_FnBallSums.j0 k l0 (!(bt476.1 == bt466.1) || (!(bt476.2.1 == bt466.2.1) || (!(bt476.2.2.1 == bt466.2.2.1))))) else (laws_FnBallSums.j0 k l0 true))) else (laws_FnBallSums.j0 k l0 true)))))))
theorem laws_FnBallSums.mono_l : ∀ k, (∀ y0 y1, LeO (laws_FnBallSums.j0 k y0 y1) (laws_FnBallSums.j0 (k + 1) y0 y1)) ∧ (∀ y0 y1 y2 y3 y4 y5 y6 y7 y8 y9 y10, LeO (laws_FnBallSums.j1 k y0 y1 y2 y3 y4 y5 y6 y7 y8 y9 y10) (laws_FnBallSums.j1 (k + 1) y0 y1 y2 y3 y4 y5 y6 y7 y8 y9 y10)) ∧ (∀ y0, LeO (laws_FnBallSums.j2 k y0) (laws_FnBallSums.j2 (k + 1) y0)) ∧ (∀ y0 y1 y2 y3 y4 y5 y6 y7 y8 y9, LeO (laws_FnBallSums.j3 k y0 y1 y2 y3 y4 y5 y6 y7 y8 y9) (laws_FnBallSums.j3 (k + 1) y0 y1 y2 y3 y4 y5 y6 y7 y8 y9)) ∧ (∀ y0, LeO (laws_FnBallSums.j4 k y0) (laws_FnBallSums.j4 (k + 1) y0)) ∧ (∀ y0 y1 y2 y3 y4 y5 y6, LeO (laws_FnBallSums.j5 k y0 y1 y2 y3 y4 y5 y6) (laws_FnBallSums.j5 (k + 1) y0 y1 y2 y3 y4 y5 y6)) ∧ (∀ y0 y1 y2 y3 y4 y5 y6, LeO (laws_FnBallSums.l0 k y0 y1 y2 y3 y4 y5 y6) (laws_FnBallSums.l0 (k + 1) y0 y1 y2 y3 y4 y5 y6))
 | 0 => ⟨fun _ _ r h => by simp [laws_FnBallSums.j0] at h, fun _ _ _ _ _ _ _ _ _ _ _ r h => by simp [laws_FnBallSums.j1] at h, fun _ r h => by simp [laws_FnBallSums.j2] at h, fun _ _ _ _ _ _ _ _ _ _ r h => by simp [laws_FnBallSums.j3] at h, fun _ r h => by simp [laws_FnBallSums.j4] at h, fun _ _ _ _ _ _ _ r h => by simp [laws_FnBallSums.j5] at h, fun _ _ _ _ _ _ _ r h => by simp [laws_FnBallSums.l0] at h⟩
 | k + 1 => by
  obtain ⟨ih0, ih1, ih2, ih3, ih4, ih5, ih6⟩ := laws_FnBallSums.mono_l k
  refine ⟨?_, ?_, ?_, ?_, ?_, ?_, ?_⟩
  ·intro y0 y1
   unfold laws_FnBallSums.j0
   repeat' first
   | (with_reducible exact ih0 _ _)
   | (with_reducible exact ih1 _ _ _ _ _ _ _ _ _ _ _)
   | (with_reducible exact ih2 _)
   | (with_reducible exact ih3 _ _ _ _ _ _ _ _ _ _)
   | (with_reducible exact ih4 _)
   | (with_reducible exact ih5 _ _ _ _ _ _ _)
   | (with_reducible exact ih6 _ _ _ _ _ _ _)
   | (with_reducible exact impl_AddBalls.mono _ _ _ _ _ _ _ _)
   | (with_reducible exact impl_DigitsOfBall.mono _ _ _ _ _)
   | (with_reducible exact impl_MultiplyBall.mono _ _ _ _ _ _)
   | (with_reducible exact impl_OppositeBall.mono _ _ _ _ _)
   | (with_reducible exact laws_likeInts.mono _ _ _)
   | (with_reducible exact spec_AddBalls.mono _ _ _ _ _ _ _ _)
   | (with_reducible exact spec_DigitsOfBall.mono _ _ _ _ _)
   | (with_reducible exact spec_DrawAddBalls.mono _ _)
   | (with_reducible exact spec_DrawDigitsOfBall.mono _ _)
   | (with_reducible exact spec_DrawMultiplyBall.mono _ _)
   | (with_reducible exact spec_DrawOppositeBall.mono _ _)
   | (with_reducible exact spec_MultiplyBall.mono _ _ _ _ _ _)
   | (with_reducible exact spec_OppositeBall.mono _ _ _ _ _)
   | (with_reducible exact LeO.refl _)
   | (with_reducible exact LeO.none _)
   | (with_reducible refine LeO.ite ?_ ?_)
   | (with_reducible refine LeO.bind ?_ (fun _ => ?_))
   | refine LeO.ite ?_ ?_
   | refine LeO.bind ?_ (fun _ => ?_)
  ·intro y0 y1 y2 y3 y4 y5 y6 y7 y8 y9 y10
   unfold laws_FnBallSums.j1
   repeat' first
   | (with_reducible exact ih0 _ _)
   | (with_reducible exact ih1 _ _ _ _ _ _ _ _ _ _ _)
   | (with_reducible exact ih2 _)
   | (with_reducible exact ih3 _ _ _ _ _ _ _ _ _ _)
   | (with_reducible exact ih4 _)
   | (with_reducible exact ih5 _ _ _ _ _ _ _)
   | (with_reducible exact ih6 _ _ _ _ _ _ _)
   | (with_reducible exact impl_AddBalls.mono _ _ _ _ _ _ _ _)
   | (with_reducible exact impl_DigitsOfBall.mono _ _ _ _ _)
   | (with_reducible exact impl_MultiplyBall.mono _ _ _ _ _ _)
   | (with_reducible exact impl_OppositeBall.mono _ _ _ _ _)
   | (with_reducible exact laws_likeInts.mono _ _ _)
   | (with_reducible exact spec_AddBalls.mono _ _ _ _ _ _ _ _)
   | (with_reducible exact spec_DigitsOfBall.mono _ _ _ _ _)
   | (with_reducible exact spec_DrawAddBalls.mono _ _)
   | (with_reducible exact spec_DrawDigitsOfBall.mono _ _)
   | (with_reducible exact spec_DrawMultiplyBall.mono _ _)
   | (with_reducible exact spec_DrawOppositeBall.mono _ _)
   | (with_reducible exact spec_MultiplyBall.mono _ _ _ _ _ _)
   | (with_reducible exact spec_OppositeBall.mono _ _ _ _ _)
   | (with_reducible exact LeO.refl _)
   | (with_reducible exact LeO.none _)
   | (with_reducible refine LeO.ite ?_ ?_)
   | (with_reducible refine LeO.bind ?_ (fun _ => ?_))
   | refine LeO.ite ?_ ?_
   | refine LeO.bind ?_ (fun _ => ?_)
  ·intro y0
   unfold laws_FnBallSums.j2
   repeat' first
   | (with_reducible exact ih0 _ _)
   | (with_reducible exact ih1 _ _ _ _ _ _ _ _ _ _ _)
   | (with_reducible exact ih2 _)
   | (with_reducible exact ih3 _ _ _ _ _ _ _ _ _ _)
   | (with_reducible exact ih4 _)
   | (with_reducible exact ih5 _ _ _ _ _ _ _)
   | (with_reducible exact ih6 _ _ _ _ _ _ _)
   | (with_reducible exact impl_AddBalls.mono _ _ _ _ _ _ _ _)
   | (with_reducible exact impl_DigitsOfBall.mono _ _ _ _ _)
   | (with_reducible exact impl_MultiplyBall.mono _ _ _ _ _ _)
   | (with_reducible exact impl_OppositeBall.mono _ _ _ _ _)
   | (with_reducible exact laws_likeInts.mono _ _ _)
   | (with_reducible exact spec_AddBalls.mono _ _ _ _ _ _ _ _)
   | (with_reducible exact spec_DigitsOfBall.mono _ _ _ _ _)
   | (with_reducible exact spec_DrawAddBalls.mono _ _)
   | (with_reducible exact spec_DrawDigitsOfBall.mono _ _)
   | (with_reducible exact spec_DrawMultiplyBall.mono _ _)
   | (with_reducible exact spec_DrawOppositeBall.mono _ _)
   | (with_reducible exact spec_MultiplyBall.mono _ _ _ _ _ _)
   | (with_reducible exact spec_OppositeBall.mono _ _ _ _ _)
   | (with_reducible exact LeO.refl _)
   | (with_reducible exact LeO.none _)
   | (with_reducible refine LeO.ite ?_ ?_)
   | (with_reducible refine LeO.bind ?_ (fun _ => ?_))
   | refine LeO.ite ?_ ?_
   | refine LeO.bind ?_ (fun _ => ?_)
  ·intro y0 y1 y2 y3 y4 y5 y6 y7 y8 y9
   unfold laws_FnBallSums.j3
   repeat' first
   | (with_reducible exact ih0 _ _)
   | (with_reducible exact ih1 _ _ _ _ _ _ _ _ _ _ _)
   | (with_reducible exact ih2 _)
   | (with_reducible exact ih3 _ _ _ _ _ _ _ _ _ _)
   | (with_reducible exact ih4 _)
   | (with_reducible exact ih5 _ _ _ _ _ _ _)
   | (with_reducible exact ih6 _ _ _ _ _ _ _)
   | (with_reducible exact impl_AddBalls.mono _ _ _ _ _ _ _ _)
   | (with_reducible exact impl_DigitsOfBall.mono _ _ _ _ _)
   | (with_reducible exact impl_MultiplyBall.mono _ _ _ _ _ _)
   | (with_reducible exact impl_OppositeBall.mono _ _ _ _ _)
   | (with_reducible exact laws_likeInts.mono _ _ _)
   | (with_reducible exact spec_AddBalls.mono _ _ _ _ _ _ _ _)
   | (with_reducible exact spec_DigitsOfBall.mono _ _ _ _ _)
   | (with_reducible exact spec_DrawAddBalls.mono _ _)
   | (with_reducible exact spec_DrawDigitsOfBall.mono _ _)
   | (with_reducible exact spec_DrawMultiplyBall.mono _ _)
   | (with_reducible exact spec_DrawOppositeBall.mono _ _)
   | (with_reducible exact spec_MultiplyBall.mono _ _ _ _ _ _)
   | (with_reducible exact spec_OppositeBall.mono _ _ _ _ _)
   | (with_reducible exact LeO.refl _)
   | (with_reducible exact LeO.none _)
   | (with_reducible refine LeO.ite ?_ ?_)
   | (with_reducible refine LeO.bind ?_ (fun _ => ?_))
   | refine LeO.ite ?_ ?_
   | refine LeO.bind ?_ (fun _ => ?_)
  ·intro y0
   unfold laws_FnBallSums.j4
   repeat' first
   | (with_reducible exact ih0 _ _)
   | (with_reducible exact ih1 _ _ _ _ _ _ _ _ _ _ _)
   | (with_reducible exact ih2 _)
   | (with_reducible exact ih3 _ _ _ _ _ _ _ _ _ _)
   | (with_reducible exact ih4 _)
   | (with_reducible exact ih5 _ _ _ _ _ _ _)
   | (with_reducible exact ih6 _ _ _ _ _ _ _)
   | (with_reducible exact impl_AddBalls.mono _ _ _ _ _ _ _ _)
   | (with_reducible exact impl_DigitsOfBall.mono _ _ _ _ _)
   | (with_reducible exact impl_MultiplyBall.mono _ _ _ _ _ _)
   | (with_reducible exact impl_OppositeBall.mono _ _ _ _ _)
   | (with_reducible exact laws_likeInts.mono _ _ _)
   | (with_reducible exact spec_AddBalls.mono _ _ _ _ _ _ _ _)
   | (with_reducible exact spec_DigitsOfBall.mono _ _ _ _ _)
   | (with_reducible exact spec_DrawAddBalls.mono _ _)
   | (with_reducible exact spec_DrawDigitsOfBall.mono _ _)
   | (with_reducible exact spec_DrawMultiplyBall.mono _ _)
   | (with_reducible exact spec_DrawOppositeBall.mono _ _)
   | (with_reducible exact spec_MultiplyBall.mono _ _ _ _ _ _)
   | (with_reducible exact spec_OppositeBall.mono _ _ _ _ _)
   | (with_reducible exact LeO.refl _)
   | (with_reducible exact LeO.none _)
   | (with_reducible refine LeO.ite ?_ ?_)
   | (with_reducible refine LeO.bind ?_ (fun _ => ?_))
   | refine LeO.ite ?_ ?_
   | refine LeO.bind ?_ (fun _ => ?_)
  ·intro y0 y1 y2 y3 y4 y5 y6
   unfold laws_FnBallSums.j5
   repeat' first
   | (with_reducible exact ih0 _ _)
   | (with_reducible exact ih1 _ _ _ _ _ _ _ _ _ _ _)
   | (with_reducible exact ih2 _)
   | (with_reducible exact ih3 _ _ _ _ _ _ _ _ _ _)
   | (with_reducible exact ih4 _)
   | (with_reducible exact ih5 _ _ _ _ _ _ _)
   | (with_reducible exact ih6 _ _ _ _ _ _ _)
   | (with_reducible exact impl_AddBalls.mono _ _ _ _ _ _ _ _)
   | (with_reducible exact impl_DigitsOfBall.mono _ _ _ _ _)
   | (with_reducible exact impl_MultiplyBall.mono _ _ _ _ _ _)
   | (with_reducible exact impl_OppositeBall.mono _ _ _ _ _)
   | (with_reducible exact laws_likeInts.mono _ _ _)
   | (with_reducible exact spec_AddBalls.mono _ _ _ _ _ _ _ _)
   | (with_reducible exact spec_DigitsOfBall.mono _ _ _ _ _)
   | (with_reducible exact spec_DrawAddBalls.mono _ _)
   | (with_reducible exact spec_DrawDigitsOfBall.mono _ _)
   | (with_reducible exact spec_DrawMultiplyBall.mono _ _)
   | (with_reducible exact spec_DrawOppositeBall.mono _ _)
   | (with_reducible exact spec_MultiplyBall.mono _ _ _ _ _ _)
   | (with_reducible exact spec_OppositeBall.mono _ _ _ _ _)
   | (with_reducible exact LeO.refl _)
   | (with_reducible exact LeO.none _)
   | (with_reducible refine LeO.ite ?_ ?_)
   | (with_reducible refine LeO.bind ?_ (fun _ => ?_))
   | refine LeO.ite ?_ ?_
   | refine LeO.bind ?_ (fun _ => ?_)
  ·intro y0 y1 y2 y3 y4 y5 y6
   unfold laws_FnBallSums.l0
   repeat' first
   | (with_reducible exact ih0 _ _)
   | (with_reducible exact ih1 _ _ _ _ _ _ _ _ _ _ _)
   | (with_reducible exact ih2 _)
   | (with_reducible exact ih3 _ _ _ _ _ _ _ _ _ _)
   | (with_reducible exact ih4 _)
   | (with_reducible exact ih5 _ _ _ _ _ _ _)
   | (with_reducible exact ih6 _ _ _ _ _ _ _)
   | (with_reducible exact impl_AddBalls.mono _ _ _ _ _ _ _ _)
   | (with_reducible exact impl_DigitsOfBall.mono _ _ _ _ _)
   | (with_reducible exact impl_MultiplyBall.mono _ _ _ _ _ _)
   | (with_reducible exact impl_OppositeBall.mono _ _ _ _ _)
   | (with_reducible exact laws_likeInts.mono _ _ _)
   | (with_reducible exact spec_AddBalls.mono _ _ _ _ _ _ _ _)
   | (with_reducible exact spec_DigitsOfBall.mono _ _ _ _ _)
   | (with_reducible exact spec_DrawAddBalls.mono _ _)
   | (with_reducible exact spec_DrawDigitsOfBall.mono _ _)
   | (with_reducible exact spec_DrawMultiplyBall.mono _ _)
   | (with_reducible exact spec_DrawOppositeBall.mono _ _)
   | (with_reducible exact spec_MultiplyBall.mono _ _ _ _ _ _)
   | (with_reducible exact spec_OppositeBall.mono _ _ _ _ _)
   | (with_reducible exact LeO.refl _)
   | (with_reducible exact LeO.none _)
   | (with_reducible refine LeO.ite ?_ ?_)
   | (with_reducible refine LeO.bind ?_ (fun _ => ?_))
   | refine LeO.ite ?_ ?_
   | refine LeO.bind ?_ (fun _ => ?_)
theorem laws_FnBallSums.mono : ∀ a0 k, LeO (laws_FnBallSums.f k a0) (laws_FnBallSums.f (k + 1) a0) := by
 intro a0 k
 obtain ⟨ih0, ih1, ih2, ih3, ih4, ih5, ih6⟩ := laws_FnBallSums.mono_l k
 unfold laws_FnBallSums.f
 repeat' first
   | (with_reducible exact ih0 _ _)
   | (with_reducible exact ih1 _ _ _ _ _ _ _ _ _ _ _)
   | (with_reducible exact ih2 _)
   | (with_reducible exact ih3 _ _ _ _ _ _ _ _ _ _)
   | (with_reducible exact ih4 _)
   | (with_reducible exact ih5 _ _ _ _ _ _ _)
   | (with_reducible exact ih6 _ _ _ _ _ _ _)
   | (with_reducible exact impl_AddBalls.mono _ _ _ _ _ _ _ _)
   | (with_reducible exact impl_DigitsOfBall.mono _ _ _ _ _)
   | (with_reducible exact impl_MultiplyBall.mono _ _ _ _ _ _)
   | (with_reducible exact impl_OppositeBall.mono _ _ _ _ _)
   | (with_reducible exact laws_likeInts.mono _ _ _)
   | (with_reducible exact spec_AddBalls.mono _ _ _ _ _ _ _ _)
   | (with_reducible exact spec_DigitsOfBall.mono _ _ _ _ _)
   | (with_reducible exact spec_DrawAddBalls.mono _ _)
   | (with_reducible exact spec_DrawDigitsOfBall.mono _ _)
   | (with_reducible exact spec_DrawMultiplyBall.mono _ _)
   | (with_reducible exact spec_DrawOppositeBall.mono _ _)
   | (with_reducible exact spec_MultiplyBall.mono _ _ _ _ _ _)
   | (with_reducible exact spec_OppositeBall.mono _ _ _ _ _)
   | (with_reducible exact LeO.refl _)
   | (with_reducible exact LeO.none _)
   | (with_reducible refine LeO.ite ?_ ?_)
   | (with_reducible refine LeO.bind ?_ (fun _ => ?_))
   | refine LeO.ite ?_ ?_
   | refine LeO.bind ?_ (fun _ => ?_)
set_option maxHeartbeats 8000000 in
set_option maxRecDepth 100000 in
theorem laws_FnBallSums.calls (k : Nat) (A0 : Option Addr) (c0 : Nat) (l0 : List Int) (r : Bool) (w : World) (hr : Aside0 (r = true)) (hr0 : Kd.C (Kd.int .u8) w A0 l0.length l0) (hc0 : l0.length ≤ c0) (h : laws_FnBallSums.f k l0 = some r) :
  Calls Try.prog 6 #[.slice A0 l0.length c0] w fun e w' => e = .returned (.bool r) ∧ Below w.heap.size w w' := by
 have hu27 := Try.underlying27
 have HR0 := Aside0.mk hr0
 have HC0 := Aside0.mk hc0
 clear hr0 hc0
 have HB := Aside0.mk (Below.refl w.heap.size w)
 have H : ((laws_big.f l0).bind fun t456 => (if t456 = true then (some true) else ((spec_DrawAddBalls.f k l0).bind fun bt457 => ((impl_AddBalls.f k bt457.1 bt457.2.1 bt457.2.2.1 bt457.2.2.2.1 bt457.2.2.2.2.1 bt457.2.2.2.2.2.1 bt457.2.2.2.2.2.2).bind fun bt466 => ((spec_AddBalls.f k bt457.1 bt457.2.1 bt457.2.2.1 bt457.2.2.2.1 bt457.2.2.2.2.1 bt457.2.2.2.2.2.1 bt457.2.2.2.2.2.2).bind fun bt471 => ((impl_AddBalls.f k bt457.1 bt457.2.2.2.2.1 bt457.2.2.2.2.2.1 bt457.2.2.2.2.2.2 bt457.2.1 bt457.2.2.1 bt457.2.2.2.1).bind fun bt476 => (if bt466.2.2.2 = bt471.2.2.2 then (if (!(bt466.1 == bt471.1) || (!(bt466.2.1 == bt471.2.1) || (!(bt466.2.2.1 == bt471.2.2.1)))) = true then (laws_FnBallSums.j0 k l0 true) else (if bt476.2.2.2 = bt466.2.2.2 then (laws_FnBallSums.j0 k l0 (!(bt476.1 == bt466.1) || (!(bt476.2.1 == bt466.2.1) || (!(bt476.2.2.1 == bt466.2.2.1))))) else (laws_FnBallSums.j0 k l0 true))) else (laws_FnBallSums.j0 k l0 true)))))))) = some r := h
 clear h
 replace H := Option.bind_eq_some_iff.mp H
 obtain ⟨t456, A20, H⟩ := H
 replace H : (if t456 = true then (some true) else ((spec_DrawAddBalls.f k l0).bind fun bt457 => ((impl_AddBalls.f k bt457.1 bt457.2.1 bt457.2.2.1 bt457.2.2.2.1 bt457.2.2.2.2.1 bt457.2.2.2.2.2.1 bt457.2.2.2.2.2.2).bind fun bt466 => ((spec_AddBalls.f k bt457.1 bt457.2.1 bt457.2.2.1 bt457.2.2.2.1 bt457.2.2.2.2.1 bt457.2.2.2.2.2.1 bt457.2.2.2.2.2.2).bind fun bt471 => ((impl_AddBalls.f k bt457.1 bt457.2.2.2.2.1 bt457.2.2.2.2.2.1 bt457.2.2.2.2.2.2 bt457.2.1 bt457.2.2.1 bt457.2.2.2.1).bind fun bt476 => (if bt466.2.2.2 = bt471.2.2.2 then (if (!(bt466.1 == bt471.1) || (!(bt466.2.1 == bt471.2.1) || (!(bt466.2.2.1 == bt471.2.2.1)))) = true then (laws_FnBallSums.j0 k l0 true) else (if bt476.2.2.2 = bt466.2.2.2 then (laws_FnBallSums.j0 k l0 (!(bt476.1 == bt466.1) || (!(bt476.2.1 == bt466.2.1) || (!(bt476.2.2.1 == bt466.2.2.1))))) else (laws_FnBallSums.j0 k l0 true))) else (laws_FnBallSums.j0 k l0 true))))))) = some r := H
 have A2 := Aside0.mk A20
 clear A20
 by_cases c3 : t456 = true
 ·subst c3
  have H1 : (some true) = some r := by rw [if_pos rfl] at H; exact H
  clear H
  have H := H1
  clear H1
  obtain rfl := Option.some.inj H
  go_enter Try.func6, Try.ntmps6
  go_wp2_with (first | ((with_reducible refine gate_callee (f := 21) rfl ?_); refine g1 (some 40) Try.func21 #[.slice A0 l0.length c0] ?_; (with_reducible refine (laws_big.calls _ _ l0 true _ ?side1 ?side2 A2.out).mono ?_); (case side1 => repeat (first | exact HR0.out | (with_reducible refine Kd.C_alloc ?_ _) | (with_reducible refine Kd.C_drewN ?_ _) | (with_reducible refine Kd.C_drew ?_))); (case side2 => exact HC0.out); rintro e w' ⟨rfl, ⟨nd, rfl⟩⟩; refine ⟨_, rfl, ?_⟩))
  go_ret
  exact ⟨by first | rfl | (simp [errW_none, errW_some] <;> rfl) | (simp [*, errW_none, errW_some] <;> rfl), by repeat (first | (with_reducible first | exact HB.out | apply below_alloc | apply pw_below_drewN | apply below_drew1) | exact HB.out)⟩
 ·replace c3 := Bool.eq_false_iff.mpr c3
  subst c3
  have H1 : ((spec_DrawAddBalls.f k l0).bind fun bt457 => ((impl_AddBalls.f k bt457.1 bt457.2.1 bt457.2.2.1 bt457.2.2.2.1 bt457.2.2.2.2.1 bt457.2.2.2.2.2.1 bt457.2.2.2.2.2.2).bind fun bt466 => ((spec_AddBalls.f k bt457.1 bt457.2.1 bt457.2.2.1 bt457.2.2.2.1 bt457.2.2.2.2.1 bt457.2.2.2.2.2.1 bt457.2.2.2.2.2.2).bind fun bt471 => ((impl_AddBalls.f k bt457.1 bt457.2.2.2.2.1 bt457.2.2.2.2.2.1 bt457.2.2.2.2.2.2 bt457.2.1 bt457.2.2.1 bt457.2.2.2.1).bind fun bt476 => (if bt466.2.2.2 = bt471.2.2.2 then (if (!(bt466.1 == bt471.1) || (!(bt466.2.1 == bt471.2.1) || (!(bt466.2.2.1 == bt471.2.2.1)))) = true then (laws_FnBallSums.j0 k l0 true) else (if bt476.2.2.2 = bt466.2.2.2 then (laws_FnBallSums.j0 k l0 (!(bt476.1 == bt466.1) || (!(bt476.2.1 == bt466.2.1) || (!(bt476.2.2.1 == bt466.2.2.1))))) else (laws_FnBallSums.j0 k l0 true))) else (laws_FnBallSums.j0 k l0 true)))))) = some r := by rw [if_neg (show ¬ (false = true) by decide)] at H; exact H
  clear H
  have H := H1
  clear H1
  replace H := Option.bind_eq_some_iff.mp H
  obtain ⟨⟨t457, t458, t459, t460, t461, t462, t463⟩, A40, H⟩ := H
  replace H : ((impl_AddBalls.f k t457 t458 t459 t460 t461 t462 t463).bind fun bt466 => ((spec_AddBalls.f k t457 t458 t459 t460 t461 t462 t463).bind fun bt471 => ((impl_AddBalls.f k t457 t461 t462 t463 t458 t459 t460).bind fun bt476 => (if bt466.2.2.2 = bt471.2.2.2 then (if (!(bt466.1 == bt471.1) || (!(bt466.2.1 == bt471.2.1) || (!(bt466.2.2.1 == bt471.2.2.1)))) = true then (laws_FnBallSums.j0 k l0 true) else (if bt476.2.2.2 = bt466.2.2.2 then (laws_FnBallSums.j0 k l0 (!(bt476.1 == bt466.1) || (!(bt476.2.1 == bt466.2.1) || (!(bt476.2.2.1 == bt466.2.2.1))))) else (laws_FnBallSums.j0 k l0 true))) else (laws_FnBallSums.j0 k l0 true))))) = some r := H
  have A4 := Aside0.mk A40
  clear A40
  replace H := Option.bind_eq_some_iff.mp H
  obtain ⟨⟨t466, t467, t468, t469⟩, A50, H⟩ := H
  replace H : ((spec_AddBalls.f k t457 t458 t459 t460 t461 t462 t463).bind fun bt471 => ((impl_AddBalls.f k t457 t461 t462 t463 t458 t459 t460).bind fun bt476 => (if t469 = bt471.2.2.2 then (if (!(t466 == bt471.1) || (!(t467 == bt471.2.1) || (!(t468 == bt471.2.2.1)))) = true then (laws_FnBallSums.j0 k l0 true) else (if bt476.2.2.2 = t469 then (laws_FnBallSums.j0 k l0 (!(bt476.1 == t466) || (!(bt476.2.1 == t467) || (!(bt476.2.2.1 == t468))))) else (laws_FnBallSums.j0 k l0 true))) else (laws_FnBallSums.j0 k l0 true)))) = some r := H
  have A5 := Aside0.mk A50
  clear A50
  replace H := Option.bind_eq_some_iff.mp H
  obtain ⟨⟨t471, t472, t473, t474⟩, A60, H⟩ := H
  replace H : ((impl_AddBalls.f k t457 t461 t462 t463 t458 t459 t460).bind fun bt476 => (if t469 = t474 then (if (!(t466 == t471) || (!(t467 == t472) || (!(t468 == t473)))) = true then (laws_FnBallSums.j0 k l0 true) else (if bt476.2.2.2 = t469 then (laws_FnBallSums.j0 k l0 (!(bt476.1 == t466) || (!(bt476.2.1 == t467) || (!(bt476.2.2.1 == t468))))) else (laws_FnBallSums.j0 k l0 true))) else (laws_FnBallSums.j0 k l0 true))) = some r := H
  have A6 := Aside0.mk A60
  clear A60
  replace H := Option.bind_eq_some_iff.mp H
  obtain ⟨⟨t476, t477, t478, t479⟩, A70, H⟩ := H
  replace H : (if t469 = t474 then (if (!(t466 == t471) || (!(t467 == t472) || (!(t468 == t473)))) = true then (laws_FnBallSums.j0 k l0 true) else (if t479 = t469 then (laws_FnBallSums.j0 k l0 (!(t476 == t466) || (!(t477 == t467) || (!(t478 == t468))))) else (laws_FnBallSums.j0 k l0 true))) else (laws_FnBallSums.j0 k l0 true)) = some r := H
  have A7 := Aside0.mk A70
  clear A70
  have HC8 := Aside0.mk H
  clear H
  go_enter Try.func6, Try.ntmps6
  go_upto_region 7 with (first | ((with_reducible refine gate_callee (f := 21) rfl ?_); refine g1 (some 40) Try.func21 #[.slice A0 l0.length c0] ?_; (with_reducible refine (laws_big.calls _ _ l0 false _ ?side1 ?side2 A2.out).mono ?_); (case side1 => repeat (first | exact HR0.out | (with_reducible refine Kd.C_alloc ?_ _) | (with_reducible refine Kd.C_drewN ?_ _) | (with_reducible refine Kd.C_drew ?_))); (case side2 => exact HC0.out); rintro e w' ⟨rfl, ⟨nd, rfl⟩⟩; refine ⟨_, rfl, ?_⟩) | ((with_reducible refine gate_callee (f := 22) rfl ?_); refine g1 (some 43) Try.func22 #[.slice A0 l0.length c0] ?_; (with_reducible refine (spec_DrawAddBalls.calls k _ _ l0 t457 t458 t459 t460 t461 t462 t463 _ ?side1 ?side2 A4.out).mono ?_); (case side1 => repeat (first | exact HR0.out | (with_reducible refine Kd.C_alloc ?_ _) | (with_reducible refine Kd.C_drewN ?_ _) | (with_reducible refine Kd.C_drew ?_))); (case side2 => exact HC0.out); rintro e w9 ⟨rfl, hb⟩; refine ⟨_, rfl, ?_⟩; replace HB := bs hb; (try clear hb); (try clear hb2); (try clear hk); (try clear hi)) | ((with_reducible refine gate_dst (N := 4) rfl ?_); refine bx (N := 4) (cs := #[.int .i64 0, .int .i64 0, .int .i64 0]) (t := 27) ?_; intro gb464 hg w10 hbox hb; have BK464 := Aside0.mk (hbox); have GW464 := sg hg; have GE464 := sg hg; replace HB := bs hb; clear hb hbox hg) | ((with_reducible refine gate_dst (N := 5) rfl ?_); refine bx (N := 5) (cs := #[.int .i64 0, .int .i64 0, .int .i64 0]) (t := 27) ?_; intro gb465 hg w11 hbox hb; have BK465 := Aside0.mk (hbox); have GW465 := sg hg; have GE465 := sg hg; have NB464_465 := nl hg BK464; have NB465_464 := ng hg BK464; replace BK464 := bb BK464 hb; replace HB := bs hb; clear hb hbox hg; have hnb12 := NB464_465.out; have hnc12 := NB465_464.out; obtain ⟨hcz13_0, hcz13_1, hcz13_2, hfz13_0, hfz13_1, hfz13_2⟩ := c3 BK464; obtain ⟨hcz14_0, hcz14_1, hcz14_2, hfz14_0, hfz14_1, hfz14_2⟩ := c3 BK465) | ((with_reducible refine gate_callee (f := 23) rfl ?_); refine g1 (some 51) Try.func23 #[.int .i64 t457, .agg #[.int .i64 t458, .int .i64 t459, .int .i64 t460], .agg #[.int .i64 t461, .int .i64 t462, .int .i64 t463]] ?_; (with_reducible refine (impl_AddBalls.calls k t457 t458 t459 t460 t461 t462 t463 t466 t467 t468 t469 _ A5.out).mono ?_); rintro e w15 ⟨rfl, hb⟩; refine ⟨_, rfl, ?_⟩; replace BK464 := Aside0.mk (blk_below (g := gb464) (o := .cells #[.int .i64 t458, .int .i64 t459, .int .i64 t460] 27 (0, 0)) (by (with_reducible repeat (first | apply bn | apply bd | apply ba)); refine blk_far ?_ NB464_465.out _; (with_reducible repeat (first | apply bn | apply bd | apply ba)); refine blk_far ?_ NB464_465.out _; (with_reducible repeat (first | apply bn | apply bd | apply ba)); refine blk_far ?_ NB464_465.out _; (with_reducible repeat (first | apply bn | apply bd | apply ba)); refine blk_put (cs := #[.int .i64 t458, .int .i64 t459, .int .i64 0]) ?_ 2 _ rfl; (with_reducible repeat (first | apply bn | apply bd | apply ba)); refine blk_put (cs := #[.int .i64 t458, .int .i64 0, .int .i64 0]) ?_ 1 _ rfl; (with_reducible repeat (first | apply bn | apply bd | apply ba)); refine blk_put (cs := #[.int .i64 0, .int .i64 0, .int .i64 0]) ?_ 0 _ rfl; (with_reducible repeat (first | apply bn | apply bd | apply ba)); exact BK464.out) hb); replace BK465 := Aside0.mk (blk_below (g := gb465) (o := .cells #[.int .i64 t461, .int .i64 t462, .int .i64 t463] 27 (0, 0)) (by (with_reducible repeat (first | apply bn | apply bd | apply ba)); refine blk_put (cs := #[.int .i64 t461, .int .i64 t462, .int .i64 0]) ?_ 2 _ rfl; (with_reducible repeat (first | apply bn | apply bd | apply ba)); refine blk_put (cs := #[.int .i64 t461, .int .i64 0, .int .i64 0]) ?_ 1 _ rfl; (with_reducible repeat (first | apply bn | apply bd | apply ba)); refine blk_put (cs := #[.int .i64 0, .int .i64 0, .int .i64 0]) ?_ 0 _ rfl; (with_reducible repeat (first | apply bn | apply bd | apply ba)); refine blk_far ?_ NB465_464.out _; (with_reducible repeat (first | apply bn | apply bd | apply ba)); refine blk_far ?_ NB465_464.out _; (with_reducible repeat (first | apply bn | apply bd | apply ba)); refine blk_far ?_ NB465_464.out _; (with_reducible repeat (first | apply bn | apply bd | apply ba)); exact BK465.out) hb); replace HB := bs hb; (try clear hb); (try clear hb2); (try clear hk); (try clear hi)) | ((with_reducible refine gate_dst (N := 6) rfl ?_); refine bx (N := 6) (cs := #[.int .i64 0, .int .i64 0, .int .i64 0]) (t := 27) ?_; intro gb470 hg w16 hbox hb; have BK470 := Aside0.mk (hbox); have GW470 := sg hg; have GE470 := sg hg; have NB464_470 := nl hg BK464; have NB470_464 := ng hg BK464; have NB465_470 := nl hg BK465; have NB470_465 := ng hg BK465; replace BK464 := bb BK464 hb; replace BK465 := bb BK465 hb; replace HB := bs hb; clear hb hbox hg; have hnb17 := NB470_464.out; have hnc17 := NB464_470.out; have hnb18 := NB470_465.out; have hnc18 := NB465_470.out; obtain ⟨hcz19_0, hcz19_1, hcz19_2, hfz19_0, hfz19_1, hfz19_2⟩ := c3 BK470; obtain ⟨hcz20_0, hcz20_1, hcz20_2, hfz20_0, hfz20_1, hfz20_2⟩ := c3 BK464; obtain ⟨hcz21_0, hcz21_1, hcz21_2, hfz21_0, hfz21_1, hfz21_2⟩ := c3 BK465) | ((with_reducible refine gate_callee (f := 24) rfl ?_); refine g1 (some 58) Try.func24 #[.int .i64 t457, .agg #[.int .i64 t458, .int .i64 t459, .int .i64 t460], .agg #[.int .i64 t461, .int .i64 t462, .int .i64 t463]] ?_; (with_reducible refine (spec_AddBalls.calls k t457 t458 t459 t460 t461 t462 t463 t471 t472 t473 t474 _ A6.out).mono ?_); rintro e w22 ⟨rfl, hb⟩; refine ⟨_, rfl, ?_⟩; replace BK464 := Aside0.mk (blk_below (g := gb464) (o := .cells #[.int .i64 t458, .int .i64 t459, .int .i64 t460] 27 (0, 0)) (by (with_reducible repeat (first | apply bn | apply bd | apply ba)); refine blk_far ?_ NB464_470.out _; (with_reducible repeat (first | apply bn | apply bd | apply ba)); refine blk_far ?_ NB464_470.out _; (with_reducible repeat (first | apply bn | apply bd | apply ba)); refine blk_far ?_ NB464_470.out _; (with_reducible repeat (first | apply bn | apply bd | apply ba)); exact BK464.out) hb); replace BK465 := Aside0.mk (blk_below (g := gb465) (o := .cells #[.int .i64 t461, .int .i64 t462, .int .i64 t463] 27 (0, 0)) (by (with_reducible repeat (first | apply bn | apply bd | apply ba)); refine blk_far ?_ NB465_470.out _; (with_reducible repeat (first | apply bn | apply bd | apply ba)); refine blk_far ?_ NB465_470.out _; (with_reducible repeat (first | apply bn | apply bd | apply ba)); refine blk_far ?_ NB465_470.out _; (with_reducible repeat (first | apply bn | apply bd | apply ba)); exact BK465.out) hb); replace BK470 := Aside0.mk (blk_below (g := gb470) (o := .cells #[.int .i64 t466, .int .i64 t467, .int .i64 t468] 27 (0, 0)) (by (with_reducible repeat (first | apply bn | apply bd | apply ba)); refine blk_put (cs := #[.int .i64 t466, .int .i64 t467, .int .i64 0]) ?_ 2 _ rfl; (with_reducible repeat (first | apply bn | apply bd | apply ba)); refine blk_put (cs := #[.int .i64 t466, .int .i64 0, .int .i64 0]) ?_ 1 _ rfl; (with_reducible repeat (first | apply bn | apply bd | apply ba)); refine blk_put (cs := #[.int .i64 0, .int .i64 0, .int .i64 0]) ?_ 0 _ rfl; (with_reducible repeat (first | apply bn | apply bd | apply ba)); exact BK470.out) hb); replace HB := bs hb; (try clear hb); (try clear hb2); (try clear hk); (try clear hi)) | ((with_reducible refine gate_dst (N := 8) rfl ?_); refine bx (N := 8) (cs := #[.int .i64 0, .int .i64 0, .int .i64 0]) (t := 27) ?_; intro gb475 hg w23 hbox hb; have BK475 := Aside0.mk (hbox); have GW475 := sg hg; have GE475 := sg hg; have NB464_475 := nl hg BK464; have NB475_464 := ng hg BK464; have NB465_475 := nl hg BK465; have NB475_465 := ng hg BK465; have NB470_475 := nl hg BK470; have NB475_470 := ng hg BK470; replace BK464 := bb BK464 hb; replace BK465 := bb BK465 hb; replace BK470 := bb BK470 hb; replace HB := bs hb; clear hb hbox hg; have hnb24 := NB475_464.out; have hnc24 := NB464_475.out; have hnb25 := NB475_465.out; have hnc25 := NB465_475.out; have hnb26 := NB475_470.out; have hnc26 := NB470_475.out; obtain ⟨hcz27_0, hcz27_1, hcz27_2, hfz27_0, hfz27_1, hfz27_2⟩ := c3 BK475; obtain ⟨hcz28_0, hcz28_1, hcz28_2, hfz28_0, hfz28_1, hfz28_2⟩ := c3 BK465; obtain ⟨hcz29_0, hcz29_1, hcz29_2, hfz29_0, hfz29_1, hfz29_2⟩ := c3 BK464) | ((with_reducible refine gate_callee (f := 23) rfl ?_); refine g1 (some 65) Try.func23 #[.int .i64 t457, .agg #[.int .i64 t461, .int .i64 t462, .int .i64 t463], .agg #[.int .i64 t458, .int .i64 t459, .int .i64 t460]] ?_; (with_reducible refine (impl_AddBalls.calls k t457 t461 t462 t463 t458 t459 t460 t476 t477 t478 t479 _ A7.out).mono ?_); rintro e w30 ⟨rfl, hb⟩; refine ⟨_, rfl, ?_⟩; replace BK464 := Aside0.mk (blk_below (g := gb464) (o := .cells #[.int .i64 t458, .int .i64 t459, .int .i64 t460] 27 (0, 0)) (by (with_reducible repeat (first | apply bn | apply bd | apply ba)); refine blk_far ?_ NB464_475.out _; (with_reducible repeat (first | apply bn | apply bd | apply ba)); refine blk_far ?_ NB464_475.out _; (with_reducible repeat (first | apply bn | apply bd | apply ba)); refine blk_far ?_ NB464_475.out _; (with_reducible repeat (first | apply bn | apply bd | apply ba)); exact BK464.out) hb); replace BK465 := Aside0.mk (blk_below (g := gb465) (o := .cells #[.int .i64 t461, .int .i64 t462, .int .i64 t463] 27 (0, 0)) (by (with_reducible repeat (first | apply bn | apply bd | apply ba)); refine blk_far ?_ NB465_475.out _; (with_reducible repeat (first | apply bn | apply bd | apply ba)); refine blk_far ?_ NB465_475.out _; (with_reducible repeat (first | apply bn | apply bd | apply ba)); refine blk_far ?_ NB465_475.out _; (with_reducible repeat (first | apply bn | apply bd | apply ba)); exact BK465.out) hb); replace BK470 := Aside0.mk (blk_below (g := gb470) (o := .cells #[.int .i64 t466, .int .i64 t467, .int .i64 t468] 27 (0, 0)) (by (with_reducible repeat (first | apply bn | apply bd | apply ba)); refine blk_far ?_ NB470_475.out _; (with_reducible repeat (first | apply bn | apply bd | apply ba)); refine blk_far ?_ NB470_475.out _; (with_reducible repeat (first | apply bn | apply bd | apply ba)); refine blk_far ?_ NB470_475.out _; (with_reducible repeat (first | apply bn | apply bd | apply ba)); exact BK470.out) hb); replace BK475 := Aside0.mk (blk_below (g := gb475) (o := .cells #[.int .i64 t471, .int .i64 t472, .int .i64 t473] 27 (0, 0)) (by (with_reducible repeat (first | apply bn | apply bd | apply ba)); refine blk_put (cs := #[.int .i64 t471, .int .i64 t472, .int .i64 0]) ?_ 2 _ rfl; (with_reducible repeat (first | apply bn | apply bd | apply ba)); refine blk_put (cs := #[.int .i64 t471, .int .i64 0, .int .i64 0]) ?_ 1 _ rfl; (with_reducible repeat (first | apply bn | apply bd | apply ba)); refine blk_put (cs := #[.int .i64 0, .int .i64 0, .int .i64 0]) ?_ 0 _ rfl; (with_reducible repeat (first | apply bn | apply bd | apply ba)); exact BK475.out) hb); replace HB := bs hb; (try clear hb); (try clear hb2); (try clear hk); (try clear hi)) | ((with_reducible refine gate_dst (N := 10) rfl ?_); refine bx (N := 10) (cs := #[.int .i64 0, .int .i64 0, .int .i64 0]) (t := 27) ?_; intro gb480 hg w31 hbox hb; have BK480 := Aside0.mk (hbox); have GW480 := sg hg; have GE480 := sg hg; have NB464_480 := nl hg BK464; have NB480_464 := ng hg BK464; have NB465_480 := nl hg BK465; have NB480_465 := ng hg BK465; have NB470_480 := nl hg BK470; have NB480_470 := ng hg BK470; have NB475_480 := nl hg BK475; have NB480_475 := ng hg BK475; replace BK464 := bb BK464 hb; replace BK465 := bb BK465 hb; replace BK470 := bb BK470 hb; replace BK475 := bb BK475 hb; replace HB := bs hb; clear hb hbox hg; have hnb32 := NB480_464.out; have hnc32 := NB464_480.out; have hnb33 := NB480_465.out; have hnc33 := NB465_480.out; have hnb34 := NB480_470.out; have hnc34 := NB470_480.out; have hnb35 := NB480_475.out; have hnc35 := NB475_480.out; obtain ⟨hcz36_0, hcz36_1, hcz36_2, hfz36_0, hfz36_1, hfz36_2⟩ := c3 BK480))
  (try simp only [Act.put, List.setIfInBounds_toArray, List.set_cons_zero, List.set_cons_succ])
  go_cut [85] (fun v85 wc => ∃ (kq : Nat) (x85_7 : Bool), v85 = .bool x85_7 ∧ Aside0 (laws_FnBallSums.j0 kq l0 x85_7 = some r) ∧ Aside0 (kq ≤ k) ∧ Aside0 (wc.heap[gb464]? = some (.cells #[.int .i64 t458, .int .i64 t459, .int .i64 t460] 27 (0, 0))) ∧ Aside0 (wc.heap[gb465]? = some (.cells #[.int .i64 t461, .int .i64 t462, .int .i64 t463] 27 (0, 0))) ∧ Aside0 (wc.heap[gb470]? = some (.cells #[.int .i64 t466, .int .i64 t467, .int .i64 t468] 27 (0, 0))) ∧ Aside0 (wc.heap[gb475]? = some (.cells #[.int .i64 t471, .int .i64 t472, .int .i64 t473] 27 (0, 0))) ∧ Aside0 (wc.heap[gb480]? = some (.cells #[.int .i64 t476, .int .i64 t477, .int .i64 t478] 27 (0, 0))) ∧ Aside0 (Below w.heap.size w wc))
  case first =>
   as_aux_lemma =>
   have H := HC8.out
   clear HC8
   by_cases c37 : t469 = t474
   ·rw [if_pos c37] at H
    have c37b0 : (t469 == t474) = true := beq_iff_eq.mpr c37
    have c37b1 : (t469 != t474) = false := bne_eq_false_iff_eq.mpr c37
    clear c37
    (first | rw [c37b0] | (simp only [i64_w, i32_w]; rw [c37b0]) | skip)
    by_cases c38 : (!(t466 == t471) || (!(t467 == t472) || (!(t468 == t473)))) = true
    ·rw [if_pos c38] at H
     have c38b0 : (!(t466 == t471) || (!(t467 == t472) || (!(t468 == t473)))) = true := c38
     clear c38
     have H' := Aside0.mk H
     clear H
     have hnb39 := NB470_464.out
     have hnc39 := NB464_470.out
     have hnb40 := NB470_465.out
     have hnc40 := NB465_470.out
     have hnb41 := NB470_475.out
     have hnc41 := NB475_470.out
     have hnb42 := NB470_480.out
     have hnc42 := NB480_470.out
     have hcz43_0 : w31.cell? ⟨gb470, 0, none⟩ = some (.int .i64 t466) := (blk_cell BK470.out 0).trans rfl
     have hcz43_1 : w31.cell? ⟨gb470, 1, none⟩ = some (.int .i64 t467) := (blk_cell BK470.out 1).trans rfl
     have hcz43_2 : w31.cell? ⟨gb470, 2, none⟩ = some (.int .i64 t468) := (blk_cell BK470.out 2).trans rfl
     have hfz43_0 := blk_frozen BK470.out 0
     have hfz43_1 := blk_frozen BK470.out 1
     have hfz43_2 := blk_frozen BK470.out 2
     have hnb44 := NB475_464.out
     have hnc44 := NB464_475.out
     have hnb45 := NB475_465.out
     have hnc45 := NB465_475.out
     have hnb46 := NB475_480.out
     have hnc46 := NB480_475.out
     have hcz47_0 : w31.cell? ⟨gb475, 0, none⟩ = some (.int .i64 t471) := (blk_cell BK475.out 0).trans rfl
     have hcz47_1 : w31.cell? ⟨gb475, 1, none⟩ = some (.int .i64 t472) := (blk_cell BK475.out 1).trans rfl
     have hcz47_2 : w31.cell? ⟨gb475, 2, none⟩ = some (.int .i64 t473) := (blk_cell BK475.out 2).trans rfl
     have hfz47_0 := blk_frozen BK475.out 0
     have hfz47_1 := blk_frozen BK475.out 1
     have hfz47_2 := blk_frozen BK475.out 2
     go_wp2
     go_meet
     case rel => exact ⟨_, (true), (by first | rfl | (simp; done) | (simp [*]; done)), H', ⟨by first | omega | exact Nat.le_refl _⟩, ⟨by (with_reducible repeat (first | apply bn | apply bd | apply ba)); refine blk_far ?_ NB464_480.out _; (with_reducible repeat (first | apply bn | apply bd | apply ba)); refine blk_far ?_ NB464_480.out _; (with_reducible repeat (first | apply bn | apply bd | apply ba)); refine blk_far ?_ NB464_480.out _; (with_reducible repeat (first | apply bn | apply bd | apply ba)); exact BK464.out⟩, ⟨by (with_reducible repeat (first | apply bn | apply bd | apply ba)); refine blk_far ?_ NB465_480.out _; (with_reducible repeat (first | apply bn | apply bd | apply ba)); refine blk_far ?_ NB465_480.out _; (with_reducible repeat (first | apply bn | apply bd | apply ba)); refine blk_far ?_ NB465_480.out _; (with_reducible repeat (first | apply bn | apply bd | apply ba)); exact BK465.out⟩, ⟨by (with_reducible repeat (first | apply bn | apply bd | apply ba)); refine blk_far ?_ NB470_480.out _; (with_reducible repeat (first | apply bn | apply bd | apply ba)); refine blk_far ?_ NB470_480.out _; (with_reducible repeat (first | apply bn | apply bd | apply ba)); refine blk_far ?_ NB470_480.out _; (with_reducible repeat (first | apply bn | apply bd | apply ba)); exact BK470.out⟩, ⟨by (with_reducible repeat (first | apply bn | apply bd | apply ba)); refine blk_far ?_ NB475_480.out _; (with_reducible repeat (first | apply bn | apply bd | apply ba)); refine blk_far ?_ NB475_480.out _; (with_reducible repeat (first | apply bn | apply bd | apply ba)); refine blk_far ?_ NB475_480.out _; (with_reducible repeat (first | apply bn | apply bd | apply ba)); exact BK475.out⟩, ⟨by (with_reducible repeat (first | apply bn | apply bd | apply ba)); refine blk_put (cs := #[.int .i64 t476, .int .i64 t477, .int .i64 0]) ?_ 2 _ rfl; (with_reducible repeat (first | apply bn | apply bd | apply ba)); refine blk_put (cs := #[.int .i64 t476, .int .i64 0, .int .i64 0]) ?_ 1 _ rfl; (with_reducible repeat (first | apply bn | apply bd | apply ba)); refine blk_put (cs := #[.int .i64 0, .int .i64 0, .int .i64 0]) ?_ 0 _ rfl; (with_reducible repeat (first | apply bn | apply bd | apply ba)); exact BK480.out⟩, ⟨by repeat (first | (with_reducible first | exact HB.out | apply below_alloc | apply pw_below_drewN | apply below_drew1 | refine below_set ?_ GE464.out | refine below_set ?_ GE465.out | refine below_set ?_ GE470.out | refine below_set ?_ GE475.out | refine below_set ?_ GE480.out) | exact HB.out)⟩⟩
    ·rw [if_neg c38] at H
     have c38b0 : (!(t466 == t471) || (!(t467 == t472) || (!(t468 == t473)))) = false := by simpa using c38
     clear c38
     by_cases c48 : t479 = t469
     ·rw [if_pos c48] at H
      have c48b0 : (t479 == t469) = true := beq_iff_eq.mpr c48
      have c48b1 : (t479 != t469) = false := bne_eq_false_iff_eq.mpr c48
      clear c48
      have H' := Aside0.mk H
      clear H
      have hnb49 := NB470_464.out
      have hnc49 := NB464_470.out
      have hnb50 := NB470_465.out
      have hnc50 := NB465_470.out
      have hnb51 := NB470_475.out
      have hnc51 := NB475_470.out
      have hnb52 := NB470_480.out
      have hnc52 := NB480_470.out
      have hcz53_0 : w31.cell? ⟨gb470, 0, none⟩ = some (.int .i64 t466) := (blk_cell BK470.out 0).trans rfl
      have hcz53_1 : w31.cell? ⟨gb470, 1, none⟩ = some (.int .i64 t467) := (blk_cell BK470.out 1).trans rfl
      have hcz53_2 : w31.cell? ⟨gb470, 2, none⟩ = some (.int .i64 t468) := (blk_cell BK470.out 2).trans rfl
      have hfz53_0 := blk_frozen BK470.out 0
      have hfz53_1 := blk_frozen BK470.out 1
      have hfz53_2 := blk_frozen BK470.out 2
      have hnb54 := NB475_464.out
      have hnc54 := NB464_475.out
      have hnb55 := NB475_465.out
      have hnc55 := NB465_475.out
      have hnb56 := NB475_480.out
      have hnc56 := NB480_475.out
      have hcz57_0 : w31.cell? ⟨gb475, 0, none⟩ = some (.int .i64 t471) := (blk_cell BK475.out 0).trans rfl
      have hcz57_1 : w31.cell? ⟨gb475, 1, none⟩ = some (.int .i64 t472) := (blk_cell BK475.out 1).trans rfl
      have hcz57_2 : w31.cell? ⟨gb475, 2, none⟩ = some (.int .i64 t473) := (blk_cell BK475.out 2).trans rfl
      have hfz57_0 := blk_frozen BK475.out 0
      have hfz57_1 := blk_frozen BK475.out 1
      have hfz57_2 := blk_frozen BK475.out 2
      have hnb58 := NB480_464.out
      have hnc58 := NB464_480.out
      have hnb59 := NB480_465.out
      have hnc59 := NB465_480.out
      have hcz60_0 : w31.cell? ⟨gb480, 0, none⟩ = some (.int .i64 0) := (blk_cell BK480.out 0).trans rfl
      have hcz60_1 : w31.cell? ⟨gb480, 1, none⟩ = some (.int .i64 0) := (blk_cell BK480.out 1).trans rfl
      have hcz60_2 : w31.cell? ⟨gb480, 2, none⟩ = some (.int .i64 0) := (blk_cell BK480.out 2).trans rfl
      have hfz60_0 := blk_frozen BK480.out 0
      have hfz60_1 := blk_frozen BK480.out 1
      have hfz60_2 := blk_frozen BK480.out 2
      go_wp2
      go_meet
      case rel => exact ⟨_, ((!(t476 == t466) || (!(t477 == t467) || (!(t478 == t468))))), (by first | rfl | (simp; done) | (simp [*]; done)), H', ⟨by first | omega | exact Nat.le_refl _⟩, ⟨by (with_reducible repeat (first | apply bn | apply bd | apply ba)); refine blk_far ?_ NB464_480.out _; (with_reducible repeat (first | apply bn | apply bd | apply ba)); refine blk_far ?_ NB464_480.out _; (with_reducible repeat (first | apply bn | apply bd | apply ba)); refine blk_far ?_ NB464_480.out _; (with_reducible repeat (first | apply bn | apply bd | apply ba)); exact BK464.out⟩, ⟨by (with_reducible repeat (first | apply bn | apply bd | apply ba)); refine blk_far ?_ NB465_480.out _; (with_reducible repeat (first | apply bn | apply bd | apply ba)); refine blk_far ?_ NB465_480.out _; (with_reducible repeat (first | apply bn | apply bd | apply ba)); refine blk_far ?_ NB465_480.out _; (with_reducible repeat (first | apply bn | apply bd | apply ba)); exact BK465.out⟩, ⟨by (with_reducible repeat (first | apply bn | apply bd | apply ba)); refine blk_far ?_ NB470_480.out _; (with_reducible repeat (first | apply bn | apply bd | apply ba)); refine blk_far ?_ NB470_480.out _; (with_reducible repeat (first | apply bn | apply bd | apply ba)); refine blk_far ?_ NB470_480.out _; (with_reducible repeat (first | apply bn | apply bd | apply ba)); exact BK470.out⟩, ⟨by (with_reducible repeat (first | apply bn | apply bd | apply ba)); refine blk_far ?_ NB475_480.out _; (with_reducible repeat (first | apply bn | apply bd | apply ba)); refine blk_far ?_ NB475_480.out _; (with_reducible repeat (first | apply bn | apply bd | apply ba)); refine blk_far ?_ NB475_480.out _; (with_reducible repeat (first | apply bn | apply bd | apply ba)); exact BK475.out⟩, ⟨by (with_reducible repeat (first | apply bn | apply bd | apply ba)); refine blk_put (cs := #[.int .i64 t476, .int .i64 t477, .int .i64 0]) ?_ 2 _ rfl; (with_reducible repeat (first | apply bn | apply bd | apply ba)); refine blk_put (cs := #[.int .i64 t476, .int .i64 0, .int .i64 0]) ?_ 1 _ rfl; (with_reducible repeat (first | apply bn | apply bd | apply ba)); refine blk_put (cs := #[.int .i64 0, .int .i64 0, .int .i64 0]) ?_ 0 _ rfl; (with_reducible repeat (first | apply bn | apply bd | apply ba)); exact BK480.out⟩, ⟨by repeat (first | (with_reducible first | exact HB.out | apply below_alloc | apply pw_below_drewN | apply below_drew1 | refine below_set ?_ GE464.out | refine below_set ?_ GE465.out | refine below_set ?_ GE470.out | refine below_set ?_ GE475.out | refine below_set ?_ GE480.out) | exact HB.out)⟩⟩
     ·rw [if_neg c48] at H
      have c48b0 : (t479 == t469) = false := beq_eq_false_iff_ne.mpr c48
      have c48b1 : (t479 != t469) = true := bne_iff_ne.mpr c48
      have H' := Aside0.mk H
      clear H
      have hnb61 := NB470_464.out
      have hnc61 := NB464_470.out
      have hnb62 := NB470_465.out
      have hnc62 := NB465_470.out
      have hnb63 := NB470_475.out
      have hnc63 := NB475_470.out
      have hnb64 := NB470_480.out
      have hnc64 := NB480_470.out
      have hcz65_0 : w31.cell? ⟨gb470, 0, none⟩ = some (.int .i64 t466) := (blk_cell BK470.out 0).trans rfl
      have hcz65_1 : w31.cell? ⟨gb470, 1, none⟩ = some (.int .i64 t467) := (blk_cell BK470.out 1).trans rfl
      have hcz65_2 : w31.cell? ⟨gb470, 2, none⟩ = some (.int .i64 t468) := (blk_cell BK470.out 2).trans rfl
      have hfz65_0 := blk_frozen BK470.out 0
      have hfz65_1 := blk_frozen BK470.out 1
      have hfz65_2 := blk_frozen BK470.out 2
      have hnb66 := NB475_464.out
      have hnc66 := NB464_475.out
      have hnb67 := NB475_465.out
      have hnc67 := NB465_475.out
      have hnb68 := NB475_480.out
      have hnc68 := NB480_475.out
      have hcz69_0 : w31.cell? ⟨gb475, 0, none⟩ = some (.int .i64 t471) := (blk_cell BK475.out 0).trans rfl
      have hcz69_1 : w31.cell? ⟨gb475, 1, none⟩ = some (.int .i64 t472) := (blk_cell BK475.out 1).trans rfl
      have hcz69_2 : w31.cell? ⟨gb475, 2, none⟩ = some (.int .i64 t473) := (blk_cell BK475.out 2).trans rfl
      have hfz69_0 := blk_frozen BK475.out 0
      have hfz69_1 := blk_frozen BK475.out 1
      have hfz69_2 := blk_frozen BK475.out 2
      go_wp2
      go_meet
      case rel => exact ⟨_, (true), (by first | rfl | (simp; done) | (simp [*]; done)), H', ⟨by first | omega | exact Nat.le_refl _⟩, ⟨by (with_reducible repeat (first | apply bn | apply bd | apply ba)); refine blk_far ?_ NB464_480.out _; (with_reducible repeat (first | apply bn | apply bd | apply ba)); refine blk_far ?_ NB464_480.out _; (with_reducible repeat (first | apply bn | apply bd | apply ba)); refine blk_far ?_ NB464_480.out _; (with_reducible repeat (first | apply bn | apply bd | apply ba)); exact BK464.out⟩, ⟨by (with_reducible repeat (first | apply bn | apply bd | apply ba)); refine blk_far ?_ NB465_480.out _; (with_reducible repeat (first | apply bn | apply bd | apply ba)); refine blk_far ?_ NB465_480.out _; (with_reducible repeat (first | apply bn | apply bd | apply ba)); refine blk_far ?_ NB465_480.out _; (with_reducible repeat (first | apply bn | apply bd | apply ba)); exact BK465.out⟩, ⟨by (with_reducible repeat (first | apply bn | apply bd | apply ba)); refine blk_far ?_ NB470_480.out _; (with_reducible repeat (first | apply bn | apply bd | apply ba)); refine blk_far ?_ NB470_480.out _; (with_reducible repeat (first | apply bn | apply bd | apply ba)); refine blk_far ?_ NB470_480.out _; (with_reducible repeat (first | apply bn | apply bd | apply ba)); exact BK470.out⟩, ⟨by (with_reducible repeat (first | apply bn | apply bd | apply ba)); refine blk_far ?_ NB475_480.out _; (with_reducible repeat (first | apply bn | apply bd | apply ba)); refine blk_far ?_ NB475_480.out _; (with_reducible repeat (first | apply bn | apply bd | apply ba)); refine blk_far ?_ NB475_480.out _; (with_reducible repeat (first | apply bn | apply bd | apply ba)); exact BK475.out⟩, ⟨by (with_reducible repeat (first | apply bn | apply bd | apply ba)); refine blk_put (cs := #[.int .i64 t476, .int .i64 t477, .int .i64 0]) ?_ 2 _ rfl; (with_reducible repeat (first | apply bn | apply bd | apply ba)); refine blk_put (cs := #[.int .i64 t476, .int .i64 0, .int .i64 0]) ?_ 1 _ rfl; (with_reducible repeat (first | apply bn | apply bd | apply ba)); refine blk_put (cs := #[.int .i64 0, .int .i64 0, .int .i64 0]) ?_ 0 _ rfl; (with_reducible repeat (first | apply bn | apply bd | apply ba)); exact BK480.out⟩, ⟨by repeat (first | (with_reducible first | exact HB.out | apply below_alloc | apply pw_below_drewN | apply below_drew1 | refine below_set ?_ GE464.out | refine below_set ?_ GE465.out | refine below_set ?_ GE470.out | refine below_set ?_ GE475.out | refine below_set ?_ GE480.out) | exact HB.out)⟩⟩
   ·rw [if_neg c37] at H
    have c37b0 : (t469 == t474) = false := beq_eq_false_iff_ne.mpr c37
    have c37b1 : (t469 != t474) = true := bne_iff_ne.mpr c37
    (first | rw [c37b0] | (simp only [i64_w, i32_w]; rw [c37b0]) | skip)
    have H' := Aside0.mk H
    clear H
    go_wp2
    go_meet
    case rel => exact ⟨_, (true), (by first | rfl | (simp; done) | (simp [*]; done)), H', ⟨by first | omega | exact Nat.le_refl _⟩, ⟨by (with_reducible repeat (first | apply bn | apply bd | apply ba)); refine blk_far ?_ NB464_480.out _; (with_reducible repeat (first | apply bn | apply bd | apply ba)); refine blk_far ?_ NB464_480.out _; (with_reducible repeat (first | apply bn | apply bd | apply ba)); refine blk_far ?_ NB464_480.out _; (with_reducible repeat (first | apply bn | apply bd | apply ba)); exact BK464.out⟩, ⟨by (with_reducible repeat (first | apply bn | apply bd | apply ba)); refine blk_far ?_ NB465_480.out _; (with_reducible repeat (first | apply bn | apply bd | apply ba)); refine blk_far ?_ NB465_480.out _; (with_reducible repeat (first | apply bn | apply bd | apply ba)); refine blk_far ?_ NB465_480.out _; (with_reducible repeat (first | apply bn | apply bd | apply ba)); exact BK465.out⟩, ⟨by (with_reducible repeat (first | apply bn | apply bd | apply ba)); refine blk_far ?_ NB470_480.out _; (with_reducible repeat (first | apply bn | apply bd | apply ba)); refine blk_far ?_ NB470_480.out _; (with_reducible repeat (first | apply bn | apply bd | apply ba)); refine blk_far ?_ NB470_480.out _; (with_reducible repeat (first | apply bn | apply bd | apply ba)); exact BK470.out⟩, ⟨by (with_reducible repeat (first | apply bn | apply bd | apply ba)); refine blk_far ?_ NB475_480.out _; (with_reducible repeat (first | apply bn | apply bd | apply ba)); refine blk_far ?_ NB475_480.out _; (with_reducible repeat (first | apply bn | apply bd | apply ba)); refine blk_far ?_ NB475_480.out _; (with_reducible repeat (first | apply bn | apply bd | apply ba)); exact BK475.out⟩, ⟨by (with_reducible repeat (first | apply bn | apply bd | apply ba)); refine blk_put (cs := #[.int .i64 t476, .int .i64 t477, .int .i64 0]) ?_ 2 _ rfl; (with_reducible repeat (first | apply bn | apply bd | apply ba)); refine blk_put (cs := #[.int .i64 t476, .int .i64 0, .int .i64 0]) ?_ 1 _ rfl; (with_reducible repeat (first | apply bn | apply bd | apply ba)); refine blk_put (cs := #[.int .i64 0, .int .i64 0, .int .i64 0]) ?_ 0 _ rfl; (with_reducible repeat (first | apply bn | apply bd | apply ba)); exact BK480.out⟩, ⟨by repeat (first | (with_reducible first | exact HB.out | apply below_alloc | apply pw_below_drewN | apply below_drew1 | refine below_set ?_ GE464.out | refine below_set ?_ GE465.out | refine below_set ?_ GE470.out | refine below_set ?_ GE475.out | refine below_set ?_ GE480.out) | exact HB.out)⟩⟩
  case rest =>
   as_aux_lemma =>
   clear HC8
   try clear c1
   try clear c2
   try clear p2
   try clear c3
   try clear c4
   try clear c5
   try clear c6
   try clear c12
   try clear c17
   try clear c18
   try clear c21
   try clear c22
   try clear c23
   try clear c24
   try clear c25
   try clear c26
   try clear c32
   try clear c33
   try clear c34
   try clear c35
   try clear c37
   try clear c37b0
   try clear c37b1
   try clear c38
   try clear c38b0
   try clear c39
   try clear c40
   try clear c41
   try clear c42
   try clear c44
   try clear c45
   try clear c46
   try clear c48
   try clear c48b0
   try clear c48b1
   try clear c49
   try clear c50
   try clear c51
   try clear c52
   try clear c54
   try clear c55
   try clear c56
   try clear c58
   try clear c59
   try clear c61
   try clear c62
   try clear c63
   try clear c64
   try clear c66
   try clear c67
   try clear c68
   try clear hcz13_0 hcz13_1 hcz13_2
   try clear hcz14_0 hcz14_1 hcz14_2
   try clear hcz19_0 hcz19_1 hcz19_2
   try clear hcz20_0 hcz20_1 hcz20_2
   try clear hcz21_0 hcz21_1 hcz21_2
   try clear hcz27_0 hcz27_1 hcz27_2
   try clear hcz28_0 hcz28_1 hcz28_2
   try clear hcz29_0 hcz29_1 hcz29_2
   try clear hcz36_0 hcz36_1 hcz36_2
   try clear hcz43_0 hcz43_1 hcz43_2
   try clear hcz47_0 hcz47_1 hcz47_2
   try clear hcz53_0 hcz53_1 hcz53_2
   try clear hcz57_0 hcz57_1 hcz57_2
   try clear hcz60_0 hcz60_1 hcz60_2
   try clear hcz65_0 hcz65_1 hcz65_2
   try clear hcz69_0 hcz69_1 hcz69_2
   try clear hfz13_0 hfz13_1 hfz13_2
   try clear hfz14_0 hfz14_1 hfz14_2
   try clear hfz19_0 hfz19_1 hfz19_2
   try clear hfz20_0 hfz20_1 hfz20_2
   try clear hfz21_0 hfz21_1 hfz21_2
   try clear hfz27_0 hfz27_1 hfz27_2
   try clear hfz28_0 hfz28_1 hfz28_2
   try clear hfz29_0 hfz29_1 hfz29_2
   try clear hfz36_0 hfz36_1 hfz36_2
   try clear hfz43_0 hfz43_1 hfz43_2
   try clear hfz47_0 hfz47_1 hfz47_2
   try clear hfz53_0 hfz53_1 hfz53_2
   try clear hfz57_0 hfz57_1 hfz57_2
   try clear hfz60_0 hfz60_1 hfz60_2
   try clear hfz65_0 hfz65_1 hfz65_2
   try clear hfz69_0 hfz69_1 hfz69_2
   obtain ⟨kq, x85_7, rfl, HA, HJ7, BK464, BK465, BK470, BK475, BK480, HB⟩ := hcut
   cases kq with
   | zero => exact absurd HA.out (by simp [laws_FnBallSums.j0])
   | succ kj7 =>
    have H := HA.out
    clear HA
    simp only [laws_FnBallSums.j0] at H
    by_cases c70 : x85_7 = true
    ·subst c70
     have H1 : (some false) = some r := by rw [if_pos rfl] at H; exact H
     clear H
     have H := H1
     clear H1
     exact absurd ((Option.some.inj H).trans hr.out) (by simp)
    ·replace c70 := Bool.eq_false_iff.mpr c70
     subst c70
     have H1 : ((spec_DrawMultiplyBall.f kj7 l0).bind fun bt481 => ((impl_MultiplyBall.f kj7 bt481.1 bt481.2.1 bt481.2.2.1 bt481.2.2.2.1 bt481.2.2.2.2).bind fun bt487 => ((spec_MultiplyBall.f kj7 bt481.1 bt481.2.1 bt481.2.2.1 bt481.2.2.2.1 bt481.2.2.2.2).bind fun bt492 => (if bt487.2.2.2 = bt492.2.2.2 then (laws_FnBallSums.j1 kj7 l0 bt481.1 bt481.2.2.2.2 bt487.2.2.2 (!(bt487.1 == bt492.1) || (!(bt487.2.1 == bt492.2.1) || (!(bt487.2.2.1 == bt492.2.2.1)))) bt481.2.1 bt481.2.2.1 bt481.2.2.2.1 bt487.1 bt487.2.1 bt487.2.2.1) else (laws_FnBallSums.j1 kj7 l0 bt481.1 bt481.2.2.2.2 bt487.2.2.2 true bt481.2.1 bt481.2.2.1 bt481.2.2.2.1 bt487.1 bt487.2.1 bt487.2.2.1))))) = some r := by rw [if_neg (show ¬ (false = true) by decide)] at H; exact H
     clear H
     have H := H1
     clear H1
     replace H := Option.bind_eq_some_iff.mp H
     obtain ⟨⟨t481, t482, t483, t484, t485⟩, A710, H⟩ := H
     replace H : ((impl_MultiplyBall.f kj7 t481 t482 t483 t484 t485).bind fun bt487 => ((spec_MultiplyBall.f kj7 t481 t482 t483 t484 t485).bind fun bt492 => (if bt487.2.2.2 = bt492.2.2.2 then (laws_FnBallSums.j1 kj7 l0 t481 t485 bt487.2.2.2 (!(bt487.1 == bt492.1) || (!(bt487.2.1 == bt492.2.1) || (!(bt487.2.2.1 == bt492.2.2.1)))) t482 t483 t484 bt487.1 bt487.2.1 bt487.2.2.1) else (laws_FnBallSums.j1 kj7 l0 t481 t485 bt487.2.2.2 true t482 t483 t484 bt487.1 bt487.2.1 bt487.2.2.1)))) = some r := H
     have A71 := Aside0.mk A710
     clear A710
     replace H := Option.bind_eq_some_iff.mp H
     obtain ⟨⟨t487, t488, t489, t490⟩, A720, H⟩ := H
     replace H : ((spec_MultiplyBall.f kj7 t481 t482 t483 t484 t485).bind fun bt492 => (if t490 = bt492.2.2.2 then (laws_FnBallSums.j1 kj7 l0 t481 t485 t490 (!(t487 == bt492.1) || (!(t488 == bt492.2.1) || (!(t489 == bt492.2.2.1)))) t482 t483 t484 t487 t488 t489) else (laws_FnBallSums.j1 kj7 l0 t481 t485 t490 true t482 t483 t484 t487 t488 t489))) = some r := H
     have A72 := Aside0.mk A720
     clear A720
     replace H := Option.bind_eq_some_iff.mp H
     obtain ⟨⟨t492, t493, t494, t495⟩, A730, H⟩ := H
     replace H : (if t490 = t495 then (laws_FnBallSums.j1 kj7 l0 t481 t485 t490 (!(t487 == t492) || (!(t488 == t493) || (!(t489 == t494)))) t482 t483 t484 t487 t488 t489) else (laws_FnBallSums.j1 kj7 l0 t481 t485 t490 true t482 t483 t484 t487 t488 t489)) = some r := H
     have A73 := Aside0.mk A730
     clear A730
     have HC74 := Aside0.mk H
     clear H
     go_upto_region 12 with (first | ((with_reducible refine gate_callee (f := 25) rfl ?_); refine g1 (some 88) Try.func25 #[.slice A0 l0.length c0] ?_; (with_reducible refine (spec_DrawMultiplyBall.calls kj7 _ _ l0 t481 t482 t483 t484 t485 _ ?side1 ?side2 A71.out).mono ?_); (case side1 => repeat (first | exact (Kd.C_below HR0.out HB.out) | (with_reducible refine Kd.C_alloc ?_ _) | (with_reducible refine Kd.C_drewN ?_ _) | (with_reducible refine Kd.C_drew ?_))); (case side2 => exact HC0.out); rintro e w75 ⟨rfl, hb⟩; refine ⟨_, rfl, ?_⟩; replace BK464 := bb BK464 hb; replace BK465 := bb BK465 hb; replace BK470 := bb BK470 hb; replace BK475 := bb BK475 hb; replace BK480 := bb BK480 hb; replace HB := bs hb; (try clear hb); (try clear hb2); (try clear hk); (try clear hi)) | ((with_reducible refine gate_dst (N := 13) rfl ?_); refine bx (N := 13) (cs := #[.int .i64 0, .int .i64 0, .int .i64 0]) (t := 27) ?_; intro gb486 hg w76 hbox hb; have BK486 := Aside0.mk (hbox); have GW486 := sg hg; have GE486 := sg hg; have NB464_486 := nl hg BK464; have NB486_464 := ng hg BK464; have NB465_486 := nl hg BK465; have NB486_465 := ng hg BK465; have NB470_486 := nl hg BK470; have NB486_470 := ng hg BK470; have NB475_486 := nl hg BK475; have NB486_475 := ng hg BK475; have NB480_486 := nl hg BK480; have NB486_480 := ng hg BK480; replace BK464 := bb BK464 hb; replace BK465 := bb BK465 hb; replace BK470 := bb BK470 hb; replace BK475 := bb BK475 hb; replace BK480 := bb BK480 hb; replace HB := bs hb; clear hb hbox hg; have hnb77 := NB486_464.out; have hnc77 := NB464_486.out; have hnb78 := NB486_465.out; have hnc78 := NB465_486.out; have hnb79 := NB486_470.out; have hnc79 := NB470_486.out; have hnb80 := NB486_475.out; have hnc80 := NB475_486.out; have hnb81 := NB486_480.out; have hnc81 := NB480_486.out; obtain ⟨hcz82_0, hcz82_1, hcz82_2, hfz82_0, hfz82_1, hfz82_2⟩ := c3 BK486) | ((with_reducible refine gate_callee (f := 26) rfl ?_); refine g1 (some 96) Try.func26 #[.int .i64 t481, .agg #[.int .i64 t482, .int .i64 t483, .int .i64 t484], .int .i64 t485] ?_; (with_reducible refine (impl_MultiplyBall.calls kj7 t481 t482 t483 t484 t485 t487 t488 t489 t490 _ A72.out).mono ?_); rintro e w83 ⟨rfl, hb⟩; refine ⟨_, rfl, ?_⟩; replace BK464 := Aside0.mk (blk_below (g := gb464) (o := .cells #[.int .i64 t458, .int .i64 t459, .int .i64 t460] 27 (0, 0)) (by (with_reducible repeat (first | apply bn | apply bd | apply ba)); refine blk_far ?_ NB464_486.out _; (with_reducible repeat (first | apply bn | apply bd | apply ba)); refine blk_far ?_ NB464_486.out _; (with_reducible repeat (first | apply bn | apply bd | apply ba)); refine blk_far ?_ NB464_486.out _; (with_reducible repeat (first | apply bn | apply bd | apply ba)); exact BK464.out) hb); replace BK465 := Aside0.mk (blk_below (g := gb465) (o := .cells #[.int .i64 t461, .int .i64 t462, .int .i64 t463] 27 (0, 0)) (by (with_reducible repeat (first | apply bn | apply bd | apply ba)); refine blk_far ?_ NB465_486.out _; (with_reducible repeat (first | apply bn | apply bd | apply ba)); refine blk_far ?_ NB465_486.out _; (with_reducible repeat (first | apply bn | apply bd | apply ba)); refine blk_far ?_ NB465_486.out _; (with_reducible repeat (first | apply bn | apply bd | apply ba)); exact BK465.out) hb); replace BK470 := Aside0.mk (blk_below (g := gb470) (o := .cells #[.int .i64 t466, .int .i64 t467, .int .i64 t468] 27 (0, 0)) (by (with_reducible repeat (first | apply bn | apply bd | apply ba)); refine blk_far ?_ NB470_486.out _; (with_reducible repeat (first | apply bn | apply bd | apply ba)); refine blk_far ?_ NB470_486.out _; (with_reducible repeat (first | apply bn | apply bd | apply ba)); refine blk_far ?_ NB470_486.out _; (with_reducible repeat (first | apply bn | apply bd | apply ba)); exact BK470.out) hb); replace BK475 := Aside0.mk (blk_below (g := gb475) (o := .cells #[.int .i64 t471, .int .i64 t472, .int .i64 t473] 27 (0, 0)) (by (with_reducible repeat (first | apply bn | apply bd | apply ba)); refine blk_far ?_ NB475_486.out _; (with_reducible repeat (first | apply bn | apply bd | apply ba)); refine blk_far ?_ NB475_486.out _; (with_reducible repeat (first | apply bn | apply bd | apply ba)); refine blk_far ?_ NB475_486.out _; (with_reducible repeat (first | apply bn | apply bd | apply ba)); exact BK475.out) hb); replace BK480 := Aside0.mk (blk_below (g := gb480) (o := .cells #[.int .i64 t476, .int .i64 t477, .int .i64 t478] 27 (0, 0)) (by (with_reducible repeat (first | apply bn | apply bd | apply ba)); refine blk_far ?_ NB480_486.out _; (with_reducible repeat (first | apply bn | apply bd | apply ba)); refine blk_far ?_ NB480_486.out _; (with_reducible repeat (first | apply bn | apply bd | apply ba)); refine blk_far ?_ NB480_486.out _; (with_reducible repeat (first | apply bn | apply bd | apply ba)); exact BK480.out) hb); replace BK486 := Aside0.mk (blk_below (g := gb486) (o := .cells #[.int .i64 t482, .int .i64 t483, .int .i64 t484] 27 (0, 0)) (by (with_reducible repeat (first | apply bn | apply bd | apply ba)); refine blk_put (cs := #[.int .i64 t482, .int .i64 t483, .int .i64 0]) ?_ 2 _ rfl; (with_reducible repeat (first | apply bn | apply bd | apply ba)); refine blk_put (cs := #[.int .i64 t482, .int .i64 0, .int .i64 0]) ?_ 1 _ rfl; (with_reducible repeat (first | apply bn | apply bd | apply ba)); refine blk_put (cs := #[.int .i64 0, .int .i64 0, .int .i64 0]) ?_ 0 _ rfl; (with_reducible repeat (first | apply bn | apply bd | apply ba)); exact BK486.out) hb); replace HB := bs hb; (try clear hb); (try clear hb2); (try clear hk); (try clear hi)) | ((with_reducible refine gate_dst (N := 15) rfl ?_); refine bx (N := 15) (cs := #[.int .i64 0, .int .i64 0, .int .i64 0]) (t := 27) ?_; intro gb491 hg w84 hbox hb; have BK491 := Aside0.mk (hbox); have GW491 := sg hg; have GE491 := sg hg; have NB464_491 := nl hg BK464; have NB491_464 := ng hg BK464; have NB465_491 := nl hg BK465; have NB491_465 := ng hg BK465; have NB470_491 := nl hg BK470; have NB491_470 := ng hg BK470; have NB475_491 := nl hg BK475; have NB491_475 := ng hg BK475; have NB480_491 := nl hg BK480; have NB491_480 := ng hg BK480; have NB486_491 := nl hg BK486; have NB491_486 := ng hg BK486; replace BK464 := bb BK464 hb; replace BK465 := bb BK465 hb; replace BK470 := bb BK470 hb; replace BK475 := bb BK475 hb; replace BK480 := bb BK480 hb; replace BK486 := bb BK486 hb; replace HB := bs hb; clear hb hbox hg; have hnb85 := NB491_464.out; have hnc85 := NB464_491.out; have hnb86 := NB491_465.out; have hnc86 := NB465_491.out; have hnb87 := NB491_470.out; have hnc87 := NB470_491.out; have hnb88 := NB491_475.out; have hnc88 := NB475_491.out; have hnb89 := NB491_480.out; have hnc89 := NB480_491.out; have hnb90 := NB491_486.out; have hnc90 := NB486_491.out; obtain ⟨hcz91_0, hcz91_1, hcz91_2, hfz91_0, hfz91_1, hfz91_2⟩ := c3 BK491; obtain ⟨hcz92_0, hcz92_1, hcz92_2, hfz92_0, hfz92_1, hfz92_2⟩ := c3 BK486) | ((with_reducible refine gate_callee (f := 27) rfl ?_); refine g1 (some 103) Try.func27 #[.int .i64 t481, .agg #[.int .i64 t482, .int .i64 t483, .int .i64 t484], .int .i64 t485] ?_; (with_reducible refine (spec_MultiplyBall.calls kj7 t481 t482 t483 t484 t485 t492 t493 t494 t495 _ A73.out).mono ?_); rintro e w93 ⟨rfl, hb⟩; refine ⟨_, rfl, ?_⟩; replace BK464 := Aside0.mk (blk_below (g := gb464) (o := .cells #[.int .i64 t458, .int .i64 t459, .int .i64 t460] 27 (0, 0)) (by (with_reducible repeat (first | apply bn | apply bd | apply ba)); refine blk_far ?_ NB464_491.out _; (with_reducible repeat (first | apply bn | apply bd | apply ba)); refine blk_far ?_ NB464_491.out _; (with_reducible repeat (first | apply bn | apply bd | apply ba)); refine blk_far ?_ NB464_491.out _; (with_reducible repeat (first | apply bn | apply bd | apply ba)); exact BK464.out) hb); replace BK465 := Aside0.mk (blk_below (g := gb465) (o := .cells #[.int .i64 t461, .int .i64 t462, .int .i64 t463] 27 (0, 0)) (by (with_reducible repeat (first | apply bn | apply bd | apply ba)); refine blk_far ?_ NB465_491.out _; (with_reducible repeat (first | apply bn | apply bd | apply ba)); refine blk_far ?_ NB465_491.out _; (with_reducible repeat (first | apply bn | apply bd | apply ba)); refine blk_far ?_ NB465_491.out _; (with_reducible repeat (first | apply bn | apply bd | apply ba)); exact BK465.out) hb); replace BK470 := Aside0.mk (blk_below (g := gb470) (o := .cells #[.int .i64 t466, .int .i64 t467, .int .i64 t468] 27 (0, 0)) (by (with_reducible repeat (first | apply bn | apply bd | apply ba)); refine blk_far ?_ NB470_491.out _; (with_reducible repeat (first | apply bn | apply bd | apply ba)); refine blk_far ?_ NB470_491.out _; (with_reducible repeat (first | apply bn | apply bd | apply ba)); refine blk_far ?_ NB470_491.out _; (with_reducible repeat (first | apply bn | apply bd | apply ba)); exact BK470.out) hb); replace BK475 := Aside0.mk (blk_below (g := gb475) (o := .cells #[.int .i64 t471, .int .i64 t472, .int .i64 t473] 27 (0, 0)) (by (with_reducible repeat (first | apply bn | apply bd | apply ba)); refine blk_far ?_ NB475_491.out _; (with_reducible repeat (first | apply bn | apply bd | apply ba)); refine blk_far ?_ NB475_491.out _; (with_reducible repeat (first | apply bn | apply bd | apply ba)); refine blk_far ?_ NB475_491.out _; (with_reducible repeat (first | apply bn | apply bd | apply ba)); exact BK475.out) hb); replace BK480 := Aside0.mk (blk_below (g := gb480) (o := .cells #[.int .i64 t476, .int .i64 t477, .int .i64 t478] 27 (0, 0)) (by (with_reducible repeat (first | apply bn | apply bd | apply ba)); refine blk_far ?_ NB480_491.out _; (with_reducible repeat (first | apply bn | apply bd | apply ba)); refine blk_far ?_ NB480_491.out _; (with_reducible repeat (first | apply bn | apply bd | apply ba)); refine blk_far ?_ NB480_491.out _; (with_reducible repeat (first | apply bn | apply bd | apply ba)); exact BK480.out) hb); replace BK486 := Aside0.mk (blk_below (g := gb486) (o := .cells #[.int .i64 t482, .int .i64 t483, .int .i64 t484] 27 (0, 0)) (by (with_reducible repeat (first | apply bn | apply bd | apply ba)); refine blk_far ?_ NB486_491.out _; (with_reducible repeat (first | apply bn | apply bd | apply ba)); refine blk_far ?_ NB486_491.out _; (with_reducible repeat (first | apply bn | apply bd | apply ba)); refine blk_far ?_ NB486_491.out _; (with_reducible repeat (first | apply bn | apply bd | apply ba)); exact BK486.out) hb); replace BK491 := Aside0.mk (blk_below (g := gb491) (o := .cells #[.int .i64 t487, .int .i64 t488, .int .i64 t489] 27 (0, 0)) (by (with_reducible repeat (first | apply bn | apply bd | apply ba)); refine blk_put (cs := #[.int .i64 t487, .int .i64 t488, .int .i64 0]) ?_ 2 _ rfl; (with_reducible repeat (first | apply bn | apply bd | apply ba)); refine blk_put (cs := #[.int .i64 t487, .int .i64 0, .int .i64 0]) ?_ 1 _ rfl; (with_reducible repeat (first | apply bn | apply bd | apply ba)); refine blk_put (cs := #[.int .i64 0, .int .i64 0, .int .i64 0]) ?_ 0 _ rfl; (with_reducible repeat (first | apply bn | apply bd | apply ba)); exact BK491.out) hb); replace HB := bs hb; (try clear hb); (try clear hb2); (try clear hk); (try clear hi)) | ((with_reducible refine gate_dst (N := 17) rfl ?_); refine bx (N := 17) (cs := #[.int .i64 0, .int .i64 0, .int .i64 0]) (t := 27) ?_; intro gb496 hg w94 hbox hb; have BK496 := Aside0.mk (hbox); have GW496 := sg hg; have GE496 := sg hg; have NB464_496 := nl hg BK464; have NB496_464 := ng hg BK464; have NB465_496 := nl hg BK465; have NB496_465 := ng hg BK465; have NB470_496 := nl hg BK470; have NB496_470 := ng hg BK470; have NB475_496 := nl hg BK475; have NB496_475 := ng hg BK475; have NB480_496 := nl hg BK480; have NB496_480 := ng hg BK480; have NB486_496 := nl hg BK486; have NB496_486 := ng hg BK486; have NB491_496 := nl hg BK491; have NB496_491 := ng hg BK491; replace BK464 := bb BK464 hb; replace BK465 := bb BK465 hb; replace BK470 := bb BK470 hb; replace BK475 := bb BK475 hb; replace BK480 := bb BK480 hb; replace BK486 := bb BK486 hb; replace BK491 := bb BK491 hb; replace HB := bs hb; clear hb hbox hg; have hnb95 := NB496_464.out; have hnc95 := NB464_496.out; have hnb96 := NB496_465.out; have hnc96 := NB465_496.out; have hnb97 := NB496_470.out; have hnc97 := NB470_496.out; have hnb98 := NB496_475.out; have hnc98 := NB475_496.out; have hnb99 := NB496_480.out; have hnc99 := NB480_496.out; have hnb100 := NB496_486.out; have hnc100 := NB486_496.out; have hnb101 := NB496_491.out; have hnc101 := NB491_496.out; obtain ⟨hcz102_0, hcz102_1, hcz102_2, hfz102_0, hfz102_1, hfz102_2⟩ := c3 BK496))
     (try simp only [Act.put, List.setIfInBounds_toArray, List.set_cons_zero, List.set_cons_succ])
     go_cut [113] (fun v113 wc => ∃ (kq : Nat) (x113_73 : Bool), v113 = .bool x113_73 ∧ Aside0 (laws_FnBallSums.j1 kq l0 t481 t485 t490 x113_73 t482 t483 t484 t487 t488 t489 = some r) ∧ Aside0 (kq ≤ kj7) ∧ Aside0 (wc.heap[gb464]? = some (.cells #[.int .i64 t458, .int .i64 t459, .int .i64 t460] 27 (0, 0))) ∧ Aside0 (wc.heap[gb465]? = some (.cells #[.int .i64 t461, .int .i64 t462, .int .i64 t463] 27 (0, 0))) ∧ Aside0 (wc.heap[gb470]? = some (.cells #[.int .i64 t466, .int .i64 t467, .int .i64 t468] 27 (0, 0))) ∧ Aside0 (wc.heap[gb475]? = some (.cells #[.int .i64 t471, .int .i64 t472, .int .i64 t473] 27 (0, 0))) ∧ Aside0 (wc.heap[gb480]? = some (.cells #[.int .i64 t476, .int .i64 t477, .int .i64 t478] 27 (0, 0))) ∧ Aside0 (wc.heap[gb486]? = some (.cells #[.int .i64 t482, .int .i64 t483, .int .i64 t484] 27 (0, 0))) ∧ Aside0 (wc.heap[gb491]? = some (.cells #[.int .i64 t487, .int .i64 t488, .int .i64 t489] 27 (0, 0))) ∧ Aside0 (wc.heap[gb496]? = some (.cells #[.int .i64 t492, .int .i64 t493, .int .i64 t494] 27 (0, 0))) ∧ Aside0 (Below w.heap.size w wc))
     case first =>
      as_aux_lemma =>
      have H := HC74.out
      clear HC74
      by_cases c103 : t490 = t495
      ·rw [if_pos c103] at H
       have c103b0 : (t490 == t495) = true := beq_iff_eq.mpr c103
       have c103b1 : (t490 != t495) = false := bne_eq_false_iff_eq.mpr c103
       clear c103
       (first | rw [c103b0] | (simp only [i64_w, i32_w]; rw [c103b0]) | skip)
       have H' := Aside0.mk H
       clear H
       have hnb104 := NB491_464.out
       have hnc104 := NB464_491.out
       have hnb105 := NB491_465.out
       have hnc105 := NB465_491.out
       have hnb106 := NB491_470.out
       have hnc106 := NB470_491.out
       have hnb107 := NB491_475.out
       have hnc107 := NB475_491.out
       have hnb108 := NB491_480.out
       have hnc108 := NB480_491.out
       have hnb109 := NB491_486.out
       have hnc109 := NB486_491.out
       have hnb110 := NB491_496.out
       have hnc110 := NB496_491.out
       have hcz111_0 : w94.cell? ⟨gb491, 0, none⟩ = some (.int .i64 t487) := (blk_cell BK491.out 0).trans rfl
       have hcz111_1 : w94.cell? ⟨gb491, 1, none⟩ = some (.int .i64 t488) := (blk_cell BK491.out 1).trans rfl
       have hcz111_2 : w94.cell? ⟨gb491, 2, none⟩ = some (.int .i64 t489) := (blk_cell BK491.out 2).trans rfl
       have hfz111_0 := blk_frozen BK491.out 0
       have hfz111_1 := blk_frozen BK491.out 1
       have hfz111_2 := blk_frozen BK491.out 2
       have hnb112 := NB496_464.out
       have hnc112 := NB464_496.out
       have hnb113 := NB496_465.out
       have hnc113 := NB465_496.out
       have hnb114 := NB496_470.out
       have hnc114 := NB470_496.out
       have hnb115 := NB496_475.out
       have hnc115 := NB475_496.out
       have hnb116 := NB496_480.out
       have hnc116 := NB480_496.out
       have hnb117 := NB496_486.out
       have hnc117 := NB486_496.out
       have hcz118_0 : w94.cell? ⟨gb496, 0, none⟩ = some (.int .i64 0) := (blk_cell BK496.out 0).trans rfl
       have hcz118_1 : w94.cell? ⟨gb496, 1, none⟩ = some (.int .i64 0) := (blk_cell BK496.out 1).trans rfl
       have hcz118_2 : w94.cell? ⟨gb496, 2, none⟩ = some (.int .i64 0) := (blk_cell BK496.out 2).trans rfl
       have hfz118_0 := blk_frozen BK496.out 0
       have hfz118_1 := blk_frozen BK496.out 1
       have hfz118_2 := blk_frozen BK496.out 2
       go_wp2
       go_meet
       case rel => exact ⟨_, ((!(t487 == t492) || (!(t488 == t493) || (!(t489 == t494))))), (by first | rfl | (simp; done) | (simp [*]; done)), H', ⟨by have := HJ7.out; first | omega | exact Nat.le_refl _⟩, ⟨by (with_reducible repeat (first | apply bn | apply bd | apply ba)); refine blk_far ?_ NB464_496.out _; (with_reducible repeat (first | apply bn | apply bd | apply ba)); refine blk_far ?_ NB464_496.out _; (with_reducible repeat (first | apply bn | apply bd | apply ba)); refine blk_far ?_ NB464_496.out _; (with_reducible repeat (first | apply bn | apply bd | apply ba)); exact BK464.out⟩, ⟨by (with_reducible repeat (first | apply bn | apply bd | apply ba)); refine blk_far ?_ NB465_496.out _; (with_reducible repeat (first | apply bn | apply bd | apply ba)); refine blk_far ?_ NB465_496.out _; (with_reducible repeat (first | apply bn | apply bd | apply ba)); refine blk_far ?_ NB465_496.out _; (with_reducible repeat (first | apply bn | apply bd | apply ba)); exact BK465.out⟩, ⟨by (with_reducible repeat (first | apply bn | apply bd | apply ba)); refine blk_far ?_ NB470_496.out _; (with_reducible repeat (first | apply bn | apply bd | apply ba)); refine blk_far ?_ NB470_496.out _; (with_reducible repeat (first | apply bn | apply bd | apply ba)); refine blk_far ?_ NB470_496.out _; (with_reducible repeat (first | apply bn | apply bd | apply ba)); exact BK470.out⟩, ⟨by (with_reducible repeat (first | apply bn | apply bd | apply ba)); refine blk_far ?_ NB475_496.out _; (with_reducible repeat (first | apply bn | apply bd | apply ba)); refine blk_far ?_ NB475_496.out _; (with_reducible repeat (first | apply bn | apply bd | apply ba)); refine blk_far ?_ NB475_496.out _; (with_reducible repeat (first | apply bn | apply bd | apply ba)); exact BK475.out⟩, ⟨by (with_reducible repeat (first | apply bn | apply bd | apply ba)); refine blk_far ?_ NB480_496.out _; (with_reducible repeat (first | apply bn | apply bd | apply ba)); refine blk_far ?_ NB480_496.out _; (with_reducible repeat (first | apply bn | apply bd | apply ba)); refine blk_far ?_ NB480_496.out _; (with_reducible repeat (first | apply bn | apply bd | apply ba)); exact BK480.out⟩, ⟨by (with_reducible repeat (first | apply bn | apply bd | apply ba)); refine blk_far ?_ NB486_496.out _; (with_reducible repeat (first | apply bn | apply bd | apply ba)); refine blk_far ?_ NB486_496.out _; (with_reducible repeat (first | apply bn | apply bd | apply ba)); refine blk_far ?_ NB486_496.out _; (with_reducible repeat (first | apply bn | apply bd | apply ba)); exact BK486.out⟩, ⟨by (with_reducible repeat (first | apply bn | apply bd | apply ba)); refine blk_far ?_ NB491_496.out _; (with_reducible repeat (first | apply bn | apply bd | apply ba)); refine blk_far ?_ NB491_496.out _; (with_reducible repeat (first | apply bn | apply bd | apply ba)); refine blk_far ?_ NB491_496.out _; (with_reducible repeat (first | apply bn | apply bd | apply ba)); exact BK491.out⟩, ⟨by (with_reducible repeat (first | apply bn | apply bd | apply ba)); refine blk_put (cs := #[.int .i64 t492, .int .i64 t493, .int .i64 0]) ?_ 2 _ rfl; (with_reducible repeat (first | apply bn | apply bd | apply ba)); refine blk_put (cs := #[.int .i64 t492, .int .i64 0, .int .i64 0]) ?_ 1 _ rfl; (with_reducible repeat (first | apply bn | apply bd | apply ba)); refine blk_put (cs := #[.int .i64 0, .int .i64 0, .int .i64 0]) ?_ 0 _ rfl; (with_reducible repeat (first | apply bn | apply bd | apply ba)); exact BK496.out⟩, ⟨by repeat (first | (with_reducible first | exact HB.out | apply below_alloc | apply pw_below_drewN | apply below_drew1 | refine below_set ?_ GE464.out | refine below_set ?_ GE465.out | refine below_set ?_ GE470.out | refine below_set ?_ GE475.out | refine below_set ?_ GE480.out | refine below_set ?_ GE486.out | refine below_set ?_ GE491.out | refine below_set ?_ GE496.out) | exact HB.out)⟩⟩
      ·rw [if_neg c103] at H
       have c103b0 : (t490 == t495) = false := beq_eq_false_iff_ne.mpr c103
       have c103b1 : (t490 != t495) = true := bne_iff_ne.mpr c103
       (first | rw [c103b0] | (simp only [i64_w, i32_w]; rw [c103b0]) | skip)
       have H' := Aside0.mk H
       clear H
       go_wp2
       go_meet
       case rel => exact ⟨_, (true), (by first | rfl | (simp; done) | (simp [*]; done)), H', ⟨by have := HJ7.out; first | omega | exact Nat.le_refl _⟩, ⟨by (with_reducible repeat (first | apply bn | apply bd | apply ba)); refine blk_far ?_ NB464_496.out _; (with_reducible repeat (first | apply bn | apply bd | apply ba)); refine blk_far ?_ NB464_496.out _; (with_reducible repeat (first | apply bn | apply bd | apply ba)); refine blk_far ?_ NB464_496.out _; (with_reducible repeat (first | apply bn | apply bd | apply ba)); exact BK464.out⟩, ⟨by (with_reducible repeat (first | apply bn | apply bd | apply ba)); refine blk_far ?_ NB465_496.out _; (with_reducible repeat (first | apply bn | apply bd | apply ba)); refine blk_far ?_ NB465_496.out _; (with_reducible repeat (first | apply bn | apply bd | apply ba)); refine blk_far ?_ NB465_496.out _; (with_reducible repeat (first | apply bn | apply bd | apply ba)); exact BK465.out⟩, ⟨by (with_reducible repeat (first | apply bn | apply bd | apply ba)); refine blk_far ?_ NB470_496.out _; (with_reducible repeat (first | apply bn | apply bd | apply ba)); refine blk_far ?_ NB470_496.out _; (with_reducible repeat (first | apply bn | apply bd | apply ba)); refine blk_far ?_ NB470_496.out _; (with_reducible repeat (first | apply bn | apply bd | apply ba)); exact BK470.out⟩, ⟨by (with_reducible repeat (first | apply bn | apply bd | apply ba)); refine blk_far ?_ NB475_496.out _; (with_reducible repeat (first | apply bn | apply bd | apply ba)); refine blk_far ?_ NB475_496.out _; (with_reducible repeat (first | apply bn | apply bd | apply ba)); refine blk_far ?_ NB475_496.out _; (with_reducible repeat (first | apply bn | apply bd | apply ba)); exact BK475.out⟩, ⟨by (with_reducible repeat (first | apply bn | apply bd | apply ba)); refine blk_far ?_ NB480_496.out _; (with_reducible repeat (first | apply bn | apply bd | apply ba)); refine blk_far ?_ NB480_496.out _; (with_reducible repeat (first | apply bn | apply bd | apply ba)); refine blk_far ?_ NB480_496.out _; (with_reducible repeat (first | apply bn | apply bd | apply ba)); exact BK480.out⟩, ⟨by (with_reducible repeat (first | apply bn | apply bd | apply ba)); refine blk_far ?_ NB486_496.out _; (with_reducible repeat (first | apply bn | apply bd | apply ba)); refine blk_far ?_ NB486_496.out _; (with_reducible repeat (first | apply bn | apply bd | apply ba)); refine blk_far ?_ NB486_496.out _; (with_reducible repeat (first | apply bn | apply bd | apply ba)); exact BK486.out⟩, ⟨by (with_reducible repeat (first | apply bn | apply bd | apply ba)); refine blk_far ?_ NB491_496.out _; (with_reducible repeat (first | apply bn | apply bd | apply ba)); refine blk_far ?_ NB491_496.out _; (with_reducible repeat (first | apply bn | apply bd | apply ba)); refine blk_far ?_ NB491_496.out _; (with_reducible repeat (first | apply bn | apply bd | apply ba)); exact BK491.out⟩, ⟨by (with_reducible repeat (first | apply bn | apply bd | apply ba)); refine blk_put (cs := #[.int .i64 t492, .int .i64 t493, .int .i64 0]) ?_ 2 _ rfl; (with_reducible repeat (first | apply bn | apply bd | apply ba)); refine blk_put (cs := #[.int .i64 t492, .int .i64 0, .int .i64 0]) ?_ 1 _ rfl; (with_reducible repeat (first | apply bn | apply bd | apply ba)); refine blk_put (cs := #[.int .i64 0, .int .i64 0, .int .i64 0]) ?_ 0 _ rfl; (with_reducible repeat (first | apply bn | apply bd | apply ba)); exact BK496.out⟩, ⟨by repeat (first | (with_reducible first | exact HB.out | apply below_alloc | apply pw_below_drewN | apply below_drew1 | refine below_set ?_ GE464.out | refine below_set ?_ GE465.out | refine below_set ?_ GE470.out | refine below_set ?_ GE475.out | refine below_set ?_ GE480.out | refine below_set ?_ GE486.out | refine below_set ?_ GE491.out | refine below_set ?_ GE496.out) | exact HB.out)⟩⟩
     case rest =>
      as_aux_lemma =>
      clear HC74
      try clear c1
      try clear c2
      try clear p2
      try clear c3
      try clear c4
      try clear c5
      try clear c6
      try clear c7
      try clear c8
      try clear c9
      try clear c10
      try clear c11
      try clear c12
      try clear c17
      try clear c18
      try clear c21
      try clear c22
      try clear c23
      try clear c24
      try clear c25
      try clear c26
      try clear c27
      try clear c32
      try clear c33
      try clear c34
      try clear c35
      try clear c37
      try clear c37b0
      try clear c37b1
      try clear c38
      try clear c38b0
      try clear c39
      try clear c40
      try clear c41
      try clear c42
      try clear c44
      try clear c45
      try clear c46
      try clear c48
      try clear c48b0
      try clear c48b1
      try clear c49
      try clear c50
      try clear c51
      try clear c52
      try clear c54
      try clear c55
      try clear c56
      try clear c58
      try clear c59
      try clear c61
      try clear c62
      try clear c63
      try clear c64
      try clear c66
      try clear c67
      try clear c68
      try clear c70
      try clear c77
      try clear c78
      try clear c79
      try clear c80
      try clear c81
      try clear c85
      try clear c86
      try clear c87
      try clear c88
      try clear c89
      try clear c90
      try clear c95
      try clear c96
      try clear c97
      try clear c98
      try clear c99
      try clear c100
      try clear c101
      try clear c103
      try clear c103b0
      try clear c103b1
      try clear c104
      try clear c105
      try clear c106
      try clear c107
      try clear c108
      try clear c109
      try clear c110
      try clear c112
      try clear c113
      try clear c114
      try clear c115
      try clear c116
      try clear c117
      try clear hcz102_0 hcz102_1 hcz102_2
      try clear hcz111_0 hcz111_1 hcz111_2
      try clear hcz118_0 hcz118_1 hcz118_2
      try clear hcz13_0 hcz13_1 hcz13_2
      try clear hcz14_0 hcz14_1 hcz14_2
      try clear hcz19_0 hcz19_1 hcz19_2
      try clear hcz20_0 hcz20_1 hcz20_2
      try clear hcz21_0 hcz21_1 hcz21_2
      try clear hcz27_0 hcz27_1 hcz27_2
      try clear hcz28_0 hcz28_1 hcz28_2
      try clear hcz29_0 hcz29_1 hcz29_2
      try clear hcz36_0 hcz36_1 hcz36_2
      try clear hcz43_0 hcz43_1 hcz43_2
      try clear hcz47_0 hcz47_1 hcz47_2
      try clear hcz53_0 hcz53_1 hcz53_2
      try clear hcz57_0 hcz57_1 hcz57_2
      try clear hcz60_0 hcz60_1 hcz60_2
      try clear hcz65_0 hcz65_1 hcz65_2
      try clear hcz69_0 hcz69_1 hcz69_2
      try clear hcz82_0 hcz82_1 hcz82_2
      try clear hcz91_0 hcz91_1 hcz91_2
      try clear hcz92_0 hcz92_1 hcz92_2
      try clear hfz102_0 hfz102_1 hfz102_2
      try clear hfz111_0 hfz111_1 hfz111_2
      try clear hfz118_0 hfz118_1 hfz118_2
      try clear hfz13_0 hfz13_1 hfz13_2
      try clear hfz14_0 hfz14_1 hfz14_2
      try clear hfz19_0 hfz19_1 hfz19_2
      try clear hfz20_0 hfz20_1 hfz20_2
      try clear hfz21_0 hfz21_1 hfz21_2
      try clear hfz27_0 hfz27_1 hfz27_2
      try clear hfz28_0 hfz28_1 hfz28_2
      try clear hfz29_0 hfz29_1 hfz29_2
      try clear hfz36_0 hfz36_1 hfz36_2
      try clear hfz43_0 hfz43_1 hfz43_2
      try clear hfz47_0 hfz47_1 hfz47_2
      try clear hfz53_0 hfz53_1 hfz53_2
      try clear hfz57_0 hfz57_1 hfz57_2
      try clear hfz60_0 hfz60_1 hfz60_2
      try clear hfz65_0 hfz65_1 hfz65_2
      try clear hfz69_0 hfz69_1 hfz69_2
      try clear hfz82_0 hfz82_1 hfz82_2
      try clear hfz91_0 hfz91_1 hfz91_2
      try clear hfz92_0 hfz92_1 hfz92_2
      try clear p2
      obtain ⟨kq, x113_73, rfl, HA, HJ73, BK464, BK465, BK470, BK475, BK480, BK486, BK491, BK496, HB⟩ := hcut
      cases kq with
      | zero => exact absurd HA.out (by simp [laws_FnBallSums.j1])
      | succ kj73 =>
       have H := HA.out
       clear HA
       simp only [laws_FnBallSums.j1] at H
       by_cases c119 : x113_73 = true
       ·subst c119
        have H1 : (some false) = some r := by rw [if_pos rfl] at H; exact H
        clear H
        have H := H1
        clear H1
        exact absurd ((Option.some.inj H).trans hr.out) (by simp)
       ·replace c119 := Bool.eq_false_iff.mpr c119
        subst c119
        have H1 : (if t490 = 0 then ((impl_MultiplyBall.f kj73 t481 t487 t488 t489 (wrap64 (-t485))).bind fun bt497 => (if bt497.2.2.2 = 0 then (if (!(bt497.1 == t482) || (!(bt497.2.1 == t483) || (!(bt497.2.2.1 == t484)))) = true then (some false) else (laws_FnBallSums.j2 kj73 l0)) else (some false))) else (laws_FnBallSums.j2 kj73 l0)) = some r := by rw [if_neg (show ¬ (false = true) by decide)] at H; exact H
        clear H
        have H := H1
        clear H1
        have HC120 := Aside0.mk H
        clear H
        go_upto_if 115 with (fail)
        go_cut [] (fun wc => ∃ (kq : Nat), Aside0 (laws_FnBallSums.j2 kq l0 = some r) ∧ Aside0 (kq ≤ kj73) ∧ Aside0 (wc.heap[gb464]? = some (.cells #[.int .i64 t458, .int .i64 t459, .int .i64 t460] 27 (0, 0))) ∧ Aside0 (wc.heap[gb465]? = some (.cells #[.int .i64 t461, .int .i64 t462, .int .i64 t463] 27 (0, 0))) ∧ Aside0 (wc.heap[gb470]? = some (.cells #[.int .i64 t466, .int .i64 t467, .int .i64 t468] 27 (0, 0))) ∧ Aside0 (wc.heap[gb475]? = some (.cells #[.int .i64 t471, .int .i64 t472, .int .i64 t473] 27 (0, 0))) ∧ Aside0 (wc.heap[gb480]? = some (.cells #[.int .i64 t476, .int .i64 t477, .int .i64 t478] 27 (0, 0))) ∧ Aside0 (wc.heap[gb486]? = some (.cells #[.int .i64 t482, .int .i64 t483, .int .i64 t484] 27 (0, 0))) ∧ Aside0 (wc.heap[gb491]? = some (.cells #[.int .i64 t487, .int .i64 t488, .int .i64 t489] 27 (0, 0))) ∧ Aside0 (wc.heap[gb496]? = some (.cells #[.int .i64 t492, .int .i64 t493, .int .i64 t494] 27 (0, 0))) ∧ Aside0 (Below w.heap.size w wc))
        case first =>
         as_aux_lemma =>
         have H := HC120.out
         clear HC120
         by_cases c121 : t490 = 0
         ·rw [if_pos c121] at H
          have c121b0 : (t490 == 0) = true := beq_iff_eq.mpr c121
          have c121b1 : (t490 != 0) = false := bne_eq_false_iff_eq.mpr c121
          clear c121
          (first | rw [c121b0] | (simp only [i64_w, i32_w]; rw [c121b0]) | skip)
          replace H := Option.bind_eq_some_iff.mp H
          obtain ⟨⟨t497, t498, t499, t500⟩, A1220, H⟩ := H
          replace H : (if t500 = 0 then (if (!(t497 == t482) || (!(t498 == t483) || (!(t499 == t484)))) = true then (some false) else (laws_FnBallSums.j2 kj73 l0)) else (some false)) = some r := H
          have A122 := Aside0.mk A1220
          clear A1220
          by_cases c123 : t500 = 0
          ·rw [if_pos c123] at H
           have c123b0 : (t500 == 0) = true := beq_iff_eq.mpr c123
           have c123b1 : (t500 != 0) = false := bne_eq_false_iff_eq.mpr c123
           clear c123
           by_cases c124 : (!(t497 == t482) || (!(t498 == t483) || (!(t499 == t484)))) = true
           ·rw [if_pos c124] at H
            have c124b0 : (!(t497 == t482) || (!(t498 == t483) || (!(t499 == t484)))) = true := c124
            clear c124
            exact absurd ((Option.some.inj H).trans hr.out) (by simp)
           ·rw [if_neg c124] at H
            have c124b0 : (!(t497 == t482) || (!(t498 == t483) || (!(t499 == t484)))) = false := by simpa using c124
            clear c124
            have H' := Aside0.mk H
            clear H
            have hnb125 := NB491_464.out
            have hnc125 := NB464_491.out
            have hnb126 := NB491_465.out
            have hnc126 := NB465_491.out
            have hnb127 := NB491_470.out
            have hnc127 := NB470_491.out
            have hnb128 := NB491_475.out
            have hnc128 := NB475_491.out
            have hnb129 := NB491_480.out
            have hnc129 := NB480_491.out
            have hnb130 := NB491_486.out
            have hnc130 := NB486_491.out
            have hnb131 := NB491_496.out
            have hnc131 := NB496_491.out
            have hcz132_0 : wc.cell? ⟨gb491, 0, none⟩ = some (.int .i64 t487) := (blk_cell BK491.out 0).trans rfl
            have hcz132_1 : wc.cell? ⟨gb491, 1, none⟩ = some (.int .i64 t488) := (blk_cell BK491.out 1).trans rfl
            have hcz132_2 : wc.cell? ⟨gb491, 2, none⟩ = some (.int .i64 t489) := (blk_cell BK491.out 2).trans rfl
            have hfz132_0 := blk_frozen BK491.out 0
            have hfz132_1 := blk_frozen BK491.out 1
            have hfz132_2 := blk_frozen BK491.out 2
            go_wp2_with (first | ((with_reducible refine gate_callee (f := 26) rfl ?_); refine g1 (some 121) Try.func26 #[.int .i64 t481, .agg #[.int .i64 t487, .int .i64 t488, .int .i64 t489], .int .i64 (wrap64 (-t485))] ?_; (with_reducible refine (impl_MultiplyBall.calls kj73 t481 t487 t488 t489 (wrap64 (-t485)) t497 t498 t499 t500 _ A122.out).mono ?_); rintro e w133 ⟨rfl, hb⟩; refine ⟨_, rfl, ?_⟩; replace BK464 := bb BK464 hb; replace BK465 := bb BK465 hb; replace BK470 := bb BK470 hb; replace BK475 := bb BK475 hb; replace BK480 := bb BK480 hb; replace BK486 := bb BK486 hb; replace BK491 := bb BK491 hb; replace BK496 := bb BK496 hb; replace HB := bs hb; (try clear hb); (try clear hb2); (try clear hk); (try clear hi)) | ((with_reducible refine gate_dst (N := 19) rfl ?_); refine bx (N := 19) (cs := #[.int .i64 0, .int .i64 0, .int .i64 0]) (t := 27) ?_; intro gb501 hg w134 hbox hb; have BK501 := Aside0.mk (hbox); have GW501 := sg hg; have GE501 := sg hg; have NB464_501 := nl hg BK464; have NB501_464 := ng hg BK464; have NB465_501 := nl hg BK465; have NB501_465 := ng hg BK465; have NB470_501 := nl hg BK470; have NB501_470 := ng hg BK470; have NB475_501 := nl hg BK475; have NB501_475 := ng hg BK475; have NB480_501 := nl hg BK480; have NB501_480 := ng hg BK480; have NB486_501 := nl hg BK486; have NB501_486 := ng hg BK486; have NB491_501 := nl hg BK491; have NB501_491 := ng hg BK491; have NB496_501 := nl hg BK496; have NB501_496 := ng hg BK496; replace BK464 := bb BK464 hb; replace BK465 := bb BK465 hb; replace BK470 := bb BK470 hb; replace BK475 := bb BK475 hb; replace BK480 := bb BK480 hb; replace BK486 := bb BK486 hb; replace BK491 := bb BK491 hb; replace BK496 := bb BK496 hb; replace HB := bs hb; clear hb hbox hg; have hnb135 := NB501_464.out; have hnc135 := NB464_501.out; have hnb136 := NB501_465.out; have hnc136 := NB465_501.out; have hnb137 := NB501_470.out; have hnc137 := NB470_501.out; have hnb138 := NB501_475.out; have hnc138 := NB475_501.out; have hnb139 := NB501_480.out; have hnc139 := NB480_501.out; have hnb140 := NB501_486.out; have hnc140 := NB486_501.out; have hnb141 := NB501_491.out; have hnc141 := NB491_501.out; have hnb142 := NB501_496.out; have hnc142 := NB496_501.out; obtain ⟨hcz143_0, hcz143_1, hcz143_2, hfz143_0, hfz143_1, hfz143_2⟩ := c3 BK501; have hnb144 := NB486_464.out; have hnc144 := NB464_486.out; have hnb145 := NB486_465.out; have hnc145 := NB465_486.out; have hnb146 := NB486_470.out; have hnc146 := NB470_486.out; have hnb147 := NB486_475.out; have hnc147 := NB475_486.out; have hnb148 := NB486_480.out; have hnc148 := NB480_486.out; have hnb149 := NB486_496.out; have hnc149 := NB496_486.out; obtain ⟨hcz150_0, hcz150_1, hcz150_2, hfz150_0, hfz150_1, hfz150_2⟩ := c3 BK486))
            go_meet
            case rel => exact ⟨_, H', ⟨by have := HJ7.out; have := HJ73.out; first | omega | exact Nat.le_refl _⟩, ⟨by (with_reducible repeat (first | apply bn | apply bd | apply ba)); refine blk_far ?_ NB464_501.out _; (with_reducible repeat (first | apply bn | apply bd | apply ba)); refine blk_far ?_ NB464_501.out _; (with_reducible repeat (first | apply bn | apply bd | apply ba)); refine blk_far ?_ NB464_501.out _; (with_reducible repeat (first | apply bn | apply bd | apply ba)); exact BK464.out⟩, ⟨by (with_reducible repeat (first | apply bn | apply bd | apply ba)); refine blk_far ?_ NB465_501.out _; (with_reducible repeat (first | apply bn | apply bd | apply ba)); refine blk_far ?_ NB465_501.out _; (with_reducible repeat (first | apply bn | apply bd | apply ba)); refine blk_far ?_ NB465_501.out _; (with_reducible repeat (first | apply bn | apply bd | apply ba)); exact BK465.out⟩, ⟨by (with_reducible repeat (first | apply bn | apply bd | apply ba)); refine blk_far ?_ NB470_501.out _; (with_reducible repeat (first | apply bn | apply bd | apply ba)); refine blk_far ?_ NB470_501.out _; (with_reducible repeat (first | apply bn | apply bd | apply ba)); refine blk_far ?_ NB470_501.out _; (with_reducible repeat (first | apply bn | apply bd | apply ba)); exact BK470.out⟩, ⟨by (with_reducible repeat (first | apply bn | apply bd | apply ba)); refine blk_far ?_ NB475_501.out _; (with_reducible repeat (first | apply bn | apply bd | apply ba)); refine blk_far ?_ NB475_501.out _; (with_reducible repeat (first | apply bn | apply bd | apply ba)); refine blk_far ?_ NB475_501.out _; (with_reducible repeat (first | apply bn | apply bd | apply ba)); exact BK475.out⟩, ⟨by (with_reducible repeat (first | apply bn | apply bd | apply ba)); refine blk_far ?_ NB480_501.out _; (with_reducible repeat (first | apply bn | apply bd | apply ba)); refine blk_far ?_ NB480_501.out _; (with_reducible repeat (first | apply bn | apply bd | apply ba)); refine blk_far ?_ NB480_501.out _; (with_reducible repeat (first | apply bn | apply bd | apply ba)); exact BK480.out⟩, ⟨by (with_reducible repeat (first | apply bn | apply bd | apply ba)); refine blk_far ?_ NB486_501.out _; (with_reducible repeat (first | apply bn | apply bd | apply ba)); refine blk_far ?_ NB486_501.out _; (with_reducible repeat (first | apply bn | apply bd | apply ba)); refine blk_far ?_ NB486_501.out _; (with_reducible repeat (first | apply bn | apply bd | apply ba)); exact BK486.out⟩, ⟨by (with_reducible repeat (first | apply bn | apply bd | apply ba)); refine blk_far ?_ NB491_501.out _; (with_reducible repeat (first | apply bn | apply bd | apply ba)); refine blk_far ?_ NB491_501.out _; (with_reducible repeat (first | apply bn | apply bd | apply ba)); refine blk_far ?_ NB491_501.out _; (with_reducible repeat (first | apply bn | apply bd | apply ba)); exact BK491.out⟩, ⟨by (with_reducible repeat (first | apply bn | apply bd | apply ba)); refine blk_far ?_ NB496_501.out _; (with_reducible repeat (first | apply bn | apply bd | apply ba)); refine blk_far ?_ NB496_501.out _; (with_reducible repeat (first | apply bn | apply bd | apply ba)); refine blk_far ?_ NB496_501.out _; (with_reducible repeat (first | apply bn | apply bd | apply ba)); exact BK496.out⟩, ⟨by repeat (first | (with_reducible first | exact HB.out | apply below_alloc | apply pw_below_drewN | apply below_drew1 | refine below_set ?_ GE464.out | refine below_set ?_ GE465.out | refine below_set ?_ GE470.out | refine below_set ?_ GE475.out | refine below_set ?_ GE480.out | refine below_set ?_ GE486.out | refine below_set ?_ GE491.out | refine below_set ?_ GE496.out | refine below_set ?_ GE501.out) | exact HB.out)⟩⟩
          ·rw [if_neg c123] at H
           have c123b0 : (t500 == 0) = false := beq_eq_false_iff_ne.mpr c123
           have c123b1 : (t500 != 0) = true := bne_iff_ne.mpr c123
           exact absurd ((Option.some.inj H).trans hr.out) (by simp)
         ·rw [if_neg c121] at H
          have c121b0 : (t490 == 0) = false := beq_eq_false_iff_ne.mpr c121
          have c121b1 : (t490 != 0) = true := bne_iff_ne.mpr c121
          (first | rw [c121b0] | (simp only [i64_w, i32_w]; rw [c121b0]) | skip)
          have H' := Aside0.mk H
          clear H
          go_wp2
          go_meet
          case rel => exact ⟨_, H', ⟨by have := HJ7.out; have := HJ73.out; first | omega | exact Nat.le_refl _⟩, ⟨be BK464⟩, ⟨be BK465⟩, ⟨be BK470⟩, ⟨be BK475⟩, ⟨be BK480⟩, ⟨be BK486⟩, ⟨be BK491⟩, ⟨be BK496⟩, ⟨by repeat (first | (with_reducible first | exact HB.out | apply below_alloc | apply pw_below_drewN | apply below_drew1 | refine below_set ?_ GE464.out | refine below_set ?_ GE465.out | refine below_set ?_ GE470.out | refine below_set ?_ GE475.out | refine below_set ?_ GE480.out | refine below_set ?_ GE486.out | refine below_set ?_ GE491.out | refine below_set ?_ GE496.out) | exact HB.out)⟩⟩
        case rest =>
         as_aux_lemma =>
         clear HC120
         try clear c1
         try clear c2
         try clear p2
         try clear c3
         try clear c4
         try clear c5
         try clear c6
         try clear p6
         try clear c7
         try clear c8
         try clear c9
         try clear c10
         try clear c11
         try clear c12
         try clear c13
         try clear c14
         try clear c17
         try clear c18
         try clear c21
         try clear c22
         try clear c23
         try clear c24
         try clear c25
         try clear c26
         try clear c27
         try clear c32
         try clear c33
         try clear c34
         try clear c35
         try clear c37
         try clear c37b0
         try clear c37b1
         try clear c38
         try clear c38b0
         try clear c39
         try clear c40
         try clear c41
         try clear c42
         try clear c44
         try clear c45
         try clear c46
         try clear c48
         try clear c48b0
         try clear c48b1
         try clear c49
         try clear c50
         try clear c51
         try clear c52
         try clear c54
         try clear c55
         try clear c56
         try clear c58
         try clear c59
         try clear c61
         try clear c62
         try clear c63
         try clear c64
         try clear p64
         try clear c66
         try clear c67
         try clear c68
         try clear c70
         try clear c77
         try clear c78
         try clear c79
         try clear c80
         try clear c81
         try clear c85
         try clear c86
         try clear c87
         try clear c88
         try clear c89
         try clear c90
         try clear c95
         try clear c96
         try clear c97
         try clear c98
         try clear c99
         try clear c100
         try clear c101
         try clear c103
         try clear c103b0
         try clear c103b1
         try clear c104
         try clear c105
         try clear c106
         try clear c107
         try clear c108
         try clear c109
         try clear c110
         try clear c112
         try clear c113
         try clear c114
         try clear c115
         try clear c116
         try clear c117
         try clear c119
         try clear c121
         try clear c121b0
         try clear c121b1
         try clear c123
         try clear c123b0
         try clear c123b1
         try clear c124
         try clear c124b0
         try clear c125
         try clear c126
         try clear c127
         try clear c128
         try clear c129
         try clear c130
         try clear c131
         try clear c135
         try clear c136
         try clear c137
         try clear c138
         try clear c139
         try clear c140
         try clear c141
         try clear c142
         try clear c144
         try clear c145
         try clear c146
         try clear c147
         try clear c148
         try clear c149
         try clear hcz102_0 hcz102_1 hcz102_2
         try clear hcz111_0 hcz111_1 hcz111_2
         try clear hcz118_0 hcz118_1 hcz118_2
         try clear hcz132_0 hcz132_1 hcz132_2
         try clear hcz13_0 hcz13_1 hcz13_2
         try clear hcz143_0 hcz143_1 hcz143_2
         try clear hcz14_0 hcz14_1 hcz14_2
         try clear hcz150_0 hcz150_1 hcz150_2
         try clear hcz19_0 hcz19_1 hcz19_2
         try clear hcz20_0 hcz20_1 hcz20_2
         try clear hcz21_0 hcz21_1 hcz21_2
         try clear hcz27_0 hcz27_1 hcz27_2
         try clear hcz28_0 hcz28_1 hcz28_2
         try clear hcz29_0 hcz29_1 hcz29_2
         try clear hcz36_0 hcz36_1 hcz36_2
         try clear hcz43_0 hcz43_1 hcz43_2
         try clear hcz47_0 hcz47_1 hcz47_2
         try clear hcz53_0 hcz53_1 hcz53_2
         try clear hcz57_0 hcz57_1 hcz57_2
         try clear hcz60_0 hcz60_1 hcz60_2
         try clear hcz65_0 hcz65_1 hcz65_2
         try clear hcz69_0 hcz69_1 hcz69_2
         try clear hcz82_0 hcz82_1 hcz82_2
         try clear hcz91_0 hcz91_1 hcz91_2
         try clear hcz92_0 hcz92_1 hcz92_2
         try clear hfz102_0 hfz102_1 hfz102_2
         try clear hfz111_0 hfz111_1 hfz111_2
         try clear hfz118_0 hfz118_1 hfz118_2
         try clear hfz132_0 hfz132_1 hfz132_2
         try clear hfz13_0 hfz13_1 hfz13_2
         try clear hfz143_0 hfz143_1 hfz143_2
         try clear hfz14_0 hfz14_1 hfz14_2
         try clear hfz150_0 hfz150_1 hfz150_2
         try clear hfz19_0 hfz19_1 hfz19_2
         try clear hfz20_0 hfz20_1 hfz20_2
         try clear hfz21_0 hfz21_1 hfz21_2
         try clear hfz27_0 hfz27_1 hfz27_2
         try clear hfz28_0 hfz28_1 hfz28_2
         try clear hfz29_0 hfz29_1 hfz29_2
         try clear hfz36_0 hfz36_1 hfz36_2
         try clear hfz43_0 hfz43_1 hfz43_2
         try clear hfz47_0 hfz47_1 hfz47_2
         try clear hfz53_0 hfz53_1 hfz53_2
         try clear hfz57_0 hfz57_1 hfz57_2
         try clear hfz60_0 hfz60_1 hfz60_2
         try clear hfz65_0 hfz65_1 hfz65_2
         try clear hfz69_0 hfz69_1 hfz69_2
         try clear hfz82_0 hfz82_1 hfz82_2
         try clear hfz91_0 hfz91_1 hfz91_2
         try clear hfz92_0 hfz92_1 hfz92_2
         try clear p2
         obtain ⟨kq, HA, HJ119, BK464, BK465, BK470, BK475, BK480, BK486, BK491, BK496, HB⟩ := hcut
         cases kq with
         | zero => exact absurd HA.out (by simp [laws_FnBallSums.j2])
         | succ kj119 =>
          have H := HA.out
          clear HA
          simp only [laws_FnBallSums.j2] at H
          replace H := Option.bind_eq_some_iff.mp H
          obtain ⟨⟨t502, t503, t504, t505⟩, A1510, H⟩ := H
          replace H : ((impl_OppositeBall.f kj119 t502 t503 t504 t505).bind fun bt507 => ((spec_OppositeBall.f kj119 t502 t503 t504 t505).bind fun bt512 => (if bt507.2.2.2 = bt512.2.2.2 then (laws_FnBallSums.j3 kj119 l0 t502 bt507.2.2.2 (!(bt507.1 == bt512.1) || (!(bt507.2.1 == bt512.2.1) || (!(bt507.2.2.1 == bt512.2.2.1)))) t503 t504 t505 bt507.1 bt507.2.1 bt507.2.2.1) else (laws_FnBallSums.j3 kj119 l0 t502 bt507.2.2.2 true t503 t504 t505 bt507.1 bt507.2.1 bt507.2.2.1)))) = some r := H
          have A151 := Aside0.mk A1510
          clear A1510
          replace H := Option.bind_eq_some_iff.mp H
          obtain ⟨⟨t507, t508, t509, t510⟩, A1520, H⟩ := H
          replace H : ((spec_OppositeBall.f kj119 t502 t503 t504 t505).bind fun bt512 => (if t510 = bt512.2.2.2 then (laws_FnBallSums.j3 kj119 l0 t502 t510 (!(t507 == bt512.1) || (!(t508 == bt512.2.1) || (!(t509 == bt512.2.2.1)))) t503 t504 t505 t507 t508 t509) else (laws_FnBallSums.j3 kj119 l0 t502 t510 true t503 t504 t505 t507 t508 t509))) = some r := H
          have A152 := Aside0.mk A1520
          clear A1520
          replace H := Option.bind_eq_some_iff.mp H
          obtain ⟨⟨t512, t513, t514, t515⟩, A1530, H⟩ := H
          replace H : (if t510 = t515 then (laws_FnBallSums.j3 kj119 l0 t502 t510 (!(t507 == t512) || (!(t508 == t513) || (!(t509 == t514)))) t503 t504 t505 t507 t508 t509) else (laws_FnBallSums.j3 kj119 l0 t502 t510 true t503 t504 t505 t507 t508 t509)) = some r := H
          have A153 := Aside0.mk A1530
          clear A1530
          have HC154 := Aside0.mk H
          clear H
          go_upto_region 21 with (first | ((with_reducible refine gate_callee (f := 28) rfl ?_); refine g1 (some 133) Try.func28 #[.slice A0 l0.length c0] ?_; (with_reducible refine (spec_DrawOppositeBall.calls kj119 _ _ l0 t502 t503 t504 t505 _ ?side1 ?side2 A151.out).mono ?_); (case side1 => repeat (first | exact (Kd.C_below HR0.out HB.out) | (with_reducible refine Kd.C_alloc ?_ _) | (with_reducible refine Kd.C_drewN ?_ _) | (with_reducible refine Kd.C_drew ?_))); (case side2 => exact HC0.out); rintro e w155 ⟨rfl, hb⟩; refine ⟨_, rfl, ?_⟩; replace BK464 := bb BK464 hb; replace BK465 := bb BK465 hb; replace BK470 := bb BK470 hb; replace BK475 := bb BK475 hb; replace BK480 := bb BK480 hb; replace BK486 := bb BK486 hb; replace BK491 := bb BK491 hb; replace BK496 := bb BK496 hb; replace HB := bs hb; (try clear hb); (try clear hb2); (try clear hk); (try clear hi)) | ((with_reducible refine gate_dst (N := 22) rfl ?_); refine bx (N := 22) (cs := #[.int .i64 0, .int .i64 0, .int .i64 0]) (t := 27) ?_; intro gb506 hg w156 hbox hb; have BK506 := Aside0.mk (hbox); have GW506 := sg hg; have GE506 := sg hg; have NB464_506 := nl hg BK464; have NB506_464 := ng hg BK464; have NB465_506 := nl hg BK465; have NB506_465 := ng hg BK465; have NB470_506 := nl hg BK470; have NB506_470 := ng hg BK470; have NB475_506 := nl hg BK475; have NB506_475 := ng hg BK475; have NB480_506 := nl hg BK480; have NB506_480 := ng hg BK480; have NB486_506 := nl hg BK486; have NB506_486 := ng hg BK486; have NB491_506 := nl hg BK491; have NB506_491 := ng hg BK491; have NB496_506 := nl hg BK496; have NB506_496 := ng hg BK496; replace BK464 := bb BK464 hb; replace BK465 := bb BK465 hb; replace BK470 := bb BK470 hb; replace BK475 := bb BK475 hb; replace BK480 := bb BK480 hb; replace BK486 := bb BK486 hb; replace BK491 := bb BK491 hb; replace BK496 := bb BK496 hb; replace HB := bs hb; clear hb hbox hg; have hnb157 := NB506_464.out; have hnc157 := NB464_506.out; have hnb158 := NB506_465.out; have hnc158 := NB465_506.out; have hnb159 := NB506_470.out; have hnc159 := NB470_506.out; have hnb160 := NB506_475.out; have hnc160 := NB475_506.out; have hnb161 := NB506_480.out; have hnc161 := NB480_506.out; have hnb162 := NB506_486.out; have hnc162 := NB486_506.out; have hnb163 := NB506_491.out; have hnc163 := NB491_506.out; have hnb164 := NB506_496.out; have hnc164 := NB496_506.out; obtain ⟨hcz165_0, hcz165_1, hcz165_2, hfz165_0, hfz165_1, hfz165_2⟩ := c3 BK506) | ((with_reducible refine gate_callee (f := 29) rfl ?_); refine g1 (some 139) Try.func29 #[.int .i64 t502, .agg #[.int .i64 t503, .int .i64 t504, .int .i64 t505]] ?_; (with_reducible refine (impl_OppositeBall.calls kj119 t502 t503 t504 t505 t507 t508 t509 t510 _ A152.out).mono ?_); rintro e w166 ⟨rfl, hb⟩; refine ⟨_, rfl, ?_⟩; replace BK464 := Aside0.mk (blk_below (g := gb464) (o := .cells #[.int .i64 t458, .int .i64 t459, .int .i64 t460] 27 (0, 0)) (by (with_reducible repeat (first | apply bn | apply bd | apply ba)); refine blk_far ?_ NB464_506.out _; (with_reducible repeat (first | apply bn | apply bd | apply ba)); refine blk_far ?_ NB464_506.out _; (with_reducible repeat (first | apply bn | apply bd | apply ba)); refine blk_far ?_ NB464_506.out _; (with_reducible repeat (first | apply bn | apply bd | apply ba)); exact BK464.out) hb); replace BK465 := Aside0.mk (blk_below (g := gb465) (o := .cells #[.int .i64 t461, .int .i64 t462, .int .i64 t463] 27 (0, 0)) (by (with_reducible repeat (first | apply bn | apply bd | apply ba)); refine blk_far ?_ NB465_506.out _; (with_reducible repeat (first | apply bn | apply bd | apply ba)); refine blk_far ?_ NB465_506.out _; (with_reducible repeat (first | apply bn | apply bd | apply ba)); refine blk_far ?_ NB465_506.out _; (with_reducible repeat (first | apply bn | apply bd | apply ba)); exact BK465.out) hb); replace BK470 := Aside0.mk (blk_below (g := gb470) (o := .cells #[.int .i64 t466, .int .i64 t467, .int .i64 t468] 27 (0, 0)) (by (with_reducible repeat (first | apply bn | apply bd | apply ba)); refine blk_far ?_ NB470_506.out _; (with_reducible repeat (first | apply bn | apply bd | apply ba)); refine blk_far ?_ NB470_506.out _; (with_reducible repeat (first | apply bn | apply bd | apply ba)); refine blk_far ?_ NB470_506.out _; (with_reducible repeat (first | apply bn | apply bd | apply ba)); exact BK470.out) hb); replace BK475 := Aside0.mk (blk_below (g := gb475) (o := .cells #[.int .i64 t471, .int .i64 t472, .int .i64 t473] 27 (0, 0)) (by (with_reducible repeat (first | apply bn | apply bd | apply ba)); refine blk_far ?_ NB475_506.out _; (with_reducible repeat (first | apply bn | apply bd | apply ba)); refine blk_far ?_ NB475_506.out _; (with_reducible repeat (first | apply bn | apply bd | apply ba)); refine blk_far ?_ NB475_506.out _; (with_reducible repeat (first | apply bn | apply bd | apply ba)); exact BK475.out) hb); replace BK480 := Aside0.mk (blk_below (g := gb480) (o := .cells #[.int .i64 t476, .int .i64 t477, .int .i64 t478] 27 (0, 0)) (by (with_reducible repeat (first | apply bn | apply bd | apply ba)); refine blk_far ?_ NB480_506.out _; (with_reducible repeat (first | apply bn | apply bd | apply ba)); refine blk_far ?_ NB480_506.out _; (with_reducible repeat (first | apply bn | apply bd | apply ba)); refine blk_far ?_ NB480_506.out _; (with_reducible repeat (first | apply bn | apply bd | apply ba)); exact BK480.out) hb); replace BK486 := Aside0.mk (blk_below (g := gb486) (o := .cells #[.int .i64 t482, .int .i64 t483, .int .i64 t484] 27 (0, 0)) (by (with_reducible repeat (first | apply bn | apply bd | apply ba)); refine blk_far ?_ NB486_506.out _; (with_reducible repeat (first | apply bn | apply bd | apply ba)); refine blk_far ?_ NB486_506.out _; (with_reducible repeat (first | apply bn | apply bd | apply ba)); refine blk_far ?_ NB486_506.out _; (with_reducible repeat (first | apply bn | apply bd | apply ba)); exact BK486.out) hb); replace BK491 := Aside0.mk (blk_below (g := gb491) (o := .cells #[.int .i64 t487, .int .i64 t488, .int .i64 t489] 27 (0, 0)) (by (with_reducible repeat (first | apply bn | apply bd | apply ba)); refine blk_far ?_ NB491_506.out _; (with_reducible repeat (first | apply bn | apply bd | apply ba)); refine blk_far ?_ NB491_506.out _; (with_reducible repeat (first | apply bn | apply bd | apply ba)); refine blk_far ?_ NB491_506.out _; (with_reducible repeat (first | apply bn | apply bd | apply ba)); exact BK491.out) hb); replace BK496 := Aside0.mk (blk_below (g := gb496) (o := .cells #[.int .i64 t492, .int .i64 t493, .int .i64 t494] 27 (0, 0)) (by (with_reducible repeat (first | apply bn | apply bd | apply ba)); refine blk_far ?_ NB496_506.out _; (with_reducible repeat (first | apply bn | apply bd | apply ba)); refine blk_far ?_ NB496_506.out _; (with_reducible repeat (first | apply bn | apply bd | apply ba)); refine blk_far ?_ NB496_506.out _; (with_reducible repeat (first | apply bn | apply bd | apply ba)); exact BK496.out) hb); replace BK506 := Aside0.mk (blk_below (g := gb506) (o := .cells #[.int .i64 t503, .int .i64 t504, .int .i64 t505] 27 (0, 0)) (by (with_reducible repeat (first | apply bn | apply bd | apply ba)); refine blk_put (cs := #[.int .i64 t503, .int .i64 t504, .int .i64 0]) ?_ 2 _ rfl; (with_reducible repeat (first | apply bn | apply bd | apply ba)); refine blk_put (cs := #[.int .i64 t503, .int .i64 0, .int .i64 0]) ?_ 1 _ rfl; (with_reducible repeat (first | apply bn | apply bd | apply ba)); refine blk_put (cs := #[.int .i64 0, .int .i64 0, .int .i64 0]) ?_ 0 _ rfl; (with_reducible repeat (first | apply bn | apply bd | apply ba)); exact BK506.out) hb); replace HB := bs hb; (try clear hb); (try clear hb2); (try clear hk); (try clear hi)) | ((with_reducible refine gate_dst (N := 23) rfl ?_); refine bx (N := 23) (cs := #[.int .i64 0, .int .i64 0, .int .i64 0]) (t := 27) ?_; intro gb511 hg w167 hbox hb; have BK511 := Aside0.mk (hbox); have GW511 := sg hg; have GE511 := sg hg; have NB464_511 := nl hg BK464; have NB511_464 := ng hg BK464; have NB465_511 := nl hg BK465; have NB511_465 := ng hg BK465; have NB470_511 := nl hg BK470; have NB511_470 := ng hg BK470; have NB475_511 := nl hg BK475; have NB511_475 := ng hg BK475; have NB480_511 := nl hg BK480; have NB511_480 := ng hg BK480; have NB486_511 := nl hg BK486; have NB511_486 := ng hg BK486; have NB491_511 := nl hg BK491; have NB511_491 := ng hg BK491; have NB496_511 := nl hg BK496; have NB511_496 := ng hg BK496; have NB506_511 := nl hg BK506; have NB511_506 := ng hg BK506; replace BK464 := bb BK464 hb; replace BK465 := bb BK465 hb; replace BK470 := bb BK470 hb; replace BK475 := bb BK475 hb; replace BK480 := bb BK480 hb; replace BK486 := bb BK486 hb; replace BK491 := bb BK491 hb; replace BK496 := bb BK496 hb; replace BK506 := bb BK506 hb; replace HB := bs hb; clear hb hbox hg; have hnb168 := NB511_464.out; have hnc168 := NB464_511.out; have hnb169 := NB511_465.out; have hnc169 := NB465_511.out; have hnb170 := NB511_470.out; have hnc170 := NB470_511.out; have hnb171 := NB511_475.out; have hnc171 := NB475_511.out; have hnb172 := NB511_480.out; have hnc172 := NB480_511.out; have hnb173 := NB511_486.out; have hnc173 := NB486_511.out; have hnb174 := NB511_491.out; have hnc174 := NB491_511.out; have hnb175 := NB511_496.out; have hnc175 := NB496_511.out; have hnb176 := NB511_506.out; have hnc176 := NB506_511.out; obtain ⟨hcz177_0, hcz177_1, hcz177_2, hfz177_0, hfz177_1, hfz177_2⟩ := c3 BK511; obtain ⟨hcz178_0, hcz178_1, hcz178_2, hfz178_0, hfz178_1, hfz178_2⟩ := c3 BK506) | ((with_reducible refine gate_callee (f := 30) rfl ?_); refine g1 (some 145) Try.func30 #[.int .i64 t502, .agg #[.int .i64 t503, .int .i64 t504, .int .i64 t505]] ?_; (with_reducible refine (spec_OppositeBall.calls kj119 t502 t503 t504 t505 t512 t513 t514 t515 _ A153.out).mono ?_); rintro e w179 ⟨rfl, hb⟩; refine ⟨_, rfl, ?_⟩; replace BK464 := Aside0.mk (blk_below (g := gb464) (o := .cells #[.int .i64 t458, .int .i64 t459, .int .i64 t460] 27 (0, 0)) (by (with_reducible repeat (first | apply bn | apply bd | apply ba)); refine blk_far ?_ NB464_511.out _; (with_reducible repeat (first | apply bn | apply bd | apply ba)); refine blk_far ?_ NB464_511.out _; (with_reducible repeat (first | apply bn | apply bd | apply ba)); refine blk_far ?_ NB464_511.out _; (with_reducible repeat (first | apply bn | apply bd | apply ba)); exact BK464.out) hb); replace BK465 := Aside0.mk (blk_below (g := gb465) (o := .cells #[.int .i64 t461, .int .i64 t462, .int .i64 t463] 27 (0, 0)) (by (with_reducible repeat (first | apply bn | apply bd | apply ba)); refine blk_far ?_ NB465_511.out _; (with_reducible repeat (first | apply bn | apply bd | apply ba)); refine blk_far ?_ NB465_511.out _; (with_reducible repeat (first | apply bn | apply bd | apply ba)); refine blk_far ?_ NB465_511.out _; (with_reducible repeat (first | apply bn | apply bd | apply ba)); exact BK465.out) hb); replace BK470 := Aside0.mk (blk_below (g := gb470) (o := .cells #[.int .i64 t466, .int .i64 t467, .int .i64 t468] 27 (0, 0)) (by (with_reducible repeat (first | apply bn | apply bd | apply ba)); refine blk_far ?_ NB470_511.out _; (with_reducible repeat (first | apply bn | apply bd | apply ba)); refine blk_far ?_ NB470_511.out _; (with_reducible repeat (first | apply bn | apply bd | apply ba)); refine blk_far ?_ NB470_511.out _; (with_reducible repeat (first | apply bn | apply bd | apply ba)); exact BK470.out) hb); replace BK475 := Aside0.mk (blk_below (g := gb475) (o := .cells #[.int .i64 t471, .int .i64 t472, .int .i64 t473] 27 (0, 0)) (by (with_reducible repeat (first | apply bn | apply bd | apply ba)); refine blk_far ?_ NB475_511.out _; (with_reducible repeat (first | apply bn | apply bd | apply ba)); refine blk_far ?_ NB475_511.out _; (with_reducible repeat (first | apply bn | apply bd | apply ba)); refine blk_far ?_ NB475_511.out _; (with_reducible repeat (first | apply bn | apply bd | apply ba)); exact BK475.out) hb); replace BK480 := Aside0.mk (blk_below (g := gb480) (o := .cells #[.int .i64 t476, .int .i64 t477, .int .i64 t478] 27 (0, 0)) (by (with_reducible repeat (first | apply bn | apply bd | apply ba)); refine blk_far ?_ NB480_511.out _; (with_reducible repeat (first | apply bn | apply bd | apply ba)); refine blk_far ?_ NB480_511.out _; (with_reducible repeat (first | apply bn | apply bd | apply ba)); refine blk_far ?_ NB480_511.out _; (with_reducible repeat (first | apply bn | apply bd | apply ba)); exact BK480.out) hb); replace BK486 := Aside0.mk (blk_below (g := gb486) (o := .cells #[.int .i64 t482, .int .i64 t483, .int .i64 t484] 27 (0, 0)) (by (with_reducible repeat (first | apply bn | apply bd | apply ba)); refine blk_far ?_ NB486_511.out _; (with_reducible repeat (first | apply bn | apply bd | apply ba)); refine blk_far ?_ NB486_511.out _; (with_reducible repeat (first | apply bn | apply bd | apply ba)); refine blk_far ?_ NB486_511.out _; (with_reducible repeat (first | apply bn | apply bd | apply ba)); exact BK486.out) hb); replace BK491 := Aside0.mk (blk_below (g := gb491) (o := .cells #[.int .i64 t487, .int .i64 t488, .int .i64 t489] 27 (0, 0)) (by (with_reducible repeat (first | apply bn | apply bd | apply ba)); refine blk_far ?_ NB491_511.out _; (with_reducible repeat (first | apply bn | apply bd | apply ba)); refine blk_far ?_ NB491_511.out _; (with_reducible repeat (first | apply bn | apply bd | apply ba)); refine blk_far ?_ NB491_511.out _; (with_reducible repeat (first | apply bn | apply bd | apply ba)); exact BK491.out) hb); replace BK496 := Aside0.mk (blk_below (g := gb496) (o := .cells #[.int .i64 t492, .int .i64 t493, .int .i64 t494] 27 (0, 0)) (by (with_reducible repeat (first | apply bn | apply bd | apply ba)); refine blk_far ?_ NB496_511.out _; (with_reducible repeat (first | apply bn | apply bd | apply ba)); refine blk_far ?_ NB496_511.out _; (with_reducible repeat (first | apply bn | apply bd | apply ba)); refine blk_far ?_ NB496_511.out _; (with_reducible repeat (first | apply bn | apply bd | apply ba)); exact BK496.out) hb); replace BK506 := Aside0.mk (blk_below (g := gb506) (o := .cells #[.int .i64 t503, .int .i64 t504, .int .i64 t505] 27 (0, 0)) (by (with_reducible repeat (first | apply bn | apply bd | apply ba)); refine blk_far ?_ NB506_511.out _; (with_reducible repeat (first | apply bn | apply bd | apply ba)); refine blk_far ?_ NB506_511.out _; (with_reducible repeat (first | apply bn | apply bd | apply ba)); refine blk_far ?_ NB506_511.out _; (with_reducible repeat (first | apply bn | apply bd | apply ba)); exact BK506.out) hb); replace BK511 := Aside0.mk (blk_below (g := gb511) (o := .cells #[.int .i64 t507, .int .i64 t508, .int .i64 t509] 27 (0, 0)) (by (with_reducible repeat (first | apply bn | apply bd | apply ba)); refine blk_put (cs := #[.int .i64 t507, .int .i64 t508, .int .i64 0]) ?_ 2 _ rfl; (with_reducible repeat (first | apply bn | apply bd | apply ba)); refine blk_put (cs := #[.int .i64 t507, .int .i64 0, .int .i64 0]) ?_ 1 _ rfl; (with_reducible repeat (first | apply bn | apply bd | apply ba)); refine blk_put (cs := #[.int .i64 0, .int .i64 0, .int .i64 0]) ?_ 0 _ rfl; (with_reducible repeat (first | apply bn | apply bd | apply ba)); exact BK511.out) hb); replace HB := bs hb; (try clear hb); (try clear hb2); (try clear hk); (try clear hi)) | ((with_reducible refine gate_dst (N := 25) rfl ?_); refine bx (N := 25) (cs := #[.int .i64 0, .int .i64 0, .int .i64 0]) (t := 27) ?_; intro gb516 hg w180 hbox hb; have BK516 := Aside0.mk (hbox); have GW516 := sg hg; have GE516 := sg hg; have NB464_516 := nl hg BK464; have NB516_464 := ng hg BK464; have NB465_516 := nl hg BK465; have NB516_465 := ng hg BK465; have NB470_516 := nl hg BK470; have NB516_470 := ng hg BK470; have NB475_516 := nl hg BK475; have NB516_475 := ng hg BK475; have NB480_516 := nl hg BK480; have NB516_480 := ng hg BK480; have NB486_516 := nl hg BK486; have NB516_486 := ng hg BK486; have NB491_516 := nl hg BK491; have NB516_491 := ng hg BK491; have NB496_516 := nl hg BK496; have NB516_496 := ng hg BK496; have NB506_516 := nl hg BK506; have NB516_506 := ng hg BK506; have NB511_516 := nl hg BK511; have NB516_511 := ng hg BK511; replace BK464 := bb BK464 hb; replace BK465 := bb BK465 hb; replace BK470 := bb BK470 hb; replace BK475 := bb BK475 hb; replace BK480 := bb BK480 hb; replace BK486 := bb BK486 hb; replace BK491 := bb BK491 hb; replace BK496 := bb BK496 hb; replace BK506 := bb BK506 hb; replace BK511 := bb BK511 hb; replace HB := bs hb; clear hb hbox hg; have hnb181 := NB516_464.out; have hnc181 := NB464_516.out; have hnb182 := NB516_465.out; have hnc182 := NB465_516.out; have hnb183 := NB516_470.out; have hnc183 := NB470_516.out; have hnb184 := NB516_475.out; have hnc184 := NB475_516.out; have hnb185 := NB516_480.out; have hnc185 := NB480_516.out; have hnb186 := NB516_486.out; have hnc186 := NB486_516.out; have hnb187 := NB516_491.out; have hnc187 := NB491_516.out; have hnb188 := NB516_496.out; have hnc188 := NB496_516.out; have hnb189 := NB516_506.out; have hnc189 := NB506_516.out; have hnb190 := NB516_511.out; have hnc190 := NB511_516.out; obtain ⟨hcz191_0, hcz191_1, hcz191_2, hfz191_0, hfz191_1, hfz191_2⟩ := c3 BK516))
          (try simp only [Act.put, List.setIfInBounds_toArray, List.set_cons_zero, List.set_cons_succ])
          go_cut [155] (fun v155 wc => ∃ (kq : Nat) (x155_153 : Bool), v155 = .bool x155_153 ∧ Aside0 (laws_FnBallSums.j3 kq l0 t502 t510 x155_153 t503 t504 t505 t507 t508 t509 = some r) ∧ Aside0 (kq ≤ kj119) ∧ Aside0 (wc.heap[gb464]? = some (.cells #[.int .i64 t458, .int .i64 t459, .int .i64 t460] 27 (0, 0))) ∧ Aside0 (wc.heap[gb465]? = some (.cells #[.int .i64 t461, .int .i64 t462, .int .i64 t463] 27 (0, 0))) ∧ Aside0 (wc.heap[gb470]? = some (.cells #[.int .i64 t466, .int .i64 t467, .int .i64 t468] 27 (0, 0))) ∧ Aside0 (wc.heap[gb475]? = some (.cells #[.int .i64 t471, .int .i64 t472, .int .i64 t473] 27 (0, 0))) ∧ Aside0 (wc.heap[gb480]? = some (.cells #[.int .i64 t476, .int .i64 t477, .int .i64 t478] 27 (0, 0))) ∧ Aside0 (wc.heap[gb486]? = some (.cells #[.int .i64 t482, .int .i64 t483, .int .i64 t484] 27 (0, 0))) ∧ Aside0 (wc.heap[gb491]? = some (.cells #[.int .i64 t487, .int .i64 t488, .int .i64 t489] 27 (0, 0))) ∧ Aside0 (wc.heap[gb496]? = some (.cells #[.int .i64 t492, .int .i64 t493, .int .i64 t494] 27 (0, 0))) ∧ Aside0 (wc.heap[gb506]? = some (.cells #[.int .i64 t503, .int .i64 t504, .int .i64 t505] 27 (0, 0))) ∧ Aside0 (wc.heap[gb511]? = some (.cells #[.int .i64 t507, .int .i64 t508, .int .i64 t509] 27 (0, 0))) ∧ Aside0 (wc.heap[gb516]? = some (.cells #[.int .i64 t512, .int .i64 t513, .int .i64 t514] 27 (0, 0))) ∧ Aside0 (Below w.heap.size w wc))
          case first =>
           as_aux_lemma =>
           have H := HC154.out
           clear HC154
           by_cases c192 : t510 = t515
           ·rw [if_pos c192] at H
            have c192b0 : (t510 == t515) = true := beq_iff_eq.mpr c192
            have c192b1 : (t510 != t515) = false := bne_eq_false_iff_eq.mpr c192
            clear c192
            (first | rw [c192b0] | (simp only [i64_w, i32_w]; rw [c192b0]) | skip)
            have H' := Aside0.mk H
            clear H
            have hnb193 := NB511_464.out
            have hnc193 := NB464_511.out
            have hnb194 := NB511_465.out
            have hnc194 := NB465_511.out
            have hnb195 := NB511_470.out
            have hnc195 := NB470_511.out
            have hnb196 := NB511_475.out
            have hnc196 := NB475_511.out
            have hnb197 := NB511_480.out
            have hnc197 := NB480_511.out
            have hnb198 := NB511_486.out
            have hnc198 := NB486_511.out
            have hnb199 := NB511_491.out
            have hnc199 := NB491_511.out
            have hnb200 := NB511_496.out
            have hnc200 := NB496_511.out
            have hnb201 := NB511_506.out
            have hnc201 := NB506_511.out
            have hnb202 := NB511_516.out
            have hnc202 := NB516_511.out
            have hcz203_0 : w180.cell? ⟨gb511, 0, none⟩ = some (.int .i64 t507) := (blk_cell BK511.out 0).trans rfl
            have hcz203_1 : w180.cell? ⟨gb511, 1, none⟩ = some (.int .i64 t508) := (blk_cell BK511.out 1).trans rfl
            have hcz203_2 : w180.cell? ⟨gb511, 2, none⟩ = some (.int .i64 t509) := (blk_cell BK511.out 2).trans rfl
            have hfz203_0 := blk_frozen BK511.out 0
            have hfz203_1 := blk_frozen BK511.out 1
            have hfz203_2 := blk_frozen BK511.out 2
            have hnb204 := NB516_464.out
            have hnc204 := NB464_516.out
            have hnb205 := NB516_465.out
            have hnc205 := NB465_516.out
            have hnb206 := NB516_470.out
            have hnc206 := NB470_516.out
            have hnb207 := NB516_475.out
            have hnc207 := NB475_516.out
            have hnb208 := NB516_480.out
            have hnc208 := NB480_516.out
            have hnb209 := NB516_486.out
            have hnc209 := NB486_516.out
            have hnb210 := NB516_491.out
            have hnc210 := NB491_516.out
            have hnb211 := NB516_496.out
            have hnc211 := NB496_516.out
            have hnb212 := NB516_506.out
            have hnc212 := NB506_516.out
            have hcz213_0 : w180.cell? ⟨gb516, 0, none⟩ = some (.int .i64 0) := (blk_cell BK516.out 0).trans rfl
            have hcz213_1 : w180.cell? ⟨gb516, 1, none⟩ = some (.int .i64 0) := (blk_cell BK516.out 1).trans rfl
            have hcz213_2 : w180.cell? ⟨gb516, 2, none⟩ = some (.int .i64 0) := (blk_cell BK516.out 2).trans rfl
            have hfz213_0 := blk_frozen BK516.out 0
            have hfz213_1 := blk_frozen BK516.out 1
            have hfz213_2 := blk_frozen BK516.out 2
            go_wp2
            go_meet
            case rel => exact ⟨_, ((!(t507 == t512) || (!(t508 == t513) || (!(t509 == t514))))), (by first | rfl | (simp; done) | (simp [*]; done)), H', ⟨by have := HJ7.out; have := HJ73.out; have := HJ119.out; first | omega | exact Nat.le_refl _⟩, ⟨by (with_reducible repeat (first | apply bn | apply bd | apply ba)); refine blk_far ?_ NB464_516.out _; (with_reducible repeat (first | apply bn | apply bd | apply ba)); refine blk_far ?_ NB464_516.out _; (with_reducible repeat (first | apply bn | apply bd | apply ba)); refine blk_far ?_ NB464_516.out _; (with_reducible repeat (first | apply bn | apply bd | apply ba)); exact BK464.out⟩, ⟨by (with_reducible repeat (first | apply bn | apply bd | apply ba)); refine blk_far ?_ NB465_516.out _; (with_reducible repeat (first | apply bn | apply bd | apply ba)); refine blk_far ?_ NB465_516.out _; (with_reducible repeat (first | apply bn | apply bd | apply ba)); refine blk_far ?_ NB465_516.out _; (with_reducible repeat (first | apply bn | apply bd | apply ba)); exact BK465.out⟩, ⟨by (with_reducible repeat (first | apply bn | apply bd | apply ba)); refine blk_far ?_ NB470_516.out _; (with_reducible repeat (first | apply bn | apply bd | apply ba)); refine blk_far ?_ NB470_516.out _; (with_reducible repeat (first | apply bn | apply bd | apply ba)); refine blk_far ?_ NB470_516.out _; (with_reducible repeat (first | apply bn | apply bd | apply ba)); exact BK470.out⟩, ⟨by (with_reducible repeat (first | apply bn | apply bd | apply ba)); refine blk_far ?_ NB475_516.out _; (with_reducible repeat (first | apply bn | apply bd | apply ba)); refine blk_far ?_ NB475_516.out _; (with_reducible repeat (first | apply bn | apply bd | apply ba)); refine blk_far ?_ NB475_516.out _; (with_reducible repeat (first | apply bn | apply bd | apply ba)); exact BK475.out⟩, ⟨by (with_reducible repeat (first | apply bn | apply bd | apply ba)); refine blk_far ?_ NB480_516.out _; (with_reducible repeat (first | apply bn | apply bd | apply ba)); refine blk_far ?_ NB480_516.out _; (with_reducible repeat (first | apply bn | apply bd | apply ba)); refine blk_far ?_ NB480_516.out _; (with_reducible repeat (first | apply bn | apply bd | apply ba)); exact BK480.out⟩, ⟨by (with_reducible repeat (first | apply bn | apply bd | apply ba)); refine blk_far ?_ NB486_516.out _; (with_reducible repeat (first | apply bn | apply bd | apply ba)); refine blk_far ?_ NB486_516.out _; (with_reducible repeat (first | apply bn | apply bd | apply ba)); refine blk_far ?_ NB486_516.out _; (with_reducible repeat (first | apply bn | apply bd | apply ba)); exact BK486.out⟩, ⟨by (with_reducible repeat (first | apply bn | apply bd | apply ba)); refine blk_far ?_ NB491_516.out _; (with_reducible repeat (first | apply bn | apply bd | apply ba)); refine blk_far ?_ NB491_516.out _; (with_reducible repeat (first | apply bn | apply bd | apply ba)); refine blk_far ?_ NB491_516.out _; (with_reducible repeat (first | apply bn | apply bd | apply ba)); exact BK491.out⟩, ⟨by (with_reducible repeat (first | apply bn | apply bd | apply ba)); refine blk_far ?_ NB496_516.out _; (with_reducible repeat (first | apply bn | apply bd | apply ba)); refine blk_far ?_ NB496_516.out _; (with_reducible repeat (first | apply bn | apply bd | apply ba)); refine blk_far ?_ NB496_516.out _; (with_reducible repeat (first | apply bn | apply bd | apply ba)); exact BK496.out⟩, ⟨by (with_reducible repeat (first | apply bn | apply bd | apply ba)); refine blk_far ?_ NB506_516.out _; (with_reducible repeat (first | apply bn | apply bd | apply ba)); refine blk_far ?_ NB506_516.out _; (with_reducible repeat (first | apply bn | apply bd | apply ba)); refine blk_far ?_ NB506_516.out _; (with_reducible repeat (first | apply bn | apply bd | apply ba)); exact BK506.out⟩, ⟨by (with_reducible repeat (first | apply bn | apply bd | apply ba)); refine blk_far ?_ NB511_516.out _; (with_reducible repeat (first | apply bn | apply bd | apply ba)); refine blk_far ?_ NB511_516.out _; (with_reducible repeat (first | apply bn | apply bd | apply ba)); refine blk_far ?_ NB511_516.out _; (with_reducible repeat (first | apply bn | apply bd | apply ba)); exact BK511.out⟩, ⟨by (with_reducible repeat (first | apply bn | apply bd | apply ba)); refine blk_put (cs := #[.int .i64 t512, .int .i64 t513, .int .i64 0]) ?_ 2 _ rfl; (with_reducible repeat (first | apply bn | apply bd | apply ba)); refine blk_put (cs := #[.int .i64 t512, .int .i64 0, .int .i64 0]) ?_ 1 _ rfl; (with_reducible repeat (first | apply bn | apply bd | apply ba)); refine blk_put (cs := #[.int .i64 0, .int .i64 0, .int .i64 0]) ?_ 0 _ rfl; (with_reducible repeat (first | apply bn | apply bd | apply ba)); exact BK516.out⟩, ⟨by repeat (first | (with_reducible first | exact HB.out | apply below_alloc | apply pw_below_drewN | apply below_drew1 | refine below_set ?_ GE464.out | refine below_set ?_ GE465.out | refine below_set ?_ GE470.out | refine below_set ?_ GE475.out | refine below_set ?_ GE480.out | refine below_set ?_ GE486.out | refine below_set ?_ GE491.out | refine below_set ?_ GE496.out | refine below_set ?_ GE506.out | refine below_set ?_ GE511.out | refine below_set ?_ GE516.out) | exact HB.out)⟩⟩
           ·rw [if_neg c192] at H
            have c192b0 : (t510 == t515) = false := beq_eq_false_iff_ne.mpr c192
            have c192b1 : (t510 != t515) = true := bne_iff_ne.mpr c192
            (first | rw [c192b0] | (simp only [i64_w, i32_w]; rw [c192b0]) | skip)
            have H' := Aside0.mk H
            clear H
            go_wp2
            go_meet
            case rel => exact ⟨_, (true), (by first | rfl | (simp; done) | (simp [*]; done)), H', ⟨by have := HJ7.out; have := HJ73.out; have := HJ119.out; first | omega | exact Nat.le_refl _⟩, ⟨by (with_reducible repeat (first | apply bn | apply bd | apply ba)); refine blk_far ?_ NB464_516.out _; (with_reducible repeat (first | apply bn | apply bd | apply ba)); refine blk_far ?_ NB464_516.out _; (with_reducible repeat (first | apply bn | apply bd | apply ba)); refine blk_far ?_ NB464_516.out _; (with_reducible repeat (first | apply bn | apply bd | apply ba)); exact BK464.out⟩, ⟨by (with_reducible repeat (first | apply bn | apply bd | apply ba)); refine blk_far ?_ NB465_516.out _; (with_reducible repeat (first | apply bn | apply bd | apply ba)); refine blk_far ?_ NB465_516.out _; (with_reducible repeat (first | apply bn | apply bd | apply ba)); refine blk_far ?_ NB465_516.out _; (with_reducible repeat (first | apply bn | apply bd | apply ba)); exact BK465.out⟩, ⟨by (with_reducible repeat (first | apply bn | apply bd | apply ba)); refine blk_far ?_ NB470_516.out _; (with_reducible repeat (first | apply bn | apply bd | apply ba)); refine blk_far ?_ NB470_516.out _; (with_reducible repeat (first | apply bn | apply bd | apply ba)); refine blk_far ?_ NB470_516.out _; (with_reducible repeat (first | apply bn | apply bd | apply ba)); exact BK470.out⟩, ⟨by (with_reducible repeat (first | apply bn | apply bd | apply ba)); refine blk_far ?_ NB475_516.out _; (with_reducible repeat (first | apply bn | apply bd | apply ba)); refine blk_far ?_ NB475_516.out _; (with_reducible repeat (first | apply bn | apply bd | apply ba)); refine blk_far ?_ NB475_516.out _; (with_reducible repeat (first | apply bn | apply bd | apply ba)); exact BK475.out⟩, ⟨by (with_reducible repeat (first | apply bn | apply bd | apply ba)); refine blk_far ?_ NB480_516.out _; (with_reducible repeat (first | apply bn | apply bd | apply ba)); refine blk_far ?_ NB480_516.out _; (with_reducible repeat (first | apply bn | apply bd | apply ba)); refine blk_far ?_ NB480_516.out _; (with_reducible repeat (first | apply bn | apply bd | apply ba)); exact BK480.out⟩, ⟨by (with_reducible repeat (first | apply bn | apply bd | apply ba)); refine blk_far ?_ NB486_516.out _; (with_reducible repeat (first | apply bn | apply bd | apply ba)); refine blk_far ?_ NB486_516.out _; (with_reducible repeat (first | apply bn | apply bd | apply ba)); refine blk_far ?_ NB486_516.out _; (with_reducible repeat (first | apply bn | apply bd | apply ba)); exact BK486.out⟩, ⟨by (with_reducible repeat (first | apply bn | apply bd | apply ba)); refine blk_far ?_ NB491_516.out _; (with_reducible repeat (first | apply bn | apply bd | apply ba)); refine blk_far ?_ NB491_516.out _; (with_reducible repeat (first | apply bn | apply bd | apply ba)); refine blk_far ?_ NB491_516.out _; (with_reducible repeat (first | apply bn | apply bd | apply ba)); exact BK491.out⟩, ⟨by (with_reducible repeat (first | apply bn | apply bd | apply ba)); refine blk_far ?_ NB496_516.out _; (with_reducible repeat (first | apply bn | apply bd | apply ba)); refine blk_far ?_ NB496_516.out _; (with_reducible repeat (first | apply bn | apply bd | apply ba)); refine blk_far ?_ NB496_516.out _; (with_reducible repeat (first | apply bn | apply bd | apply ba)); exact BK496.out⟩, ⟨by (with_reducible repeat (first | apply bn | apply bd | apply ba)); refine blk_far ?_ NB506_516.out _; (with_reducible repeat (first | apply bn | apply bd | apply ba)); refine blk_far ?_ NB506_516.out _; (with_reducible repeat (first | apply bn | apply bd | apply ba)); refine blk_far ?_ NB506_516.out _; (with_reducible repeat (first | apply bn | apply bd | apply ba)); exact BK506.out⟩, ⟨by (with_reducible repeat (first | apply bn | apply bd | apply ba)); refine blk_far ?_ NB511_516.out _; (with_reducible repeat (first | apply bn | apply bd | apply ba)); refine blk_far ?_ NB511_516.out _; (with_reducible repeat (first | apply bn | apply bd | apply ba)); refine blk_far ?_ NB511_516.out _; (with_reducible repeat (first | apply bn | apply bd | apply ba)); exact BK511.out⟩, ⟨by (with_reducible repeat (first | apply bn | apply bd | apply ba)); refine blk_put (cs := #[.int .i64 t512, .int .i64 t513, .int .i64 0]) ?_ 2 _ rfl; (with_reducible repeat (first | apply bn | apply bd | apply ba)); refine blk_put (cs := #[.int .i64 t512, .int .i64 0, .int .i64 0]) ?_ 1 _ rfl; (with_reducible repeat (first | apply bn | apply bd | apply ba)); refine blk_put (cs := #[.int .i64 0, .int .i64 0, .int .i64 0]) ?_ 0 _ rfl; (with_reducible repeat (first | apply bn | apply bd | apply ba)); exact BK516.out⟩, ⟨by repeat (first | (with_reducible first | exact HB.out | apply below_alloc | apply pw_below_drewN | apply below_drew1 | refine below_set ?_ GE464.out | refine below_set ?_ GE465.out | refine below_set ?_ GE470.out | refine below_set ?_ GE475.out | refine below_set ?_ GE480.out | refine below_set ?_ GE486.out | refine below_set ?_ GE491.out | refine below_set ?_ GE496.out | refine below_set ?_ GE506.out | refine below_set ?_ GE511.out | refine below_set ?_ GE516.out) | exact HB.out)⟩⟩
          case rest =>
           as_aux_lemma =>
           clear HC154
           try clear c1
           try clear c2
           try clear p2
           try clear c3
           try clear c4
           try clear c5
           try clear c6
           try clear p6
           try clear c7
           try clear c8
           try clear c9
           try clear c10
           try clear c11
           try clear c12
           try clear c13
           try clear c14
           try clear c15
           try clear c16
           try clear c17
           try clear c18
           try clear c19
           try clear c20
           try clear c21
           try clear c22
           try clear c23
           try clear c24
           try clear c25
           try clear c26
           try clear c27
           try clear c28
           try clear c29
           try clear c30
           try clear c32
           try clear c33
           try clear c34
           try clear c35
           try clear c37
           try clear c37b0
           try clear c37b1
           try clear c38
           try clear c38b0
           try clear c39
           try clear c40
           try clear c41
           try clear c42
           try clear c44
           try clear c45
           try clear c46
           try clear c48
           try clear c48b0
           try clear c48b1
           try clear c49
           try clear c50
           try clear c51
           try clear c52
           try clear c54
           try clear c55
           try clear c56
           try clear c58
           try clear c59
           try clear c61
           try clear c62
           try clear c63
           try clear c64
           try clear p64
           try clear c66
           try clear c67
           try clear c68
           try clear c70
           try clear c77
           try clear c78
           try clear c79
           try clear c80
           try clear c81
           try clear c85
           try clear c86
           try clear c87
           try clear c88
           try clear c89
           try clear c90
           try clear c95
           try clear c96
           try clear c97
           try clear c98
           try clear c99
           try clear c100
           try clear c101
           try clear c103
           try clear c103b0
           try clear c103b1
           try clear c104
           try clear c105
           try clear c106
           try clear c107
           try clear c108
           try clear c109
           try clear c110
           try clear c112
           try clear c113
           try clear c114
           try clear c115
           try clear c116
           try clear c117
           try clear c119
           try clear c121
           try clear c121b0
           try clear c121b1
           try clear c123
           try clear c123b0
           try clear c123b1
           try clear c124
           try clear c124b0
           try clear c125
           try clear c126
           try clear c127
           try clear c128
           try clear c129
           try clear c130
           try clear c131
           try clear c135
           try clear c136
           try clear c137
           try clear c138
           try clear c139
           try clear c140
           try clear c141
           try clear c142
           try clear c144
           try clear c145
           try clear c146
           try clear c147
           try clear c148
           try clear c149
           try clear c157
           try clear c158
           try clear c159
           try clear c160
           try clear c161
           try clear c162
           try clear c163
           try clear c164
           try clear c168
           try clear c169
           try clear c170
           try clear c171
           try clear c172
           try clear c173
           try clear c174
           try clear c175
           try clear c176
           try clear c181
           try clear c182
           try clear c183
           try clear c184
           try clear c185
           try clear c186
           try clear c187
           try clear c188
           try clear c189
           try clear c190
           try clear c192
           try clear c192b0
           try clear c192b1
           try clear c193
           try clear c194
           try clear c195
           try clear c196
           try clear c197
           try clear c198
           try clear c199
           try clear c200
           try clear c201
           try clear c202
           try clear c204
           try clear c205
           try clear c206
           try clear c207
           try clear c208
           try clear c209
           try clear c210
           try clear c211
           try clear c212
           try clear hcz102_0 hcz102_1 hcz102_2
           try clear hcz111_0 hcz111_1 hcz111_2
           try clear hcz118_0 hcz118_1 hcz118_2
           try clear hcz132_0 hcz132_1 hcz132_2
           try clear hcz13_0 hcz13_1 hcz13_2
           try clear hcz143_0 hcz143_1 hcz143_2
           try clear hcz14_0 hcz14_1 hcz14_2
           try clear hcz150_0 hcz150_1 hcz150_2
           try clear hcz165_0 hcz165_1 hcz165_2
           try clear hcz177_0 hcz177_1 hcz177_2
           try clear hcz178_0 hcz178_1 hcz178_2
           try clear hcz191_0 hcz191_1 hcz191_2
           try clear hcz19_0 hcz19_1 hcz19_2
           try clear hcz203_0 hcz203_1 hcz203_2
           try clear hcz20_0 hcz20_1 hcz20_2
           try clear hcz213_0 hcz213_1 hcz213_2
           try clear hcz21_0 hcz21_1 hcz21_2
           try clear hcz27_0 hcz27_1 hcz27_2
           try clear hcz28_0 hcz28_1 hcz28_2
           try clear hcz29_0 hcz29_1 hcz29_2
           try clear hcz36_0 hcz36_1 hcz36_2
           try clear hcz43_0 hcz43_1 hcz43_2
           try clear hcz47_0 hcz47_1 hcz47_2
           try clear hcz53_0 hcz53_1 hcz53_2
           try clear hcz57_0 hcz57_1 hcz57_2
           try clear hcz60_0 hcz60_1 hcz60_2
           try clear hcz65_0 hcz65_1 hcz65_2
           try clear hcz69_0 hcz69_1 hcz69_2
           try clear hcz82_0 hcz82_1 hcz82_2
           try clear hcz91_0 hcz91_1 hcz91_2
           try clear hcz92_0 hcz92_1 hcz92_2
           try clear hfz102_0 hfz102_1 hfz102_2
           try clear hfz111_0 hfz111_1 hfz111_2
           try clear hfz118_0 hfz118_1 hfz118_2
           try clear hfz132_0 hfz132_1 hfz132_2
           try clear hfz13_0 hfz13_1 hfz13_2
           try clear hfz143_0 hfz143_1 hfz143_2
           try clear hfz14_0 hfz14_1 hfz14_2
           try clear hfz150_0 hfz150_1 hfz150_2
           try clear hfz165_0 hfz165_1 hfz165_2
           try clear hfz177_0 hfz177_1 hfz177_2
           try clear hfz178_0 hfz178_1 hfz178_2
           try clear hfz191_0 hfz191_1 hfz191_2
           try clear hfz19_0 hfz19_1 hfz19_2
           try clear hfz203_0 hfz203_1 hfz203_2
           try clear hfz20_0 hfz20_1 hfz20_2
           try clear hfz213_0 hfz213_1 hfz213_2
           try clear hfz21_0 hfz21_1 hfz21_2
           try clear hfz27_0 hfz27_1 hfz27_2
           try clear hfz28_0 hfz28_1 hfz28_2
           try clear hfz29_0 hfz29_1 hfz29_2
           try clear hfz36_0 hfz36_1 hfz36_2
           try clear hfz43_0 hfz43_1 hfz43_2
           try clear hfz47_0 hfz47_1 hfz47_2
           try clear hfz53_0 hfz53_1 hfz53_2
           try clear hfz57_0 hfz57_1 hfz57_2
           try clear hfz60_0 hfz60_1 hfz60_2
           try clear hfz65_0 hfz65_1 hfz65_2
           try clear hfz69_0 hfz69_1 hfz69_2
           try clear hfz82_0 hfz82_1 hfz82_2
           try clear hfz91_0 hfz91_1 hfz91_2
           try clear hfz92_0 hfz92_1 hfz92_2
           try clear p2
           try clear p6
           try clear p64
           obtain ⟨kq, x155_153, rfl, HA, HJ153, BK464, BK465, BK470, BK475, BK480, BK486, BK491, BK496, BK506, BK511, BK516, HB⟩ := hcut
           cases kq with
           | zero => exact absurd HA.out (by simp [laws_FnBallSums.j3])
           | succ kj153 =>
            have H := HA.out
            clear HA
            simp only [laws_FnBallSums.j3] at H
            by_cases c214 : x155_153 = true
            ·subst c214
             have H1 : (some false) = some r := by rw [if_pos rfl] at H; exact H
             clear H
             have H := H1
             clear H1
             exact absurd ((Option.some.inj H).trans hr.out) (by simp)
            ·replace c214 := Bool.eq_false_iff.mpr c214
             subst c214
             have H1 : (if t510 = 0 then ((impl_OppositeBall.f kj153 t502 t507 t508 t509).bind fun bt517 => ((impl_AddBalls.f kj153 t502 t503 t504 t505 t507 t508 t509).bind fun bt522 => (if bt517.2.2.2 = 0 then (if bt522.2.2.2 = 0 then (if (!(bt517.1 == t503) || (!(bt517.2.1 == t504) || (!(bt517.2.2.1 == t505)))) = true then (some false) else (if (!(bt522.1 == t503) || (!(bt522.2.1 == 0) || (!(bt522.2.2.1 == 0)))) = true then (some false) else (laws_FnBallSums.j4 kj153 l0))) else (some false)) else (some false)))) else (laws_FnBallSums.j4 kj153 l0)) = some r := by rw [if_neg (show ¬ (false = true) by decide)] at H; exact H
             clear H
             have H := H1
             clear H1
             have HC215 := Aside0.mk H
             clear H
             go_upto_if 157 with (fail)
             go_cut [] (fun wc => ∃ (kq : Nat), Aside0 (laws_FnBallSums.j4 kq l0 = some r) ∧ Aside0 (kq ≤ kj153) ∧ Aside0 (wc.heap[gb464]? = some (.cells #[.int .i64 t458, .int .i64 t459, .int .i64 t460] 27 (0, 0))) ∧ Aside0 (wc.heap[gb465]? = some (.cells #[.int .i64 t461, .int .i64 t462, .int .i64 t463] 27 (0, 0))) ∧ Aside0 (wc.heap[gb470]? = some (.cells #[.int .i64 t466, .int .i64 t467, .int .i64 t468] 27 (0, 0))) ∧ Aside0 (wc.heap[gb475]? = some (.cells #[.int .i64 t471, .int .i64 t472, .int .i64 t473] 27 (0, 0))) ∧ Aside0 (wc.heap[gb480]? = some (.cells #[.int .i64 t476, .int .i64 t477, .int .i64 t478] 27 (0, 0))) ∧ Aside0 (wc.heap[gb486]? = some (.cells #[.int .i64 t482, .int .i64 t483, .int .i64 t484] 27 (0, 0))) ∧ Aside0 (wc.heap[gb491]? = some (.cells #[.int .i64 t487, .int .i64 t488, .int .i64 t489] 27 (0, 0))) ∧ Aside0 (wc.heap[gb496]? = some (.cells #[.int .i64 t492, .int .i64 t493, .int .i64 t494] 27 (0, 0))) ∧ Aside0 (wc.heap[gb506]? = some (.cells #[.int .i64 t503, .int .i64 t504, .int .i64 t505] 27 (0, 0))) ∧ Aside0 (wc.heap[gb511]? = some (.cells #[.int .i64 t507, .int .i64 t508, .int .i64 t509] 27 (0, 0))) ∧ Aside0 (wc.heap[gb516]? = some (.cells #[.int .i64 t512, .int .i64 t513, .int .i64 t514] 27 (0, 0))) ∧ Aside0 (Below w.heap.size w wc))
             case first =>
              as_aux_lemma =>
              have H := HC215.out
              clear HC215
              by_cases c216 : t510 = 0
              ·rw [if_pos c216] at H
               have c216b0 : (t510 == 0) = true := beq_iff_eq.mpr c216
               have c216b1 : (t510 != 0) = false := bne_eq_false_iff_eq.mpr c216
               clear c216
               (first | rw [c216b0] | (simp only [i64_w, i32_w]; rw [c216b0]) | skip)
               replace H := Option.bind_eq_some_iff.mp H
               obtain ⟨⟨t517, t518, t519, t520⟩, A2170, H⟩ := H
               replace H : ((impl_AddBalls.f kj153 t502 t503 t504 t505 t507 t508 t509).bind fun bt522 => (if t520 = 0 then (if bt522.2.2.2 = 0 then (if (!(t517 == t503) || (!(t518 == t504) || (!(t519 == t505)))) = true then (some false) else (if (!(bt522.1 == t503) || (!(bt522.2.1 == 0) || (!(bt522.2.2.1 == 0)))) = true then (some false) else (laws_FnBallSums.j4 kj153 l0))) else (some false)) else (some false))) = some r := H
               have A217 := Aside0.mk A2170
               clear A2170
               replace H := Option.bind_eq_some_iff.mp H
               obtain ⟨⟨t522, t523, t524, t525⟩, A2180, H⟩ := H
               replace H : (if t520 = 0 then (if t525 = 0 then (if (!(t517 == t503) || (!(t518 == t504) || (!(t519 == t505)))) = true then (some false) else (if (!(t522 == t503) || (!(t523 == 0) || (!(t524 == 0)))) = true then (some false) else (laws_FnBallSums.j4 kj153 l0))) else (some false)) else (some false)) = some r := H
               have A218 := Aside0.mk A2180
               clear A2180
               by_cases c219 : t520 = 0
               ·rw [if_pos c219] at H
                have c219b0 : (t520 == 0) = true := beq_iff_eq.mpr c219
                have c219b1 : (t520 != 0) = false := bne_eq_false_iff_eq.mpr c219
                clear c219
                by_cases c220 : t525 = 0
                ·rw [if_pos c220] at H
                 have c220b0 : (t525 == 0) = true := beq_iff_eq.mpr c220
                 have c220b1 : (t525 != 0) = false := bne_eq_false_iff_eq.mpr c220
                 clear c220
                 by_cases c221 : (!(t517 == t503) || (!(t518 == t504) || (!(t519 == t505)))) = true
                 ·rw [if_pos c221] at H
                  have c221b0 : (!(t517 == t503) || (!(t518 == t504) || (!(t519 == t505)))) = true := c221
                  clear c221
                  exact absurd ((Option.some.inj H).trans hr.out) (by simp)
                 ·rw [if_neg c221] at H
                  have c221b0 : (!(t517 == t503) || (!(t518 == t504) || (!(t519 == t505)))) = false := by simpa using c221
                  clear c221
                  by_cases c222 : (!(t522 == t503) || (!(t523 == 0) || (!(t524 == 0)))) = true
                  ·rw [if_pos c222] at H
                   have c222b0 : (!(t522 == t503) || (!(t523 == 0) || (!(t524 == 0)))) = true := c222
                   clear c222
                   exact absurd ((Option.some.inj H).trans hr.out) (by simp)
                  ·rw [if_neg c222] at H
                   have c222b0 : (!(t522 == t503) || (!(t523 == 0) || (!(t524 == 0)))) = false := by simpa using c222
                   clear c222
                   have H' := Aside0.mk H
                   clear H
                   have hnb223 := NB511_464.out
                   have hnc223 := NB464_511.out
                   have hnb224 := NB511_465.out
                   have hnc224 := NB465_511.out
                   have hnb225 := NB511_470.out
                   have hnc225 := NB470_511.out
                   have hnb226 := NB511_475.out
                   have hnc226 := NB475_511.out
                   have hnb227 := NB511_480.out
                   have hnc227 := NB480_511.out
                   have hnb228 := NB511_486.out
                   have hnc228 := NB486_511.out
                   have hnb229 := NB511_491.out
                   have hnc229 := NB491_511.out
                   have hnb230 := NB511_496.out
                   have hnc230 := NB496_511.out
                   have hnb231 := NB511_506.out
                   have hnc231 := NB506_511.out
                   have hnb232 := NB511_516.out
                   have hnc232 := NB516_511.out
                   have hcz233_0 : wc.cell? ⟨gb511, 0, none⟩ = some (.int .i64 t507) := (blk_cell BK511.out 0).trans rfl
                   have hcz233_1 : wc.cell? ⟨gb511, 1, none⟩ = some (.int .i64 t508) := (blk_cell BK511.out 1).trans rfl
                   have hcz233_2 : wc.cell? ⟨gb511, 2, none⟩ = some (.int .i64 t509) := (blk_cell BK511.out 2).trans rfl
                   have hfz233_0 := blk_frozen BK511.out 0
                   have hfz233_1 := blk_frozen BK511.out 1
                   have hfz233_2 := blk_frozen BK511.out 2
                   go_wp2_with (first | ((with_reducible refine gate_callee (f := 29) rfl ?_); refine g1 (some 161) Try.func29 #[.int .i64 t502, .agg #[.int .i64 t507, .int .i64 t508, .int .i64 t509]] ?_; (with_reducible refine (impl_OppositeBall.calls kj153 t502 t507 t508 t509 t517 t518 t519 t520 _ A217.out).mono ?_); rintro e w234 ⟨rfl, hb⟩; refine ⟨_, rfl, ?_⟩; replace BK464 := bb BK464 hb; replace BK465 := bb BK465 hb; replace BK470 := bb BK470 hb; replace BK475 := bb BK475 hb; replace BK480 := bb BK480 hb; replace BK486 := bb BK486 hb; replace BK491 := bb BK491 hb; replace BK496 := bb BK496 hb; replace BK506 := bb BK506 hb; replace BK511 := bb BK511 hb; replace BK516 := bb BK516 hb; replace HB := bs hb; (try clear hb); (try clear hb2); (try clear hk); (try clear hi)) | ((with_reducible refine gate_dst (N := 27) rfl ?_); refine bx (N := 27) (cs := #[.int .i64 0, .int .i64 0, .int .i64 0]) (t := 27) ?_; intro gb521 hg w235 hbox hb; have BK521 := Aside0.mk (hbox); have GW521 := sg hg; have GE521 := sg hg; have NB464_521 := nl hg BK464; have NB521_464 := ng hg BK464; have NB465_521 := nl hg BK465; have NB521_465 := ng hg BK465; have NB470_521 := nl hg BK470; have NB521_470 := ng hg BK470; have NB475_521 := nl hg BK475; have NB521_475 := ng hg BK475; have NB480_521 := nl hg BK480; have NB521_480 := ng hg BK480; have NB486_521 := nl hg BK486; have NB521_486 := ng hg BK486; have NB491_521 := nl hg BK491; have NB521_491 := ng hg BK491; have NB496_521 := nl hg BK496; have NB521_496 := ng hg BK496; have NB506_521 := nl hg BK506; have NB521_506 := ng hg BK506; have NB511_521 := nl hg BK511; have NB521_511 := ng hg BK511; have NB516_521 := nl hg BK516; have NB521_516 := ng hg BK516; replace BK464 := bb BK464 hb; replace BK465 := bb BK465 hb; replace BK470 := bb BK470 hb; replace BK475 := bb BK475 hb; replace BK480 := bb BK480 hb; replace BK486 := bb BK486 hb; replace BK491 := bb BK491 hb; replace BK496 := bb BK496 hb; replace BK506 := bb BK506 hb; replace BK511 := bb BK511 hb; replace BK516 := bb BK516 hb; replace HB := bs hb; clear hb hbox hg; have hnb236 := NB521_464.out; have hnc236 := NB464_521.out; have hnb237 := NB521_465.out; have hnc237 := NB465_521.out; have hnb238 := NB521_470.out; have hnc238 := NB470_521.out; have hnb239 := NB521_475.out; have hnc239 := NB475_521.out; have hnb240 := NB521_480.out; have hnc240 := NB480_521.out; have hnb241 := NB521_486.out; have hnc241 := NB486_521.out; have hnb242 := NB521_491.out; have hnc242 := NB491_521.out; have hnb243 := NB521_496.out; have hnc243 := NB496_521.out; have hnb244 := NB521_506.out; have hnc244 := NB506_521.out; have hnb245 := NB521_511.out; have hnc245 := NB511_521.out; have hnb246 := NB521_516.out; have hnc246 := NB516_521.out; obtain ⟨hcz247_0, hcz247_1, hcz247_2, hfz247_0, hfz247_1, hfz247_2⟩ := c3 BK521; have hnb248 := NB506_464.out; have hnc248 := NB464_506.out; have hnb249 := NB506_465.out; have hnc249 := NB465_506.out; have hnb250 := NB506_470.out; have hnc250 := NB470_506.out; have hnb251 := NB506_475.out; have hnc251 := NB475_506.out; have hnb252 := NB506_480.out; have hnc252 := NB480_506.out; have hnb253 := NB506_486.out; have hnc253 := NB486_506.out; have hnb254 := NB506_491.out; have hnc254 := NB491_506.out; have hnb255 := NB506_496.out; have hnc255 := NB496_506.out; have hnb256 := NB506_516.out; have hnc256 := NB516_506.out; obtain ⟨hcz257_0, hcz257_1, hcz257_2, hfz257_0, hfz257_1, hfz257_2⟩ := c3 BK506; obtain ⟨hcz258_0, hcz258_1, hcz258_2, hfz258_0, hfz258_1, hfz258_2⟩ := c3 BK511) | ((with_reducible refine gate_callee (f := 23) rfl ?_); refine g1 (some 168) Try.func23 #[.int .i64 t502, .agg #[.int .i64 t503, .int .i64 t504, .int .i64 t505], .agg #[.int .i64 t507, .int .i64 t508, .int .i64 t509]] ?_; (with_reducible refine (impl_AddBalls.calls kj153 t502 t503 t504 t505 t507 t508 t509 t522 t523 t524 t525 _ A218.out).mono ?_); rintro e w259 ⟨rfl, hb⟩; refine ⟨_, rfl, ?_⟩; replace BK464 := Aside0.mk (blk_below (g := gb464) (o := .cells #[.int .i64 t458, .int .i64 t459, .int .i64 t460] 27 (0, 0)) (by (with_reducible repeat (first | apply bn | apply bd | apply ba)); refine blk_far ?_ NB464_521.out _; (with_reducible repeat (first | apply bn | apply bd | apply ba)); refine blk_far ?_ NB464_521.out _; (with_reducible repeat (first | apply bn | apply bd | apply ba)); refine blk_far ?_ NB464_521.out _; (with_reducible repeat (first | apply bn | apply bd | apply ba)); exact BK464.out) hb); replace BK465 := Aside0.mk (blk_below (g := gb465) (o := .cells #[.int .i64 t461, .int .i64 t462, .int .i64 t463] 27 (0, 0)) (by (with_reducible repeat (first | apply bn | apply bd | apply ba)); refine blk_far ?_ NB465_521.out _; (with_reducible repeat (first | apply bn | apply bd | apply ba)); refine blk_far ?_ NB465_521.out _; (with_reducible repeat (first | apply bn | apply bd | apply ba)); refine blk_far ?_ NB465_521.out _; (with_reducible repeat (first | apply bn | apply bd | apply ba)); exact BK465.out) hb); replace BK470 := Aside0.mk (blk_below (g := gb470) (o := .cells #[.int .i64 t466, .int .i64 t467, .int .i64 t468] 27 (0, 0)) (by (with_reducible repeat (first | apply bn | apply bd | apply ba)); refine blk_far ?_ NB470_521.out _; (with_reducible repeat (first | apply bn | apply bd | apply ba)); refine blk_far ?_ NB470_521.out _; (with_reducible repeat (first | apply bn | apply bd | apply ba)); refine blk_far ?_ NB470_521.out _; (with_reducible repeat (first | apply bn | apply bd | apply ba)); exact BK470.out) hb); replace BK475 := Aside0.mk (blk_below (g := gb475) (o := .cells #[.int .i64 t471, .int .i64 t472, .int .i64 t473] 27 (0, 0)) (by (with_reducible repeat (first | apply bn | apply bd | apply ba)); refine blk_far ?_ NB475_521.out _; (with_reducible repeat (first | apply bn | apply bd | apply ba)); refine blk_far ?_ NB475_521.out _; (with_reducible repeat (first | apply bn | apply bd | apply ba)); refine blk_far ?_ NB475_521.out _; (with_reducible repeat (first | apply bn | apply bd | apply ba)); exact BK475.out) hb); replace BK480 := Aside0.mk (blk_below (g := gb480) (o := .cells #[.int .i64 t476, .int .i64 t477, .int .i64 t478] 27 (0, 0)) (by (with_reducible repeat (first | apply bn | apply bd | apply ba)); refine blk_far ?_ NB480_521.out _; (with_reducible repeat (first | apply bn | apply bd | apply ba)); refine blk_far ?_ NB480_521.out _; (with_reducible repeat (first | apply bn | apply bd | apply ba)); refine blk_far ?_ NB480_521.out _; (with_reducible repeat (first | apply bn | apply bd | apply ba)); exact BK480.out) hb); replace BK486 := Aside0.mk (blk_below (g := gb486) (o := .cells #[.int .i64 t482, .int .i64 t483, .int .i64 t484] 27 (0, 0)) (by (with_reducible repeat (first | apply bn | apply bd | apply ba)); refine blk_far ?_ NB486_521.out _; (with_reducible repeat (first | apply bn | apply bd | apply ba)); refine blk_far ?_ NB486_521.out _; (with_reducible repeat (first | apply bn | apply bd | apply ba)); refine blk_far ?_ NB486_521.out _; (with_reducible repeat (first | apply bn | apply bd | apply ba)); exact BK486.out) hb); replace BK491 := Aside0.mk (blk_below (g := gb491) (o := .cells #[.int .i64 t487, .int .i64 t488, .int .i64 t489] 27 (0, 0)) (by (with_reducible repeat (first | apply bn | apply bd | apply ba)); refine blk_far ?_ NB491_521.out _; (with_reducible repeat (first | apply bn | apply bd | apply ba)); refine blk_far ?_ NB491_521.out _; (with_reducible repeat (first | apply bn | apply bd | apply ba)); refine blk_far ?_ NB491_521.out _; (with_reducible repeat (first | apply bn | apply bd | apply ba)); exact BK491.out) hb); replace BK496 := Aside0.mk (blk_below (g := gb496) (o := .cells #[.int .i64 t492, .int .i64 t493, .int .i64 t494] 27 (0, 0)) (by (with_reducible repeat (first | apply bn | apply bd | apply ba)); refine blk_far ?_ NB496_521.out _; (with_reducible repeat (first | apply bn | apply bd | apply ba)); refine blk_far ?_ NB496_521.out _; (with_reducible repeat (first | apply bn | apply bd | apply ba)); refine blk_far ?_ NB496_521.out _; (with_reducible repeat (first | apply bn | apply bd | apply ba)); exact BK496.out) hb); replace BK506 := Aside0.mk (blk_below (g := gb506) (o := .cells #[.int .i64 t503, .int .i64 t504, .int .i64 t505] 27 (0, 0)) (by (with_reducible repeat (first | apply bn | apply bd | apply ba)); refine blk_far ?_ NB506_521.out _; (with_reducible repeat (first | apply bn | apply bd | apply ba)); refine blk_far ?_ NB506_521.out _; (with_reducible repeat (first | apply bn | apply bd | apply ba)); refine blk_far ?_ NB506_521.out _; (with_reducible repeat (first | apply bn | apply bd | apply ba)); exact BK506.out) hb); replace BK511 := Aside0.mk (blk_below (g := gb511) (o := .cells #[.int .i64 t507, .int .i64 t508, .int .i64 t509] 27 (0, 0)) (by (with_reducible repeat (first | apply bn | apply bd | apply ba)); refine blk_far ?_ NB511_521.out _; (with_reducible repeat (first | apply bn | apply bd | apply ba)); refine blk_far ?_ NB511_521.out _; (with_reducible repeat (first | apply bn | apply bd | apply ba)); refine blk_far ?_ NB511_521.out _; (with_reducible repeat (first | apply bn | apply bd | apply ba)); exact BK511.out) hb); replace BK516 := Aside0.mk (blk_below (g := gb516) (o := .cells #[.int .i64 t512, .int .i64 t513, .int .i64 t514] 27 (0, 0)) (by (with_reducible repeat (first | apply bn | apply bd | apply ba)); refine blk_far ?_ NB516_521.out _; (with_reducible repeat (first | apply bn | apply bd | apply ba)); refine blk_far ?_ NB516_521.out _; (with_reducible repeat (first | apply bn | apply bd | apply ba)); refine blk_far ?_ NB516_521.out _; (with_reducible repeat (first | apply bn | apply bd | apply ba)); exact BK516.out) hb); replace BK521 := Aside0.mk (blk_below (g := gb521) (o := .cells #[.int .i64 t517, .int .i64 t518, .int .i64 t519] 27 (0, 0)) (by (with_reducible repeat (first | apply bn | apply bd | apply ba)); refine blk_put (cs := #[.int .i64 t517, .int .i64 t518, .int .i64 0]) ?_ 2 _ rfl; (with_reducible repeat (first | apply bn | apply bd | apply ba)); refine blk_put (cs := #[.int .i64 t517, .int .i64 0, .int .i64 0]) ?_ 1 _ rfl; (with_reducible repeat (first | apply bn | apply bd | apply ba)); refine blk_put (cs := #[.int .i64 0, .int .i64 0, .int .i64 0]) ?_ 0 _ rfl; (with_reducible repeat (first | apply bn | apply bd | apply ba)); exact BK521.out) hb); replace HB := bs hb; (try clear hb); (try clear hb2); (try clear hk); (try clear hi)) | ((with_reducible refine gate_dst (N := 29) rfl ?_); refine bx (N := 29) (cs := #[.int .i64 0, .int .i64 0, .int .i64 0]) (t := 27) ?_; intro gb526 hg w260 hbox hb; have BK526 := Aside0.mk (hbox); have GW526 := sg hg; have GE526 := sg hg; have NB464_526 := nl hg BK464; have NB526_464 := ng hg BK464; have NB465_526 := nl hg BK465; have NB526_465 := ng hg BK465; have NB470_526 := nl hg BK470; have NB526_470 := ng hg BK470; have NB475_526 := nl hg BK475; have NB526_475 := ng hg BK475; have NB480_526 := nl hg BK480; have NB526_480 := ng hg BK480; have NB486_526 := nl hg BK486; have NB526_486 := ng hg BK486; have NB491_526 := nl hg BK491; have NB526_491 := ng hg BK491; have NB496_526 := nl hg BK496; have NB526_496 := ng hg BK496; have NB506_526 := nl hg BK506; have NB526_506 := ng hg BK506; have NB511_526 := nl hg BK511; have NB526_511 := ng hg BK511; have NB516_526 := nl hg BK516; have NB526_516 := ng hg BK516; have NB521_526 := nl hg BK521; have NB526_521 := ng hg BK521; replace BK464 := bb BK464 hb; replace BK465 := bb BK465 hb; replace BK470 := bb BK470 hb; replace BK475 := bb BK475 hb; replace BK480 := bb BK480 hb; replace BK486 := bb BK486 hb; replace BK491 := bb BK491 hb; replace BK496 := bb BK496 hb; replace BK506 := bb BK506 hb; replace BK511 := bb BK511 hb; replace BK516 := bb BK516 hb; replace BK521 := bb BK521 hb; replace HB := bs hb; clear hb hbox hg; have hnb261 := NB526_464.out; have hnc261 := NB464_526.out; have hnb262 := NB526_465.out; have hnc262 := NB465_526.out; have hnb263 := NB526_470.out; have hnc263 := NB470_526.out; have hnb264 := NB526_475.out; have hnc264 := NB475_526.out; have hnb265 := NB526_480.out; have hnc265 := NB480_526.out; have hnb266 := NB526_486.out; have hnc266 := NB486_526.out; have hnb267 := NB526_491.out; have hnc267 := NB491_526.out; have hnb268 := NB526_496.out; have hnc268 := NB496_526.out; have hnb269 := NB526_506.out; have hnc269 := NB506_526.out; have hnb270 := NB526_511.out; have hnc270 := NB511_526.out; have hnb271 := NB526_516.out; have hnc271 := NB516_526.out; have hnb272 := NB526_521.out; have hnc272 := NB521_526.out; obtain ⟨hcz273_0, hcz273_1, hcz273_2, hfz273_0, hfz273_1, hfz273_2⟩ := c3 BK526; obtain ⟨hcz274_0, hcz274_1, hcz274_2, hfz274_0, hfz274_1, hfz274_2⟩ := c3 BK521; obtain ⟨hcz275_0, hcz275_1, hcz275_2, hfz275_0, hfz275_1, hfz275_2⟩ := c3 BK506))
                   go_meet
                   case rel => exact ⟨_, H', ⟨by have := HJ7.out; have := HJ73.out; have := HJ119.out; have := HJ153.out; first | omega | exact Nat.le_refl _⟩, ⟨by (with_reducible repeat (first | apply bn | apply bd | apply ba)); refine blk_far ?_ NB464_526.out _; (with_reducible repeat (first | apply bn | apply bd | apply ba)); refine blk_far ?_ NB464_526.out _; (with_reducible repeat (first | apply bn | apply bd | apply ba)); refine blk_far ?_ NB464_526.out _; (with_reducible repeat (first | apply bn | apply bd | apply ba)); exact BK464.out⟩, ⟨by (with_reducible repeat (first | apply bn | apply bd | apply ba)); refine blk_far ?_ NB465_526.out _; (with_reducible repeat (first | apply bn | apply bd | apply ba)); refine blk_far ?_ NB465_526.out _; (with_reducible repeat (first | apply bn | apply bd | apply ba)); refine blk_far ?_ NB465_526.out _; (with_reducible repeat (first | apply bn | apply bd | apply ba)); exact BK465.out⟩, ⟨by (with_reducible repeat (first | apply bn | apply bd | apply ba)); refine blk_far ?_ NB470_526.out _; (with_reducible repeat (first | apply bn | apply bd | apply ba)); refine blk_far ?_ NB470_526.out _; (with_reducible repeat (first | apply bn | apply bd | apply ba)); refine blk_far ?_ NB470_526.out _; (with_reducible repeat (first | apply bn | apply bd | apply ba)); exact BK470.out⟩, ⟨by (with_reducible repeat (first | apply bn | apply bd | apply ba)); refine blk_far ?_ NB475_526.out _; (with_reducible repeat (first | apply bn | apply bd | apply ba)); refine blk_far ?_ NB475_526.out _; (with_reducible repeat (first | apply bn | apply bd | apply ba)); refine blk_far ?_ NB475_526.out _; (with_reducible repeat (first | apply bn | apply bd | apply ba)); exact BK475.out⟩, ⟨by (with_reducible repeat (first | apply bn | apply bd | apply ba)); refine blk_far ?_ NB480_526.out _; (with_reducible repeat (first | apply bn | apply bd | apply ba)); refine blk_far ?_ NB480_526.out _; (with_reducible repeat (first | apply bn | apply bd | apply ba)); refine blk_far ?_ NB480_526.out _; (with_reducible repeat (first | apply bn | apply bd | apply ba)); exact BK480.out⟩, ⟨by (with_reducible repeat (first | apply bn | apply bd | apply ba)); refine blk_far ?_ NB486_526.out _; (with_reducible repeat (first | apply bn | apply bd | apply ba)); refine blk_far ?_ NB486_526.out _; (with_reducible repeat (first | apply bn | apply bd | apply ba)); refine blk_far ?_ NB486_526.out _; (with_reducible repeat (first | apply bn | apply bd | apply ba)); exact BK486.out⟩, ⟨by (with_reducible repeat (first | apply bn | apply bd | apply ba)); refine blk_far ?_ NB491_526.out _; (with_reducible repeat (first | apply bn | apply bd | apply ba)); refine blk_far ?_ NB491_526.out _; (with_reducible repeat (first | apply bn | apply bd | apply ba)); refine blk_far ?_ NB491_526.out _; (with_reducible repeat (first | apply bn | apply bd | apply ba)); exact BK491.out⟩, ⟨by (with_reducible repeat (first | apply bn | apply bd | apply ba)); refine blk_far ?_ NB496_526.out _; (with_reducible repeat (first | apply bn | apply bd | apply ba)); refine blk_far ?_ NB496_526.out _; (with_reducible repeat (first | apply bn | apply bd | apply ba)); refine blk_far ?_ NB496_526.out _; (with_reducible repeat (first | apply bn | apply bd | apply ba)); exact BK496.out⟩, ⟨by (with_reducible repeat (first | apply bn | apply bd | apply ba)); refine blk_far ?_ NB506_526.out _; (with_reducible repeat (first | apply bn | apply bd | apply ba)); refine blk_far ?_ NB506_526.out _; (with_reducible repeat (first | apply bn | apply bd | apply ba)); refine blk_far ?_ NB506_526.out _; (with_reducible repeat (first | apply bn | apply bd | apply ba)); exact BK506.out⟩, ⟨by (with_reducible repeat (first | apply bn | apply bd | apply ba)); refine blk_far ?_ NB511_526.out _; (with_reducible repeat (first | apply bn | apply bd | apply ba)); refine blk_far ?_ NB511_526.out _; (with_reducible repeat (first | apply bn | apply bd | apply ba)); refine blk_far ?_ NB511_526.out _; (with_reducible repeat (first | apply bn | apply bd | apply ba)); exact BK511.out⟩, ⟨by (with_reducible repeat (first | apply bn | apply bd | apply ba)); refine blk_far ?_ NB516_526.out _; (with_reducible repeat (first | apply bn | apply bd | apply ba)); refine blk_far ?_ NB516_526.out _; (with_reducible repeat (first | apply bn | apply bd | apply ba)); refine blk_far ?_ NB516_526.out _; (with_reducible repeat (first | apply bn | apply bd | apply ba)); exact BK516.out⟩, ⟨by repeat (first | (with_reducible first | exact HB.out | apply below_alloc | apply pw_below_drewN | apply below_drew1 | refine below_set ?_ GE464.out | refine below_set ?_ GE465.out | refine below_set ?_ GE470.out | refine below_set ?_ GE475.out | refine below_set ?_ GE480.out | refine below_set ?_ GE486.out | refine below_set ?_ GE491.out | refine below_set ?_ GE496.out | refine below_set ?_ GE506.out | refine below_set ?_ GE511.out | refine below_set ?_ GE516.out | refine below_set ?_ GE521.out | refine below_set ?_ GE526.out) | exact HB.out)⟩⟩
                ·rw [if_neg c220] at H
                 have c220b0 : (t525 == 0) = false := beq_eq_false_iff_ne.mpr c220
                 have c220b1 : (t525 != 0) = true := bne_iff_ne.mpr c220
                 exact absurd ((Option.some.inj H).trans hr.out) (by simp)
               ·rw [if_neg c219] at H
                have c219b0 : (t520 == 0) = false := beq_eq_false_iff_ne.mpr c219
                have c219b1 : (t520 != 0) = true := bne_iff_ne.mpr c219
                exact absurd ((Option.some.inj H).trans hr.out) (by simp)
              ·rw [if_neg c216] at H
               have c216b0 : (t510 == 0) = false := beq_eq_false_iff_ne.mpr c216
               have c216b1 : (t510 != 0) = true := bne_iff_ne.mpr c216
               (first | rw [c216b0] | (simp only [i64_w, i32_w]; rw [c216b0]) | skip)
               have H' := Aside0.mk H
               clear H
               go_wp2
               go_meet
               case rel => exact ⟨_, H', ⟨by have := HJ7.out; have := HJ73.out; have := HJ119.out; have := HJ153.out; first | omega | exact Nat.le_refl _⟩, ⟨be BK464⟩, ⟨be BK465⟩, ⟨be BK470⟩, ⟨be BK475⟩, ⟨be BK480⟩, ⟨be BK486⟩, ⟨be BK491⟩, ⟨be BK496⟩, ⟨be BK506⟩, ⟨be BK511⟩, ⟨be BK516⟩, ⟨by repeat (first | (with_reducible first | exact HB.out | apply below_alloc | apply pw_below_drewN | apply below_drew1 | refine below_set ?_ GE464.out | refine below_set ?_ GE465.out | refine below_set ?_ GE470.out | refine below_set ?_ GE475.out | refine below_set ?_ GE480.out | refine below_set ?_ GE486.out | refine below_set ?_ GE491.out | refine below_set ?_ GE496.out | refine below_set ?_ GE506.out | refine below_set ?_ GE511.out | refine below_set ?_ GE516.out) | exact HB.out)⟩⟩
             case rest =>
              as_aux_lemma =>
              clear HC215
              try clear c1
              try clear c2
              try clear p2
              try clear c3
              try clear c4
              try clear c5
              try clear c6
              try clear p6
              try clear c7
              try clear c8
              try clear c9
              try clear c10
              try clear c11
              try clear c12
              try clear c13
              try clear c14
              try clear c15
              try clear c16
              try clear c17
              try clear c18
              try clear c19
              try clear c20
              try clear c21
              try clear c22
              try clear c23
              try clear c24
              try clear c25
              try clear c26
              try clear c27
              try clear c28
              try clear c29
              try clear c30
              try clear c32
              try clear c33
              try clear c34
              try clear c35
              try clear c37
              try clear c37b0
              try clear c37b1
              try clear c38
              try clear c38b0
              try clear c39
              try clear c40
              try clear c41
              try clear c42
              try clear c44
              try clear c45
              try clear c46
              try clear c48
              try clear c48b0
              try clear c48b1
              try clear c49
              try clear c50
              try clear c51
              try clear c52
              try clear c54
              try clear c55
              try clear c56
              try clear c58
              try clear c59
              try clear c61
              try clear c62
              try clear c63
              try clear c64
              try clear p64
              try clear c66
              try clear c67
              try clear c68
              try clear c70
              try clear c77
              try clear c78
              try clear c79
              try clear c80
              try clear c81
              try clear c85
              try clear c86
              try clear c87
              try clear c88
              try clear c89
              try clear c90
              try clear c95
              try clear c96
              try clear c97
              try clear c98
              try clear c99
              try clear c100
              try clear c101
              try clear c103
              try clear c103b0
              try clear c103b1
              try clear c104
              try clear c105
              try clear c106
              try clear c107
              try clear c108
              try clear c109
              try clear c110
              try clear c112
              try clear c113
              try clear c114
              try clear c115
              try clear c116
              try clear c117
              try clear c119
              try clear c121
              try clear c121b0
              try clear c121b1
              try clear c123
              try clear c123b0
              try clear c123b1
              try clear c124
              try clear c124b0
              try clear c125
              try clear c126
              try clear c127
              try clear c128
              try clear c129
              try clear c130
              try clear c131
              try clear c135
              try clear c136
              try clear c137
              try clear c138
              try clear c139
              try clear c140
              try clear c141
              try clear c142
              try clear c144
              try clear c145
              try clear c146
              try clear c147
              try clear c148
              try clear c149
              try clear c157
              try clear c158
              try clear c159
              try clear c160
              try clear c161
              try clear c162
              try clear c163
              try clear c164
              try clear c168
              try clear c169
              try clear c170
              try clear c171
              try clear c172
              try clear c173
              try clear c174
              try clear c175
              try clear c176
              try clear c181
              try clear c182
              try clear c183
              try clear c184
              try clear c185
              try clear c186
              try clear c187
              try clear c188
              try clear c189
              try clear c190
              try clear c192
              try clear c192b0
              try clear c192b1
              try clear c193
              try clear c194
              try clear c195
              try clear c196
              try clear c197
              try clear c198
              try clear c199
              try clear c200
              try clear c201
              try clear c202
              try clear c204
              try clear c205
              try clear c206
              try clear c207
              try clear c208
              try clear c209
              try clear c210
              try clear c211
              try clear c212
              try clear c214
              try clear c216
              try clear c216b0
              try clear c216b1
              try clear c219
              try clear c219b0
              try clear c219b1
              try clear c220
              try clear c220b0
              try clear c220b1
              try clear c221
              try clear c221b0
              try clear c222
              try clear c222b0
              try clear c223
              try clear c224
              try clear c225
              try clear c226
              try clear c227
              try clear c228
              try clear c229
              try clear c230
              try clear c231
              try clear c232
              try clear c236
              try clear c237
              try clear c238
              try clear c239
              try clear c240
              try clear c241
              try clear c242
              try clear c243
              try clear c244
              try clear c245
              try clear c246
              try clear c248
              try clear c249
              try clear c250
              try clear c251
              try clear c252
              try clear c253
              try clear c254
              try clear c255
              try clear c256
              try clear c261
              try clear c262
              try clear c263
              try clear c264
              try clear c265
              try clear c266
              try clear c267
              try clear c268
              try clear c269
              try clear c270
              try clear c271
              try clear c272
              try clear hcz102_0 hcz102_1 hcz102_2
              try clear hcz111_0 hcz111_1 hcz111_2
              try clear hcz118_0 hcz118_1 hcz118_2
              try clear hcz132_0 hcz132_1 hcz132_2
              try clear hcz13_0 hcz13_1 hcz13_2
              try clear hcz143_0 hcz143_1 hcz143_2
              try clear hcz14_0 hcz14_1 hcz14_2
              try clear hcz150_0 hcz150_1 hcz150_2
              try clear hcz165_0 hcz165_1 hcz165_2
              try clear hcz177_0 hcz177_1 hcz177_2
              try clear hcz178_0 hcz178_1 hcz178_2
              try clear hcz191_0 hcz191_1 hcz191_2
              try clear hcz19_0 hcz19_1 hcz19_2
              try clear hcz203_0 hcz203_1 hcz203_2
              try clear hcz20_0 hcz20_1 hcz20_2
              try clear hcz213_0 hcz213_1 hcz213_2
              try clear hcz21_0 hcz21_1 hcz21_2
              try clear hcz233_0 hcz233_1 hcz233_2
              try clear hcz247_0 hcz247_1 hcz247_2
              try clear hcz257_0 hcz257_1 hcz257_2
              try clear hcz258_0 hcz258_1 hcz258_2
              try clear hcz273_0 hcz273_1 hcz273_2
              try clear hcz274_0 hcz274_1 hcz274_2
              try clear hcz275_0 hcz275_1 hcz275_2
              try clear hcz27_0 hcz27_1 hcz27_2
              try clear hcz28_0 hcz28_1 hcz28_2
              try clear hcz29_0 hcz29_1 hcz29_2
              try clear hcz36_0 hcz36_1 hcz36_2
              try clear hcz43_0 hcz43_1 hcz43_2
              try clear hcz47_0 hcz47_1 hcz47_2
              try clear hcz53_0 hcz53_1 hcz53_2
              try clear hcz57_0 hcz57_1 hcz57_2
              try clear hcz60_0 hcz60_1 hcz60_2
              try clear hcz65_0 hcz65_1 hcz65_2
              try clear hcz69_0 hcz69_1 hcz69_2
              try clear hcz82_0 hcz82_1 hcz82_2
              try clear hcz91_0 hcz91_1 hcz91_2
              try clear hcz92_0 hcz92_1 hcz92_2
              try clear hfz102_0 hfz102_1 hfz102_2
              try clear hfz111_0 hfz111_1 hfz111_2
              try clear hfz118_0 hfz118_1 hfz118_2
              try clear hfz132_0 hfz132_1 hfz132_2
              try clear hfz13_0 hfz13_1 hfz13_2
              try clear hfz143_0 hfz143_1 hfz143_2
              try clear hfz14_0 hfz14_1 hfz14_2
              try clear hfz150_0 hfz150_1 hfz150_2
              try clear hfz165_0 hfz165_1 hfz165_2
              try clear hfz177_0 hfz177_1 hfz177_2
              try clear hfz178_0 hfz178_1 hfz178_2
              try clear hfz191_0 hfz191_1 hfz191_2
              try clear hfz19_0 hfz19_1 hfz19_2
              try clear hfz203_0 hfz203_1 hfz203_2
              try clear hfz20_0 hfz20_1 hfz20_2
              try clear hfz213_0 hfz213_1 hfz213_2
              try clear hfz21_0 hfz21_1 hfz21_2
              try clear hfz233_0 hfz233_1 hfz233_2
              try clear hfz247_0 hfz247_1 hfz247_2
              try clear hfz257_0 hfz257_1 hfz257_2
              try clear hfz258_0 hfz258_1 hfz258_2
              try clear hfz273_0 hfz273_1 hfz273_2
              try clear hfz274_0 hfz274_1 hfz274_2
              try clear hfz275_0 hfz275_1 hfz275_2
              try clear hfz27_0 hfz27_1 hfz27_2
              try clear hfz28_0 hfz28_1 hfz28_2
              try clear hfz29_0 hfz29_1 hfz29_2
              try clear hfz36_0 hfz36_1 hfz36_2
              try clear hfz43_0 hfz43_1 hfz43_2
              try clear hfz47_0 hfz47_1 hfz47_2
              try clear hfz53_0 hfz53_1 hfz53_2
              try clear hfz57_0 hfz57_1 hfz57_2
              try clear hfz60_0 hfz60_1 hfz60_2
              try clear hfz65_0 hfz65_1 hfz65_2
              try clear hfz69_0 hfz69_1 hfz69_2
              try clear hfz82_0 hfz82_1 hfz82_2
              try clear hfz91_0 hfz91_1 hfz91_2
              try clear hfz92_0 hfz92_1 hfz92_2
              try clear p2
              try clear p6
              try clear p64
              obtain ⟨kq, HA, HJ214, BK464, BK465, BK470, BK475, BK480, BK486, BK491, BK496, BK506, BK511, BK516, HB⟩ := hcut
              cases kq with
              | zero => exact absurd HA.out (by simp [laws_FnBallSums.j4])
              | succ kj214 =>
               have H := HA.out
               clear HA
               simp only [laws_FnBallSums.j4] at H
               replace H := Option.bind_eq_some_iff.mp H
               obtain ⟨⟨t527, t528, t529, t530⟩, A2760, H⟩ := H
               replace H : ((impl_DigitsOfBall.f kj214 t527 t528 t529 t530).bind fun bt532 => ((spec_DigitsOfBall.f kj214 t527 t528 t529 t530).bind fun bt536 => (if bt532.2 = bt536.2 then ((laws_likeInts.f kj214 bt532.1 bt536.1).bind fun t540 => (laws_FnBallSums.j5 kj214 t527 bt532.1 bt532.2 (!t540) t528 t529 t530)) else (laws_FnBallSums.j5 kj214 t527 bt532.1 bt532.2 true t528 t529 t530)))) = some r := H
               have A276 := Aside0.mk A2760
               clear A2760
               replace H := Option.bind_eq_some_iff.mp H
               obtain ⟨⟨t532, t535⟩, A2770, H⟩ := H
               replace H : ((spec_DigitsOfBall.f kj214 t527 t528 t529 t530).bind fun bt536 => (if t535 = bt536.2 then ((laws_likeInts.f kj214 t532 bt536.1).bind fun t540 => (laws_FnBallSums.j5 kj214 t527 t532 t535 (!t540) t528 t529 t530)) else (laws_FnBallSums.j5 kj214 t527 t532 t535 true t528 t529 t530))) = some r := H
               have A277 := Aside0.mk A2770
               clear A2770
               replace H := Option.bind_eq_some_iff.mp H
               obtain ⟨⟨t536, t539⟩, A2780, H⟩ := H
               replace H : (if t535 = t539 then ((laws_likeInts.f kj214 t532 t536).bind fun t540 => (laws_FnBallSums.j5 kj214 t527 t532 t535 (!t540) t528 t529 t530)) else (laws_FnBallSums.j5 kj214 t527 t532 t535 true t528 t529 t530)) = some r := H
               have A278 := Aside0.mk A2780
               clear A2780
               have HC279 := Aside0.mk H
               clear H
               go_upto_region 31 with (first | ((with_reducible refine gate_callee (f := 31) rfl ?_); refine g1 (some 191) Try.func31 #[.slice A0 l0.length c0] ?_; (with_reducible refine (spec_DrawDigitsOfBall.calls kj214 _ _ l0 t527 t528 t529 t530 _ ?side1 ?side2 A276.out).mono ?_); (case side1 => repeat (first | exact (Kd.C_below HR0.out HB.out) | (with_reducible refine Kd.C_alloc ?_ _) | (with_reducible refine Kd.C_drewN ?_ _) | (with_reducible refine Kd.C_drew ?_))); (case side2 => exact HC0.out); rintro e w280 ⟨rfl, hb⟩; refine ⟨_, rfl, ?_⟩; replace BK464 := bb BK464 hb; replace BK465 := bb BK465 hb; replace BK470 := bb BK470 hb; replace BK475 := bb BK475 hb; replace BK480 := bb BK480 hb; replace BK486 := bb BK486 hb; replace BK491 := bb BK491 hb; replace BK496 := bb BK496 hb; replace BK506 := bb BK506 hb; replace BK511 := bb BK511 hb; replace BK516 := bb BK516 hb; replace HB := bs hb; (try clear hb); (try clear hb2); (try clear hk); (try clear hi)) | ((with_reducible refine gate_dst (N := 32) rfl ?_); refine bx (N := 32) (cs := #[.int .i64 0, .int .i64 0, .int .i64 0]) (t := 27) ?_; intro gb531 hg w281 hbox hb; have BK531 := Aside0.mk (hbox); have GW531 := sg hg; have GE531 := sg hg; have NB464_531 := nl hg BK464; have NB531_464 := ng hg BK464; have NB465_531 := nl hg BK465; have NB531_465 := ng hg BK465; have NB470_531 := nl hg BK470; have NB531_470 := ng hg BK470; have NB475_531 := nl hg BK475; have NB531_475 := ng hg BK475; have NB480_531 := nl hg BK480; have NB531_480 := ng hg BK480; have NB486_531 := nl hg BK486; have NB531_486 := ng hg BK486; have NB491_531 := nl hg BK491; have NB531_491 := ng hg BK491; have NB496_531 := nl hg BK496; have NB531_496 := ng hg BK496; have NB506_531 := nl hg BK506; have NB531_506 := ng hg BK506; have NB511_531 := nl hg BK511; have NB531_511 := ng hg BK511; have NB516_531 := nl hg BK516; have NB531_516 := ng hg BK516; replace BK464 := bb BK464 hb; replace BK465 := bb BK465 hb; replace BK470 := bb BK470 hb; replace BK475 := bb BK475 hb; replace BK480 := bb BK480 hb; replace BK486 := bb BK486 hb; replace BK491 := bb BK491 hb; replace BK496 := bb BK496 hb; replace BK506 := bb BK506 hb; replace BK511 := bb BK511 hb; replace BK516 := bb BK516 hb; replace HB := bs hb; clear hb hbox hg; have hnb282 := NB531_464.out; have hnc282 := NB464_531.out; have hnb283 := NB531_465.out; have hnc283 := NB465_531.out; have hnb284 := NB531_470.out; have hnc284 := NB470_531.out; have hnb285 := NB531_475.out; have hnc285 := NB475_531.out; have hnb286 := NB531_480.out; have hnc286 := NB480_531.out; have hnb287 := NB531_486.out; have hnc287 := NB486_531.out; have hnb288 := NB531_491.out; have hnc288 := NB491_531.out; have hnb289 := NB531_496.out; have hnc289 := NB496_531.out; have hnb290 := NB531_506.out; have hnc290 := NB506_531.out; have hnb291 := NB531_511.out; have hnc291 := NB511_531.out; have hnb292 := NB531_516.out; have hnc292 := NB516_531.out; obtain ⟨hcz293_0, hcz293_1, hcz293_2, hfz293_0, hfz293_1, hfz293_2⟩ := c3 BK531) | ((with_reducible refine gate_callee (f := 32) rfl ?_); refine g1 (some 197) Try.func32 #[.int .i64 t527, .agg #[.int .i64 t528, .int .i64 t529, .int .i64 t530]] ?_; (with_reducible refine (impl_DigitsOfBall.calls kj214 t527 t528 t529 t530 t532 t535 _ A277.out).mono ?_); rintro e w294 ⟨v533, rfl, ho0, hb⟩; refine ⟨_, rfl, ?_⟩; have HO534 := Aside0.mk (Kd.R_lower ho0 (below_size (by repeat (first | (with_reducible first | exact HB.out | apply below_alloc | apply pw_below_drewN | apply below_drew1 | refine below_set ?_ GE464.out | refine below_set ?_ GE465.out | refine below_set ?_ GE470.out | refine below_set ?_ GE475.out | refine below_set ?_ GE480.out | refine below_set ?_ GE486.out | refine below_set ?_ GE491.out | refine below_set ?_ GE496.out | refine below_set ?_ GE506.out | refine below_set ?_ GE511.out | refine below_set ?_ GE516.out | refine below_set ?_ GE531.out) | exact HB.out)))); replace BK464 := Aside0.mk (blk_below (g := gb464) (o := .cells #[.int .i64 t458, .int .i64 t459, .int .i64 t460] 27 (0, 0)) (by (with_reducible repeat (first | apply bn | apply bd | apply ba)); refine blk_far ?_ NB464_531.out _; (with_reducible repeat (first | apply bn | apply bd | apply ba)); refine blk_far ?_ NB464_531.out _; (with_reducible repeat (first | apply bn | apply bd | apply ba)); refine blk_far ?_ NB464_531.out _; (with_reducible repeat (first | apply bn | apply bd | apply ba)); exact BK464.out) hb); replace BK465 := Aside0.mk (blk_below (g := gb465) (o := .cells #[.int .i64 t461, .int .i64 t462, .int .i64 t463] 27 (0, 0)) (by (with_reducible repeat (first | apply bn | apply bd | apply ba)); refine blk_far ?_ NB465_531.out _; (with_reducible repeat (first | apply bn | apply bd | apply ba)); refine blk_far ?_ NB465_531.out _; (with_reducible repeat (first | apply bn | apply bd | apply ba)); refine blk_far ?_ NB465_531.out _; (with_reducible repeat (first | apply bn | apply bd | apply ba)); exact BK465.out) hb); replace BK470 := Aside0.mk (blk_below (g := gb470) (o := .cells #[.int .i64 t466, .int .i64 t467, .int .i64 t468] 27 (0, 0)) (by (with_reducible repeat (first | apply bn | apply bd | apply ba)); refine blk_far ?_ NB470_531.out _; (with_reducible repeat (first | apply bn | apply bd | apply ba)); refine blk_far ?_ NB470_531.out _; (with_reducible repeat (first | apply bn | apply bd | apply ba)); refine blk_far ?_ NB470_531.out _; (with_reducible repeat (first | apply bn | apply bd | apply ba)); exact BK470.out) hb); replace BK475 := Aside0.mk (blk_below (g := gb475) (o := .cells #[.int .i64 t471, .int .i64 t472, .int .i64 t473] 27 (0, 0)) (by (with_reducible repeat (first | apply bn | apply bd | apply ba)); refine blk_far ?_ NB475_531.out _; (with_reducible repeat (first | apply bn | apply bd | apply ba)); refine blk_far ?_ NB475_531.out _; (with_reducible repeat (first | apply bn | apply bd | apply ba)); refine blk_far ?_ NB475_531.out _; (with_reducible repeat (first | apply bn | apply bd | apply ba)); exact BK475.out) hb); replace BK480 := Aside0.mk (blk_below (g := gb480) (o := .cells #[.int .i64 t476, .int .i64 t477, .int .i64 t478] 27 (0, 0)) (by (with_reducible repeat (first | apply bn | apply bd | apply ba)); refine blk_far ?_ NB480_531.out _; (with_reducible repeat (first | apply bn | apply bd | apply ba)); refine blk_far ?_ NB480_531.out _; (with_reducible repeat (first | apply bn | apply bd | apply ba)); refine blk_far ?_ NB480_531.out _; (with_reducible repeat (first | apply bn | apply bd | apply ba)); exact BK480.out) hb); replace BK486 := Aside0.mk (blk_below (g := gb486) (o := .cells #[.int .i64 t482, .int .i64 t483, .int .i64 t484] 27 (0, 0)) (by (with_reducible repeat (first | apply bn | apply bd | apply ba)); refine blk_far ?_ NB486_531.out _; (with_reducible repeat (first | apply bn | apply bd | apply ba)); refine blk_far ?_ NB486_531.out _; (with_reducible repeat (first | apply bn | apply bd | apply ba)); refine blk_far ?_ NB486_531.out _; (with_reducible repeat (first | apply bn | apply bd | apply ba)); exact BK486.out) hb); replace BK491 := Aside0.mk (blk_below (g := gb491) (o := .cells #[.int .i64 t487, .int .i64 t488, .int .i64 t489] 27 (0, 0)) (by (with_reducible repeat (first | apply bn | apply bd | apply ba)); refine blk_far ?_ NB491_531.out _; (with_reducible repeat (first | apply bn | apply bd | apply ba)); refine blk_far ?_ NB491_531.out _; (with_reducible repeat (first | apply bn | apply bd | apply ba)); refine blk_far ?_ NB491_531.out _; (with_reducible repeat (first | apply bn | apply bd | apply ba)); exact BK491.out) hb); replace BK496 := Aside0.mk (blk_below (g := gb496) (o := .cells #[.int .i64 t492, .int .i64 t493, .int .i64 t494] 27 (0, 0)) (by (with_reducible repeat (first | apply bn | apply bd | apply ba)); refine blk_far ?_ NB496_531.out _; (with_reducible repeat (first | apply bn | apply bd | apply ba)); refine blk_far ?_ NB496_531.out _; (with_reducible repeat (first | apply bn | apply bd | apply ba)); refine blk_far ?_ NB496_531.out _; (with_reducible repeat (first | apply bn | apply bd | apply ba)); exact BK496.out) hb); replace BK506 := Aside0.mk (blk_below (g := gb506) (o := .cells #[.int .i64 t503, .int .i64 t504, .int .i64 t505] 27 (0, 0)) (by (with_reducible repeat (first | apply bn | apply bd | apply ba)); refine blk_far ?_ NB506_531.out _; (with_reducible repeat (first | apply bn | apply bd | apply ba)); refine blk_far ?_ NB506_531.out _; (with_reducible repeat (first | apply bn | apply bd | apply ba)); refine blk_far ?_ NB506_531.out _; (with_reducible repeat (first | apply bn | apply bd | apply ba)); exact BK506.out) hb); replace BK511 := Aside0.mk (blk_below (g := gb511) (o := .cells #[.int .i64 t507, .int .i64 t508, .int .i64 t509] 27 (0, 0)) (by (with_reducible repeat (first | apply bn | apply bd | apply ba)); refine blk_far ?_ NB511_531.out _; (with_reducible repeat (first | apply bn | apply bd | apply ba)); refine blk_far ?_ NB511_531.out _; (with_reducible repeat (first | apply bn | apply bd | apply ba)); refine blk_far ?_ NB511_531.out _; (with_reducible repeat (first | apply bn | apply bd | apply ba)); exact BK511.out) hb); replace BK516 := Aside0.mk (blk_below (g := gb516) (o := .cells #[.int .i64 t512, .int .i64 t513, .int .i64 t514] 27 (0, 0)) (by (with_reducible repeat (first | apply bn | apply bd | apply ba)); refine blk_far ?_ NB516_531.out _; (with_reducible repeat (first | apply bn | apply bd | apply ba)); refine blk_far ?_ NB516_531.out _; (with_reducible repeat (first | apply bn | apply bd | apply ba)); refine blk_far ?_ NB516_531.out _; (with_reducible repeat (first | apply bn | apply bd | apply ba)); exact BK516.out) hb); replace BK531 := Aside0.mk (blk_below (g := gb531) (o := .cells #[.int .i64 t528, .int .i64 t529, .int .i64 t530] 27 (0, 0)) (by (with_reducible repeat (first | apply bn | apply bd | apply ba)); refine blk_put (cs := #[.int .i64 t528, .int .i64 t529, .int .i64 0]) ?_ 2 _ rfl; (with_reducible repeat (first | apply bn | apply bd | apply ba)); refine blk_put (cs := #[.int .i64 t528, .int .i64 0, .int .i64 0]) ?_ 1 _ rfl; (with_reducible repeat (first | apply bn | apply bd | apply ba)); refine blk_put (cs := #[.int .i64 0, .int .i64 0, .int .i64 0]) ?_ 0 _ rfl; (with_reducible repeat (first | apply bn | apply bd | apply ba)); exact BK531.out) hb); replace HB := bs hb; (try clear hb); (try clear hb2); (try clear hk); (try clear hi); (try clear ho0); obtain ⟨hcz295_0, hcz295_1, hcz295_2, hfz295_0, hfz295_1, hfz295_2⟩ := c3 BK531) | ((with_reducible refine gate_callee (f := 33) rfl ?_); refine g1 (some 203) Try.func33 #[.int .i64 t527, .agg #[.int .i64 t528, .int .i64 t529, .int .i64 t530]] ?_; (with_reducible refine (spec_DigitsOfBall.calls kj214 t527 t528 t529 t530 t536 t539 _ A278.out).mono ?_); rintro e w296 ⟨v537, rfl, ho0, hb⟩; refine ⟨_, rfl, ?_⟩; have HO538 := Aside0.mk (Kd.R_lower (Kd.R_new' ho0 (Kd.R_lt (by (with_reducible repeat (first | apply Kd.R_alloc | apply Kd.R_drewN | apply Kd.R_drew)); exact HO534.out))) (below_size (by repeat (first | (with_reducible first | exact HB.out | apply below_alloc | apply pw_below_drewN | apply below_drew1 | refine below_set ?_ GE464.out | refine below_set ?_ GE465.out | refine below_set ?_ GE470.out | refine below_set ?_ GE475.out | refine below_set ?_ GE480.out | refine below_set ?_ GE486.out | refine below_set ?_ GE491.out | refine below_set ?_ GE496.out | refine below_set ?_ GE506.out | refine below_set ?_ GE511.out | refine below_set ?_ GE516.out | refine below_set ?_ GE531.out) | exact HB.out)))); replace HO534 := Aside0.mk (Kd.R_elder' (by (with_reducible repeat (first | apply Kd.R_alloc | apply Kd.R_drewN | apply Kd.R_drew)); exact HO534.out) (Kd.R_base ho0) hb); replace BK464 := bb BK464 hb; replace BK465 := bb BK465 hb; replace BK470 := bb BK470 hb; replace BK475 := bb BK475 hb; replace BK480 := bb BK480 hb; replace BK486 := bb BK486 hb; replace BK491 := bb BK491 hb; replace BK496 := bb BK496 hb; replace BK506 := bb BK506 hb; replace BK511 := bb BK511 hb; replace BK516 := bb BK516 hb; replace BK531 := bb BK531 hb; replace HB := bs hb; (try clear hb); (try clear hb2); (try clear hk); (try clear hi); (try clear ho0)))
               (try simp only [Act.put, List.setIfInBounds_toArray, List.set_cons_zero, List.set_cons_succ])
               go_cut [214] (fun v214 wc => ∃ (kq : Nat) (x214_278 : Bool), v214 = .bool x214_278 ∧ Aside0 (laws_FnBallSums.j5 kq t527 t532 t535 x214_278 t528 t529 t530 = some r) ∧ Aside0 (kq ≤ kj214) ∧ Aside0 (Kd.R (Kd.int .i64) 2 wc w.heap.size (fun _ => True) v533 t532) ∧ Aside0 (wc.heap[gb464]? = some (.cells #[.int .i64 t458, .int .i64 t459, .int .i64 t460] 27 (0, 0))) ∧ Aside0 (wc.heap[gb465]? = some (.cells #[.int .i64 t461, .int .i64 t462, .int .i64 t463] 27 (0, 0))) ∧ Aside0 (wc.heap[gb470]? = some (.cells #[.int .i64 t466, .int .i64 t467, .int .i64 t468] 27 (0, 0))) ∧ Aside0 (wc.heap[gb475]? = some (.cells #[.int .i64 t471, .int .i64 t472, .int .i64 t473] 27 (0, 0))) ∧ Aside0 (wc.heap[gb480]? = some (.cells #[.int .i64 t476, .int .i64 t477, .int .i64 t478] 27 (0, 0))) ∧ Aside0 (wc.heap[gb486]? = some (.cells #[.int .i64 t482, .int .i64 t483, .int .i64 t484] 27 (0, 0))) ∧ Aside0 (wc.heap[gb491]? = some (.cells #[.int .i64 t487, .int .i64 t488, .int .i64 t489] 27 (0, 0))) ∧ Aside0 (wc.heap[gb496]? = some (.cells #[.int .i64 t492, .int .i64 t493, .int .i64 t494] 27 (0, 0))) ∧ Aside0 (wc.heap[gb506]? = some (.cells #[.int .i64 t503, .int .i64 t504, .int .i64 t505] 27 (0, 0))) ∧ Aside0 (wc.heap[gb511]? = some (.cells #[.int .i64 t507, .int .i64 t508, .int .i64 t509] 27 (0, 0))) ∧ Aside0 (wc.heap[gb516]? = some (.cells #[.int .i64 t512, .int .i64 t513, .int .i64 t514] 27 (0, 0))) ∧ Aside0 (wc.heap[gb531]? = some (.cells #[.int .i64 t528, .int .i64 t529, .int .i64 t530] 27 (0, 0))) ∧ Aside0 (Below w.heap.size w wc))
               case first =>
                as_aux_lemma =>
                have H := HC279.out
                clear HC279
                by_cases c297 : t535 = t539
                ·rw [if_pos c297] at H
                 have c297b0 : (t535 == t539) = true := beq_iff_eq.mpr c297
                 have c297b1 : (t535 != t539) = false := bne_eq_false_iff_eq.mpr c297
                 clear c297
                 (first | rw [c297b0] | (simp only [i64_w, i32_w]; rw [c297b0]) | skip)
                 replace H := Option.bind_eq_some_iff.mp H
                 obtain ⟨t540, A2980, H⟩ := H
                 replace H : (laws_FnBallSums.j5 kj214 t527 t532 t535 (!t540) t528 t529 t530) = some r := H
                 have A298 := Aside0.mk A2980
                 clear A2980
                 have H' := Aside0.mk H
                 clear H
                 obtain ⟨Ao299, co299, eo299⟩ := Kd.R_slice HO534.out
                 subst eo299
                 obtain ⟨Ao300, co300, eo300⟩ := Kd.R_slice HO538.out
                 subst eo300
                 go_wp2_with (first | (go_at_call 34; (with_reducible refine (laws_likeInts.calls kj214 _ _ t532 _ _ t536 t540 _ ?side1 ?side2 ?side3 ?side4 A298.out).mono ?_); (case side1 => repeat (first | exact (Kd.R_reads' HO534.out).2.2 | (with_reducible refine Kd.C_alloc ?_ _) | (with_reducible refine Kd.C_drewN ?_ _) | (with_reducible refine Kd.C_drew ?_))); (case side2 => exact (Kd.R_reads' HO534.out).2.1); (case side3 => repeat (first | exact (Kd.R_reads' HO538.out).2.2 | (with_reducible refine Kd.C_alloc ?_ _) | (with_reducible refine Kd.C_drewN ?_ _) | (with_reducible refine Kd.C_drew ?_))); (case side4 => exact (Kd.R_reads' HO538.out).2.1); rintro e w' ⟨rfl, ⟨nd, rfl⟩⟩))
                 go_meet
                 case rel => exact ⟨_, (!t540), (by first | rfl | (simp; done) | (simp [*]; done)), H', ⟨by have := HJ7.out; have := HJ73.out; have := HJ119.out; have := HJ153.out; have := HJ214.out; first | omega | exact Nat.le_refl _⟩, ⟨by (with_reducible repeat (first | apply Kd.R_alloc | apply Kd.R_drewN | apply Kd.R_drew)); exact Kd.R_mono HO534.out (fun _ hk => trivial)⟩, ⟨be BK464⟩, ⟨be BK465⟩, ⟨be BK470⟩, ⟨be BK475⟩, ⟨be BK480⟩, ⟨be BK486⟩, ⟨be BK491⟩, ⟨be BK496⟩, ⟨be BK506⟩, ⟨be BK511⟩, ⟨be BK516⟩, ⟨be BK531⟩, ⟨by repeat (first | (with_reducible first | exact HB.out | apply below_alloc | apply pw_below_drewN | apply below_drew1 | refine below_set ?_ GE464.out | refine below_set ?_ GE465.out | refine below_set ?_ GE470.out | refine below_set ?_ GE475.out | refine below_set ?_ GE480.out | refine below_set ?_ GE486.out | refine below_set ?_ GE491.out | refine below_set ?_ GE496.out | refine below_set ?_ GE506.out | refine below_set ?_ GE511.out | refine below_set ?_ GE516.out | refine below_set ?_ GE531.out) | exact HB.out)⟩⟩
                ·rw [if_neg c297] at H
                 have c297b0 : (t535 == t539) = false := beq_eq_false_iff_ne.mpr c297
                 have c297b1 : (t535 != t539) = true := bne_iff_ne.mpr c297
                 (first | rw [c297b0] | (simp only [i64_w, i32_w]; rw [c297b0]) | skip)
                 have H' := Aside0.mk H
                 clear H
                 go_wp2
                 go_meet
                 case rel => exact ⟨_, (true), (by first | rfl | (simp; done) | (simp [*]; done)), H', ⟨by have := HJ7.out; have := HJ73.out; have := HJ119.out; have := HJ153.out; have := HJ214.out; first | omega | exact Nat.le_refl _⟩, ⟨by (with_reducible repeat (first | apply Kd.R_alloc | apply Kd.R_drewN | apply Kd.R_drew)); exact Kd.R_mono HO534.out (fun _ hk => trivial)⟩, ⟨be BK464⟩, ⟨be BK465⟩, ⟨be BK470⟩, ⟨be BK475⟩, ⟨be BK480⟩, ⟨be BK486⟩, ⟨be BK491⟩, ⟨be BK496⟩, ⟨be BK506⟩, ⟨be BK511⟩, ⟨be BK516⟩, ⟨be BK531⟩, ⟨by repeat (first | (with_reducible first | exact HB.out | apply below_alloc | apply pw_below_drewN | apply below_drew1 | refine below_set ?_ GE464.out | refine below_set ?_ GE465.out | refine below_set ?_ GE470.out | refine below_set ?_ GE475.out | refine below_set ?_ GE480.out | refine below_set ?_ GE486.out | refine below_set ?_ GE491.out | refine below_set ?_ GE496.out | refine below_set ?_ GE506.out | refine below_set ?_ GE511.out | refine below_set ?_ GE516.out | refine below_set ?_ GE531.out) | exact HB.out)⟩⟩
               case rest =>
                as_aux_lemma =>
                clear HC279
                try clear c1
                try clear c2
                try clear p2
                try clear c3
                try clear c4
                try clear c5
                try clear c6
                try clear p6
                try clear c7
                try clear c8
                try clear c9
                try clear c10
                try clear c11
                try clear c12
                try clear c13
                try clear c14
                try clear c15
                try clear c16
                try clear c17
                try clear c18
                try clear c19
                try clear c20
                try clear c21
                try clear c22
                try clear c23
                try clear c24
                try clear c25
                try clear c26
                try clear c27
                try clear c28
                try clear c29
                try clear c30
                try clear c31
                try clear c32
                try clear c33
                try clear c34
                try clear c35
                try clear c37
                try clear c37b0
                try clear c37b1
                try clear c38
                try clear c38b0
                try clear c39
                try clear c40
                try clear c41
                try clear c42
                try clear c44
                try clear c45
                try clear c46
                try clear c48
                try clear c48b0
                try clear c48b1
                try clear c49
                try clear c50
                try clear c51
                try clear c52
                try clear c54
                try clear c55
                try clear c56
                try clear c58
                try clear c59
                try clear c61
                try clear c62
                try clear c63
                try clear c64
                try clear p64
                try clear c66
                try clear c67
                try clear c68
                try clear c70
                try clear c77
                try clear c78
                try clear c79
                try clear c80
                try clear c81
                try clear c85
                try clear c86
                try clear c87
                try clear c88
                try clear c89
                try clear c90
                try clear c95
                try clear c96
                try clear c97
                try clear c98
                try clear c99
                try clear c100
                try clear c101
                try clear c103
                try clear c103b0
                try clear c103b1
                try clear c104
                try clear c105
                try clear c106
                try clear c107
                try clear c108
                try clear c109
                try clear c110
                try clear c112
                try clear c113
                try clear c114
                try clear c115
                try clear c116
                try clear c117
                try clear c119
                try clear c121
                try clear c121b0
                try clear c121b1
                try clear c123
                try clear c123b0
                try clear c123b1
                try clear c124
                try clear c124b0
                try clear c125
                try clear c126
                try clear c127
                try clear c128
                try clear c129
                try clear c130
                try clear c131
                try clear c135
                try clear c136
                try clear c137
                try clear c138
                try clear c139
                try clear c140
                try clear c141
                try clear c142
                try clear c144
                try clear c145
                try clear c146
                try clear c147
                try clear c148
                try clear c149
                try clear c157
                try clear c158
                try clear c159
                try clear c160
                try clear c161
                try clear c162
                try clear c163
                try clear c164
                try clear c168
                try clear c169
                try clear c170
                try clear c171
                try clear c172
                try clear c173
                try clear c174
                try clear c175
                try clear c176
                try clear c181
                try clear c182
                try clear c183
                try clear c184
                try clear c185
                try clear c186
                try clear c187
                try clear c188
                try clear c189
                try clear c190
                try clear c192
                try clear c192b0
                try clear c192b1
                try clear c193
                try clear c194
                try clear c195
                try clear c196
                try clear c197
                try clear c198
                try clear c199
                try clear c200
                try clear c201
                try clear c202
                try clear c204
                try clear c205
                try clear c206
                try clear c207
                try clear c208
                try clear c209
                try clear c210
                try clear c211
                try clear c212
                try clear c214
                try clear c216
                try clear c216b0
                try clear c216b1
                try clear c219
                try clear c219b0
                try clear c219b1
                try clear c220
                try clear c220b0
                try clear c220b1
                try clear c221
                try clear c221b0
                try clear c222
                try clear c222b0
                try clear c223
                try clear c224
                try clear c225
                try clear c226
                try clear c227
                try clear c228
                try clear c229
                try clear c230
                try clear c231
                try clear c232
                try clear c236
                try clear c237
                try clear c238
                try clear c239
                try clear c240
                try clear c241
                try clear c242
                try clear c243
                try clear c244
                try clear c245
                try clear c246
                try clear c248
                try clear c249
                try clear c250
                try clear c251
                try clear c252
                try clear c253
                try clear c254
                try clear c255
                try clear c256
                try clear c261
                try clear c262
                try clear c263
                try clear c264
                try clear c265
                try clear c266
                try clear c267
                try clear c268
                try clear c269
                try clear c270
                try clear c271
                try clear c272
                try clear c282
                try clear c283
                try clear c284
                try clear c285
                try clear c286
                try clear c287
                try clear c288
                try clear c289
                try clear c290
                try clear c291
                try clear c292
                try clear c297
                try clear c297b0
                try clear c297b1
                try clear hcz102_0 hcz102_1 hcz102_2
                try clear hcz111_0 hcz111_1 hcz111_2
                try clear hcz118_0 hcz118_1 hcz118_2
                try clear hcz132_0 hcz132_1 hcz132_2
                try clear hcz13_0 hcz13_1 hcz13_2
                try clear hcz143_0 hcz143_1 hcz143_2
                try clear hcz14_0 hcz14_1 hcz14_2
                try clear hcz150_0 hcz150_1 hcz150_2
                try clear hcz165_0 hcz165_1 hcz165_2
                try clear hcz177_0 hcz177_1 hcz177_2
                try clear hcz178_0 hcz178_1 hcz178_2
                try clear hcz191_0 hcz191_1 hcz191_2
                try clear hcz19_0 hcz19_1 hcz19_2
                try clear hcz203_0 hcz203_1 hcz203_2
                try clear hcz20_0 hcz20_1 hcz20_2
                try clear hcz213_0 hcz213_1 hcz213_2
                try clear hcz21_0 hcz21_1 hcz21_2
                try clear hcz233_0 hcz233_1 hcz233_2
                try clear hcz247_0 hcz247_1 hcz247_2
                try clear hcz257_0 hcz257_1 hcz257_2
                try clear hcz258_0 hcz258_1 hcz258_2
                try clear hcz273_0 hcz273_1 hcz273_2
                try clear hcz274_0 hcz274_1 hcz274_2
                try clear hcz275_0 hcz275_1 hcz275_2
                try clear hcz27_0 hcz27_1 hcz27_2
                try clear hcz28_0 hcz28_1 hcz28_2
                try clear hcz293_0 hcz293_1 hcz293_2
                try clear hcz295_0 hcz295_1 hcz295_2
                try clear hcz29_0 hcz29_1 hcz29_2
                try clear hcz36_0 hcz36_1 hcz36_2
                try clear hcz43_0 hcz43_1 hcz43_2
                try clear hcz47_0 hcz47_1 hcz47_2
                try clear hcz53_0 hcz53_1 hcz53_2
                try clear hcz57_0 hcz57_1 hcz57_2
                try clear hcz60_0 hcz60_1 hcz60_2
                try clear hcz65_0 hcz65_1 hcz65_2
                try clear hcz69_0 hcz69_1 hcz69_2
                try clear hcz82_0 hcz82_1 hcz82_2
                try clear hcz91_0 hcz91_1 hcz91_2
                try clear hcz92_0 hcz92_1 hcz92_2
                try clear hfz102_0 hfz102_1 hfz102_2
                try clear hfz111_0 hfz111_1 hfz111_2
                try clear hfz118_0 hfz118_1 hfz118_2
                try clear hfz132_0 hfz132_1 hfz132_2
                try clear hfz13_0 hfz13_1 hfz13_2
                try clear hfz143_0 hfz143_1 hfz143_2
                try clear hfz14_0 hfz14_1 hfz14_2
                try clear hfz150_0 hfz150_1 hfz150_2
                try clear hfz165_0 hfz165_1 hfz165_2
                try clear hfz177_0 hfz177_1 hfz177_2
                try clear hfz178_0 hfz178_1 hfz178_2
                try clear hfz191_0 hfz191_1 hfz191_2
                try clear hfz19_0 hfz19_1 hfz19_2
                try clear hfz203_0 hfz203_1 hfz203_2
                try clear hfz20_0 hfz20_1 hfz20_2
                try clear hfz213_0 hfz213_1 hfz213_2
                try clear hfz21_0 hfz21_1 hfz21_2
                try clear hfz233_0 hfz233_1 hfz233_2
                try clear hfz247_0 hfz247_1 hfz247_2
                try clear hfz257_0 hfz257_1 hfz257_2
                try clear hfz258_0 hfz258_1 hfz258_2
                try clear hfz273_0 hfz273_1 hfz273_2
                try clear hfz274_0 hfz274_1 hfz274_2
                try clear hfz275_0 hfz275_1 hfz275_2
                try clear hfz27_0 hfz27_1 hfz27_2
                try clear hfz28_0 hfz28_1 hfz28_2
                try clear hfz293_0 hfz293_1 hfz293_2
                try clear hfz295_0 hfz295_1 hfz295_2
                try clear hfz29_0 hfz29_1 hfz29_2
                try clear hfz36_0 hfz36_1 hfz36_2
                try clear hfz43_0 hfz43_1 hfz43_2
                try clear hfz47_0 hfz47_1 hfz47_2
                try clear hfz53_0 hfz53_1 hfz53_2
                try clear hfz57_0 hfz57_1 hfz57_2
                try clear hfz60_0 hfz60_1 hfz60_2
                try clear hfz65_0 hfz65_1 hfz65_2
                try clear hfz69_0 hfz69_1 hfz69_2
                try clear hfz82_0 hfz82_1 hfz82_2
                try clear hfz91_0 hfz91_1 hfz91_2
                try clear hfz92_0 hfz92_1 hfz92_2
                try clear p2
                try clear p6
                try clear p64
                obtain ⟨kq, x214_278, rfl, HA, HJ278, HO_33, BK464, BK465, BK470, BK475, BK480, BK486, BK491, BK496, BK506, BK511, BK516, BK531, HB⟩ := hcut
                cases kq with
                | zero => exact absurd HA.out (by simp [laws_FnBallSums.j5])
                | succ kj278 =>
                 have H := HA.out
                 clear HA
                 simp only [laws_FnBallSums.j5] at H
                 by_cases c301 : x214_278 = true
                 ·subst c301
                  have H1 : (some false) = some r := by rw [if_pos rfl] at H; exact H
                  clear H
                  have H := H1
                  clear H1
                  exact absurd ((Option.some.inj H).trans hr.out) (by simp)
                 ·replace c301 := Bool.eq_false_iff.mpr c301
                  subst c301
                  have H1 : (if t535 = 0 then (laws_FnBallSums.l0 kj278 t527 t532 0 (wrap64 ((t532.length : Int) - 1)) t528 t529 t530) else (some true)) = some r := by rw [if_neg (show ¬ (false = true) by decide)] at H; exact H
                  clear H
                  have H := H1
                  clear H1
                  by_cases c302 : t535 = 0
                  ·rw [if_pos c302] at H
                   have c302b0 : (t535 == 0) = true := beq_iff_eq.mpr c302
                   have c302b1 : (t535 != 0) = false := bne_eq_false_iff_eq.mpr c302
                   clear c302
                   have H' := Aside0.mk H
                   clear H
                   obtain ⟨Ao303, co303, eo303⟩ := Kd.R_slice HO_33.out
                   subst eo303
                   go_wp2
                   go_loopg [37, 38] kj278 (fun kq v37 v38 w' => ∃ (x37_7 : Int) (x38_7 : Int), v37 = .int .i64 x37_7 ∧ v38 = .int .i64 x38_7 ∧ Aside0 (laws_FnBallSums.l0 kq t527 t532 x37_7 x38_7 t528 t529 t530 = some r) ∧ Aside0 (kq ≤ kj278) ∧ Aside0 (Kd.R (Kd.int .i64) 2 w' w.heap.size (fun _ => True) (.slice Ao303 t532.length co303) t532) ∧ Aside0 (w'.heap[gb464]? = some (.cells #[.int .i64 t458, .int .i64 t459, .int .i64 t460] 27 (0, 0))) ∧ Aside0 (w'.heap[gb465]? = some (.cells #[.int .i64 t461, .int .i64 t462, .int .i64 t463] 27 (0, 0))) ∧ Aside0 (w'.heap[gb470]? = some (.cells #[.int .i64 t466, .int .i64 t467, .int .i64 t468] 27 (0, 0))) ∧ Aside0 (w'.heap[gb475]? = some (.cells #[.int .i64 t471, .int .i64 t472, .int .i64 t473] 27 (0, 0))) ∧ Aside0 (w'.heap[gb480]? = some (.cells #[.int .i64 t476, .int .i64 t477, .int .i64 t478] 27 (0, 0))) ∧ Aside0 (w'.heap[gb486]? = some (.cells #[.int .i64 t482, .int .i64 t483, .int .i64 t484] 27 (0, 0))) ∧ Aside0 (w'.heap[gb491]? = some (.cells #[.int .i64 t487, .int .i64 t488, .int .i64 t489] 27 (0, 0))) ∧ Aside0 (w'.heap[gb496]? = some (.cells #[.int .i64 t492, .int .i64 t493, .int .i64 t494] 27 (0, 0))) ∧ Aside0 (w'.heap[gb506]? = some (.cells #[.int .i64 t503, .int .i64 t504, .int .i64 t505] 27 (0, 0))) ∧ Aside0 (w'.heap[gb511]? = some (.cells #[.int .i64 t507, .int .i64 t508, .int .i64 t509] 27 (0, 0))) ∧ Aside0 (w'.heap[gb516]? = some (.cells #[.int .i64 t512, .int .i64 t513, .int .i64 t514] 27 (0, 0))) ∧ Aside0 (w'.heap[gb531]? = some (.cells #[.int .i64 t528, .int .i64 t529, .int .i64 t530] 27 (0, 0))) ∧ Aside0 (Below w.heap.size w w'))
                   case atStart => exact ⟨(0), (wrap64 ((t532.length : Int) - 1)), (by first | rfl | (simp; done) | (simp [*]; done)), (by first | rfl | (simp; done) | (simp [*]; done)), H', ⟨Nat.le_refl _⟩, ⟨by (with_reducible repeat (first | apply Kd.R_alloc | apply Kd.R_drewN | apply Kd.R_drew)); exact HO_33.out⟩, ⟨be BK464⟩, ⟨be BK465⟩, ⟨be BK470⟩, ⟨be BK475⟩, ⟨be BK480⟩, ⟨be BK486⟩, ⟨be BK491⟩, ⟨be BK496⟩, ⟨be BK506⟩, ⟨be BK511⟩, ⟨be BK516⟩, ⟨be BK531⟩, ⟨by repeat (first | (with_reducible first | exact HB.out | apply below_alloc | apply pw_below_drewN | apply below_drew1 | refine below_set ?_ GE464.out | refine below_set ?_ GE465.out | refine below_set ?_ GE470.out | refine below_set ?_ GE475.out | refine below_set ?_ GE480.out | refine below_set ?_ GE486.out | refine below_set ?_ GE491.out | refine below_set ?_ GE496.out | refine below_set ?_ GE506.out | refine below_set ?_ GE511.out | refine below_set ?_ GE516.out | refine below_set ?_ GE531.out) | exact HB.out)⟩⟩
                   case round =>
                    as_aux_lemma =>
                    clear H'
                    try clear c1
                    try clear c2
                    try clear p2
                    try clear c3
                    try clear c4
                    try clear c5
                    try clear c6
                    try clear p6
                    try clear c7
                    try clear c8
                    try clear c9
                    try clear c10
                    try clear c11
                    try clear c12
                    try clear c13
                    try clear c14
                    try clear c15
                    try clear c16
                    try clear c17
                    try clear c18
                    try clear c19
                    try clear c20
                    try clear c21
                    try clear c22
                    try clear c23
                    try clear c24
                    try clear c25
                    try clear c26
                    try clear c27
                    try clear c28
                    try clear c29
                    try clear c30
                    try clear c31
                    try clear c32
                    try clear c33
                    try clear c34
                    try clear c35
                    try clear c37
                    try clear c37b0
                    try clear c37b1
                    try clear c38
                    try clear c38b0
                    try clear c39
                    try clear c40
                    try clear c41
                    try clear c42
                    try clear c44
                    try clear c45
                    try clear c46
                    try clear c48
                    try clear c48b0
                    try clear c48b1
                    try clear c49
                    try clear c50
                    try clear c51
                    try clear c52
                    try clear c54
                    try clear c55
                    try clear c56
                    try clear c58
                    try clear c59
                    try clear c61
                    try clear c62
                    try clear c63
                    try clear c64
                    try clear p64
                    try clear c66
                    try clear c67
                    try clear c68
                    try clear c70
                    try clear c77
                    try clear c78
                    try clear c79
                    try clear c80
                    try clear c81
                    try clear c85
                    try clear c86
                    try clear c87
                    try clear c88
                    try clear c89
                    try clear c90
                    try clear c95
                    try clear c96
                    try clear c97
                    try clear c98
                    try clear c99
                    try clear c100
                    try clear c101
                    try clear c103
                    try clear c103b0
                    try clear c103b1
                    try clear c104
                    try clear c105
                    try clear c106
                    try clear c107
                    try clear c108
                    try clear c109
                    try clear c110
                    try clear c112
                    try clear c113
                    try clear c114
                    try clear c115
                    try clear c116
                    try clear c117
                    try clear c119
                    try clear c121
                    try clear c121b0
                    try clear c121b1
                    try clear c123
                    try clear c123b0
                    try clear c123b1
                    try clear c124
                    try clear c124b0
                    try clear c125
                    try clear c126
                    try clear c127
                    try clear c128
                    try clear c129
                    try clear c130
                    try clear c131
                    try clear c135
                    try clear c136
                    try clear c137
                    try clear c138
                    try clear c139
                    try clear c140
                    try clear c141
                    try clear c142
                    try clear c144
                    try clear c145
                    try clear c146
                    try clear c147
                    try clear c148
                    try clear c149
                    try clear c157
                    try clear c158
                    try clear c159
                    try clear c160
                    try clear c161
                    try clear c162
                    try clear c163
                    try clear c164
                    try clear c168
                    try clear c169
                    try clear c170
                    try clear c171
                    try clear c172
                    try clear c173
                    try clear c174
                    try clear c175
                    try clear c176
                    try clear c181
                    try clear c182
                    try clear c183
                    try clear c184
                    try clear c185
                    try clear c186
                    try clear c187
                    try clear c188
                    try clear c189
                    try clear c190
                    try clear c192
                    try clear c192b0
                    try clear c192b1
                    try clear c193
                    try clear c194
                    try clear c195
                    try clear c196
                    try clear c197
                    try clear c198
                    try clear c199
                    try clear c200
                    try clear c201
                    try clear c202
                    try clear c204
                    try clear c205
                    try clear c206
                    try clear c207
                    try clear c208
                    try clear c209
                    try clear c210
                    try clear c211
                    try clear c212
                    try clear c214
                    try clear c216
                    try clear c216b0
                    try clear c216b1
                    try clear c219
                    try clear c219b0
                    try clear c219b1
                    try clear c220
                    try clear c220b0
                    try clear c220b1
                    try clear c221
                    try clear c221b0
                    try clear c222
                    try clear c222b0
                    try clear c223
                    try clear c224
                    try clear c225
                    try clear c226
                    try clear c227
                    try clear c228
                    try clear c229
                    try clear c230
                    try clear c231
                    try clear c232
                    try clear c236
                    try clear c237
                    try clear c238
                    try clear c239
                    try clear c240
                    try clear c241
                    try clear c242
                    try clear c243
                    try clear c244
                    try clear c245
                    try clear c246
                    try clear c248
                    try clear c249
                    try clear c250
                    try clear c251
                    try clear c252
                    try clear c253
                    try clear c254
                    try clear c255
                    try clear c256
                    try clear c261
                    try clear c262
                    try clear c263
                    try clear c264
                    try clear c265
                    try clear c266
                    try clear c267
                    try clear c268
                    try clear c269
                    try clear c270
                    try clear c271
                    try clear c272
                    try clear c282
                    try clear c283
                    try clear c284
                    try clear c285
                    try clear c286
                    try clear c287
                    try clear c288
                    try clear c289
                    try clear c290
                    try clear c291
                    try clear c292
                    try clear c297
                    try clear c297b0
                    try clear c297b1
                    try clear c301
                    try clear c302
                    try clear c302b0
                    try clear c302b1
                    try clear hcz102_0 hcz102_1 hcz102_2
                    try clear hcz111_0 hcz111_1 hcz111_2
                    try clear hcz118_0 hcz118_1 hcz118_2
                    try clear hcz132_0 hcz132_1 hcz132_2
                    try clear hcz13_0 hcz13_1 hcz13_2
                    try clear hcz143_0 hcz143_1 hcz143_2
                    try clear hcz14_0 hcz14_1 hcz14_2
                    try clear hcz150_0 hcz150_1 hcz150_2
                    try clear hcz165_0 hcz165_1 hcz165_2
                    try clear hcz177_0 hcz177_1 hcz177_2
                    try clear hcz178_0 hcz178_1 hcz178_2
                    try clear hcz191_0 hcz191_1 hcz191_2
                    try clear hcz19_0 hcz19_1 hcz19_2
                    try clear hcz203_0 hcz203_1 hcz203_2
                    try clear hcz20_0 hcz20_1 hcz20_2
                    try clear hcz213_0 hcz213_1 hcz213_2
                    try clear hcz21_0 hcz21_1 hcz21_2
                    try clear hcz233_0 hcz233_1 hcz233_2
                    try clear hcz247_0 hcz247_1 hcz247_2
                    try clear hcz257_0 hcz257_1 hcz257_2
                    try clear hcz258_0 hcz258_1 hcz258_2
                    try clear hcz273_0 hcz273_1 hcz273_2
                    try clear hcz274_0 hcz274_1 hcz274_2
                    try clear hcz275_0 hcz275_1 hcz275_2
                    try clear hcz27_0 hcz27_1 hcz27_2
                    try clear hcz28_0 hcz28_1 hcz28_2
                    try clear hcz293_0 hcz293_1 hcz293_2
                    try clear hcz295_0 hcz295_1 hcz295_2
                    try clear hcz29_0 hcz29_1 hcz29_2
                    try clear hcz36_0 hcz36_1 hcz36_2
                    try clear hcz43_0 hcz43_1 hcz43_2
                    try clear hcz47_0 hcz47_1 hcz47_2
                    try clear hcz53_0 hcz53_1 hcz53_2
                    try clear hcz57_0 hcz57_1 hcz57_2
                    try clear hcz60_0 hcz60_1 hcz60_2
                    try clear hcz65_0 hcz65_1 hcz65_2
                    try clear hcz69_0 hcz69_1 hcz69_2
                    try clear hcz82_0 hcz82_1 hcz82_2
                    try clear hcz91_0 hcz91_1 hcz91_2
                    try clear hcz92_0 hcz92_1 hcz92_2
                    try clear hfz102_0 hfz102_1 hfz102_2
                    try clear hfz111_0 hfz111_1 hfz111_2
                    try clear hfz118_0 hfz118_1 hfz118_2
                    try clear hfz132_0 hfz132_1 hfz132_2
                    try clear hfz13_0 hfz13_1 hfz13_2
                    try clear hfz143_0 hfz143_1 hfz143_2
                    try clear hfz14_0 hfz14_1 hfz14_2
                    try clear hfz150_0 hfz150_1 hfz150_2
                    try clear hfz165_0 hfz165_1 hfz165_2
                    try clear hfz177_0 hfz177_1 hfz177_2
                    try clear hfz178_0 hfz178_1 hfz178_2
                    try clear hfz191_0 hfz191_1 hfz191_2
                    try clear hfz19_0 hfz19_1 hfz19_2
                    try clear hfz203_0 hfz203_1 hfz203_2
                    try clear hfz20_0 hfz20_1 hfz20_2
                    try clear hfz213_0 hfz213_1 hfz213_2
                    try clear hfz21_0 hfz21_1 hfz21_2
                    try clear hfz233_0 hfz233_1 hfz233_2
                    try clear hfz247_0 hfz247_1 hfz247_2
                    try clear hfz257_0 hfz257_1 hfz257_2
                    try clear hfz258_0 hfz258_1 hfz258_2
                    try clear hfz273_0 hfz273_1 hfz273_2
                    try clear hfz274_0 hfz274_1 hfz274_2
                    try clear hfz275_0 hfz275_1 hfz275_2
                    try clear hfz27_0 hfz27_1 hfz27_2
                    try clear hfz28_0 hfz28_1 hfz28_2
                    try clear hfz293_0 hfz293_1 hfz293_2
                    try clear hfz295_0 hfz295_1 hfz295_2
                    try clear hfz29_0 hfz29_1 hfz29_2
                    try clear hfz36_0 hfz36_1 hfz36_2
                    try clear hfz43_0 hfz43_1 hfz43_2
                    try clear hfz47_0 hfz47_1 hfz47_2
                    try clear hfz53_0 hfz53_1 hfz53_2
                    try clear hfz57_0 hfz57_1 hfz57_2
                    try clear hfz60_0 hfz60_1 hfz60_2
                    try clear hfz65_0 hfz65_1 hfz65_2
                    try clear hfz69_0 hfz69_1 hfz69_2
                    try clear hfz82_0 hfz82_1 hfz82_2
                    try clear hfz91_0 hfz91_1 hfz91_2
                    try clear hfz92_0 hfz92_1 hfz92_2
                    try clear p2
                    try clear p6
                    try clear p64
                    obtain ⟨x37_7, x38_7, rfl, rfl, HA, HK7, HO_33, BK464, BK465, BK470, BK475, BK480, BK486, BK491, BK496, BK506, BK511, BK516, BK531, HB⟩ := hrel
                    cases gk with
                    | zero => exact absurd HA.out (by simp [laws_FnBallSums.l0])
                    | succ k7 =>
                     have H := HA.out
                     clear HA
                     simp only [laws_FnBallSums.l0] at H
                     by_cases c304 : x38_7 ≥ 0
                     ·rw [if_pos c304] at H
                      have c304b0 : decide (0 ≤ x38_7) = true := decide_eq_true c304
                      clear c304
                      by_cases c305 : 0 ≤ x38_7
                      ·rw [if_pos c305] at H
                       have c305b0 : decide (0 ≤ x38_7) = true := decide_eq_true c305
                       clear c305
                       by_cases c306 : x38_7 < (t532.length : Int)
                       ·rw [if_pos c306] at H
                        have c306b0 : decide (x38_7 < (t532.length : Int)) = true := decide_eq_true c306
                        clear c306
                        have H' := Aside0.mk H
                        clear H
                        have p541 : 0 ≤ (x38_7 : Int) := of_decide_eq_true (by first | (with_reducible assumption) | assumption)
                        have q541 : x38_7 < (t532.length : Int) := of_decide_eq_true (by first | (with_reducible assumption) | assumption)
                        obtain ⟨ad541, e541, hx541_0⟩ := Kd.at_int (Kd.R_reads' HO_33.out).2.2 x38_7 p541 q541
                        cases e541
                        replace p541 := eq_true p541
                        replace q541 := eq_true q541
                        go_wp2
                        go_roundg k7
                        case measure => have := HJ7.out; have := HJ73.out; have := HJ119.out; have := HJ153.out; have := HJ214.out; have := HJ278.out; have := HK7.out; omega
                        case rel => exact ⟨(wrap64 ((wrap64 (x37_7 * t527)) + (rd t532 x38_7))), (wrap64 (x38_7 - 1)), (by first | rfl | (simp; done) | (simp [*]; done)), (by first | rfl | (simp; done) | (simp [*]; done)), H', ⟨by have := HJ7.out; have := HJ73.out; have := HJ119.out; have := HJ153.out; have := HJ214.out; have := HJ278.out; have := HK7.out; omega⟩, ⟨by (with_reducible repeat (first | apply Kd.R_alloc | apply Kd.R_drewN | apply Kd.R_drew)); exact HO_33.out⟩, ⟨be BK464⟩, ⟨be BK465⟩, ⟨be BK470⟩, ⟨be BK475⟩, ⟨be BK480⟩, ⟨be BK486⟩, ⟨be BK491⟩, ⟨be BK496⟩, ⟨be BK506⟩, ⟨be BK511⟩, ⟨be BK516⟩, ⟨be BK531⟩, ⟨by repeat (first | (with_reducible first | exact HB.out | apply below_alloc | apply pw_below_drewN | apply below_drew1 | refine below_set ?_ GE464.out | refine below_set ?_ GE465.out | refine below_set ?_ GE470.out | refine below_set ?_ GE475.out | refine below_set ?_ GE480.out | refine below_set ?_ GE486.out | refine below_set ?_ GE491.out | refine below_set ?_ GE496.out | refine below_set ?_ GE506.out | refine below_set ?_ GE511.out | refine below_set ?_ GE516.out | refine below_set ?_ GE531.out) | exact HB.out)⟩⟩
                       ·rw [if_neg c306] at H
                        exact absurd H (by simp)
                      ·rw [if_neg c305] at H
                       exact absurd H (by simp)
                     ·rw [if_neg c304] at H
                      have c304b0 : decide (0 ≤ x38_7) = false := decide_eq_false c304
                      clear c304
                      by_cases c307 : x37_7 = t529
                      ·rw [if_pos c307] at H
                       have c307b0 : (x37_7 == t529) = true := beq_iff_eq.mpr c307
                       have c307b1 : (x37_7 != t529) = false := bne_eq_false_iff_eq.mpr c307
                       clear c307
                       obtain rfl := Option.some.inj H
                       have hnb308 := NB531_464.out
                       have hnc308 := NB464_531.out
                       have hnb309 := NB531_465.out
                       have hnc309 := NB465_531.out
                       have hnb310 := NB531_470.out
                       have hnc310 := NB470_531.out
                       have hnb311 := NB531_475.out
                       have hnc311 := NB475_531.out
                       have hnb312 := NB531_480.out
                       have hnc312 := NB480_531.out
                       have hnb313 := NB531_486.out
                       have hnc313 := NB486_531.out
                       have hnb314 := NB531_491.out
                       have hnc314 := NB491_531.out
                       have hnb315 := NB531_496.out
                       have hnc315 := NB496_531.out
                       have hnb316 := NB531_506.out
                       have hnc316 := NB506_531.out
                       have hnb317 := NB531_511.out
                       have hnc317 := NB511_531.out
                       have hnb318 := NB531_516.out
                       have hnc318 := NB516_531.out
                       have hcz319_0 : wr.cell? ⟨gb531, 0, none⟩ = some (.int .i64 t528) := (blk_cell BK531.out 0).trans rfl
                       have hcz319_1 : wr.cell? ⟨gb531, 1, none⟩ = some (.int .i64 t529) := (blk_cell BK531.out 1).trans rfl
                       have hcz319_2 : wr.cell? ⟨gb531, 2, none⟩ = some (.int .i64 t530) := (blk_cell BK531.out 2).trans rfl
                       have hfz319_0 := blk_frozen BK531.out 0
                       have hfz319_1 := blk_frozen BK531.out 1
                       have hfz319_2 := blk_frozen BK531.out 2
                       go_wp2
                       go_ret
                       exact ⟨by first | rfl | (simp [errW_none, errW_some] <;> rfl) | (simp [*, errW_none, errW_some] <;> rfl), by repeat (first | (with_reducible first | exact HB.out | apply below_alloc | apply pw_below_drewN | apply below_drew1 | refine below_set ?_ GE464.out | refine below_set ?_ GE465.out | refine below_set ?_ GE470.out | refine below_set ?_ GE475.out | refine below_set ?_ GE480.out | refine below_set ?_ GE486.out | refine below_set ?_ GE491.out | refine below_set ?_ GE496.out | refine below_set ?_ GE506.out | refine below_set ?_ GE511.out | refine below_set ?_ GE516.out | refine below_set ?_ GE531.out) | exact HB.out)⟩
                      ·rw [if_neg c307] at H
                       have c307b0 : (x37_7 == t529) = false := beq_eq_false_iff_ne.mpr c307
                       have c307b1 : (x37_7 != t529) = true := bne_iff_ne.mpr c307
                       exact absurd ((Option.some.inj H).trans hr.out) (by simp)
                  ·rw [if_neg c302] at H
                   have c302b0 : (t535 == 0) = false := beq_eq_false_iff_ne.mpr c302
                   have c302b1 : (t535 != 0) = true := bne_iff_ne.mpr c302
                   obtain rfl := Option.some.inj H
                   go_wp2
                   go_ret
                   exact ⟨by first | rfl | (simp [errW_none, errW_some] <;> rfl) | (simp [*, errW_none, errW_some] <;> rfl), by repeat (first | (with_reducible first | exact HB.out | apply below_alloc | apply pw_below_drewN | apply below_drew1 | refine below_set ?_ GE464.out | refine below_set ?_ GE465.out | refine below_set ?_ GE470.out | refine below_set ?_ GE475.out | refine below_set ?_ GE480.out | refine below_set ?_ GE486.out | refine below_set ?_ GE491.out | refine below_set ?_ GE496.out | refine below_set ?_ GE506.out | refine below_set ?_ GE511.out | refine below_set ?_ GE516.out | refine below_set ?_ GE531.out) | exact HB.out)⟩

/-- THE ONE PURE STATEMENT of laws_FnBallSums: yours. -/
def laws_FnBallSums.Pure : Prop := ∀ (l0 : List Int), l0.length ≤ maxLen → l0.length * 1 ≤ 140737488351232 → (∀ x ∈ l0, (Lit.int .u8 x).wf = true) → ∃ k, laws_FnBallSums.f k l0 = some true
theorem laws_FnBallSums.walk (P : laws_FnBallSums.Pure) (a0 : Option Addr) (len0 cap0 : Nat) (z0 : List Int) (w : World) (w0 : (a0 = none ∧ len0 = 0 ∧ cap0 = 0 ∧ z0 = []) ∨ ∃ x, a0 = some x ∧ len0 ≤ cap0 ∧ cap0 ≤ maxLen ∧ z0.length = cap0 ∧ (∀ i, i < z0.length → w.cell? (x.add i) = some (.int .u8 (z0.getD i 0))) ∧ ∀ n ∈ z0, (Lit.int .u8 n).wf = true) (y0 : len0 * 1 ≤ 140737488351232) :
  Calls Try.prog 6 #[.slice a0 len0 cap0] w fun e w' => e = .returned (.bool true) ∧ Below w.heap.size w w' := by
 obtain ⟨l0, rfl, hr0, hm0, hw0, hc0⟩ := ReadsInt.ofRowC w0
 obtain ⟨k, h⟩ := P l0 hm0 y0 hw0
 refine (laws_FnBallSums.calls k _ _ l0 true w ⟨rfl⟩ (Kd.C_of_reads (d := (0 : Int)) (h1 := fun _ => rfl) hr0) hc0 h).mono ?_
 rintro e w' ⟨rfl, hd⟩
 exact ⟨rfl, hd⟩

end Go.Proofs.Ytpmepopagapeiaa.PFnBallSums

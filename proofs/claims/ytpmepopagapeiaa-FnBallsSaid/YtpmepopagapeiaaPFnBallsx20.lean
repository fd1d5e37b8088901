-- Printed by the kit's print and repaired by a program of this session.
import Derived.Test.YtpmepopagapeiaaPFnBallsx0
import Derived.Test.YtpmepopagapeiaaPFnBallsx1
import Derived.Test.YtpmepopagapeiaaPFnBallsx2
import Derived.Test.YtpmepopagapeiaaPFnBallsx3
import Derived.Test.YtpmepopagapeiaaPFnBallsx4
import Derived.Test.YtpmepopagapeiaaPFnBallsx5
import Derived.Test.YtpmepopagapeiaaPFnBallsx7
import Derived.Test.YtpmepopagapeiaaPFnBallsx8
import Derived.Test.YtpmepopagapeiaaPFnBallsx9
import Derived.Test.YtpmepopagapeiaaPFnBallsx11
import Derived.Test.YtpmepopagapeiaaPFnBallsx13
import Derived.Test.YtpmepopagapeiaaPFnBallsx14
import Derived.Test.YtpmepopagapeiaaPFnBallsx15
import Derived.Test.YtpmepopagapeiaaPFnBallsx16
import Derived.Test.YtpmepopagapeiaaPFnBallsx18
import Derived.Test.YtpmepopagapeiaaPFnBallsx19
import Derived.Deep.Light
namespace Go.Proofs.Ytpmepopagapeiaa.PFnBalls
open Go.RowKit Go.Proofs.YtpmepopagapeiaaW.PrintWords Go.Proofs.YtpmepopagapeiaaW.PrintLast Go.Proofs.YtpmepopagapeiaaW.PrintMore
attribute [local go_sem] max2_int min2_int max_two min_two max_three min_three max_four min_four
set_option linter.unusedVariables false
set_option linter.unusedSimpArgs false

attribute [local go_sem high] eqA27 eqA63
/-! ### laws_FnBalls: function 10 -/
mutual
def laws_FnBalls.j0 : Nat → List Int → Int → Int → Int → Int → Bool → Int → Int → Int → Option (Bool)
 | 0, _, _, _, _, _, _, _, _, _ => none
 | k + 1, x0, x3, x4, x5, x8, x88, x637000, x637001, x637002 => if x88 = true then (some false) else (if x8 = 0 then (if x4 ≥ (-1000000) then (if x4 ≤ 1000000 then (if x5 ≥ (-1000000) then (laws_FnBalls.j1 k x0 x3 x4 x5 (decide (x5 ≤ 1000000)) x637000 x637001 x637002) else (laws_FnBalls.j1 k x0 x3 x4 x5 false x637000 x637001 x637002)) else (laws_FnBalls.j1 k x0 x3 x4 x5 false x637000 x637001 x637002)) else (laws_FnBalls.j1 k x0 x3 x4 x5 false x637000 x637001 x637002)) else (laws_FnBalls.j1 k x0 x3 x4 x5 false x637000 x637001 x637002))
def laws_FnBalls.j1 : Nat → List Int → Int → Int → Int → Bool → Int → Int → Int → Option (Bool)
 | 0, _, _, _, _, _, _, _, _ => none
 | k + 1, x0, x3, x4, x5, x106, x637000, x637001, x637002 => if x106 = true then ((impl_HoldsFraction.f k x3 x637000 x637001 x637002 x4 x5).bind fun bt642 => (if bt642.2 = 0 then (if bt642.1 = true then ((impl_IsBall.f k x3 x637000 x637001 x637002).bind fun t644 => (if t644 = true then (laws_FnBalls.j2 k x0) else (some false))) else (some false)) else (some false))) else (laws_FnBalls.j2 k x0)
def laws_FnBalls.j2 : Nat → List Int → Option (Bool)
 | 0, _ => none
 | k + 1, x0 => (spec_DrawCentreOf.f k x0).bind fun bt645 => ((impl_CentreOf.f k bt645.1 bt645.2.1 bt645.2.2.1 bt645.2.2.2).bind fun bt650 => ((spec_CentreOf.f k bt645.1 bt645.2.1 bt645.2.2.1 bt645.2.2.2).bind fun bt654 => (if bt650.2.2 = bt654.2.2 then (if (!(bt650.1 == bt654.1) || (!(bt650.2.1 == bt654.2.1))) = true then (laws_FnBalls.j3 k x0 bt645.1 bt650.2.2 true bt645.2.1 bt645.2.2.1 bt645.2.2.2 bt650.1 bt650.2.1) else ((impl_IsBall.f k bt645.1 bt645.2.1 bt645.2.2.1 bt645.2.2.2).bind fun t658 => ((spec_IsBall.f k bt645.1 bt645.2.1 bt645.2.2.1 bt645.2.2.2).bind fun t659 => (laws_FnBalls.j3 k x0 bt645.1 bt650.2.2 (t658 != t659) bt645.2.1 bt645.2.2.1 bt645.2.2.2 bt650.1 bt650.2.1)))) else (laws_FnBalls.j3 k x0 bt645.1 bt650.2.2 true bt645.2.1 bt645.2.2.1 bt645.2.2.2 bt650.1 bt650.2.1))))
def laws_FnBalls.j3 : Nat → List Int → Int → Int → Bool → Int → Int → Int → Int → Int → Option (Bool)
 | 0, _, _, _, _, _, _, _, _, _ => none
 | k + 1, x0, x13, x16, x160, x650000, x650001, x650002, x654000, x654001 => if x160 = true then (some false) else (if x16 = 0 then ((impl_BallOfEnd.f k x13 x654000 x654001 x650000).bind fun bt660 => (if bt660.2.2.2 = 0 then (if (!(bt660.1 == x650000) || (!(bt660.2.1 == x650001) || (!(bt660.2.2.1 == x650002)))) = true then (some false) else (laws_FnBalls.j4 k x0)) else (some false))) else (laws_FnBalls.j4 k x0))
def laws_FnBalls.j4 : Nat → List Int → Option (Bool)
 | 0, _ => none
 | k + 1, x0 => (spec_DrawAreApart.f k x0).bind fun bt665 => ((impl_AreApart.f k bt665.1 bt665.2.1 bt665.2.2.1 bt665.2.2.2.1 bt665.2.2.2.2.1 bt665.2.2.2.2.2.1 bt665.2.2.2.2.2.2).bind fun bt674 => ((spec_AreApart.f k bt665.1 bt665.2.1 bt665.2.2.1 bt665.2.2.2.1 bt665.2.2.2.2.1 bt665.2.2.2.2.2.1 bt665.2.2.2.2.2.2).bind fun bt676 => (if bt674.2 = bt676.2 then (laws_FnBalls.j5 k x0 bt665.1 bt674.1 bt674.2 (bt674.1 != bt676.1) bt665.2.1 bt665.2.2.1 bt665.2.2.2.1 bt665.2.2.2.2.1 bt665.2.2.2.2.2.1 bt665.2.2.2.2.2.2) else (laws_FnBalls.j5 k x0 bt665.1 bt674.1 bt674.2 true bt665.2.1 bt665.2.2.1 bt665.2.2.2.1 bt665.2.2.2.2.1 bt665.2.2.2.2.2.1 bt665.2.2.2.2.2.2))))
def laws_FnBalls.j5 : Nat → List Int → Int → Bool → Int → Bool → Int → Int → Int → Int → Int → Int → Option (Bool)
 | 0, _, _, _, _, _, _, _, _, _, _, _ => none
 | k + 1, x0, x21, x24, x25, x205, x673000, x673001, x673002, x674000, x674001, x674002 => if x205 = true then (some false) else (if x25 = 0 then ((impl_HoldsBall.f k x21 x673000 x673001 x673002 x674000 x674001 x674002).bind fun bt678 => ((impl_HoldsBall.f k x21 x674000 x674001 x674002 x673000 x673001 x673002).bind fun bt680 => (if bt678.2 = 0 then (if bt680.2 = 0 then (if bt678.1 = true then (if (x24 == true) = true then (some false) else (if (bt680.1 != (x673000 == x674000 && (x673001 == x674001 && (x673002 == x674002)))) = true then (some false) else (laws_FnBalls.j6 k x0))) else (if (x24 == bt680.1) = true then (some false) else (if (false != (x673000 == x674000 && (x673001 == x674001 && (x673002 == x674002)))) = true then (some false) else (laws_FnBalls.j6 k x0)))) else (some false)) else (some false)))) else (laws_FnBalls.j6 k x0))
def laws_FnBalls.j6 : Nat → List Int → Option (Bool)
 | 0, _ => none
 | k + 1, x0 => (spec_DrawValuationOf.f k x0).bind fun bt682 => ((impl_ValuationOf.f k bt682.1 bt682.2.1 bt682.2.2).bind fun bt685 => ((spec_ValuationOf.f k bt682.1 bt682.2.1 bt682.2.2).bind fun bt687 => (if bt685.2 = bt687.2 then (laws_FnBalls.j7 k x0 bt682.1 bt682.2.1 bt682.2.2 bt685.1 bt685.2 (bt685.1 != bt687.1)) else (laws_FnBalls.j7 k x0 bt682.1 bt682.2.1 bt682.2.2 bt685.1 bt685.2 true))))
def laws_FnBalls.j7 : Nat → List Int → Int → Int → Int → Int → Int → Bool → Option (Bool)
 | 0, _, _, _, _, _, _, _ => none
 | k + 1, x0, x32, x33, x34, x35, x36, x273 => if x273 = true then (some false) else (if x36 = 0 then ((impl_ValuationOf.f k x32 x34 x33).bind fun bt689 => (if bt689.2 = 0 then (if bt689.1 = (wrap64 (-x35)) then (laws_FnBalls.j8 k x0) else (some false)) else (some false))) else (laws_FnBalls.j8 k x0))
def laws_FnBalls.j8 : Nat → List Int → Option (Bool)
 | 0, _ => none
 | k + 1, x0 => (spec_DrawHoldsFraction.f k x0).bind fun bt691 => ((impl_HoldsFraction.f k bt691.1 bt691.2.1 bt691.2.2.1 bt691.2.2.2.1 bt691.2.2.2.2.1 bt691.2.2.2.2.2).bind fun bt698 => ((spec_HoldsFraction.f k bt691.1 bt691.2.1 bt691.2.2.1 bt691.2.2.2.1 bt691.2.2.2.2.1 bt691.2.2.2.2.2).bind fun bt700 => ((spec_DrawHoldsBall.f k x0).bind fun bt702 => ((impl_HoldsBall.f k bt702.1 bt702.2.1 bt702.2.2.1 bt702.2.2.2.1 bt702.2.2.2.2.1 bt702.2.2.2.2.2.1 bt702.2.2.2.2.2.2).bind fun bt711 => ((spec_HoldsBall.f k bt702.1 bt702.2.1 bt702.2.2.1 bt702.2.2.2.1 bt702.2.2.2.2.1 bt702.2.2.2.2.2.1 bt702.2.2.2.2.2.2).bind fun bt713 => (if bt698.2 = bt700.2 then (if (bt698.1 == bt700.1) = true then (if bt711.2 = bt713.2 then (some (bt711.1 == bt713.1)) else (some false)) else (some false)) else (some false)))))))
end
def laws_FnBalls.f (k : Nat) (l0 : List Int) : Option (Bool) := (laws_big.f l0).bind fun t627 => (if t627 = true then (some true) else ((spec_DrawBallOf.f k l0).bind fun bt628 => ((impl_BallOf.f k bt628.1 bt628.2.1 bt628.2.2.1 bt628.2.2.2).bind fun bt632 => ((spec_BallOf.f k bt628.1 bt628.2.1 bt628.2.2.1 bt628.2.2.2).bind fun bt637 => (if bt632.2.2.2 = bt637.2.2.2 then (laws_FnBalls.j0 k l0 bt628.1 bt628.2.1 bt628.2.2.1 bt632.2.2.2 (!(bt632.1 == bt637.1) || (!(bt632.2.1 == bt637.2.1) || (!(bt632.2.2.1 == bt637.2.2.1)))) bt632.1 bt632.2.1 bt632.2.2.1) else (laws_FnBalls.j0 k l0 bt628.1 bt628.2.1 bt628.2.2.1 bt632.2.2.2 true bt632.1 bt632.2.1 bt632.2.2.1))))))
def laws_FnBalls.T15 : Bool × List (List Nat × List Nat) := (true, [([], []), ([], []), ([0, 1], [0, 1]), ([2], [2]), ([3], [3]), ([3], [3]), ([4, 5, 3], [3, 4, 5]), ([3, 6], [3, 6]), ([7, 3], [7]), ([8], [8]), ([8], [8]), ([9, 10, 8, 8], [8, 9, 10]), ([8], [8]), ([8], [8]), ([12, 13, 11, 8], [8, 12, 13]), ([11, 14, 8], [8, 11, 14]), ([8, 15], [8, 15])])
def laws_FnBalls.B15 : List Nat := [0, 0, 3, 7, 15, 15, 63, 127, 255, 511, 511, 2047, 511, 511, 16383, 32767, 65535]
theorem laws_FnBalls.tab15 : rtab .any (opsOf Try.f10 15) = laws_FnBalls.T15 := by kernel_rfl
theorem laws_FnBalls.bits15 : waitsOk laws_FnBalls.T15.2 laws_FnBalls.B15 = true := by kernel_rfl
def sufO : Nat → Option Code → Option Code
  | 0, c => c
  | n + 1, some (.seq _ b) => sufO n (some b)
  | _, _ => none
def sufM : Nat → Option Code → Option Code
  | 0, c => c
  | 1, some (.seq (.seq _ b) _) => some b
  | n + 1, some (.seq (.seq _ b) c) => sufM n (some (.seq b c))
  | _, _ => none
theorem sufWp {P : Program} {o : Option Code} {c : Code} {Q : Exit → Act → World → Prop} {a : Act} {w : World} (h : o = some c) (hw : Code.wp P c Q a w) : Code.wp P (o.getD .ret) Q a w := by
  subst h; exact hw
def laws_FnBalls.Pure : Prop := ∀ (l0 : List Int), l0.length ≤ maxLen → l0.length * 1 ≤ 140737488351232 → (∀ x ∈ l0, (Lit.int .u8 x).wf = true) → ∃ k, laws_FnBalls.f k l0 = some true
end Go.Proofs.Ytpmepopagapeiaa.PFnBalls

-- Printed by the kit's print and repaired by a program of this session.
import Derived.Test.YtgdkmchphpjifaaGreatDoorPFnEndsx0
import Derived.Test.YtgdkmchphpjifaaGreatDoorPFnEndsx1
import Derived.Test.YtgdkmchphpjifaaGreatDoorPFnEndsx2
import Derived.Test.YtgdkmchphpjifaaGreatDoorPFnEndsx3
import Derived.Test.YtgdkmchphpjifaaGreatDoorPFnEndsx4
import Derived.Test.YtgdkmchphpjifaaGreatDoorPFnEndsx7
import Derived.Test.YtgdkmchphpjifaaGreatDoorPFnEndsx9
import Derived.Test.YtgdkmchphpjifaaGreatDoorPFnEndsx10
import Derived.Test.YtgdkmchphpjifaaGreatDoorPFnEndsx11
import Derived.Test.YtgdkmchphpjifaaGreatDoorPFnEndsx12
import Derived.Test.YtgdkmchphpjifaaGreatDoorPFnEndsx13
import Derived.Test.YtgdkmchphpjifaaGreatDoorPFnEndsx16
import Derived.Test.YtgdkmchphpjifaaGreatDoorPFnEndsx17
import Derived.Test.YtgdkmchphpjifaaGreatDoorPFnEndsx19
import Derived.Deep.Light
namespace Go.Proofs.YtgdkmchphpjifaaGreatDoor.PFnEnds
open Go.RowKit Go.Proofs.YtgdkmchphpjifaaGreatDoorW.PrintWords Go.Proofs.YtgdkmchphpjifaaGreatDoorW.PrintLast Go.Proofs.YtgdkmchphpjifaaGreatDoorW.PrintMore
attribute [local go_sem] max2_int min2_int max_two min_two max_three min_three max_four min_four
set_option linter.unusedVariables false
set_option linter.unusedSimpArgs false

attribute [local go_sem high] eqA27 eqA35
/-! ### laws_FnEnds: function 3 -/
mutual
def laws_FnEnds.j0 : Nat → List Int → Int → Bool → Int → Int → Option (Bool)
 | 0, _, _, _, _, _ => none
 | k + 1, x0, x6, x73, x679000, x679001 => if x73 = true then (some false) else (if x6 = 0 then ((impl_EndText.f k x679000 x679001).bind fun bt683 => ((impl_ParseEnd.f k bt683.1).bind fun bt685 => ((impl_EndOf.f k x679000 x679001).bind fun bt689 => (if bt683.2 = 0 then (if bt685.2.2 = 0 then (if bt689.2.2 = 0 then (if (!(bt685.1 == x679000) || (!(bt685.2.1 == x679001))) = true then (some false) else (if (!(bt689.1 == x679000) || (!(bt689.2.1 == x679001))) = true then (some false) else ((impl_IsEnd.f k x679000 x679001).bind fun t693 => (if t693 = true then (laws_FnEnds.j1 k x0) else (some false))))) else (some false)) else (some false)) else (some false))))) else (laws_FnEnds.j1 k x0))
def laws_FnEnds.j1 : Nat → List Int → Option (Bool)
 | 0, _ => none
 | k + 1, x0 => (spec_DrawBallText.f k x0).bind fun bt694 => ((impl_BallText.f k bt694.1 bt694.2.1 bt694.2.2.1 bt694.2.2.2).bind fun bt699 => ((spec_BallText.f k bt694.1 bt694.2.1 bt694.2.2.1 bt694.2.2.2).bind fun bt701 => (if bt699.2 = bt701.2 then (laws_FnEnds.j2 k x0 bt694.1 bt699.1 bt699.2 (bt699.1.toList != bt701.1.toList) bt694.2.1 bt694.2.2.1 bt694.2.2.2) else (laws_FnEnds.j2 k x0 bt694.1 bt699.1 bt699.2 true bt694.2.1 bt694.2.2.1 bt694.2.2.2))))
def laws_FnEnds.j2 : Nat → List Int → Int → ByteArray → Int → Bool → Int → Int → Int → Option (Bool)
 | 0, _, _, _, _, _, _, _, _ => none
 | k + 1, x0, x15, x17, x18, x143, x699000, x699001, x699002 => if x143 = true then (some false) else (if x18 = 0 then ((impl_ParseBall.f k x15 x17).bind fun bt703 => (if bt703.2.2.2 = 0 then (if (!(bt703.1 == x699000) || (!(bt703.2.1 == x699001) || (!(bt703.2.2.1 == x699002)))) = true then (some false) else (laws_FnEnds.j3 k x0)) else (some false))) else (laws_FnEnds.j3 k x0))
def laws_FnEnds.j3 : Nat → List Int → Option (Bool)
 | 0, _ => none
 | k + 1, x0 => (spec_DrawParseBall.f k x0).bind fun bt708 => ((impl_ParseBall.f k bt708.1 bt708.2).bind fun bt710 => ((spec_ParseBall.f k bt708.1 bt708.2).bind fun bt715 => ((spec_DrawParseEnd.f k x0).bind fun t720 => ((impl_ParseEnd.f k t720).bind fun bt721 => ((spec_ParseEnd.f k t720).bind fun bt725 => ((spec_DrawBallOfEnd.f k x0).bind fun bt729 => ((impl_BallOfEnd.f k bt729.1 bt729.2.1 bt729.2.2.1 bt729.2.2.2).bind fun bt734 => ((spec_BallOfEnd.f k bt729.1 bt729.2.1 bt729.2.2.1 bt729.2.2.2).bind fun bt739 => ((spec_DrawEndText.f k x0).bind fun bt744 => ((impl_EndText.f k bt744.1 bt744.2).bind fun bt747 => ((spec_EndText.f k bt744.1 bt744.2).bind fun bt749 => ((spec_DrawIsEnd.f k x0).bind fun bt751 => (if bt710.2.2.2 = bt715.2.2.2 then (if (bt710.1 == bt715.1 && (bt710.2.1 == bt715.2.1 && (bt710.2.2.1 == bt715.2.2.1))) = true then (if bt721.2.2 = bt725.2.2 then (if (bt721.1 == bt725.1 && (bt721.2.1 == bt725.2.1)) = true then (if bt734.2.2.2 = bt739.2.2.2 then (if (bt734.1 == bt739.1 && (bt734.2.1 == bt739.2.1 && (bt734.2.2.1 == bt739.2.2.1))) = true then (if bt747.2 = bt749.2 then (if bt747.1.toList = bt749.1.toList then ((impl_IsEnd.f k bt751.1 bt751.2).bind fun t754 => ((spec_IsEnd.f k bt751.1 bt751.2).bind fun t755 => (some (t754 == t755)))) else (some false)) else (some false)) else (some false)) else (some false)) else (some false)) else (some false)) else (some false)) else (some false))))))))))))))
end
def laws_FnEnds.f (k : Nat) (l0 : List Int) : Option (Bool) := (laws_big.f l0).bind fun t672 => (if t672 = true then (some true) else ((spec_DrawEndOf.f k l0).bind fun bt673 => ((impl_EndOf.f k bt673.1 bt673.2).bind fun bt675 => ((spec_EndOf.f k bt673.1 bt673.2).bind fun bt679 => (if bt675.2.2 = bt679.2.2 then (laws_FnEnds.j0 k l0 bt675.2.2 (!(bt675.1 == bt679.1) || (!(bt675.2.1 == bt679.2.1))) bt675.1 bt675.2.1) else (laws_FnEnds.j0 k l0 bt675.2.2 true bt675.1 bt675.2.1))))))
def laws_FnEnds.T36 : Bool × List (List Nat × List Nat) := (true, [([], []), ([], []), ([0, 1], [0, 1]), ([2], [2]), ([3], [3]), ([3], [3]), ([4, 5, 3], [3, 4, 5]), ([3, 6], [3, 6]), ([7, 3], [7]), ([8], [8]), ([8], [8]), ([9, 10, 8], [8, 9, 10]), ([8, 11], [8, 11]), ([12, 8], [12]), ([13], [13]), ([13], [13]), ([14, 15, 13], [13, 14, 15]), ([13, 16], [13, 16]), ([17, 13], [17]), ([18], [18]), ([18], [18]), ([19, 20, 18], [18, 19, 20]), ([18, 21], [18, 21]), ([22, 18], [22]), ([23], [23]), ([23], [23]), ([24, 25, 23], [23, 24, 25]), ([23, 26], [23, 26]), ([27, 23], [27]), ([28], [28]), ([28], [28]), ([29, 30, 28], [28, 29, 30]), ([28, 31], [28, 31]), ([32, 28], [32]), ([33], [33]), ([33], [33]), ([34, 35, 33], [33, 34, 35]), ([33, 36], [33, 36]), ([37, 33], [37]), ([38], [38]), ([39, 38, 38], [38, 39]), ([38], [38]), ([41, 40, 38], [38, 41]), ([40, 42, 38], [38, 40, 42]), ([38, 43], [38, 43]), ([44, 42, 0, 1, 2, 3, 4, 5, 6, 7, 8, 9, 10, 11, 12, 13, 14, 15, 16, 17, 18, 19, 20, 21, 22, 23, 24, 25, 26, 27, 28, 29, 30, 31, 32, 33, 34, 35, 36, 37, 38, 39, 40, 41, 42, 43, 44], [44])])
def laws_FnEnds.B36 : List Nat := [0, 0, 3, 7, 15, 15, 63, 127, 255, 511, 511, 2047, 4095, 8191, 16383, 16383, 65535, 131071, 262143, 524287, 524287, 2097151, 4194303, 8388607, 16777215, 16777215, 67108863, 134217727, 268435455, 536870911, 536870911, 2147483647, 4294967295, 8589934591, 17179869183, 17179869183, 68719476735, 137438953471, 274877906943, 549755813887, 1099511627775, 549755813887, 4398046511103, 8796093022207, 17592186044415, 35184372088831]
theorem laws_FnEnds.tab36 : rtab .any (opsOf Tryz.f3 36) = laws_FnEnds.T36 := by kernel_rfl
theorem laws_FnEnds.bits36 : waitsOk laws_FnEnds.T36.2 laws_FnEnds.B36 = true := by kernel_rfl
def sufO : Nat → Option Code → Option Code
  | 0, c => c
  | n + 1, some (.seq _ b) => sufO n (some b)
  | _, _ => none
def sufM : Nat → Option Code → Option Code
  | 0, c => c
  | 1, some (.seq (.seq _ b) _) => some b
  | n + 1, some (.seq (.seq _ b) c) => sufM n (some (.seq b c))
  | _, _ => none
theorem sufWp {P : Program} {o : Option Code} {c : Code} {Q : Exit → Act → World → Prop} {a : Act} {w : World} (h : o = some c) (hw : Code.wp P c Q a w) : Code.wp P (o.getD .ret) Q a w := by
  subst h; exact hw
def laws_FnEnds.Pure : Prop := ∀ (l0 : List Int), l0.length ≤ maxLen → l0.length * 1 ≤ 140737488351232 → (∀ x ∈ l0, (Lit.int .u8 x).wf = true) → ∃ k, laws_FnEnds.f k l0 = some true
end Go.Proofs.YtgdkmchphpjifaaGreatDoor.PFnEnds

-- Printed by the kit's print and repaired by a program of this session.
import Derived.Test.YtkfodnlogflcpaaPFnLatticesx0
import Derived.Test.YtkfodnlogflcpaaPFnLatticesx1
import Derived.Test.YtkfodnlogflcpaaPFnLatticesx2
import Derived.Test.YtkfodnlogflcpaaPFnLatticesx3
import Derived.Test.YtkfodnlogflcpaaPFnLatticesx6
import Derived.Test.YtkfodnlogflcpaaPFnLatticesx7
import Derived.Test.YtkfodnlogflcpaaPFnLatticesx8
import Derived.Test.YtkfodnlogflcpaaPFnLatticesx9
import Derived.Test.YtkfodnlogflcpaaPFnLatticesx10
import Derived.Test.YtkfodnlogflcpaaPFnLatticesx11
import Derived.Test.YtkfodnlogflcpaaPFnLatticesx12
import Derived.Test.YtkfodnlogflcpaaPFnLatticesx13
import Derived.Test.YtkfodnlogflcpaaPFnLatticesx14
import Derived.Test.YtkfodnlogflcpaaPFnLatticesx15
import Derived.Test.YtkfodnlogflcpaaPFnLatticesx19
import Derived.Test.YtkfodnlogflcpaaPFnLatticesx20
import Derived.Test.YtkfodnlogflcpaaPFnLatticesx21
import Derived.Deep.Light
namespace Go.Proofs.Ytkfodnlogflcpaa.PFnLattices
open Go.RowKit Go.Proofs.YtkfodnlogflcpaaW.PrintWords Go.Proofs.YtkfodnlogflcpaaW.PrintLast Go.Proofs.YtkfodnlogflcpaaW.PrintMore
attribute [local go_sem] max2_int min2_int max_two min_two max_three min_three max_four min_four
set_option linter.unusedVariables false
set_option linter.unusedSimpArgs false

attribute [local go_sem high] eqA27 eqA50
/-! ### laws_FnLattices: function 4 -/
mutual
def laws_FnLattices.j0 : Nat → List Int → Int → Int → Int → Int → Int → Int → Bool → Int → Int → Int → Option (Bool)
 | 0, _, _, _, _, _, _, _, _, _, _, _ => none
 | k + 1, x0, x3, x4, x5, x6, x7, x9, x94, x793000, x793001, x793002 => if x94 = true then (some false) else (if x9 = 0 then ((impl_LatticeOf.f k x3 x5 x4 x7 x6).bind fun bt798 => ((impl_HoldsVector.f k x3 x793000 x793001 x793002 x4 x6).bind fun bt803 => ((impl_HoldsVector.f k x3 x793000 x793001 x793002 x5 x7).bind fun bt805 => ((impl_IndexOf.f k x3 x793000 x793001 x793002).bind fun bt807 => ((impl_ValuationOf.f k x3 (wrap64 ((wrap64 (x4 * x7)) - (wrap64 (x5 * x6)))) 1).bind fun bt809 => (if bt798.2.2.2 = 0 then (if bt803.2 = 0 then (if bt805.2 = 0 then (if bt807.2 = 0 then (if bt809.2 = 0 then (if (!(bt798.1 == x793000) || (!(bt798.2.1 == x793001) || (!(bt798.2.2.1 == x793002)))) = true then (some false) else (if bt803.1 = true then (if bt805.1 = true then (if bt807.1 = bt809.1 then ((impl_IsLattice.f k x3 x793000 x793001 x793002).bind fun t811 => (if t811 = true then (laws_FnLattices.j1 k x0) else (some false))) else (some false)) else (some false)) else (some false))) else (some false)) else (some false)) else (some false)) else (some false)) else (some false))))))) else (laws_FnLattices.j1 k x0))
def laws_FnLattices.j1 : Nat → List Int → Option (Bool)
 | 0, _ => none
 | k + 1, x0 => (spec_DrawPrimitiveOf.f k x0).bind fun bt812 => ((impl_PrimitiveOf.f k bt812.1 bt812.2.1 bt812.2.2.1 bt812.2.2.2).bind fun bt817 => ((spec_PrimitiveOf.f k bt812.1 bt812.2.1 bt812.2.2.1 bt812.2.2.2).bind fun bt823 => (if bt817.2.2.2.2 = bt823.2.2.2.2 then (if (!(bt817.1 == bt823.1) || (!(bt817.2.1 == bt823.2.1) || (!(bt817.2.2.1 == bt823.2.2.1)))) = true then (laws_FnLattices.j2 k x0 bt812.1 bt817.2.2.2.2 true bt812.2.1 bt812.2.2.1 bt812.2.2.2 bt817.1 bt817.2.1 bt817.2.2.1) else (if bt817.2.2.2.1 = bt823.2.2.2.1 then ((impl_IsLattice.f k bt812.1 bt812.2.1 bt812.2.2.1 bt812.2.2.2).bind fun t829 => ((spec_IsLattice.f k bt812.1 bt812.2.1 bt812.2.2.1 bt812.2.2.2).bind fun t830 => (laws_FnLattices.j2 k x0 bt812.1 bt817.2.2.2.2 (t829 != t830) bt812.2.1 bt812.2.2.1 bt812.2.2.2 bt817.1 bt817.2.1 bt817.2.2.1))) else (laws_FnLattices.j2 k x0 bt812.1 bt817.2.2.2.2 true bt812.2.1 bt812.2.2.1 bt812.2.2.2 bt817.1 bt817.2.1 bt817.2.2.1))) else (laws_FnLattices.j2 k x0 bt812.1 bt817.2.2.2.2 true bt812.2.1 bt812.2.2.1 bt812.2.2.2 bt817.1 bt817.2.1 bt817.2.2.1))))
def laws_FnLattices.j2 : Nat → List Int → Int → Int → Bool → Int → Int → Int → Int → Int → Int → Option (Bool)
 | 0, _, _, _, _, _, _, _, _, _, _ => none
 | k + 1, x0, x22, x26, x222, x817000, x817001, x817002, x823000, x823001, x823002 => if x222 = true then (some false) else (if x26 = 0 then ((impl_AreOneClass.f k x22 x817000 x817001 x817002 x823000 x823001 x823002).bind fun bt831 => ((impl_BallOfLattice.f k x22 x817000 x817001 x817002).bind fun bt833 => ((impl_BallOfLattice.f k x22 x823000 x823001 x823002).bind fun bt838 => (if bt831.2 = 0 then (if bt831.1 = true then (if bt833.2.2.2 = bt838.2.2.2 then (laws_FnLattices.j3 k x0 x22 bt833.2.2.2 (!(bt833.1 == bt838.1) || (!(bt833.2.1 == bt838.2.1) || (!(bt833.2.2.1 == bt838.2.2.1)))) x823000 x823001 x823002 bt833.1 bt833.2.1 bt833.2.2.1) else (laws_FnLattices.j3 k x0 x22 bt833.2.2.2 true x823000 x823001 x823002 bt833.1 bt833.2.1 bt833.2.2.1)) else (laws_FnLattices.j3 k x0 x22 bt833.2.2.2 true x823000 x823001 x823002 bt833.1 bt833.2.1 bt833.2.2.1)) else (laws_FnLattices.j3 k x0 x22 bt833.2.2.2 true x823000 x823001 x823002 bt833.1 bt833.2.1 bt833.2.2.1))))) else (laws_FnLattices.j4 k x0))
def laws_FnLattices.j4 : Nat → List Int → Option (Bool)
 | 0, _ => none
 | k + 1, x0 => (spec_DrawLatticeOfBall.f k x0).bind fun bt848 => ((impl_LatticeOfBall.f k bt848.1 bt848.2.1 bt848.2.2.1 bt848.2.2.2).bind fun bt853 => ((spec_LatticeOfBall.f k bt848.1 bt848.2.1 bt848.2.2.1 bt848.2.2.2).bind fun bt858 => ((spec_DrawAreOneClass.f k x0).bind fun bt863 => ((impl_AreOneClass.f k bt863.1 bt863.2.1 bt863.2.2.1 bt863.2.2.2.1 bt863.2.2.2.2.1 bt863.2.2.2.2.2.1 bt863.2.2.2.2.2.2).bind fun bt872 => ((spec_AreOneClass.f k bt863.1 bt863.2.1 bt863.2.2.1 bt863.2.2.2.1 bt863.2.2.2.2.1 bt863.2.2.2.2.2.1 bt863.2.2.2.2.2.2).bind fun bt874 => ((spec_DrawHoldsVector.f k x0).bind fun bt876 => ((impl_HoldsVector.f k bt876.1 bt876.2.1 bt876.2.2.1 bt876.2.2.2.1 bt876.2.2.2.2.1 bt876.2.2.2.2.2).bind fun bt883 => ((spec_HoldsVector.f k bt876.1 bt876.2.1 bt876.2.2.1 bt876.2.2.2.1 bt876.2.2.2.2.1 bt876.2.2.2.2.2).bind fun bt885 => (if bt853.2.2.2 = bt858.2.2.2 then (if (bt853.1 == bt858.1 && (bt853.2.1 == bt858.2.1 && (bt853.2.2.1 == bt858.2.2.1))) = true then (if bt872.2 = bt874.2 then (if (bt872.1 == bt874.1) = true then (if bt883.2 = bt885.2 then (some (bt883.1 == bt885.1)) else (some false)) else (some false)) else (some false)) else (some false)) else (some false))))))))))
def laws_FnLattices.j3 : Nat → List Int → Int → Int → Bool → Int → Int → Int → Int → Int → Int → Option (Bool)
 | 0, _, _, _, _, _, _, _, _, _, _ => none
 | k + 1, x0, x22, x33, x259, x823000, x823001, x823002, x838000, x838001, x838002 => if x259 = true then (some false) else (if x33 = 0 then ((impl_LatticeOfBall.f k x22 x838000 x838001 x838002).bind fun bt843 => (if bt843.2.2.2 = 0 then (if (!(bt843.1 == x823000) || (!(bt843.2.1 == x823001) || (!(bt843.2.2.1 == x823002)))) = true then (some false) else (laws_FnLattices.j4 k x0)) else (some false))) else (laws_FnLattices.j4 k x0))
end
def laws_FnLattices.f (k : Nat) (l0 : List Int) : Option (Bool) := (laws_big.f l0).bind fun t782 => (if t782 = true then (some true) else ((spec_DrawLatticeOf.f k l0).bind fun bt783 => ((impl_LatticeOf.f k bt783.1 bt783.2.1 bt783.2.2.1 bt783.2.2.2.1 bt783.2.2.2.2).bind fun bt788 => ((spec_LatticeOf.f k bt783.1 bt783.2.1 bt783.2.2.1 bt783.2.2.2.1 bt783.2.2.2.2).bind fun bt793 => (if bt788.2.2.2 = bt793.2.2.2 then (laws_FnLattices.j0 k l0 bt783.1 bt783.2.1 bt783.2.2.1 bt783.2.2.2.1 bt783.2.2.2.2 bt788.2.2.2 (!(bt788.1 == bt793.1) || (!(bt788.2.1 == bt793.2.1) || (!(bt788.2.2.1 == bt793.2.2.1)))) bt788.1 bt788.2.1 bt788.2.2.1) else (laws_FnLattices.j0 k l0 bt783.1 bt783.2.1 bt783.2.2.1 bt783.2.2.2.1 bt783.2.2.2.2 bt788.2.2.2 true bt788.1 bt788.2.1 bt788.2.2.1))))))
def laws_FnLattices.T19 : Bool × List (List Nat × List Nat) := (true, [([], []), ([], []), ([0, 1], [0, 1]), ([2], [2]), ([3], [3]), ([3], [3]), ([4, 5, 3], [3, 4, 5]), ([3, 6], [3, 6]), ([7, 3], [7]), ([8], [8]), ([8], [8]), ([9, 10, 8], [8, 9, 10]), ([8, 11], [8, 11]), ([12, 8], [12]), ([13], [13]), ([13], [13]), ([14, 15, 13, 13], [13, 14, 15]), ([13], [13]), ([13], [13]), ([17, 18, 16, 13], [13, 17, 18]), ([16, 19, 13], [13, 16, 19]), ([13, 20], [13, 20])])
def laws_FnLattices.B19 : List Nat := [0, 0, 3, 7, 15, 15, 63, 127, 255, 511, 511, 2047, 4095, 8191, 16383, 16383, 65535, 16383, 16383, 524287, 1048575, 2097151]
theorem laws_FnLattices.tab19 : rtab .any (opsOf Try.f4 19) = laws_FnLattices.T19 := by kernel_rfl
theorem laws_FnLattices.bits19 : waitsOk laws_FnLattices.T19.2 laws_FnLattices.B19 = true := by kernel_rfl
def sufO : Nat → Option Code → Option Code
  | 0, c => c
  | n + 1, some (.seq _ b) => sufO n (some b)
  | _, _ => none
def sufM : Nat → Option Code → Option Code
  | 0, c => c
  | 1, some (.seq (.seq _ b) _) => some b
  | n + 1, some (.seq (.seq _ b) c) => sufM n (some (.seq b c))
  | _, _ => none
theorem sufWp {P : Program} {o : Option Code} {c : Code} {Q : Exit → Act → World → Prop} {a : Act} {w : World} (h : o = some c) (hw : Code.wp P c Q a w) : Code.wp P (o.getD .ret) Q a w := by
  subst h; exact hw
def laws_FnLattices.Pure : Prop := ∀ (l0 : List Int), l0.length ≤ maxLen → l0.length * 1 ≤ 140737488351232 → (∀ x ∈ l0, (Lit.int .u8 x).wf = true) → ∃ k, laws_FnLattices.f k l0 = some true
end Go.Proofs.Ytkfodnlogflcpaa.PFnLattices

-- Printed by the kit's print and repaired by a program of this session.
import Derived.Test.YtpmepopagapeiaaPFnNeighboursx0
import Derived.Test.YtpmepopagapeiaaPFnNeighboursx1
import Derived.Test.YtpmepopagapeiaaPFnNeighboursx4
import Derived.Test.YtpmepopagapeiaaPFnNeighboursx5
import Derived.Test.YtpmepopagapeiaaPFnNeighboursx6
import Derived.Test.YtpmepopagapeiaaPFnNeighboursx7
import Derived.Test.YtpmepopagapeiaaPFnNeighboursx8
import Derived.Test.YtpmepopagapeiaaPFnNeighboursx9
namespace Go.Proofs.Ytpmepopagapeiaa.PFnNeighbours
open Go.RowKit Go.Proofs.YtpmepopagapeiaaW.PrintWords Go.Proofs.YtpmepopagapeiaaW.PrintLast Go.Proofs.YtpmepopagapeiaaW.PrintMore
attribute [local go_sem] max2_int min2_int max_two min_two max_three min_three max_four min_four   -- for this text's walks alone
set_option linter.unusedVariables false
set_option linter.unusedSimpArgs false

attribute [local go_sem high] eqA27
/-! ### laws_FnNeighbours: function 7 -/
mutual
def laws_FnNeighbours.j0 : Nat → Int → List (S27) → Int → Bool → Int → Int → Int → Option (Bool)
 | 0, _, _, _, _, _, _, _ => none
 | k + 1, x3, x5, x6, x58, x445000, x445001, x445002 => if x58 = true then (some false) else ((impl_ParentOf.f k x3 x445000 x445001 x445002).bind fun bt454 => ((spec_ParentOf.f k x3 x445000 x445001 x445002).bind fun bt459 => (if bt454.2.2.2 = bt459.2.2.2 then (laws_FnNeighbours.j1 k x3 x5 x6 bt454.2.2.2 (!(bt454.1 == bt459.1) || (!(bt454.2.1 == bt459.2.1) || (!(bt454.2.2.1 == bt459.2.2.1)))) x445000 x445001 x445002 bt454.1 bt454.2.1 bt454.2.2.1) else (laws_FnNeighbours.j1 k x3 x5 x6 bt454.2.2.2 true x445000 x445001 x445002 bt454.1 bt454.2.1 bt454.2.2.1))))
def laws_FnNeighbours.j1 : Nat → Int → List (S27) → Int → Int → Bool → Int → Int → Int → Int → Int → Int → Option (Bool)
 | 0, _, _, _, _, _, _, _, _, _, _, _ => none
 | k + 1, x3, x5, x6, x10, x78, x445000, x445001, x445002, x459000, x459001, x459002 => if x78 = true then (some false) else ((impl_ChildrenOf.f k x3 x445000 x445001 x445002).bind fun bt464 => ((spec_ChildrenOf.f k x3 x445000 x445001 x445002).bind fun bt468 => (if bt464.2 = bt468.2 then ((laws_balls9.f k bt464.1 bt468.1).bind fun t472 => (laws_FnNeighbours.j2 k x3 x5 x6 x10 bt464.1 (!t472) x445000 x445001 x445002 x459000 x459001 x459002)) else (laws_FnNeighbours.j2 k x3 x5 x6 x10 bt464.1 true x445000 x445001 x445002 x459000 x459001 x459002))))
def laws_FnNeighbours.j2 : Nat → Int → List (S27) → Int → Int → List (S27) → Bool → Int → Int → Int → Int → Int → Int → Option (Bool)
 | 0, _, _, _, _, _, _, _, _, _, _, _, _ => none
 | k + 1, x3, x5, x6, x10, x13, x99, x445000, x445001, x445002, x459000, x459001, x459002 => if x99 = true then (some false) else ((impl_TypeOf.f k x3 x445000 x445001 x445002).bind fun bt473 => ((spec_TypeOf.f k x3 x445000 x445001 x445002).bind fun bt475 => (if bt473.2 = bt475.2 then (laws_FnNeighbours.j3 k x3 x5 x6 x10 x13 bt473.1 (bt473.1 != bt475.1) x445000 x445001 x445002 x459000 x459001 x459002) else (laws_FnNeighbours.j3 k x3 x5 x6 x10 x13 bt473.1 true x445000 x445001 x445002 x459000 x459001 x459002))))
def laws_FnNeighbours.j3 : Nat → Int → List (S27) → Int → Int → List (S27) → Int → Bool → Int → Int → Int → Int → Int → Int → Option (Bool)
 | 0, _, _, _, _, _, _, _, _, _, _, _, _, _ => none
 | k + 1, x3, x5, x6, x10, x13, x17, x119, x445000, x445001, x445002, x459000, x459001, x459002 => if x119 = true then (some false) else (if x10 = 0 then ((impl_HoldsBall.f k x3 x459000 x459001 x459002 x445000 x445001 x445002).bind fun bt477 => (if bt477.2 = 0 then (if bt477.1 = true then (laws_FnNeighbours.j4 k x3 x5 x6 x13 x17 x445000 x445001 x445002) else (some false)) else (some false))) else (laws_FnNeighbours.j4 k x3 x5 x6 x13 x17 x445000 x445001 x445002))
def laws_FnNeighbours.j4 : Nat → Int → List (S27) → Int → List (S27) → Int → Int → Int → Int → Option (Bool)
 | 0, _, _, _, _, _, _, _, _ => none
 | k + 1, x3, x5, x6, x13, x17, x445000, x445001, x445002 => laws_FnNeighbours.l0 k x3 x5 x6 x13 x17 0 x445000 x445001 x445002
def laws_FnNeighbours.l0 : Nat → Int → List (S27) → Int → List (S27) → Int → Int → Int → Int → Int → Option (Bool)
 | 0, _, _, _, _, _, _, _, _, _ => none
 | k + 1, x3, x5, x6, x13, x17, x23, x445000, x445001, x445002 => if x23 < (x13.length : Int) then (if 0 ≤ x23 then ((impl_ParentOf.f k x3 ((rd_T27 x13 x23).f0) ((rd_T27 x13 x23).f1) ((rd_T27 x13 x23).f2)).bind fun bt480 => (if bt480.2.2.2 = 0 then (if (!(bt480.1 == x445000) || (!(bt480.2.1 == x445001) || (!(bt480.2.2.1 == x445002)))) = true then (some false) else (laws_FnNeighbours.l0 k x3 x5 x6 x13 x17 (wrap64 (x23 + 1)) x445000 x445001 x445002)) else (some false))) else (none)) else (if x6 = 0 then (laws_FnNeighbours.l1 k x3 x5 x17 0 x445000 x445001 x445002) else (some ((x5.length : Int) == 0)))
def laws_FnNeighbours.l1 : Nat → Int → List (S27) → Int → Int → Int → Int → Int → Option (Bool)
 | 0, _, _, _, _, _, _, _ => none
 | k + 1, x3, x5, x17, x26, x445000, x445001, x445002 => if x26 < (x5.length : Int) then (if 0 ≤ x26 then ((impl_TreeDistance.f k x3 x445000 x445001 x445002 ((rd_T27 x5 x26).f0) ((rd_T27 x5 x26).f1) ((rd_T27 x5 x26).f2)).bind fun bt486 => ((impl_TypeOf.f k x3 ((rd_T27 x5 x26).f0) ((rd_T27 x5 x26).f1) ((rd_T27 x5 x26).f2)).bind fun bt489 => (if bt486.2 = 0 then (if bt486.1 = 1 then (if bt489.2 = 0 then (if bt489.1 = x17 then (some false) else (laws_FnNeighbours.l1 k x3 x5 x17 (wrap64 (x26 + 1)) x445000 x445001 x445002)) else (some false)) else (some false)) else (some false)))) else (none)) else (some ((x5.length : Int) == (wrap64 (x3 + 1))))
end
def laws_FnNeighbours.f (k : Nat) (l0 : List Int) : Option (Bool) := (laws_big.f l0).bind fun t439 => (if t439 = true then (some true) else ((spec_DrawNeighboursOf.f k l0).bind fun bt440 => ((impl_NeighboursOf.f k bt440.1 bt440.2.1 bt440.2.2.1 bt440.2.2.2).bind fun bt445 => ((spec_NeighboursOf.f k bt440.1 bt440.2.1 bt440.2.2.1 bt440.2.2.2).bind fun bt449 => (if bt445.2 = bt449.2 then ((laws_balls9.f k bt445.1 bt449.1).bind fun t453 => (laws_FnNeighbours.j0 k bt440.1 bt445.1 bt445.2 (!t453) bt440.2.1 bt440.2.2.1 bt440.2.2.2)) else (laws_FnNeighbours.j0 k bt440.1 bt445.1 bt445.2 true bt440.2.1 bt440.2.2.1 bt440.2.2.2))))))
theorem laws_FnNeighbours.mono_l : ∀ k, (∀ y0 y1 y2 y3 y4 y5 y6, LeO (laws_FnNeighbours.j0 k y0 y1 y2 y3 y4 y5 y6) (laws_FnNeighbours.j0 (k + 1) y0 y1 y2 y3 y4 y5 y6)) ∧ (∀ y0 y1 y2 y3 y4 y5 y6 y7 y8 y9 y10, LeO (laws_FnNeighbours.j1 k y0 y1 y2 y3 y4 y5 y6 y7 y8 y9 y10) (laws_FnNeighbours.j1 (k + 1) y0 y1 y2 y3 y4 y5 y6 y7 y8 y9 y10)) ∧ (∀ y0 y1 y2 y3 y4 y5 y6 y7 y8 y9 y10 y11, LeO (laws_FnNeighbours.j2 k y0 y1 y2 y3 y4 y5 y6 y7 y8 y9 y10 y11) (laws_FnNeighbours.j2 (k + 1) y0 y1 y2 y3 y4 y5 y6 y7 y8 y9 y10 y11)) ∧ (∀ y0 y1 y2 y3 y4 y5 y6 y7 y8 y9 y10 y11 y12, LeO (laws_FnNeighbours.j3 k y0 y1 y2 y3 y4 y5 y6 y7 y8 y9 y10 y11 y12) (laws_FnNeighbours.j3 (k + 1) y0 y1 y2 y3 y4 y5 y6 y7 y8 y9 y10 y11 y12)) ∧ (∀ y0 y1 y2 y3 y4 y5 y6 y7, LeO (laws_FnNeighbours.j4 k y0 y1 y2 y3 y4 y5 y6 y7) (laws_FnNeighbours.j4 (k + 1) y0 y1 y2 y3 y4 y5 y6 y7)) ∧ (∀ y0 y1 y2 y3 y4 y5 y6 y7 y8, LeO (laws_FnNeighbours.l0 k y0 y1 y2 y3 y4 y5 y6 y7 y8) (laws_FnNeighbours.l0 (k + 1) y0 y1 y2 y3 y4 y5 y6 y7 y8)) ∧ (∀ y0 y1 y2 y3 y4 y5 y6, LeO (laws_FnNeighbours.l1 k y0 y1 y2 y3 y4 y5 y6) (laws_FnNeighbours.l1 (k + 1) y0 y1 y2 y3 y4 y5 y6))
 | 0 => ⟨fun _ _ _ _ _ _ _ r h => by simp [laws_FnNeighbours.j0] at h, fun _ _ _ _ _ _ _ _ _ _ _ r h => by simp [laws_FnNeighbours.j1] at h, fun _ _ _ _ _ _ _ _ _ _ _ _ r h => by simp [laws_FnNeighbours.j2] at h, fun _ _ _ _ _ _ _ _ _ _ _ _ _ r h => by simp [laws_FnNeighbours.j3] at h, fun _ _ _ _ _ _ _ _ r h => by simp [laws_FnNeighbours.j4] at h, fun _ _ _ _ _ _ _ _ _ r h => by simp [laws_FnNeighbours.l0] at h, fun _ _ _ _ _ _ _ r h => by simp [laws_FnNeighbours.l1] at h⟩
 | k + 1 => by
  obtain ⟨ih0, ih1, ih2, ih3, ih4, ih5, ih6⟩ := laws_FnNeighbours.mono_l k
  refine ⟨?_, ?_, ?_, ?_, ?_, ?_, ?_⟩
  ·intro y0 y1 y2 y3 y4 y5 y6
   unfold laws_FnNeighbours.j0
   repeat' first
   | (with_reducible exact ih0 _ _ _ _ _ _ _)
   | (with_reducible exact ih1 _ _ _ _ _ _ _ _ _ _ _)
   | (with_reducible exact ih2 _ _ _ _ _ _ _ _ _ _ _ _)
   | (with_reducible exact ih3 _ _ _ _ _ _ _ _ _ _ _ _ _)
   | (with_reducible exact ih4 _ _ _ _ _ _ _ _)
   | (with_reducible exact ih5 _ _ _ _ _ _ _ _ _)
   | (with_reducible exact ih6 _ _ _ _ _ _ _)
   | (with_reducible exact impl_ChildrenOf.mono _ _ _ _ _)
   | (with_reducible exact impl_HoldsBall.mono _ _ _ _ _ _ _ _)
   | (with_reducible exact impl_NeighboursOf.mono _ _ _ _ _)
   | (with_reducible exact impl_ParentOf.mono _ _ _ _ _)
   | (with_reducible exact impl_TreeDistance.mono _ _ _ _ _ _ _ _)
   | (with_reducible exact impl_TypeOf.mono _ _ _ _ _)
   | (with_reducible exact laws_balls9.mono _ _ _)
   | (with_reducible exact spec_ChildrenOf.mono _ _ _ _ _)
   | (with_reducible exact spec_DrawNeighboursOf.mono _ _)
   | (with_reducible exact spec_NeighboursOf.mono _ _ _ _ _)
   | (with_reducible exact spec_ParentOf.mono _ _ _ _ _)
   | (with_reducible exact spec_TypeOf.mono _ _ _ _ _)
   | (with_reducible exact LeO.refl _)
   | (with_reducible exact LeO.none _)
   | (with_reducible refine LeO.ite ?_ ?_)
   | (with_reducible refine LeO.bind ?_ (fun _ => ?_))
   | exact ih0 _ _ _ _ _ _ _
   | exact ih1 _ _ _ _ _ _ _ _ _ _ _
   | exact ih2 _ _ _ _ _ _ _ _ _ _ _ _
   | exact ih3 _ _ _ _ _ _ _ _ _ _ _ _ _
   | exact ih4 _ _ _ _ _ _ _ _
   | exact ih5 _ _ _ _ _ _ _ _ _
   | exact ih6 _ _ _ _ _ _ _
   | exact impl_ChildrenOf.mono _ _ _ _ _
   | exact impl_HoldsBall.mono _ _ _ _ _ _ _ _
   | exact impl_NeighboursOf.mono _ _ _ _ _
   | exact impl_ParentOf.mono _ _ _ _ _
   | exact impl_TreeDistance.mono _ _ _ _ _ _ _ _
   | exact impl_TypeOf.mono _ _ _ _ _
   | exact laws_balls9.mono _ _ _
   | exact spec_ChildrenOf.mono _ _ _ _ _
   | exact spec_DrawNeighboursOf.mono _ _
   | exact spec_NeighboursOf.mono _ _ _ _ _
   | exact spec_ParentOf.mono _ _ _ _ _
   | exact spec_TypeOf.mono _ _ _ _ _
   | exact LeO.none _
   | refine LeO.ite ?_ ?_
   | refine LeO.bind ?_ (fun _ => ?_)
  ·intro y0 y1 y2 y3 y4 y5 y6 y7 y8 y9 y10
   unfold laws_FnNeighbours.j1
   repeat' first
   | (with_reducible exact ih0 _ _ _ _ _ _ _)
   | (with_reducible exact ih1 _ _ _ _ _ _ _ _ _ _ _)
   | (with_reducible exact ih2 _ _ _ _ _ _ _ _ _ _ _ _)
   | (with_reducible exact ih3 _ _ _ _ _ _ _ _ _ _ _ _ _)
   | (with_reducible exact ih4 _ _ _ _ _ _ _ _)
   | (with_reducible exact ih5 _ _ _ _ _ _ _ _ _)
   | (with_reducible exact ih6 _ _ _ _ _ _ _)
   | (with_reducible exact impl_ChildrenOf.mono _ _ _ _ _)
   | (with_reducible exact impl_HoldsBall.mono _ _ _ _ _ _ _ _)
   | (with_reducible exact impl_NeighboursOf.mono _ _ _ _ _)
   | (with_reducible exact impl_ParentOf.mono _ _ _ _ _)
   | (with_reducible exact impl_TreeDistance.mono _ _ _ _ _ _ _ _)
   | (with_reducible exact impl_TypeOf.mono _ _ _ _ _)
   | (with_reducible exact laws_balls9.mono _ _ _)
   | (with_reducible exact spec_ChildrenOf.mono _ _ _ _ _)
   | (with_reducible exact spec_DrawNeighboursOf.mono _ _)
   | (with_reducible exact spec_NeighboursOf.mono _ _ _ _ _)
   | (with_reducible exact spec_ParentOf.mono _ _ _ _ _)
   | (with_reducible exact spec_TypeOf.mono _ _ _ _ _)
   | (with_reducible exact LeO.refl _)
   | (with_reducible exact LeO.none _)
   | (with_reducible refine LeO.ite ?_ ?_)
   | (with_reducible refine LeO.bind ?_ (fun _ => ?_))
   | exact ih0 _ _ _ _ _ _ _
   | exact ih1 _ _ _ _ _ _ _ _ _ _ _
   | exact ih2 _ _ _ _ _ _ _ _ _ _ _ _
   | exact ih3 _ _ _ _ _ _ _ _ _ _ _ _ _
   | exact ih4 _ _ _ _ _ _ _ _
   | exact ih5 _ _ _ _ _ _ _ _ _
   | exact ih6 _ _ _ _ _ _ _
   | exact impl_ChildrenOf.mono _ _ _ _ _
   | exact impl_HoldsBall.mono _ _ _ _ _ _ _ _
   | exact impl_NeighboursOf.mono _ _ _ _ _
   | exact impl_ParentOf.mono _ _ _ _ _
   | exact impl_TreeDistance.mono _ _ _ _ _ _ _ _
   | exact impl_TypeOf.mono _ _ _ _ _
   | exact laws_balls9.mono _ _ _
   | exact spec_ChildrenOf.mono _ _ _ _ _
   | exact spec_DrawNeighboursOf.mono _ _
   | exact spec_NeighboursOf.mono _ _ _ _ _
   | exact spec_ParentOf.mono _ _ _ _ _
   | exact spec_TypeOf.mono _ _ _ _ _
   | exact LeO.none _
   | refine LeO.ite ?_ ?_
   | refine LeO.bind ?_ (fun _ => ?_)
  ·intro y0 y1 y2 y3 y4 y5 y6 y7 y8 y9 y10 y11
   unfold laws_FnNeighbours.j2
   repeat' first
   | (with_reducible exact ih0 _ _ _ _ _ _ _)
   | (with_reducible exact ih1 _ _ _ _ _ _ _ _ _ _ _)
   | (with_reducible exact ih2 _ _ _ _ _ _ _ _ _ _ _ _)
   | (with_reducible exact ih3 _ _ _ _ _ _ _ _ _ _ _ _ _)
   | (with_reducible exact ih4 _ _ _ _ _ _ _ _)
   | (with_reducible exact ih5 _ _ _ _ _ _ _ _ _)
   | (with_reducible exact ih6 _ _ _ _ _ _ _)
   | (with_reducible exact impl_ChildrenOf.mono _ _ _ _ _)
   | (with_reducible exact impl_HoldsBall.mono _ _ _ _ _ _ _ _)
   | (with_reducible exact impl_NeighboursOf.mono _ _ _ _ _)
   | (with_reducible exact impl_ParentOf.mono _ _ _ _ _)
   | (with_reducible exact impl_TreeDistance.mono _ _ _ _ _ _ _ _)
   | (with_reducible exact impl_TypeOf.mono _ _ _ _ _)
   | (with_reducible exact laws_balls9.mono _ _ _)
   | (with_reducible exact spec_ChildrenOf.mono _ _ _ _ _)
   | (with_reducible exact spec_DrawNeighboursOf.mono _ _)
   | (with_reducible exact spec_NeighboursOf.mono _ _ _ _ _)
   | (with_reducible exact spec_ParentOf.mono _ _ _ _ _)
   | (with_reducible exact spec_TypeOf.mono _ _ _ _ _)
   | (with_reducible exact LeO.refl _)
   | (with_reducible exact LeO.none _)
   | (with_reducible refine LeO.ite ?_ ?_)
   | (with_reducible refine LeO.bind ?_ (fun _ => ?_))
   | exact ih0 _ _ _ _ _ _ _
   | exact ih1 _ _ _ _ _ _ _ _ _ _ _
   | exact ih2 _ _ _ _ _ _ _ _ _ _ _ _
   | exact ih3 _ _ _ _ _ _ _ _ _ _ _ _ _
   | exact ih4 _ _ _ _ _ _ _ _
   | exact ih5 _ _ _ _ _ _ _ _ _
   | exact ih6 _ _ _ _ _ _ _
   | exact impl_ChildrenOf.mono _ _ _ _ _
   | exact impl_HoldsBall.mono _ _ _ _ _ _ _ _
   | exact impl_NeighboursOf.mono _ _ _ _ _
   | exact impl_ParentOf.mono _ _ _ _ _
   | exact impl_TreeDistance.mono _ _ _ _ _ _ _ _
   | exact impl_TypeOf.mono _ _ _ _ _
   | exact laws_balls9.mono _ _ _
   | exact spec_ChildrenOf.mono _ _ _ _ _
   | exact spec_DrawNeighboursOf.mono _ _
   | exact spec_NeighboursOf.mono _ _ _ _ _
   | exact spec_ParentOf.mono _ _ _ _ _
   | exact spec_TypeOf.mono _ _ _ _ _
   | exact LeO.none _
   | refine LeO.ite ?_ ?_
   | refine LeO.bind ?_ (fun _ => ?_)
  ·intro y0 y1 y2 y3 y4 y5 y6 y7 y8 y9 y10 y11 y12
   unfold laws_FnNeighbours.j3
   repeat' first
   | (with_reducible exact ih0 _ _ _ _ _ _ _)
   | (with_reducible exact ih1 _ _ _ _ _ _ _ _ _ _ _)
   | (with_reducible exact ih2 _ _ _ _ _ _ _ _ _ _ _ _)
   | (with_reducible exact ih3 _ _ _ _ _ _ _ _ _ _ _ _ _)
   | (with_reducible exact ih4 _ _ _ _ _ _ _ _)
   | (with_reducible exact ih5 _ _ _ _ _ _ _ _ _)
   | (with_reducible exact ih6 _ _ _ _ _ _ _)
   | (with_reducible exact impl_ChildrenOf.mono _ _ _ _ _)
   | (with_reducible exact impl_HoldsBall.mono _ _ _ _ _ _ _ _)
   | (with_reducible exact impl_NeighboursOf.mono _ _ _ _ _)
   | (with_reducible exact impl_ParentOf.mono _ _ _ _ _)
   | (with_reducible exact impl_TreeDistance.mono _ _ _ _ _ _ _ _)
   | (with_reducible exact impl_TypeOf.mono _ _ _ _ _)
   | (with_reducible exact laws_balls9.mono _ _ _)
   | (with_reducible exact spec_ChildrenOf.mono _ _ _ _ _)
   | (with_reducible exact spec_DrawNeighboursOf.mono _ _)
   | (with_reducible exact spec_NeighboursOf.mono _ _ _ _ _)
   | (with_reducible exact spec_ParentOf.mono _ _ _ _ _)
   | (with_reducible exact spec_TypeOf.mono _ _ _ _ _)
   | (with_reducible exact LeO.refl _)
   | (with_reducible exact LeO.none _)
   | (with_reducible refine LeO.ite ?_ ?_)
   | (with_reducible refine LeO.bind ?_ (fun _ => ?_))
   | exact ih0 _ _ _ _ _ _ _
   | exact ih1 _ _ _ _ _ _ _ _ _ _ _
   | exact ih2 _ _ _ _ _ _ _ _ _ _ _ _
   | exact ih3 _ _ _ _ _ _ _ _ _ _ _ _ _
   | exact ih4 _ _ _ _ _ _ _ _
   | exact ih5 _ _ _ _ _ _ _ _ _
   | exact ih6 _ _ _ _ _ _ _
   | exact impl_ChildrenOf.mono _ _ _ _ _
   | exact impl_HoldsBall.mono _ _ _ _ _ _ _ _
   | exact impl_NeighboursOf.mono _ _ _ _ _
   | exact impl_ParentOf.mono _ _ _ _ _
   | exact impl_TreeDistance.mono _ _ _ _ _ _ _ _
   | exact impl_TypeOf.mono _ _ _ _ _
   | exact laws_balls9.mono _ _ _
   | exact spec_ChildrenOf.mono _ _ _ _ _
   | exact spec_DrawNeighboursOf.mono _ _
   | exact spec_NeighboursOf.mono _ _ _ _ _
   | exact spec_ParentOf.mono _ _ _ _ _
   | exact spec_TypeOf.mono _ _ _ _ _
   | exact LeO.none _
   | refine LeO.ite ?_ ?_
   | refine LeO.bind ?_ (fun _ => ?_)
  ·intro y0 y1 y2 y3 y4 y5 y6 y7
   unfold laws_FnNeighbours.j4
   repeat' first
   | (with_reducible exact ih0 _ _ _ _ _ _ _)
   | (with_reducible exact ih1 _ _ _ _ _ _ _ _ _ _ _)
   | (with_reducible exact ih2 _ _ _ _ _ _ _ _ _ _ _ _)
   | (with_reducible exact ih3 _ _ _ _ _ _ _ _ _ _ _ _ _)
   | (with_reducible exact ih4 _ _ _ _ _ _ _ _)
   | (with_reducible exact ih5 _ _ _ _ _ _ _ _ _)
   | (with_reducible exact ih6 _ _ _ _ _ _ _)
   | (with_reducible exact impl_ChildrenOf.mono _ _ _ _ _)
   | (with_reducible exact impl_HoldsBall.mono _ _ _ _ _ _ _ _)
   | (with_reducible exact impl_NeighboursOf.mono _ _ _ _ _)
   | (with_reducible exact impl_ParentOf.mono _ _ _ _ _)
   | (with_reducible exact impl_TreeDistance.mono _ _ _ _ _ _ _ _)
   | (with_reducible exact impl_TypeOf.mono _ _ _ _ _)
   | (with_reducible exact laws_balls9.mono _ _ _)
   | (with_reducible exact spec_ChildrenOf.mono _ _ _ _ _)
   | (with_reducible exact spec_DrawNeighboursOf.mono _ _)
   | (with_reducible exact spec_NeighboursOf.mono _ _ _ _ _)
   | (with_reducible exact spec_ParentOf.mono _ _ _ _ _)
   | (with_reducible exact spec_TypeOf.mono _ _ _ _ _)
   | (with_reducible exact LeO.refl _)
   | (with_reducible exact LeO.none _)
   | (with_reducible refine LeO.ite ?_ ?_)
   | (with_reducible refine LeO.bind ?_ (fun _ => ?_))
   | exact ih0 _ _ _ _ _ _ _
   | exact ih1 _ _ _ _ _ _ _ _ _ _ _
   | exact ih2 _ _ _ _ _ _ _ _ _ _ _ _
   | exact ih3 _ _ _ _ _ _ _ _ _ _ _ _ _
   | exact ih4 _ _ _ _ _ _ _ _
   | exact ih5 _ _ _ _ _ _ _ _ _
   | exact ih6 _ _ _ _ _ _ _
   | exact impl_ChildrenOf.mono _ _ _ _ _
   | exact impl_HoldsBall.mono _ _ _ _ _ _ _ _
   | exact impl_NeighboursOf.mono _ _ _ _ _
   | exact impl_ParentOf.mono _ _ _ _ _
   | exact impl_TreeDistance.mono _ _ _ _ _ _ _ _
   | exact impl_TypeOf.mono _ _ _ _ _
   | exact laws_balls9.mono _ _ _
   | exact spec_ChildrenOf.mono _ _ _ _ _
   | exact spec_DrawNeighboursOf.mono _ _
   | exact spec_NeighboursOf.mono _ _ _ _ _
   | exact spec_ParentOf.mono _ _ _ _ _
   | exact spec_TypeOf.mono _ _ _ _ _
   | exact LeO.none _
   | refine LeO.ite ?_ ?_
   | refine LeO.bind ?_ (fun _ => ?_)
  ·intro y0 y1 y2 y3 y4 y5 y6 y7 y8
   unfold laws_FnNeighbours.l0
   repeat' first
   | (with_reducible exact ih0 _ _ _ _ _ _ _)
   | (with_reducible exact ih1 _ _ _ _ _ _ _ _ _ _ _)
   | (with_reducible exact ih2 _ _ _ _ _ _ _ _ _ _ _ _)
   | (with_reducible exact ih3 _ _ _ _ _ _ _ _ _ _ _ _ _)
   | (with_reducible exact ih4 _ _ _ _ _ _ _ _)
   | (with_reducible exact ih5 _ _ _ _ _ _ _ _ _)
   | (with_reducible exact ih6 _ _ _ _ _ _ _)
   | (with_reducible exact impl_ChildrenOf.mono _ _ _ _ _)
   | (with_reducible exact impl_HoldsBall.mono _ _ _ _ _ _ _ _)
   | (with_reducible exact impl_NeighboursOf.mono _ _ _ _ _)
   | (with_reducible exact impl_ParentOf.mono _ _ _ _ _)
   | (with_reducible exact impl_TreeDistance.mono _ _ _ _ _ _ _ _)
   | (with_reducible exact impl_TypeOf.mono _ _ _ _ _)
   | (with_reducible exact laws_balls9.mono _ _ _)
   | (with_reducible exact spec_ChildrenOf.mono _ _ _ _ _)
   | (with_reducible exact spec_DrawNeighboursOf.mono _ _)
   | (with_reducible exact spec_NeighboursOf.mono _ _ _ _ _)
   | (with_reducible exact spec_ParentOf.mono _ _ _ _ _)
   | (with_reducible exact spec_TypeOf.mono _ _ _ _ _)
   | (with_reducible exact LeO.refl _)
   | (with_reducible exact LeO.none _)
   | (with_reducible refine LeO.ite ?_ ?_)
   | (with_reducible refine LeO.bind ?_ (fun _ => ?_))
   | exact ih0 _ _ _ _ _ _ _
   | exact ih1 _ _ _ _ _ _ _ _ _ _ _
   | exact ih2 _ _ _ _ _ _ _ _ _ _ _ _
   | exact ih3 _ _ _ _ _ _ _ _ _ _ _ _ _
   | exact ih4 _ _ _ _ _ _ _ _
   | exact ih5 _ _ _ _ _ _ _ _ _
   | exact ih6 _ _ _ _ _ _ _
   | exact impl_ChildrenOf.mono _ _ _ _ _
   | exact impl_HoldsBall.mono _ _ _ _ _ _ _ _
   | exact impl_NeighboursOf.mono _ _ _ _ _
   | exact impl_ParentOf.mono _ _ _ _ _
   | exact impl_TreeDistance.mono _ _ _ _ _ _ _ _
   | exact impl_TypeOf.mono _ _ _ _ _
   | exact laws_balls9.mono _ _ _
   | exact spec_ChildrenOf.mono _ _ _ _ _
   | exact spec_DrawNeighboursOf.mono _ _
   | exact spec_NeighboursOf.mono _ _ _ _ _
   | exact spec_ParentOf.mono _ _ _ _ _
   | exact spec_TypeOf.mono _ _ _ _ _
   | exact LeO.none _
   | refine LeO.ite ?_ ?_
   | refine LeO.bind ?_ (fun _ => ?_)
  ·intro y0 y1 y2 y3 y4 y5 y6
   unfold laws_FnNeighbours.l1
   repeat' first
   | (with_reducible exact ih0 _ _ _ _ _ _ _)
   | (with_reducible exact ih1 _ _ _ _ _ _ _ _ _ _ _)
   | (with_reducible exact ih2 _ _ _ _ _ _ _ _ _ _ _ _)
   | (with_reducible exact ih3 _ _ _ _ _ _ _ _ _ _ _ _ _)
   | (with_reducible exact ih4 _ _ _ _ _ _ _ _)
   | (with_reducible exact ih5 _ _ _ _ _ _ _ _ _)
   | (with_reducible exact ih6 _ _ _ _ _ _ _)
   | (with_reducible exact impl_ChildrenOf.mono _ _ _ _ _)
   | (with_reducible exact impl_HoldsBall.mono _ _ _ _ _ _ _ _)
   | (with_reducible exact impl_NeighboursOf.mono _ _ _ _ _)
   | (with_reducible exact impl_ParentOf.mono _ _ _ _ _)
   | (with_reducible exact impl_TreeDistance.mono _ _ _ _ _ _ _ _)
   | (with_reducible exact impl_TypeOf.mono _ _ _ _ _)
   | (with_reducible exact laws_balls9.mono _ _ _)
   | (with_reducible exact spec_ChildrenOf.mono _ _ _ _ _)
   | (with_reducible exact spec_DrawNeighboursOf.mono _ _)
   | (with_reducible exact spec_NeighboursOf.mono _ _ _ _ _)
   | (with_reducible exact spec_ParentOf.mono _ _ _ _ _)
   | (with_reducible exact spec_TypeOf.mono _ _ _ _ _)
   | (with_reducible exact LeO.refl _)
   | (with_reducible exact LeO.none _)
   | (with_reducible refine LeO.ite ?_ ?_)
   | (with_reducible refine LeO.bind ?_ (fun _ => ?_))
   | exact ih0 _ _ _ _ _ _ _
   | exact ih1 _ _ _ _ _ _ _ _ _ _ _
   | exact ih2 _ _ _ _ _ _ _ _ _ _ _ _
   | exact ih3 _ _ _ _ _ _ _ _ _ _ _ _ _
   | exact ih4 _ _ _ _ _ _ _ _
   | exact ih5 _ _ _ _ _ _ _ _ _
   | exact ih6 _ _ _ _ _ _ _
   | exact impl_ChildrenOf.mono _ _ _ _ _
   | exact impl_HoldsBall.mono _ _ _ _ _ _ _ _
   | exact impl_NeighboursOf.mono _ _ _ _ _
   | exact impl_ParentOf.mono _ _ _ _ _
   | exact impl_TreeDistance.mono _ _ _ _ _ _ _ _
   | exact impl_TypeOf.mono _ _ _ _ _
   | exact laws_balls9.mono _ _ _
   | exact spec_ChildrenOf.mono _ _ _ _ _
   | exact spec_DrawNeighboursOf.mono _ _
   | exact spec_NeighboursOf.mono _ _ _ _ _
   | exact spec_ParentOf.mono _ _ _ _ _
   | exact spec_TypeOf.mono _ _ _ _ _
   | exact LeO.none _
   | refine LeO.ite ?_ ?_
   | refine LeO.bind ?_ (fun _ => ?_)
theorem laws_FnNeighbours.mono : ∀ a0 k, LeO (laws_FnNeighbours.f k a0) (laws_FnNeighbours.f (k + 1) a0) := by
 intro a0 k
 obtain ⟨ih0, ih1, ih2, ih3, ih4, ih5, ih6⟩ := laws_FnNeighbours.mono_l k
 unfold laws_FnNeighbours.f
 repeat' first
   | (with_reducible exact ih0 _ _ _ _ _ _ _)
   | (with_reducible exact ih1 _ _ _ _ _ _ _ _ _ _ _)
   | (with_reducible exact ih2 _ _ _ _ _ _ _ _ _ _ _ _)
   | (with_reducible exact ih3 _ _ _ _ _ _ _ _ _ _ _ _ _)
   | (with_reducible exact ih4 _ _ _ _ _ _ _ _)
   | (with_reducible exact ih5 _ _ _ _ _ _ _ _ _)
   | (with_reducible exact ih6 _ _ _ _ _ _ _)
   | (with_reducible exact impl_ChildrenOf.mono _ _ _ _ _)
   | (with_reducible exact impl_HoldsBall.mono _ _ _ _ _ _ _ _)
   | (with_reducible exact impl_NeighboursOf.mono _ _ _ _ _)
   | (with_reducible exact impl_ParentOf.mono _ _ _ _ _)
   | (with_reducible exact impl_TreeDistance.mono _ _ _ _ _ _ _ _)
   | (with_reducible exact impl_TypeOf.mono _ _ _ _ _)
   | (with_reducible exact laws_balls9.mono _ _ _)
   | (with_reducible exact spec_ChildrenOf.mono _ _ _ _ _)
   | (with_reducible exact spec_DrawNeighboursOf.mono _ _)
   | (with_reducible exact spec_NeighboursOf.mono _ _ _ _ _)
   | (with_reducible exact spec_ParentOf.mono _ _ _ _ _)
   | (with_reducible exact spec_TypeOf.mono _ _ _ _ _)
   | (with_reducible exact LeO.refl _)
   | (with_reducible exact LeO.none _)
   | (with_reducible refine LeO.ite ?_ ?_)
   | (with_reducible refine LeO.bind ?_ (fun _ => ?_))
   | exact ih0 _ _ _ _ _ _ _
   | exact ih1 _ _ _ _ _ _ _ _ _ _ _
   | exact ih2 _ _ _ _ _ _ _ _ _ _ _ _
   | exact ih3 _ _ _ _ _ _ _ _ _ _ _ _ _
   | exact ih4 _ _ _ _ _ _ _ _
   | exact ih5 _ _ _ _ _ _ _ _ _
   | exact ih6 _ _ _ _ _ _ _
   | exact impl_ChildrenOf.mono _ _ _ _ _
   | exact impl_HoldsBall.mono _ _ _ _ _ _ _ _
   | exact impl_NeighboursOf.mono _ _ _ _ _
   | exact impl_ParentOf.mono _ _ _ _ _
   | exact impl_TreeDistance.mono _ _ _ _ _ _ _ _
   | exact impl_TypeOf.mono _ _ _ _ _
   | exact laws_balls9.mono _ _ _
   | exact spec_ChildrenOf.mono _ _ _ _ _
   | exact spec_DrawNeighboursOf.mono _ _
   | exact spec_NeighboursOf.mono _ _ _ _ _
   | exact spec_ParentOf.mono _ _ _ _ _
   | exact spec_TypeOf.mono _ _ _ _ _
   | exact LeO.none _
   | refine LeO.ite ?_ ?_
   | refine LeO.bind ?_ (fun _ => ?_)
def laws_FnNeighbours.T35 : Bool × List (List Nat × List Nat) := (true, [([], []), ([], []), ([], []), ([], []), ([2, 3], [2, 3]), ([4], [4]), ([0, 1, 5], [0, 1, 5]), ([6], [6]), ([7], [7]), ([7], [7]), ([8, 6, 0, 1, 2, 3, 4, 5, 6, 7, 8], [8]), ([9, 10, 0, 1, 2, 3, 4, 5, 6, 7, 8, 9, 10], [9])])
def laws_FnNeighbours.B35 : List Nat := [0, 0, 0, 0, 12, 28, 63, 127, 255, 255, 511, 2047]
theorem laws_FnNeighbours.tab35 : rtab .any (opsOf Try.f7 35) = laws_FnNeighbours.T35 := by kernel_rfl
theorem laws_FnNeighbours.bits35 : waitsOk laws_FnNeighbours.T35.2 laws_FnNeighbours.B35 = true := by kernel_rfl
set_option maxHeartbeats 8000000 in
set_option maxRecDepth 100000 in
theorem laws_FnNeighbours.calls (k : Nat) (A0 : Option Addr) (c0 : Nat) (l0 : List Int) (r : Bool) (w : World) (hr : Aside0 (r = true)) (hr0 : Kd.C (Kd.int .u8) w A0 l0.length l0) (hc0 : l0.length ≤ c0) (h : laws_FnNeighbours.f k l0 = some r) :
  Calls Try.prog 7 #[.slice A0 l0.length c0] w fun e w' => e = .returned (.bool r) ∧ Below w.heap.size w w' := by
 have hu27 := Try.underlying27
 have HR0 := Aside0.mk hr0
 have HC0 := Aside0.mk hc0
 clear hr0 hc0
 have HB := Aside0.mk (Below.refl w.heap.size w)
 have H : ((laws_big.f l0).bind fun t439 => (if t439 = true then (some true) else ((spec_DrawNeighboursOf.f k l0).bind fun bt440 => ((impl_NeighboursOf.f k bt440.1 bt440.2.1 bt440.2.2.1 bt440.2.2.2).bind fun bt445 => ((spec_NeighboursOf.f k bt440.1 bt440.2.1 bt440.2.2.1 bt440.2.2.2).bind fun bt449 => (if bt445.2 = bt449.2 then ((laws_balls9.f k bt445.1 bt449.1).bind fun t453 => (laws_FnNeighbours.j0 k bt440.1 bt445.1 bt445.2 (!t453) bt440.2.1 bt440.2.2.1 bt440.2.2.2)) else (laws_FnNeighbours.j0 k bt440.1 bt445.1 bt445.2 true bt440.2.1 bt440.2.2.1 bt440.2.2.2))))))) = some r := h
 clear h
 replace H := Option.bind_eq_some_iff.mp H
 obtain ⟨t439, A20, H⟩ := H
 replace H : (if t439 = true then (some true) else ((spec_DrawNeighboursOf.f k l0).bind fun bt440 => ((impl_NeighboursOf.f k bt440.1 bt440.2.1 bt440.2.2.1 bt440.2.2.2).bind fun bt445 => ((spec_NeighboursOf.f k bt440.1 bt440.2.1 bt440.2.2.1 bt440.2.2.2).bind fun bt449 => (if bt445.2 = bt449.2 then ((laws_balls9.f k bt445.1 bt449.1).bind fun t453 => (laws_FnNeighbours.j0 k bt440.1 bt445.1 bt445.2 (!t453) bt440.2.1 bt440.2.2.1 bt440.2.2.2)) else (laws_FnNeighbours.j0 k bt440.1 bt445.1 bt445.2 true bt440.2.1 bt440.2.2.1 bt440.2.2.2)))))) = some r := H
 have A2 := Aside0.mk A20
 clear A20
 by_cases c3 : t439 = true
 ·subst c3
  have H1 : (some true) = some r := by rw [if_pos rfl] at H; exact H
  clear H
  have H := H1
  clear H1
  obtain rfl := Option.some.inj H
  go_enter Try.func7, Try.ntmps7
  go_wp2_with (first | ((with_reducible refine gate_callee (f := 21) rfl ?_); refine goesL_ (some 32) rfl rfl Try.func21 (by kernel_rfl) rfl #[.slice A0 l0.length c0] rfl (by (try simp only [List.map_toArray, List.map_cons, List.map_nil]); first | done | rfl | (simp only [List.length_drop, List.length_take]; rfl)) ?_; (with_reducible refine (laws_big.calls _ _ l0 true _ ?side1 ?side2 A2.out).mono ?_); (case side1 => repeat (first | exact HR0.out | (with_reducible refine Kd.C_alloc ?_ _) | (with_reducible refine Kd.C_drewN ?_ _) | (with_reducible refine Kd.C_drew ?_))); (case side2 => exact HC0.out); rintro e w' ⟨rfl, ⟨nd, rfl⟩⟩; refine ⟨_, rfl, ?_⟩))
  go_ret
  exact ⟨by first | rfl | (simp [errW_none, errW_some] <;> rfl) | (simp [*, errW_none, errW_some] <;> rfl), by repeat (first | (with_reducible first | exact HB.out | apply below_alloc | apply pw_below_drewN | apply below_drew1) | exact HB.out)⟩
 ·replace c3 := Bool.eq_false_iff.mpr c3
  subst c3
  have H1 : ((spec_DrawNeighboursOf.f k l0).bind fun bt440 => ((impl_NeighboursOf.f k bt440.1 bt440.2.1 bt440.2.2.1 bt440.2.2.2).bind fun bt445 => ((spec_NeighboursOf.f k bt440.1 bt440.2.1 bt440.2.2.1 bt440.2.2.2).bind fun bt449 => (if bt445.2 = bt449.2 then ((laws_balls9.f k bt445.1 bt449.1).bind fun t453 => (laws_FnNeighbours.j0 k bt440.1 bt445.1 bt445.2 (!t453) bt440.2.1 bt440.2.2.1 bt440.2.2.2)) else (laws_FnNeighbours.j0 k bt440.1 bt445.1 bt445.2 true bt440.2.1 bt440.2.2.1 bt440.2.2.2))))) = some r := by rw [if_neg (show ¬ (false = true) by decide)] at H; exact H
  clear H
  have H := H1
  clear H1
  replace H := Option.bind_eq_some_iff.mp H
  obtain ⟨⟨t440, t441, t442, t443⟩, A40, H⟩ := H
  replace H : ((impl_NeighboursOf.f k t440 t441 t442 t443).bind fun bt445 => ((spec_NeighboursOf.f k t440 t441 t442 t443).bind fun bt449 => (if bt445.2 = bt449.2 then ((laws_balls9.f k bt445.1 bt449.1).bind fun t453 => (laws_FnNeighbours.j0 k t440 bt445.1 bt445.2 (!t453) t441 t442 t443)) else (laws_FnNeighbours.j0 k t440 bt445.1 bt445.2 true t441 t442 t443)))) = some r := H
  have A4 := Aside0.mk A40
  clear A40
  replace H := Option.bind_eq_some_iff.mp H
  obtain ⟨⟨t445, t448⟩, A50, H⟩ := H
  replace H : ((spec_NeighboursOf.f k t440 t441 t442 t443).bind fun bt449 => (if t448 = bt449.2 then ((laws_balls9.f k t445 bt449.1).bind fun t453 => (laws_FnNeighbours.j0 k t440 t445 t448 (!t453) t441 t442 t443)) else (laws_FnNeighbours.j0 k t440 t445 t448 true t441 t442 t443))) = some r := H
  have A5 := Aside0.mk A50
  clear A50
  replace H := Option.bind_eq_some_iff.mp H
  obtain ⟨⟨t449, t452⟩, A60, H⟩ := H
  replace H : (if t448 = t452 then ((laws_balls9.f k t445 t449).bind fun t453 => (laws_FnNeighbours.j0 k t440 t445 t448 (!t453) t441 t442 t443)) else (laws_FnNeighbours.j0 k t440 t445 t448 true t441 t442 t443)) = some r := H
  have A6 := Aside0.mk A60
  clear A60
  have HC7 := Aside0.mk H
  clear H
  go_enter Try.func7, Try.ntmps7
  go_upto_region 6 with (first | ((with_reducible refine gate_callee (f := 21) rfl ?_); refine goesL_ (some 32) rfl rfl Try.func21 (by kernel_rfl) rfl #[.slice A0 l0.length c0] rfl (by (try simp only [List.map_toArray, List.map_cons, List.map_nil]); first | done | rfl | (simp only [List.length_drop, List.length_take]; rfl)) ?_; (with_reducible refine (laws_big.calls _ _ l0 false _ ?side1 ?side2 A2.out).mono ?_); (case side1 => repeat (first | exact HR0.out | (with_reducible refine Kd.C_alloc ?_ _) | (with_reducible refine Kd.C_drewN ?_ _) | (with_reducible refine Kd.C_drew ?_))); (case side2 => exact HC0.out); rintro e w' ⟨rfl, ⟨nd, rfl⟩⟩; refine ⟨_, rfl, ?_⟩) | ((with_reducible refine gate_callee (f := 35) rfl ?_); refine goesL_ (some 35) rfl rfl Try.func35 (by kernel_rfl) rfl #[.slice A0 l0.length c0] rfl (by (try simp only [List.map_toArray, List.map_cons, List.map_nil]); first | done | rfl | (simp only [List.length_drop, List.length_take]; rfl)) ?_; (with_reducible refine (spec_DrawNeighboursOf.calls k _ _ l0 t440 t441 t442 t443 _ ?side1 ?side2 A4.out).mono ?_); (case side1 => repeat (first | exact HR0.out | (with_reducible refine Kd.C_alloc ?_ _) | (with_reducible refine Kd.C_drewN ?_ _) | (with_reducible refine Kd.C_drew ?_))); (case side2 => exact HC0.out); rintro e w8 ⟨rfl, hb⟩; refine ⟨_, rfl, ?_⟩; have n0_ := Aside0.mk (below_step (by repeat (first | (with_reducible first | exact HB.out | apply below_alloc | apply pw_below_drewN | apply below_drew1) | exact HB.out)) hb); clear HB; have HB := n0_; clear n0_; (try clear hb); (try clear hb2); (try clear hk); (try clear hi)) | ((with_reducible refine gate_dst (N := 4) rfl ?_); refine box_event ?hg (N := 4) ?hd (cs := #[.int .i64 0, .int .i64 0, .int .i64 0]) (t := 27) ?hr ?_; (case hd => rfl); (case hg => rfl); (case hr => first | (go_simp; done) | (go_simp; rfl)); intro gb444 hg w9 hbox hb; have n0_ := Aside0.mk (below_step (by repeat (first | (with_reducible first | exact HB.out | apply below_alloc | apply pw_below_drewN | apply below_drew1) | exact HB.out)) hb); have n1_ := Aside0.mk (hbox); have n2_ := Aside0.mk ((by rw [hg]; exact (below_size (by repeat (first | (with_reducible first | exact HB.out | apply below_alloc | apply pw_below_drewN | apply below_drew1) | exact HB.out))) : w.heap.size ≤ gb444)); have n3_ := Aside0.mk ((by rw [hg]; exact (below_size (by repeat (first | (with_reducible first | exact HB.out | apply below_alloc | apply pw_below_drewN | apply below_drew1) | exact HB.out))) : w.heap.size ≤ gb444)); clear HB; have HB := n0_; have BK444 := n1_; have GW444 := n2_; have GE444 := n3_; clear n0_ n1_ n2_ n3_; clear hb hbox hg; obtain ⟨hcz10_0, hcz10_1, hcz10_2, hfz10_0, hfz10_1, hfz10_2⟩ := c3 BK444) | ((with_reducible refine gate_callee (f := 18) rfl ?_); refine goesL_ (some 41) rfl rfl Try.func18 (by kernel_rfl) rfl #[.int .i64 t440, .agg #[.int .i64 t441, .int .i64 t442, .int .i64 t443]] rfl (by (try simp only [List.map_toArray, List.map_cons, List.map_nil]); first | done | rfl | (simp only [List.length_drop, List.length_take]; rfl)) ?_; (with_reducible refine (impl_NeighboursOf.calls k t440 t441 t442 t443 t445 t448 _ A5.out).mono ?_); rintro e w11 ⟨v446, rfl, ho0, hb⟩; refine ⟨_, rfl, ?_⟩; have n0_ := Aside0.mk (Kd.R_lower (Kd.R_newB ho0 (g := gb444) (o := .cells #[.int .i64 t441, .int .i64 t442, .int .i64 t443] 27 (0, 0)) (by (with_reducible repeat (first | refine blk_drewN ?_ _ | refine blk_drew ?_ | refine blk_alloc ?_ _)); refine blk_put (cs := #[.int .i64 t441, .int .i64 t442, .int .i64 0]) ?_ 2 _ rfl; (with_reducible repeat (first | refine blk_drewN ?_ _ | refine blk_drew ?_ | refine blk_alloc ?_ _)); refine blk_put (cs := #[.int .i64 t441, .int .i64 0, .int .i64 0]) ?_ 1 _ rfl; (with_reducible repeat (first | refine blk_drewN ?_ _ | refine blk_drew ?_ | refine blk_alloc ?_ _)); refine blk_put (cs := #[.int .i64 0, .int .i64 0, .int .i64 0]) ?_ 0 _ rfl; (with_reducible repeat (first | refine blk_drewN ?_ _ | refine blk_drew ?_ | refine blk_alloc ?_ _)); exact BK444.out)) (below_size (by repeat (first | (with_reducible first | exact HB.out | apply below_alloc | apply pw_below_drewN | apply below_drew1 | refine below_set ?_ GE444.out) | exact HB.out)))); have n1_ := Aside0.mk (blk_below (g := gb444) (o := .cells #[.int .i64 t441, .int .i64 t442, .int .i64 t443] 27 (0, 0)) (by (with_reducible repeat (first | refine blk_drewN ?_ _ | refine blk_drew ?_ | refine blk_alloc ?_ _)); refine blk_put (cs := #[.int .i64 t441, .int .i64 t442, .int .i64 0]) ?_ 2 _ rfl; (with_reducible repeat (first | refine blk_drewN ?_ _ | refine blk_drew ?_ | refine blk_alloc ?_ _)); refine blk_put (cs := #[.int .i64 t441, .int .i64 0, .int .i64 0]) ?_ 1 _ rfl; (with_reducible repeat (first | refine blk_drewN ?_ _ | refine blk_drew ?_ | refine blk_alloc ?_ _)); refine blk_put (cs := #[.int .i64 0, .int .i64 0, .int .i64 0]) ?_ 0 _ rfl; (with_reducible repeat (first | refine blk_drewN ?_ _ | refine blk_drew ?_ | refine blk_alloc ?_ _)); exact BK444.out) hb); have n2_ := Aside0.mk (below_step (by repeat (first | (with_reducible first | exact HB.out | apply below_alloc | apply pw_below_drewN | apply below_drew1 | refine below_set ?_ GE444.out) | exact HB.out)) hb); clear BK444; clear HB; have HO447 := n0_; have BK444 := n1_; have HB := n2_; clear n0_ n1_ n2_; (try clear hb); (try clear hb2); (try clear hk); (try clear hi); (try clear ho0); obtain ⟨hcz12_0, hcz12_1, hcz12_2, hfz12_0, hfz12_1, hfz12_2⟩ := c3 BK444) | ((with_reducible refine gate_callee (f := 17) rfl ?_); refine goesL_ (some 47) rfl rfl Try.func17 (by kernel_rfl) rfl #[.int .i64 t440, .agg #[.int .i64 t441, .int .i64 t442, .int .i64 t443]] rfl (by (try simp only [List.map_toArray, List.map_cons, List.map_nil]); first | done | rfl | (simp only [List.length_drop, List.length_take]; rfl)) ?_; (with_reducible refine (spec_NeighboursOf.calls k t440 t441 t442 t443 t449 t452 _ A6.out).mono ?_); rintro e w13 ⟨v450, rfl, ho0, hb⟩; refine ⟨_, rfl, ?_⟩; have n0_ := Aside0.mk (Kd.R_elder' (by (with_reducible repeat (first | apply Kd.R_alloc | apply Kd.R_drewN | apply Kd.R_drew)); exact HO447.out) (Kd.R_base ho0) hb); have n1_ := Aside0.mk (Kd.R_lower (Kd.R_newB (Kd.R_new' ho0 (Kd.R_lt (by (with_reducible repeat (first | apply Kd.R_alloc | apply Kd.R_drewN | apply Kd.R_drew)); exact HO447.out))) (g := gb444) (o := .cells #[.int .i64 t441, .int .i64 t442, .int .i64 t443] 27 (0, 0)) (be BK444)) (below_size (by repeat (first | (with_reducible first | exact HB.out | apply below_alloc | apply pw_below_drewN | apply below_drew1 | refine below_set ?_ GE444.out) | exact HB.out)))); have n2_ := bb BK444 hb; have n3_ := Aside0.mk (below_step (by repeat (first | (with_reducible first | exact HB.out | apply below_alloc | apply pw_below_drewN | apply below_drew1 | refine below_set ?_ GE444.out) | exact HB.out)) hb); clear HO447; clear BK444; clear HB; have HO447 := n0_; have HO451 := n1_; have BK444 := n2_; have HB := n3_; clear n0_ n1_ n2_ n3_; (try clear hb); (try clear hb2); (try clear hk); (try clear hi); (try clear ho0)))
  (try simp only [Act.put, List.setIfInBounds_toArray, List.set_cons_zero, List.set_cons_succ])
  go_cut [58] (fun v58 wc => ∃ (kq : Nat) (x58_6 : Bool), v58 = .bool x58_6 ∧ Aside0 (laws_FnNeighbours.j0 kq t440 t445 t448 x58_6 t441 t442 t443 = some r) ∧ Aside0 (kq ≤ k) ∧ Aside0 (Kd.R k27 27 wc w.heap.size (fun k_ => k_ ≠ gb444) v446 t445) ∧ Aside0 (wc.heap[gb444]? = some (.cells #[.int .i64 t441, .int .i64 t442, .int .i64 t443] 27 (0, 0))) ∧ Aside0 (Below w.heap.size w wc))
  case first =>
   as_aux_lemma =>
   have H := HC7.out
   clear HC7
   by_cases c14 : t448 = t452
   ·rw [if_pos c14] at H
    have c14b0 : (t448 == t452) = true := beq_iff_eq.mpr c14
    have c14b1 : (t448 != t452) = false := bne_eq_false_iff_eq.mpr c14
    clear c14
    (first | rw [c14b0] | (simp only [i64_w, i32_w]; rw [c14b0]) | skip)
    replace H := Option.bind_eq_some_iff.mp H
    obtain ⟨t453, A150, H⟩ := H
    replace H : (laws_FnNeighbours.j0 k t440 t445 t448 (!t453) t441 t442 t443) = some r := H
    have A15 := Aside0.mk A150
    clear A150
    have H' := Aside0.mk H
    clear H
    obtain ⟨Ao16, co16, eo16⟩ := Kd.R_slice HO447.out
    subst eo16
    obtain ⟨Ao17, co17, eo17⟩ := Kd.R_slice HO451.out
    subst eo17
    go_wp2_with (first | (go_at_call 36; (with_reducible refine (laws_balls9.calls k _ _ t445 _ _ t449 t453 _ ?side1 ?side2 ?side3 ?side4 A15.out).mono ?_); (case side1 => repeat (first | exact (Kd.R_reads' HO447.out).2.2 | (with_reducible refine Kd.C_alloc ?_ _) | (with_reducible refine Kd.C_drewN ?_ _) | (with_reducible refine Kd.C_drew ?_))); (case side2 => exact (Kd.R_reads' HO447.out).2.1); (case side3 => repeat (first | exact (Kd.R_reads' HO451.out).2.2 | (with_reducible refine Kd.C_alloc ?_ _) | (with_reducible refine Kd.C_drewN ?_ _) | (with_reducible refine Kd.C_drew ?_))); (case side4 => exact (Kd.R_reads' HO451.out).2.1); rintro e w' ⟨rfl, ⟨nd, rfl⟩⟩))
    go_meet
    case rel => exact ⟨_, (!t453), (by first | rfl | (simp; done) | (simp [*]; done)), H', ⟨by first | omega | exact Nat.le_refl _⟩, ⟨by (with_reducible repeat (first | apply Kd.R_alloc | apply Kd.R_drewN | apply Kd.R_drew)); exact Kd.R_mono HO447.out (fun _ hk => hk.1.2)⟩, ⟨be BK444⟩, ⟨by repeat (first | (with_reducible first | exact HB.out | apply below_alloc | apply pw_below_drewN | apply below_drew1 | refine below_set ?_ GE444.out) | exact HB.out)⟩⟩
   ·rw [if_neg c14] at H
    have c14b0 : (t448 == t452) = false := beq_eq_false_iff_ne.mpr c14
    have c14b1 : (t448 != t452) = true := bne_iff_ne.mpr c14
    (first | rw [c14b0] | (simp only [i64_w, i32_w]; rw [c14b0]) | skip)
    have H' := Aside0.mk H
    clear H
    go_wp2
    go_meet
    case rel => exact ⟨_, (true), (by first | rfl | (simp; done) | (simp [*]; done)), H', ⟨by first | omega | exact Nat.le_refl _⟩, ⟨by (with_reducible repeat (first | apply Kd.R_alloc | apply Kd.R_drewN | apply Kd.R_drew)); exact Kd.R_mono HO447.out (fun _ hk => hk.1.2)⟩, ⟨be BK444⟩, ⟨by repeat (first | (with_reducible first | exact HB.out | apply below_alloc | apply pw_below_drewN | apply below_drew1 | refine below_set ?_ GE444.out) | exact HB.out)⟩⟩
  case rest =>
   as_aux_lemma =>
   clear HC7
   try clear c1
   try clear c2
   try clear p2
   try clear c3
   try clear c7
   try clear c14
   try clear c14b0
   try clear c14b1
   try clear c17
   try clear hcz10_0
   try clear hcz10_1
   try clear hcz10_2
   try clear hcz12_0
   try clear hcz12_1
   try clear hcz12_2
   try clear hfz10_0
   try clear hfz10_1
   try clear hfz10_2
   try clear hfz12_0
   try clear hfz12_1
   try clear hfz12_2
   obtain ⟨kq, x58_6, rfl, HA, HJ6, HO_5, BK444, HB⟩ := hcut
   cases kq with
   | zero => exact absurd HA.out (by simp [laws_FnNeighbours.j0])
   | succ kj6 =>
    have H := HA.out
    clear HA
    simp only [laws_FnNeighbours.j0] at H
    by_cases c18 : x58_6 = true
    ·subst c18
     have H1 : (some false) = some r := by rw [if_pos rfl] at H; exact H
     clear H
     have H := H1
     clear H1
     exact absurd ((Option.some.inj H).trans hr.out) (by simp)
    ·replace c18 := Bool.eq_false_iff.mpr c18
     subst c18
     have H1 : ((impl_ParentOf.f kj6 t440 t441 t442 t443).bind fun bt454 => ((spec_ParentOf.f kj6 t440 t441 t442 t443).bind fun bt459 => (if bt454.2.2.2 = bt459.2.2.2 then (laws_FnNeighbours.j1 kj6 t440 t445 t448 bt454.2.2.2 (!(bt454.1 == bt459.1) || (!(bt454.2.1 == bt459.2.1) || (!(bt454.2.2.1 == bt459.2.2.1)))) t441 t442 t443 bt454.1 bt454.2.1 bt454.2.2.1) else (laws_FnNeighbours.j1 kj6 t440 t445 t448 bt454.2.2.2 true t441 t442 t443 bt454.1 bt454.2.1 bt454.2.2.1)))) = some r := by rw [if_neg (show ¬ (false = true) by decide)] at H; exact H
     clear H
     have H := H1
     clear H1
     replace H := Option.bind_eq_some_iff.mp H
     obtain ⟨⟨t454, t455, t456, t457⟩, A190, H⟩ := H
     replace H : ((spec_ParentOf.f kj6 t440 t441 t442 t443).bind fun bt459 => (if t457 = bt459.2.2.2 then (laws_FnNeighbours.j1 kj6 t440 t445 t448 t457 (!(t454 == bt459.1) || (!(t455 == bt459.2.1) || (!(t456 == bt459.2.2.1)))) t441 t442 t443 t454 t455 t456) else (laws_FnNeighbours.j1 kj6 t440 t445 t448 t457 true t441 t442 t443 t454 t455 t456))) = some r := H
     have A19 := Aside0.mk A190
     clear A190
     replace H := Option.bind_eq_some_iff.mp H
     obtain ⟨⟨t459, t460, t461, t462⟩, A200, H⟩ := H
     replace H : (if t457 = t462 then (laws_FnNeighbours.j1 kj6 t440 t445 t448 t457 (!(t454 == t459) || (!(t455 == t460) || (!(t456 == t461)))) t441 t442 t443 t454 t455 t456) else (laws_FnNeighbours.j1 kj6 t440 t445 t448 t457 true t441 t442 t443 t454 t455 t456)) = some r := H
     have A20 := Aside0.mk A200
     clear A200
     have HC21 := Aside0.mk H
     clear H
     have hcz22_0 : wc.cell? ⟨gb444, 0, none⟩ = some (.int .i64 t441) := (blk_cell BK444.out 0).trans rfl
     have hcz22_1 : wc.cell? ⟨gb444, 1, none⟩ = some (.int .i64 t442) := (blk_cell BK444.out 1).trans rfl
     have hcz22_2 : wc.cell? ⟨gb444, 2, none⟩ = some (.int .i64 t443) := (blk_cell BK444.out 2).trans rfl
     have hfz22_0 := blk_frozen BK444.out 0
     have hfz22_1 := blk_frozen BK444.out 1
     have hfz22_2 := blk_frozen BK444.out 2
     go_upto_region 10 with (first | ((with_reducible refine gate_callee (f := 37) rfl ?_); refine goesL_ (some 62) rfl rfl Try.func37 (by kernel_rfl) rfl #[.int .i64 t440, .agg #[.int .i64 t441, .int .i64 t442, .int .i64 t443]] rfl (by (try simp only [List.map_toArray, List.map_cons, List.map_nil]); first | done | rfl | (simp only [List.length_drop, List.length_take]; rfl)) ?_; (with_reducible refine (impl_ParentOf.calls kj6 t440 t441 t442 t443 t454 t455 t456 t457 _ A19.out).mono ?_); rintro e w23 ⟨rfl, hb⟩; refine ⟨_, rfl, ?_⟩; have n0_ := Aside0.mk (Kd.R_below (by (with_reducible repeat (first | apply Kd.R_alloc | apply Kd.R_drewN | apply Kd.R_drew)); exact HO_5.out) hb); have n1_ := bb BK444 hb; have n2_ := Aside0.mk (below_step (by repeat (first | (with_reducible first | exact HB.out | apply below_alloc | apply pw_below_drewN | apply below_drew1 | refine below_set ?_ GE444.out) | exact HB.out)) hb); clear HO_5; clear BK444; clear HB; have HO_5 := n0_; have BK444 := n1_; have HB := n2_; clear n0_ n1_ n2_; (try clear hb); (try clear hb2); (try clear hk); (try clear hi)) | ((with_reducible refine gate_dst (N := 9) rfl ?_); refine box_event ?hg (N := 9) ?hd (cs := #[.int .i64 0, .int .i64 0, .int .i64 0]) (t := 27) ?hr ?_; (case hd => rfl); (case hg => rfl); (case hr => first | (go_simp; done) | (go_simp; rfl)); intro gb458 hg w24 hbox hb; have n0_ := Aside0.mk (Kd.R_below (Kd.R_elderB (by (with_reducible repeat (first | apply Kd.R_alloc | apply Kd.R_drewN | apply Kd.R_drew)); exact HO_5.out) gb458 (Nat.le_of_eq hg.symm)) hb); have n1_ := bb BK444 hb; have n2_ := Aside0.mk (below_step (by repeat (first | (with_reducible first | exact HB.out | apply below_alloc | apply pw_below_drewN | apply below_drew1 | refine below_set ?_ GE444.out) | exact HB.out)) hb); have n3_ := Aside0.mk (hbox); have n4_ := Aside0.mk ((by rw [hg]; exact (below_size (by repeat (first | (with_reducible first | exact HB.out | apply below_alloc | apply pw_below_drewN | apply below_drew1 | refine below_set ?_ GE444.out) | exact HB.out))) : w.heap.size ≤ gb458)); have n5_ := Aside0.mk ((by rw [hg]; exact (below_size (by repeat (first | (with_reducible first | exact HB.out | apply below_alloc | apply pw_below_drewN | apply below_drew1 | refine below_set ?_ GE444.out) | exact HB.out))) : w.heap.size ≤ gb458)); have n6_ := nl hg BK444; have n7_ := ng hg BK444; clear HO_5; clear BK444; clear HB; have HO_5 := n0_; have BK444 := n1_; have HB := n2_; have BK458 := n3_; have GW458 := n4_; have GE458 := n5_; have NB444_458 := n6_; have NB458_444 := n7_; clear n0_ n1_ n2_ n3_ n4_ n5_ n6_ n7_; clear hb hbox hg; have hnb25 := NB458_444.out; have hnc25 := NB444_458.out; obtain ⟨hcz26_0, hcz26_1, hcz26_2, hfz26_0, hfz26_1, hfz26_2⟩ := c3 BK458; obtain ⟨hcz27_0, hcz27_1, hcz27_2, hfz27_0, hfz27_1, hfz27_2⟩ := c3 BK444) | ((with_reducible refine gate_callee (f := 38) rfl ?_); refine goesL_ (some 68) rfl rfl Try.func38 (by kernel_rfl) rfl #[.int .i64 t440, .agg #[.int .i64 t441, .int .i64 t442, .int .i64 t443]] rfl (by (try simp only [List.map_toArray, List.map_cons, List.map_nil]); first | done | rfl | (simp only [List.length_drop, List.length_take]; rfl)) ?_; (with_reducible refine (spec_ParentOf.calls kj6 t440 t441 t442 t443 t459 t460 t461 t462 _ A20.out).mono ?_); rintro e w28 ⟨rfl, hb⟩; refine ⟨_, rfl, ?_⟩; have n0_ := Aside0.mk (Kd.R_below (by (with_reducible repeat (first | apply Kd.R_alloc | apply Kd.R_drewN | apply Kd.R_drew)); exact (Kd.R_mono (Kd.R_far (p := ⟨gb458, 2, none⟩) (Kd.R_far (p := ⟨gb458, 1, none⟩) (Kd.R_far (p := ⟨gb458, 0, none⟩) (Kd.R_mono HO_5.out (fun k_ hk => (⟨hk, hk.2⟩ : _ ∧ k_ ≠ gb458))) (fun _ hk => hk.2) (.int .i64 t454)) (fun _ hk => hk.2) (.int .i64 t455)) (fun _ hk => hk.2) (.int .i64 t456)) (fun _ h_ => h_.1))) hb); have n1_ := Aside0.mk (blk_below (g := gb444) (o := .cells #[.int .i64 t441, .int .i64 t442, .int .i64 t443] 27 (0, 0)) (by (with_reducible repeat (first | refine blk_drewN ?_ _ | refine blk_drew ?_ | refine blk_alloc ?_ _)); refine blk_far ?_ NB444_458.out _; (with_reducible repeat (first | refine blk_drewN ?_ _ | refine blk_drew ?_ | refine blk_alloc ?_ _)); refine blk_far ?_ NB444_458.out _; (with_reducible repeat (first | refine blk_drewN ?_ _ | refine blk_drew ?_ | refine blk_alloc ?_ _)); refine blk_far ?_ NB444_458.out _; (with_reducible repeat (first | refine blk_drewN ?_ _ | refine blk_drew ?_ | refine blk_alloc ?_ _)); exact BK444.out) hb); have n2_ := Aside0.mk (blk_below (g := gb458) (o := .cells #[.int .i64 t454, .int .i64 t455, .int .i64 t456] 27 (0, 0)) (by (with_reducible repeat (first | refine blk_drewN ?_ _ | refine blk_drew ?_ | refine blk_alloc ?_ _)); refine blk_put (cs := #[.int .i64 t454, .int .i64 t455, .int .i64 0]) ?_ 2 _ rfl; (with_reducible repeat (first | refine blk_drewN ?_ _ | refine blk_drew ?_ | refine blk_alloc ?_ _)); refine blk_put (cs := #[.int .i64 t454, .int .i64 0, .int .i64 0]) ?_ 1 _ rfl; (with_reducible repeat (first | refine blk_drewN ?_ _ | refine blk_drew ?_ | refine blk_alloc ?_ _)); refine blk_put (cs := #[.int .i64 0, .int .i64 0, .int .i64 0]) ?_ 0 _ rfl; (with_reducible repeat (first | refine blk_drewN ?_ _ | refine blk_drew ?_ | refine blk_alloc ?_ _)); exact BK458.out) hb); have n3_ := Aside0.mk (below_step (by repeat (first | (with_reducible first | exact HB.out | apply below_alloc | apply pw_below_drewN | apply below_drew1 | refine below_set ?_ GE444.out | refine below_set ?_ GE458.out) | exact HB.out)) hb); clear HO_5; clear BK444; clear BK458; clear HB; have HO_5 := n0_; have BK444 := n1_; have BK458 := n2_; have HB := n3_; clear n0_ n1_ n2_ n3_; (try clear hb); (try clear hb2); (try clear hk); (try clear hi)) | ((with_reducible refine gate_dst (N := 11) rfl ?_); refine box_event ?hg (N := 11) ?hd (cs := #[.int .i64 0, .int .i64 0, .int .i64 0]) (t := 27) ?hr ?_; (case hd => rfl); (case hg => rfl); (case hr => first | (go_simp; done) | (go_simp; rfl)); intro gb463 hg w29 hbox hb; have n0_ := Aside0.mk (Kd.R_below (Kd.R_elderB (by (with_reducible repeat (first | apply Kd.R_alloc | apply Kd.R_drewN | apply Kd.R_drew)); exact HO_5.out) gb463 (Nat.le_of_eq hg.symm)) hb); have n1_ := bb BK444 hb; have n2_ := bb BK458 hb; have n3_ := Aside0.mk (below_step (by repeat (first | (with_reducible first | exact HB.out | apply below_alloc | apply pw_below_drewN | apply below_drew1 | refine below_set ?_ GE444.out | refine below_set ?_ GE458.out) | exact HB.out)) hb); have n4_ := Aside0.mk (hbox); have n5_ := Aside0.mk ((by rw [hg]; exact (below_size (by repeat (first | (with_reducible first | exact HB.out | apply below_alloc | apply pw_below_drewN | apply below_drew1 | refine below_set ?_ GE444.out | refine below_set ?_ GE458.out) | exact HB.out))) : w.heap.size ≤ gb463)); have n6_ := Aside0.mk ((by rw [hg]; exact (below_size (by repeat (first | (with_reducible first | exact HB.out | apply below_alloc | apply pw_below_drewN | apply below_drew1 | refine below_set ?_ GE444.out | refine below_set ?_ GE458.out) | exact HB.out))) : w.heap.size ≤ gb463)); have n7_ := nl hg BK444; have n8_ := ng hg BK444; have n9_ := nl hg BK458; have n10_ := ng hg BK458; clear HO_5; clear BK444; clear BK458; clear HB; have HO_5 := n0_; have BK444 := n1_; have BK458 := n2_; have HB := n3_; have BK463 := n4_; have GW463 := n5_; have GE463 := n6_; have NB444_463 := n7_; have NB463_444 := n8_; have NB458_463 := n9_; have NB463_458 := n10_; clear n0_ n1_ n2_ n3_ n4_ n5_ n6_ n7_ n8_ n9_ n10_; clear hb hbox hg; have hnb30 := NB463_444.out; have hnc30 := NB444_463.out; have hnb31 := NB463_458.out; have hnc31 := NB458_463.out; obtain ⟨hcz32_0, hcz32_1, hcz32_2, hfz32_0, hfz32_1, hfz32_2⟩ := c3 BK463))
     (try simp only [Act.put, List.setIfInBounds_toArray, List.set_cons_zero, List.set_cons_succ])
     go_cut [78] (fun v78 wc => ∃ (kq : Nat) (x78_20 : Bool), v78 = .bool x78_20 ∧ Aside0 (laws_FnNeighbours.j1 kq t440 t445 t448 t457 x78_20 t441 t442 t443 t454 t455 t456 = some r) ∧ Aside0 (kq ≤ kj6) ∧ Aside0 (Kd.R k27 27 wc w.heap.size (fun k_ => k_ ≠ gb444 ∧ k_ ≠ gb458 ∧ k_ ≠ gb463) v446 t445) ∧ Aside0 (wc.heap[gb444]? = some (.cells #[.int .i64 t441, .int .i64 t442, .int .i64 t443] 27 (0, 0))) ∧ Aside0 (wc.heap[gb458]? = some (.cells #[.int .i64 t454, .int .i64 t455, .int .i64 t456] 27 (0, 0))) ∧ Aside0 (wc.heap[gb463]? = some (.cells #[.int .i64 t459, .int .i64 t460, .int .i64 t461] 27 (0, 0))) ∧ Aside0 (Below w.heap.size w wc))
     case first =>
      as_aux_lemma =>
      have H := HC21.out
      clear HC21
      by_cases c33 : t457 = t462
      ·rw [if_pos c33] at H
       have c33b0 : (t457 == t462) = true := beq_iff_eq.mpr c33
       have c33b1 : (t457 != t462) = false := bne_eq_false_iff_eq.mpr c33
       clear c33
       (first | rw [c33b0] | (simp only [i64_w, i32_w]; rw [c33b0]) | skip)
       have H' := Aside0.mk H
       clear H
       have hnb34 := NB458_444.out
       have hnc34 := NB444_458.out
       have hnb35 := NB458_463.out
       have hnc35 := NB463_458.out
       have hcz36_0 : w29.cell? ⟨gb458, 0, none⟩ = some (.int .i64 t454) := (blk_cell BK458.out 0).trans rfl
       have hcz36_1 : w29.cell? ⟨gb458, 1, none⟩ = some (.int .i64 t455) := (blk_cell BK458.out 1).trans rfl
       have hcz36_2 : w29.cell? ⟨gb458, 2, none⟩ = some (.int .i64 t456) := (blk_cell BK458.out 2).trans rfl
       have hfz36_0 := blk_frozen BK458.out 0
       have hfz36_1 := blk_frozen BK458.out 1
       have hfz36_2 := blk_frozen BK458.out 2
       have hnb37 := NB463_444.out
       have hnc37 := NB444_463.out
       have hcz38_0 : w29.cell? ⟨gb463, 0, none⟩ = some (.int .i64 0) := (blk_cell BK463.out 0).trans rfl
       have hcz38_1 : w29.cell? ⟨gb463, 1, none⟩ = some (.int .i64 0) := (blk_cell BK463.out 1).trans rfl
       have hcz38_2 : w29.cell? ⟨gb463, 2, none⟩ = some (.int .i64 0) := (blk_cell BK463.out 2).trans rfl
       have hfz38_0 := blk_frozen BK463.out 0
       have hfz38_1 := blk_frozen BK463.out 1
       have hfz38_2 := blk_frozen BK463.out 2
       go_wp2
       go_meet
       case rel => exact ⟨_, ((!(t454 == t459) || (!(t455 == t460) || (!(t456 == t461))))), (by first | rfl | (simp; done) | (simp [*]; done)), H', ⟨by have := HJ6.out; first | omega | exact Nat.le_refl _⟩, ⟨by (with_reducible repeat (first | apply Kd.R_alloc | apply Kd.R_drewN | apply Kd.R_drew)); exact Kd.R_mono (Kd.R_far (p := ⟨gb463, 2, none⟩) (Kd.R_far (p := ⟨gb463, 1, none⟩) (Kd.R_far (p := ⟨gb463, 0, none⟩) (Kd.R_mono HO_5.out (fun k_ hk => (⟨hk, hk.2⟩ : _ ∧ k_ ≠ gb463))) (fun _ hk => hk.2) (.int .i64 t459)) (fun _ hk => hk.2) (.int .i64 t460)) (fun _ hk => hk.2) (.int .i64 t461)) (fun _ hk => ⟨hk.1.1.1, ⟨hk.1.1.2, hk.1.2⟩⟩)⟩, ⟨by (with_reducible repeat (first | refine blk_drewN ?_ _ | refine blk_drew ?_ | refine blk_alloc ?_ _)); refine blk_far ?_ NB444_463.out _; (with_reducible repeat (first | refine blk_drewN ?_ _ | refine blk_drew ?_ | refine blk_alloc ?_ _)); refine blk_far ?_ NB444_463.out _; (with_reducible repeat (first | refine blk_drewN ?_ _ | refine blk_drew ?_ | refine blk_alloc ?_ _)); refine blk_far ?_ NB444_463.out _; (with_reducible repeat (first | refine blk_drewN ?_ _ | refine blk_drew ?_ | refine blk_alloc ?_ _)); exact BK444.out⟩, ⟨by (with_reducible repeat (first | refine blk_drewN ?_ _ | refine blk_drew ?_ | refine blk_alloc ?_ _)); refine blk_far ?_ NB458_463.out _; (with_reducible repeat (first | refine blk_drewN ?_ _ | refine blk_drew ?_ | refine blk_alloc ?_ _)); refine blk_far ?_ NB458_463.out _; (with_reducible repeat (first | refine blk_drewN ?_ _ | refine blk_drew ?_ | refine blk_alloc ?_ _)); refine blk_far ?_ NB458_463.out _; (with_reducible repeat (first | refine blk_drewN ?_ _ | refine blk_drew ?_ | refine blk_alloc ?_ _)); exact BK458.out⟩, ⟨by (with_reducible repeat (first | refine blk_drewN ?_ _ | refine blk_drew ?_ | refine blk_alloc ?_ _)); refine blk_put (cs := #[.int .i64 t459, .int .i64 t460, .int .i64 0]) ?_ 2 _ rfl; (with_reducible repeat (first | refine blk_drewN ?_ _ | refine blk_drew ?_ | refine blk_alloc ?_ _)); refine blk_put (cs := #[.int .i64 t459, .int .i64 0, .int .i64 0]) ?_ 1 _ rfl; (with_reducible repeat (first | refine blk_drewN ?_ _ | refine blk_drew ?_ | refine blk_alloc ?_ _)); refine blk_put (cs := #[.int .i64 0, .int .i64 0, .int .i64 0]) ?_ 0 _ rfl; (with_reducible repeat (first | refine blk_drewN ?_ _ | refine blk_drew ?_ | refine blk_alloc ?_ _)); exact BK463.out⟩, ⟨by repeat (first | (with_reducible first | exact HB.out | apply below_alloc | apply pw_below_drewN | apply below_drew1 | refine below_set ?_ GE444.out | refine below_set ?_ GE458.out | refine below_set ?_ GE463.out) | exact HB.out)⟩⟩
      ·rw [if_neg c33] at H
       have c33b0 : (t457 == t462) = false := beq_eq_false_iff_ne.mpr c33
       have c33b1 : (t457 != t462) = true := bne_iff_ne.mpr c33
       (first | rw [c33b0] | (simp only [i64_w, i32_w]; rw [c33b0]) | skip)
       have H' := Aside0.mk H
       clear H
       go_wp2
       go_meet
       case rel => exact ⟨_, (true), (by first | rfl | (simp; done) | (simp [*]; done)), H', ⟨by have := HJ6.out; first | omega | exact Nat.le_refl _⟩, ⟨by (with_reducible repeat (first | apply Kd.R_alloc | apply Kd.R_drewN | apply Kd.R_drew)); exact Kd.R_mono (Kd.R_far (p := ⟨gb463, 2, none⟩) (Kd.R_far (p := ⟨gb463, 1, none⟩) (Kd.R_far (p := ⟨gb463, 0, none⟩) (Kd.R_mono HO_5.out (fun k_ hk => (⟨hk, hk.2⟩ : _ ∧ k_ ≠ gb463))) (fun _ hk => hk.2) (.int .i64 t459)) (fun _ hk => hk.2) (.int .i64 t460)) (fun _ hk => hk.2) (.int .i64 t461)) (fun _ hk => ⟨hk.1.1.1, ⟨hk.1.1.2, hk.1.2⟩⟩)⟩, ⟨by (with_reducible repeat (first | refine blk_drewN ?_ _ | refine blk_drew ?_ | refine blk_alloc ?_ _)); refine blk_far ?_ NB444_463.out _; (with_reducible repeat (first | refine blk_drewN ?_ _ | refine blk_drew ?_ | refine blk_alloc ?_ _)); refine blk_far ?_ NB444_463.out _; (with_reducible repeat (first | refine blk_drewN ?_ _ | refine blk_drew ?_ | refine blk_alloc ?_ _)); refine blk_far ?_ NB444_463.out _; (with_reducible repeat (first | refine blk_drewN ?_ _ | refine blk_drew ?_ | refine blk_alloc ?_ _)); exact BK444.out⟩, ⟨by (with_reducible repeat (first | refine blk_drewN ?_ _ | refine blk_drew ?_ | refine blk_alloc ?_ _)); refine blk_far ?_ NB458_463.out _; (with_reducible repeat (first | refine blk_drewN ?_ _ | refine blk_drew ?_ | refine blk_alloc ?_ _)); refine blk_far ?_ NB458_463.out _; (with_reducible repeat (first | refine blk_drewN ?_ _ | refine blk_drew ?_ | refine blk_alloc ?_ _)); refine blk_far ?_ NB458_463.out _; (with_reducible repeat (first | refine blk_drewN ?_ _ | refine blk_drew ?_ | refine blk_alloc ?_ _)); exact BK458.out⟩, ⟨by (with_reducible repeat (first | refine blk_drewN ?_ _ | refine blk_drew ?_ | refine blk_alloc ?_ _)); refine blk_put (cs := #[.int .i64 t459, .int .i64 t460, .int .i64 0]) ?_ 2 _ rfl; (with_reducible repeat (first | refine blk_drewN ?_ _ | refine blk_drew ?_ | refine blk_alloc ?_ _)); refine blk_put (cs := #[.int .i64 t459, .int .i64 0, .int .i64 0]) ?_ 1 _ rfl; (with_reducible repeat (first | refine blk_drewN ?_ _ | refine blk_drew ?_ | refine blk_alloc ?_ _)); refine blk_put (cs := #[.int .i64 0, .int .i64 0, .int .i64 0]) ?_ 0 _ rfl; (with_reducible repeat (first | refine blk_drewN ?_ _ | refine blk_drew ?_ | refine blk_alloc ?_ _)); exact BK463.out⟩, ⟨by repeat (first | (with_reducible first | exact HB.out | apply below_alloc | apply pw_below_drewN | apply below_drew1 | refine below_set ?_ GE444.out | refine below_set ?_ GE458.out | refine below_set ?_ GE463.out) | exact HB.out)⟩⟩
     case rest =>
      as_aux_lemma =>
      clear HC21
      try clear c1
      try clear c2
      try clear p2
      try clear c3
      try clear c7
      try clear c14
      try clear c14b0
      try clear c14b1
      try clear c17
      try clear c18
      try clear c21
      try clear c25
      try clear c30
      try clear c31
      try clear c33
      try clear c33b0
      try clear c33b1
      try clear c34
      try clear c35
      try clear c37
      try clear c38
      try clear hcz10_0
      try clear hcz10_1
      try clear hcz10_2
      try clear hcz12_0
      try clear hcz12_1
      try clear hcz12_2
      try clear hcz22_0
      try clear hcz22_1
      try clear hcz22_2
      try clear hcz26_0
      try clear hcz26_1
      try clear hcz26_2
      try clear hcz27_0
      try clear hcz27_1
      try clear hcz27_2
      try clear hcz32_0
      try clear hcz32_1
      try clear hcz32_2
      try clear hcz36_0
      try clear hcz36_1
      try clear hcz36_2
      try clear hcz38_0
      try clear hcz38_1
      try clear hcz38_2
      try clear hfz10_0
      try clear hfz10_1
      try clear hfz10_2
      try clear hfz12_0
      try clear hfz12_1
      try clear hfz12_2
      try clear hfz22_0
      try clear hfz22_1
      try clear hfz22_2
      try clear hfz26_0
      try clear hfz26_1
      try clear hfz26_2
      try clear hfz27_0
      try clear hfz27_1
      try clear hfz27_2
      try clear hfz32_0
      try clear hfz32_1
      try clear hfz32_2
      try clear hfz36_0
      try clear hfz36_1
      try clear hfz36_2
      try clear hfz38_0
      try clear hfz38_1
      try clear hfz38_2
      try clear p2
      obtain ⟨kq, x78_20, rfl, HA, HJ20, HO_5, BK444, BK458, BK463, HB⟩ := hcut
      cases kq with
      | zero => exact absurd HA.out (by simp [laws_FnNeighbours.j1])
      | succ kj20 =>
       have H := HA.out
       clear HA
       simp only [laws_FnNeighbours.j1] at H
       by_cases c39 : x78_20 = true
       ·subst c39
        have H1 : (some false) = some r := by rw [if_pos rfl] at H; exact H
        clear H
        have H := H1
        clear H1
        exact absurd ((Option.some.inj H).trans hr.out) (by simp)
       ·replace c39 := Bool.eq_false_iff.mpr c39
        subst c39
        have H1 : ((impl_ChildrenOf.f kj20 t440 t441 t442 t443).bind fun bt464 => ((spec_ChildrenOf.f kj20 t440 t441 t442 t443).bind fun bt468 => (if bt464.2 = bt468.2 then ((laws_balls9.f kj20 bt464.1 bt468.1).bind fun t472 => (laws_FnNeighbours.j2 kj20 t440 t445 t448 t457 bt464.1 (!t472) t441 t442 t443 t454 t455 t456)) else (laws_FnNeighbours.j2 kj20 t440 t445 t448 t457 bt464.1 true t441 t442 t443 t454 t455 t456)))) = some r := by rw [if_neg (show ¬ (false = true) by decide)] at H; exact H
        clear H
        have H := H1
        clear H1
        replace H := Option.bind_eq_some_iff.mp H
        obtain ⟨⟨t464, t467⟩, A400, H⟩ := H
        replace H : ((spec_ChildrenOf.f kj20 t440 t441 t442 t443).bind fun bt468 => (if t467 = bt468.2 then ((laws_balls9.f kj20 t464 bt468.1).bind fun t472 => (laws_FnNeighbours.j2 kj20 t440 t445 t448 t457 t464 (!t472) t441 t442 t443 t454 t455 t456)) else (laws_FnNeighbours.j2 kj20 t440 t445 t448 t457 t464 true t441 t442 t443 t454 t455 t456))) = some r := H
        have A40 := Aside0.mk A400
        clear A400
        replace H := Option.bind_eq_some_iff.mp H
        obtain ⟨⟨t468, t471⟩, A410, H⟩ := H
        replace H : (if t467 = t471 then ((laws_balls9.f kj20 t464 t468).bind fun t472 => (laws_FnNeighbours.j2 kj20 t440 t445 t448 t457 t464 (!t472) t441 t442 t443 t454 t455 t456)) else (laws_FnNeighbours.j2 kj20 t440 t445 t448 t457 t464 true t441 t442 t443 t454 t455 t456)) = some r := H
        have A41 := Aside0.mk A410
        clear A410
        have HC42 := Aside0.mk H
        clear H
        have hnb43 := NB444_458.out
        have hnc43 := NB458_444.out
        have hnb44 := NB444_463.out
        have hnc44 := NB463_444.out
        have hcz45_0 : wc.cell? ⟨gb444, 0, none⟩ = some (.int .i64 t441) := (blk_cell BK444.out 0).trans rfl
        have hcz45_1 : wc.cell? ⟨gb444, 1, none⟩ = some (.int .i64 t442) := (blk_cell BK444.out 1).trans rfl
        have hcz45_2 : wc.cell? ⟨gb444, 2, none⟩ = some (.int .i64 t443) := (blk_cell BK444.out 2).trans rfl
        have hfz45_0 := blk_frozen BK444.out 0
        have hfz45_1 := blk_frozen BK444.out 1
        have hfz45_2 := blk_frozen BK444.out 2
        go_upto_region 14 with (first | ((with_reducible refine gate_callee (f := 39) rfl ?_); refine goesL_ (some 82) rfl rfl Try.func39 (by kernel_rfl) rfl #[.int .i64 t440, .agg #[.int .i64 t441, .int .i64 t442, .int .i64 t443]] rfl (by (try simp only [List.map_toArray, List.map_cons, List.map_nil]); first | done | rfl | (simp only [List.length_drop, List.length_take]; rfl)) ?_; (with_reducible refine (impl_ChildrenOf.calls kj20 t440 t441 t442 t443 t464 t467 _ A40.out).mono ?_); rintro e w46 ⟨v465, rfl, ho0, hb⟩; refine ⟨_, rfl, ?_⟩; have n0_ := Aside0.mk (Kd.R_elder' (by (with_reducible repeat (first | apply Kd.R_alloc | apply Kd.R_drewN | apply Kd.R_drew)); exact HO_5.out) (Kd.R_base ho0) hb); have n1_ := Aside0.mk (Kd.R_lower (Kd.R_newB (Kd.R_newB (Kd.R_newB (Kd.R_new' ho0 (Kd.R_lt (by (with_reducible repeat (first | apply Kd.R_alloc | apply Kd.R_drewN | apply Kd.R_drew)); exact HO_5.out))) (g := gb444) (o := .cells #[.int .i64 t441, .int .i64 t442, .int .i64 t443] 27 (0, 0)) (be BK444)) (g := gb458) (o := .cells #[.int .i64 t454, .int .i64 t455, .int .i64 t456] 27 (0, 0)) (be BK458)) (g := gb463) (o := .cells #[.int .i64 t459, .int .i64 t460, .int .i64 t461] 27 (0, 0)) (be BK463)) (below_size (by repeat (first | (with_reducible first | exact HB.out | apply below_alloc | apply pw_below_drewN | apply below_drew1 | refine below_set ?_ GE444.out | refine below_set ?_ GE458.out | refine below_set ?_ GE463.out) | exact HB.out)))); have n2_ := bb BK444 hb; have n3_ := bb BK458 hb; have n4_ := bb BK463 hb; have n5_ := Aside0.mk (below_step (by repeat (first | (with_reducible first | exact HB.out | apply below_alloc | apply pw_below_drewN | apply below_drew1 | refine below_set ?_ GE444.out | refine below_set ?_ GE458.out | refine below_set ?_ GE463.out) | exact HB.out)) hb); clear HO_5; clear BK444; clear BK458; clear BK463; clear HB; have HO_5 := n0_; have HO466 := n1_; have BK444 := n2_; have BK458 := n3_; have BK463 := n4_; have HB := n5_; clear n0_ n1_ n2_ n3_ n4_ n5_; (try clear hb); (try clear hb2); (try clear hk); (try clear hi); (try clear ho0); obtain ⟨hcz47_0, hcz47_1, hcz47_2, hfz47_0, hfz47_1, hfz47_2⟩ := c3 BK444) | ((with_reducible refine gate_callee (f := 40) rfl ?_); refine goesL_ (some 88) rfl rfl Try.func40 (by kernel_rfl) rfl #[.int .i64 t440, .agg #[.int .i64 t441, .int .i64 t442, .int .i64 t443]] rfl (by (try simp only [List.map_toArray, List.map_cons, List.map_nil]); first | done | rfl | (simp only [List.length_drop, List.length_take]; rfl)) ?_; (with_reducible refine (spec_ChildrenOf.calls kj20 t440 t441 t442 t443 t468 t471 _ A41.out).mono ?_); rintro e w48 ⟨v469, rfl, ho0, hb⟩; refine ⟨_, rfl, ?_⟩; have n0_ := Aside0.mk (Kd.R_elder' (by (with_reducible repeat (first | apply Kd.R_alloc | apply Kd.R_drewN | apply Kd.R_drew)); exact HO_5.out) (Kd.R_base ho0) hb); have n1_ := Aside0.mk (Kd.R_elder' (by (with_reducible repeat (first | apply Kd.R_alloc | apply Kd.R_drewN | apply Kd.R_drew)); exact HO466.out) (Kd.R_base ho0) hb); have n2_ := Aside0.mk (Kd.R_lower (Kd.R_newB (Kd.R_newB (Kd.R_newB (Kd.R_new' (Kd.R_new' ho0 (Kd.R_lt (by (with_reducible repeat (first | apply Kd.R_alloc | apply Kd.R_drewN | apply Kd.R_drew)); exact HO_5.out))) (Kd.R_lt (by (with_reducible repeat (first | apply Kd.R_alloc | apply Kd.R_drewN | apply Kd.R_drew)); exact HO466.out))) (g := gb444) (o := .cells #[.int .i64 t441, .int .i64 t442, .int .i64 t443] 27 (0, 0)) (be BK444)) (g := gb458) (o := .cells #[.int .i64 t454, .int .i64 t455, .int .i64 t456] 27 (0, 0)) (be BK458)) (g := gb463) (o := .cells #[.int .i64 t459, .int .i64 t460, .int .i64 t461] 27 (0, 0)) (be BK463)) (below_size (by repeat (first | (with_reducible first | exact HB.out | apply below_alloc | apply pw_below_drewN | apply below_drew1 | refine below_set ?_ GE444.out | refine below_set ?_ GE458.out | refine below_set ?_ GE463.out) | exact HB.out)))); have n3_ := bb BK444 hb; have n4_ := bb BK458 hb; have n5_ := bb BK463 hb; have n6_ := Aside0.mk (below_step (by repeat (first | (with_reducible first | exact HB.out | apply below_alloc | apply pw_below_drewN | apply below_drew1 | refine below_set ?_ GE444.out | refine below_set ?_ GE458.out | refine below_set ?_ GE463.out) | exact HB.out)) hb); clear HO_5; clear HO466; clear BK444; clear BK458; clear BK463; clear HB; have HO_5 := n0_; have HO466 := n1_; have HO470 := n2_; have BK444 := n3_; have BK458 := n4_; have BK463 := n5_; have HB := n6_; clear n0_ n1_ n2_ n3_ n4_ n5_ n6_; (try clear hb); (try clear hb2); (try clear hk); (try clear hi); (try clear ho0)))
        (try simp only [Act.put, List.setIfInBounds_toArray, List.set_cons_zero, List.set_cons_succ])
        go_cut [99] (fun v99 wc => ∃ (kq : Nat) (x99_41 : Bool), v99 = .bool x99_41 ∧ Aside0 (laws_FnNeighbours.j2 kq t440 t445 t448 t457 t464 x99_41 t441 t442 t443 t454 t455 t456 = some r) ∧ Aside0 (kq ≤ kj20) ∧ Aside0 (Kd.R k27 27 wc w.heap.size (fun k_ => some k_ ≠ (v465 : Value).ownBlock ∧ k_ ≠ gb444 ∧ k_ ≠ gb458 ∧ k_ ≠ gb463) v446 t445) ∧ Aside0 (Kd.R k27 27 wc w.heap.size (fun k_ => some k_ ≠ (v446 : Value).ownBlock ∧ k_ ≠ gb444 ∧ k_ ≠ gb458 ∧ k_ ≠ gb463) v465 t464) ∧ Aside0 (wc.heap[gb444]? = some (.cells #[.int .i64 t441, .int .i64 t442, .int .i64 t443] 27 (0, 0))) ∧ Aside0 (wc.heap[gb458]? = some (.cells #[.int .i64 t454, .int .i64 t455, .int .i64 t456] 27 (0, 0))) ∧ Aside0 (wc.heap[gb463]? = some (.cells #[.int .i64 t459, .int .i64 t460, .int .i64 t461] 27 (0, 0))) ∧ Aside0 (Below w.heap.size w wc))
        case first =>
         as_aux_lemma =>
         have H := HC42.out
         clear HC42
         by_cases c49 : t467 = t471
         ·rw [if_pos c49] at H
          have c49b0 : (t467 == t471) = true := beq_iff_eq.mpr c49
          have c49b1 : (t467 != t471) = false := bne_eq_false_iff_eq.mpr c49
          clear c49
          (first | rw [c49b0] | (simp only [i64_w, i32_w]; rw [c49b0]) | skip)
          replace H := Option.bind_eq_some_iff.mp H
          obtain ⟨t472, A500, H⟩ := H
          replace H : (laws_FnNeighbours.j2 kj20 t440 t445 t448 t457 t464 (!t472) t441 t442 t443 t454 t455 t456) = some r := H
          have A50 := Aside0.mk A500
          clear A500
          have H' := Aside0.mk H
          clear H
          obtain ⟨Ao51, co51, eo51⟩ := Kd.R_slice HO466.out
          subst eo51
          obtain ⟨Ao52, co52, eo52⟩ := Kd.R_slice HO470.out
          subst eo52
          go_wp2_with (first | (go_at_call 36; (with_reducible refine (laws_balls9.calls kj20 _ _ t464 _ _ t468 t472 _ ?side1 ?side2 ?side3 ?side4 A50.out).mono ?_); (case side1 => repeat (first | exact (Kd.R_reads' HO466.out).2.2 | (with_reducible refine Kd.C_alloc ?_ _) | (with_reducible refine Kd.C_drewN ?_ _) | (with_reducible refine Kd.C_drew ?_))); (case side2 => exact (Kd.R_reads' HO466.out).2.1); (case side3 => repeat (first | exact (Kd.R_reads' HO470.out).2.2 | (with_reducible refine Kd.C_alloc ?_ _) | (with_reducible refine Kd.C_drewN ?_ _) | (with_reducible refine Kd.C_drew ?_))); (case side4 => exact (Kd.R_reads' HO470.out).2.1); rintro e w' ⟨rfl, ⟨nd, rfl⟩⟩))
          go_meet
          case rel => exact ⟨_, (!t472), (by first | rfl | (simp; done) | (simp [*]; done)), H', ⟨by have := HJ6.out; have := HJ20.out; first | omega | exact Nat.le_refl _⟩, ⟨by (with_reducible repeat (first | apply Kd.R_alloc | apply Kd.R_drewN | apply Kd.R_drew)); exact Kd.R_mono HO_5.out (fun _ hk => ⟨hk.1.2, ⟨hk.1.1.1, ⟨hk.1.1.2.1, hk.1.1.2.2⟩⟩⟩)⟩, ⟨by (with_reducible repeat (first | apply Kd.R_alloc | apply Kd.R_drewN | apply Kd.R_drew)); exact Kd.R_mono HO466.out (fun _ hk => ⟨hk.1.1.1.1.2, ⟨hk.1.1.1.2, ⟨hk.1.1.2, hk.1.2⟩⟩⟩)⟩, ⟨be BK444⟩, ⟨be BK458⟩, ⟨be BK463⟩, ⟨by repeat (first | (with_reducible first | exact HB.out | apply below_alloc | apply pw_below_drewN | apply below_drew1 | refine below_set ?_ GE444.out | refine below_set ?_ GE458.out | refine below_set ?_ GE463.out) | exact HB.out)⟩⟩
         ·rw [if_neg c49] at H
          have c49b0 : (t467 == t471) = false := beq_eq_false_iff_ne.mpr c49
          have c49b1 : (t467 != t471) = true := bne_iff_ne.mpr c49
          (first | rw [c49b0] | (simp only [i64_w, i32_w]; rw [c49b0]) | skip)
          have H' := Aside0.mk H
          clear H
          go_wp2
          go_meet
          case rel => exact ⟨_, (true), (by first | rfl | (simp; done) | (simp [*]; done)), H', ⟨by have := HJ6.out; have := HJ20.out; first | omega | exact Nat.le_refl _⟩, ⟨by (with_reducible repeat (first | apply Kd.R_alloc | apply Kd.R_drewN | apply Kd.R_drew)); exact Kd.R_mono HO_5.out (fun _ hk => ⟨hk.1.2, ⟨hk.1.1.1, ⟨hk.1.1.2.1, hk.1.1.2.2⟩⟩⟩)⟩, ⟨by (with_reducible repeat (first | apply Kd.R_alloc | apply Kd.R_drewN | apply Kd.R_drew)); exact Kd.R_mono HO466.out (fun _ hk => ⟨hk.1.1.1.1.2, ⟨hk.1.1.1.2, ⟨hk.1.1.2, hk.1.2⟩⟩⟩)⟩, ⟨be BK444⟩, ⟨be BK458⟩, ⟨be BK463⟩, ⟨by repeat (first | (with_reducible first | exact HB.out | apply below_alloc | apply pw_below_drewN | apply below_drew1 | refine below_set ?_ GE444.out | refine below_set ?_ GE458.out | refine below_set ?_ GE463.out) | exact HB.out)⟩⟩
        case rest =>
         as_aux_lemma =>
         clear HC42
         try clear c1
         try clear c2
         try clear p2
         try clear c3
         try clear c4
         try clear c7
         try clear c14
         try clear c14b0
         try clear c14b1
         try clear c17
         try clear c18
         try clear c21
         try clear c25
         try clear c30
         try clear c31
         try clear c33
         try clear c33b0
         try clear c33b1
         try clear c34
         try clear c35
         try clear c37
         try clear c38
         try clear c39
         try clear c40
         try clear c43
         try clear c44
         try clear c49
         try clear c49b0
         try clear c49b1
         try clear hcz10_0
         try clear hcz10_1
         try clear hcz10_2
         try clear hcz12_0
         try clear hcz12_1
         try clear hcz12_2
         try clear hcz22_0
         try clear hcz22_1
         try clear hcz22_2
         try clear hcz26_0
         try clear hcz26_1
         try clear hcz26_2
         try clear hcz27_0
         try clear hcz27_1
         try clear hcz27_2
         try clear hcz32_0
         try clear hcz32_1
         try clear hcz32_2
         try clear hcz36_0
         try clear hcz36_1
         try clear hcz36_2
         try clear hcz38_0
         try clear hcz38_1
         try clear hcz38_2
         try clear hcz45_0
         try clear hcz45_1
         try clear hcz45_2
         try clear hcz47_0
         try clear hcz47_1
         try clear hcz47_2
         try clear hfz10_0
         try clear hfz10_1
         try clear hfz10_2
         try clear hfz12_0
         try clear hfz12_1
         try clear hfz12_2
         try clear hfz22_0
         try clear hfz22_1
         try clear hfz22_2
         try clear hfz26_0
         try clear hfz26_1
         try clear hfz26_2
         try clear hfz27_0
         try clear hfz27_1
         try clear hfz27_2
         try clear hfz32_0
         try clear hfz32_1
         try clear hfz32_2
         try clear hfz36_0
         try clear hfz36_1
         try clear hfz36_2
         try clear hfz38_0
         try clear hfz38_1
         try clear hfz38_2
         try clear hfz45_0
         try clear hfz45_1
         try clear hfz45_2
         try clear hfz47_0
         try clear hfz47_1
         try clear hfz47_2
         try clear p2
         obtain ⟨kq, x99_41, rfl, HA, HJ41, HO_5, HO_13, BK444, BK458, BK463, HB⟩ := hcut
         cases kq with
         | zero => exact absurd HA.out (by simp [laws_FnNeighbours.j2])
         | succ kj41 =>
          have H := HA.out
          clear HA
          simp only [laws_FnNeighbours.j2] at H
          by_cases c53 : x99_41 = true
          ·subst c53
           have H1 : (some false) = some r := by rw [if_pos rfl] at H; exact H
           clear H
           have H := H1
           clear H1
           exact absurd ((Option.some.inj H).trans hr.out) (by simp)
          ·replace c53 := Bool.eq_false_iff.mpr c53
           subst c53
           have H1 : ((impl_TypeOf.f kj41 t440 t441 t442 t443).bind fun bt473 => ((spec_TypeOf.f kj41 t440 t441 t442 t443).bind fun bt475 => (if bt473.2 = bt475.2 then (laws_FnNeighbours.j3 kj41 t440 t445 t448 t457 t464 bt473.1 (bt473.1 != bt475.1) t441 t442 t443 t454 t455 t456) else (laws_FnNeighbours.j3 kj41 t440 t445 t448 t457 t464 bt473.1 true t441 t442 t443 t454 t455 t456)))) = some r := by rw [if_neg (show ¬ (false = true) by decide)] at H; exact H
           clear H
           have H := H1
           clear H1
           replace H := Option.bind_eq_some_iff.mp H
           obtain ⟨⟨t473, t474⟩, A540, H⟩ := H
           replace H : ((spec_TypeOf.f kj41 t440 t441 t442 t443).bind fun bt475 => (if t474 = bt475.2 then (laws_FnNeighbours.j3 kj41 t440 t445 t448 t457 t464 t473 (t473 != bt475.1) t441 t442 t443 t454 t455 t456) else (laws_FnNeighbours.j3 kj41 t440 t445 t448 t457 t464 t473 true t441 t442 t443 t454 t455 t456))) = some r := H
           have A54 := Aside0.mk A540
           clear A540
           replace H := Option.bind_eq_some_iff.mp H
           obtain ⟨⟨t475, t476⟩, A550, H⟩ := H
           replace H : (if t474 = t476 then (laws_FnNeighbours.j3 kj41 t440 t445 t448 t457 t464 t473 (t473 != t475) t441 t442 t443 t454 t455 t456) else (laws_FnNeighbours.j3 kj41 t440 t445 t448 t457 t464 t473 true t441 t442 t443 t454 t455 t456)) = some r := H
           have A55 := Aside0.mk A550
           clear A550
           have HC56 := Aside0.mk H
           clear H
           have hnb57 := NB444_458.out
           have hnc57 := NB458_444.out
           have hnb58 := NB444_463.out
           have hnc58 := NB463_444.out
           have hcz59_0 : wc.cell? ⟨gb444, 0, none⟩ = some (.int .i64 t441) := (blk_cell BK444.out 0).trans rfl
           have hcz59_1 : wc.cell? ⟨gb444, 1, none⟩ = some (.int .i64 t442) := (blk_cell BK444.out 1).trans rfl
           have hcz59_2 : wc.cell? ⟨gb444, 2, none⟩ = some (.int .i64 t443) := (blk_cell BK444.out 2).trans rfl
           have hfz59_0 := blk_frozen BK444.out 0
           have hfz59_1 := blk_frozen BK444.out 1
           have hfz59_2 := blk_frozen BK444.out 2
           go_upto_region 18 with (first | ((with_reducible refine gate_callee (f := 41) rfl ?_); refine goesL_ (some 103) rfl rfl Try.func41 (by kernel_rfl) rfl #[.int .i64 t440, .agg #[.int .i64 t441, .int .i64 t442, .int .i64 t443]] rfl (by (try simp only [List.map_toArray, List.map_cons, List.map_nil]); first | done | rfl | (simp only [List.length_drop, List.length_take]; rfl)) ?_; (with_reducible refine (impl_TypeOf.calls kj41 t440 t441 t442 t443 t473 t474 _ A54.out).mono ?_); rintro e w60 ⟨rfl, hb⟩; refine ⟨_, rfl, ?_⟩; have n0_ := Aside0.mk (Kd.R_below (by (with_reducible repeat (first | apply Kd.R_alloc | apply Kd.R_drewN | apply Kd.R_drew)); exact HO_5.out) hb); have n1_ := Aside0.mk (Kd.R_below (by (with_reducible repeat (first | apply Kd.R_alloc | apply Kd.R_drewN | apply Kd.R_drew)); exact HO_13.out) hb); have n2_ := bb BK444 hb; have n3_ := bb BK458 hb; have n4_ := bb BK463 hb; have n5_ := Aside0.mk (below_step (by repeat (first | (with_reducible first | exact HB.out | apply below_alloc | apply pw_below_drewN | apply below_drew1 | refine below_set ?_ GE444.out | refine below_set ?_ GE458.out | refine below_set ?_ GE463.out) | exact HB.out)) hb); clear HO_5; clear HO_13; clear BK444; clear BK458; clear BK463; clear HB; have HO_5 := n0_; have HO_13 := n1_; have BK444 := n2_; have BK458 := n3_; have BK463 := n4_; have HB := n5_; clear n0_ n1_ n2_ n3_ n4_ n5_; (try clear hb); (try clear hb2); (try clear hk); (try clear hi); obtain ⟨hcz61_0, hcz61_1, hcz61_2, hfz61_0, hfz61_1, hfz61_2⟩ := c3 BK444) | ((with_reducible refine gate_callee (f := 42) rfl ?_); refine goesL_ (some 109) rfl rfl Try.func42 (by kernel_rfl) rfl #[.int .i64 t440, .agg #[.int .i64 t441, .int .i64 t442, .int .i64 t443]] rfl (by (try simp only [List.map_toArray, List.map_cons, List.map_nil]); first | done | rfl | (simp only [List.length_drop, List.length_take]; rfl)) ?_; (with_reducible refine (spec_TypeOf.calls kj41 t440 t441 t442 t443 t475 t476 _ A55.out).mono ?_); rintro e w62 ⟨rfl, hb⟩; refine ⟨_, rfl, ?_⟩; have n0_ := Aside0.mk (Kd.R_below (by (with_reducible repeat (first | apply Kd.R_alloc | apply Kd.R_drewN | apply Kd.R_drew)); exact HO_5.out) hb); have n1_ := Aside0.mk (Kd.R_below (by (with_reducible repeat (first | apply Kd.R_alloc | apply Kd.R_drewN | apply Kd.R_drew)); exact HO_13.out) hb); have n2_ := bb BK444 hb; have n3_ := bb BK458 hb; have n4_ := bb BK463 hb; have n5_ := Aside0.mk (below_step (by repeat (first | (with_reducible first | exact HB.out | apply below_alloc | apply pw_below_drewN | apply below_drew1 | refine below_set ?_ GE444.out | refine below_set ?_ GE458.out | refine below_set ?_ GE463.out) | exact HB.out)) hb); clear HO_5; clear HO_13; clear BK444; clear BK458; clear BK463; clear HB; have HO_5 := n0_; have HO_13 := n1_; have BK444 := n2_; have BK458 := n3_; have BK463 := n4_; have HB := n5_; clear n0_ n1_ n2_ n3_ n4_ n5_; (try clear hb); (try clear hb2); (try clear hk); (try clear hi)))
           (try simp only [Act.put, List.setIfInBounds_toArray, List.set_cons_zero, List.set_cons_succ])
           go_cut [119] (fun v119 wc => ∃ (kq : Nat) (x119_55 : Bool), v119 = .bool x119_55 ∧ Aside0 (laws_FnNeighbours.j3 kq t440 t445 t448 t457 t464 t473 x119_55 t441 t442 t443 t454 t455 t456 = some r) ∧ Aside0 (kq ≤ kj41) ∧ Aside0 (Kd.R k27 27 wc w.heap.size (fun k_ => some k_ ≠ (v465 : Value).ownBlock ∧ k_ ≠ gb444 ∧ k_ ≠ gb458 ∧ k_ ≠ gb463) v446 t445) ∧ Aside0 (Kd.R k27 27 wc w.heap.size (fun k_ => some k_ ≠ (v446 : Value).ownBlock ∧ k_ ≠ gb444 ∧ k_ ≠ gb458 ∧ k_ ≠ gb463) v465 t464) ∧ Aside0 (wc.heap[gb444]? = some (.cells #[.int .i64 t441, .int .i64 t442, .int .i64 t443] 27 (0, 0))) ∧ Aside0 (wc.heap[gb458]? = some (.cells #[.int .i64 t454, .int .i64 t455, .int .i64 t456] 27 (0, 0))) ∧ Aside0 (wc.heap[gb463]? = some (.cells #[.int .i64 t459, .int .i64 t460, .int .i64 t461] 27 (0, 0))) ∧ Aside0 (Below w.heap.size w wc))
           case first =>
            as_aux_lemma =>
            have H := HC56.out
            clear HC56
            by_cases c63 : t474 = t476
            ·rw [if_pos c63] at H
             have c63b0 : (t474 == t476) = true := beq_iff_eq.mpr c63
             have c63b1 : (t474 != t476) = false := bne_eq_false_iff_eq.mpr c63
             clear c63
             (first | rw [c63b0] | (simp only [i64_w, i32_w]; rw [c63b0]) | skip)
             have H' := Aside0.mk H
             clear H
             go_wp2
             go_meet
             case rel => exact ⟨_, ((t473 != t475)), (by first | rfl | (simp; done) | (simp [*]; done)), H', ⟨by have := HJ6.out; have := HJ20.out; have := HJ41.out; first | omega | exact Nat.le_refl _⟩, ⟨by (with_reducible repeat (first | apply Kd.R_alloc | apply Kd.R_drewN | apply Kd.R_drew)); exact HO_5.out⟩, ⟨by (with_reducible repeat (first | apply Kd.R_alloc | apply Kd.R_drewN | apply Kd.R_drew)); exact HO_13.out⟩, ⟨be BK444⟩, ⟨be BK458⟩, ⟨be BK463⟩, ⟨by repeat (first | (with_reducible first | exact HB.out | apply below_alloc | apply pw_below_drewN | apply below_drew1 | refine below_set ?_ GE444.out | refine below_set ?_ GE458.out | refine below_set ?_ GE463.out) | exact HB.out)⟩⟩
            ·rw [if_neg c63] at H
             have c63b0 : (t474 == t476) = false := beq_eq_false_iff_ne.mpr c63
             have c63b1 : (t474 != t476) = true := bne_iff_ne.mpr c63
             (first | rw [c63b0] | (simp only [i64_w, i32_w]; rw [c63b0]) | skip)
             have H' := Aside0.mk H
             clear H
             go_wp2
             go_meet
             case rel => exact ⟨_, (true), (by first | rfl | (simp; done) | (simp [*]; done)), H', ⟨by have := HJ6.out; have := HJ20.out; have := HJ41.out; first | omega | exact Nat.le_refl _⟩, ⟨by (with_reducible repeat (first | apply Kd.R_alloc | apply Kd.R_drewN | apply Kd.R_drew)); exact HO_5.out⟩, ⟨by (with_reducible repeat (first | apply Kd.R_alloc | apply Kd.R_drewN | apply Kd.R_drew)); exact HO_13.out⟩, ⟨be BK444⟩, ⟨be BK458⟩, ⟨be BK463⟩, ⟨by repeat (first | (with_reducible first | exact HB.out | apply below_alloc | apply pw_below_drewN | apply below_drew1 | refine below_set ?_ GE444.out | refine below_set ?_ GE458.out | refine below_set ?_ GE463.out) | exact HB.out)⟩⟩
           case rest =>
            as_aux_lemma =>
            clear HC56
            try clear c1
            try clear c2
            try clear p2
            try clear c3
            try clear c4
            try clear c5
            try clear c6
            try clear c7
            try clear c14
            try clear c14b0
            try clear c14b1
            try clear c17
            try clear c18
            try clear c21
            try clear c25
            try clear c30
            try clear c31
            try clear c33
            try clear c33b0
            try clear c33b1
            try clear c34
            try clear c35
            try clear c37
            try clear c38
            try clear c39
            try clear c40
            try clear c41
            try clear c42
            try clear c43
            try clear c44
            try clear c49
            try clear c49b0
            try clear c49b1
            try clear c53
            try clear c57
            try clear c58
            try clear c63
            try clear c63b0
            try clear c63b1
            try clear hcz10_0
            try clear hcz10_1
            try clear hcz10_2
            try clear hcz12_0
            try clear hcz12_1
            try clear hcz12_2
            try clear hcz22_0
            try clear hcz22_1
            try clear hcz22_2
            try clear hcz26_0
            try clear hcz26_1
            try clear hcz26_2
            try clear hcz27_0
            try clear hcz27_1
            try clear hcz27_2
            try clear hcz32_0
            try clear hcz32_1
            try clear hcz32_2
            try clear hcz36_0
            try clear hcz36_1
            try clear hcz36_2
            try clear hcz38_0
            try clear hcz38_1
            try clear hcz38_2
            try clear hcz45_0
            try clear hcz45_1
            try clear hcz45_2
            try clear hcz47_0
            try clear hcz47_1
            try clear hcz47_2
            try clear hcz59_0
            try clear hcz59_1
            try clear hcz59_2
            try clear hcz61_0
            try clear hcz61_1
            try clear hcz61_2
            try clear hfz10_0
            try clear hfz10_1
            try clear hfz10_2
            try clear hfz12_0
            try clear hfz12_1
            try clear hfz12_2
            try clear hfz22_0
            try clear hfz22_1
            try clear hfz22_2
            try clear hfz26_0
            try clear hfz26_1
            try clear hfz26_2
            try clear hfz27_0
            try clear hfz27_1
            try clear hfz27_2
            try clear hfz32_0
            try clear hfz32_1
            try clear hfz32_2
            try clear hfz36_0
            try clear hfz36_1
            try clear hfz36_2
            try clear hfz38_0
            try clear hfz38_1
            try clear hfz38_2
            try clear hfz45_0
            try clear hfz45_1
            try clear hfz45_2
            try clear hfz47_0
            try clear hfz47_1
            try clear hfz47_2
            try clear hfz59_0
            try clear hfz59_1
            try clear hfz59_2
            try clear hfz61_0
            try clear hfz61_1
            try clear hfz61_2
            try clear p2
            obtain ⟨kq, x119_55, rfl, HA, HJ55, HO_5, HO_13, BK444, BK458, BK463, HB⟩ := hcut
            cases kq with
            | zero => exact absurd HA.out (by simp [laws_FnNeighbours.j3])
            | succ kj55 =>
             have H := HA.out
             clear HA
             simp only [laws_FnNeighbours.j3] at H
             by_cases c64 : x119_55 = true
             ·subst c64
              have H1 : (some false) = some r := by rw [if_pos rfl] at H; exact H
              clear H
              have H := H1
              clear H1
              exact absurd ((Option.some.inj H).trans hr.out) (by simp)
             ·replace c64 := Bool.eq_false_iff.mpr c64
              subst c64
              have H1 : (if t457 = 0 then ((impl_HoldsBall.f kj55 t440 t454 t455 t456 t441 t442 t443).bind fun bt477 => (if bt477.2 = 0 then (if bt477.1 = true then (laws_FnNeighbours.j4 kj55 t440 t445 t448 t464 t473 t441 t442 t443) else (some false)) else (some false))) else (laws_FnNeighbours.j4 kj55 t440 t445 t448 t464 t473 t441 t442 t443)) = some r := by rw [if_neg (show ¬ (false = true) by decide)] at H; exact H
              clear H
              have H := H1
              clear H1
              have HC65 := Aside0.mk H
              clear H
              go_upto_if 121 with (fail)
              go_cut [] (fun wc => ∃ (kq : Nat), Aside0 (laws_FnNeighbours.j4 kq t440 t445 t448 t464 t473 t441 t442 t443 = some r) ∧ Aside0 (kq ≤ kj55) ∧ Aside0 (Kd.R k27 27 wc w.heap.size (fun k_ => some k_ ≠ (v465 : Value).ownBlock ∧ k_ ≠ gb444 ∧ k_ ≠ gb458 ∧ k_ ≠ gb463) v446 t445) ∧ Aside0 (Kd.R k27 27 wc w.heap.size (fun k_ => some k_ ≠ (v446 : Value).ownBlock ∧ k_ ≠ gb444 ∧ k_ ≠ gb458 ∧ k_ ≠ gb463) v465 t464) ∧ Aside0 (wc.heap[gb444]? = some (.cells #[.int .i64 t441, .int .i64 t442, .int .i64 t443] 27 (0, 0))) ∧ Aside0 (wc.heap[gb458]? = some (.cells #[.int .i64 t454, .int .i64 t455, .int .i64 t456] 27 (0, 0))) ∧ Aside0 (wc.heap[gb463]? = some (.cells #[.int .i64 t459, .int .i64 t460, .int .i64 t461] 27 (0, 0))) ∧ Aside0 (Below w.heap.size w wc))
              case first =>
               as_aux_lemma =>
               have H := HC65.out
               clear HC65
               by_cases c66 : t457 = 0
               ·rw [if_pos c66] at H
                have c66b0 : (t457 == 0) = true := beq_iff_eq.mpr c66
                have c66b1 : (t457 != 0) = false := bne_eq_false_iff_eq.mpr c66
                clear c66
                (first | rw [c66b0] | (simp only [i64_w, i32_w]; rw [c66b0]) | skip)
                replace H := Option.bind_eq_some_iff.mp H
                obtain ⟨⟨t477, t478⟩, A670, H⟩ := H
                replace H : (if t478 = 0 then (if t477 = true then (laws_FnNeighbours.j4 kj55 t440 t445 t448 t464 t473 t441 t442 t443) else (some false)) else (some false)) = some r := H
                have A67 := Aside0.mk A670
                clear A670
                by_cases c68 : t478 = 0
                ·rw [if_pos c68] at H
                 have c68b0 : (t478 == 0) = true := beq_iff_eq.mpr c68
                 have c68b1 : (t478 != 0) = false := bne_eq_false_iff_eq.mpr c68
                 clear c68
                 by_cases c69 : t477 = true
                 ·subst c69
                  have H1 : (laws_FnNeighbours.j4 kj55 t440 t445 t448 t464 t473 t441 t442 t443) = some r := by rw [if_pos rfl] at H; exact H
                  clear H
                  have H := H1
                  clear H1
                  have H' := Aside0.mk H
                  clear H
                  have hnb70 := NB458_444.out
                  have hnc70 := NB444_458.out
                  have hnb71 := NB458_463.out
                  have hnc71 := NB463_458.out
                  have hcz72_0 : wc.cell? ⟨gb458, 0, none⟩ = some (.int .i64 t454) := (blk_cell BK458.out 0).trans rfl
                  have hcz72_1 : wc.cell? ⟨gb458, 1, none⟩ = some (.int .i64 t455) := (blk_cell BK458.out 1).trans rfl
                  have hcz72_2 : wc.cell? ⟨gb458, 2, none⟩ = some (.int .i64 t456) := (blk_cell BK458.out 2).trans rfl
                  have hfz72_0 := blk_frozen BK458.out 0
                  have hfz72_1 := blk_frozen BK458.out 1
                  have hfz72_2 := blk_frozen BK458.out 2
                  have hnb73 := NB444_463.out
                  have hnc73 := NB463_444.out
                  have hcz74_0 : wc.cell? ⟨gb444, 0, none⟩ = some (.int .i64 t441) := (blk_cell BK444.out 0).trans rfl
                  have hcz74_1 : wc.cell? ⟨gb444, 1, none⟩ = some (.int .i64 t442) := (blk_cell BK444.out 1).trans rfl
                  have hcz74_2 : wc.cell? ⟨gb444, 2, none⟩ = some (.int .i64 t443) := (blk_cell BK444.out 2).trans rfl
                  have hfz74_0 := blk_frozen BK444.out 0
                  have hfz74_1 := blk_frozen BK444.out 1
                  have hfz74_2 := blk_frozen BK444.out 2
                  go_wp2_with (first | ((with_reducible refine gate_callee (f := 43) rfl ?_); refine goesL_ (some 126) rfl rfl Try.func43 (by kernel_rfl) rfl #[.int .i64 t440, .agg #[.int .i64 t454, .int .i64 t455, .int .i64 t456], .agg #[.int .i64 t441, .int .i64 t442, .int .i64 t443]] rfl (by (try simp only [List.map_toArray, List.map_cons, List.map_nil]); first | done | rfl | (simp only [List.length_drop, List.length_take]; rfl)) ?_; (with_reducible refine (impl_HoldsBall.calls kj55 t440 t454 t455 t456 t441 t442 t443 true t478 _ A67.out).mono ?_); rintro e w75 ⟨rfl, hb⟩; refine ⟨_, rfl, ?_⟩; have n0_ := Aside0.mk (Kd.R_below (by (with_reducible repeat (first | apply Kd.R_alloc | apply Kd.R_drewN | apply Kd.R_drew)); exact HO_5.out) hb); have n1_ := Aside0.mk (Kd.R_below (by (with_reducible repeat (first | apply Kd.R_alloc | apply Kd.R_drewN | apply Kd.R_drew)); exact HO_13.out) hb); have n2_ := bb BK444 hb; have n3_ := bb BK458 hb; have n4_ := bb BK463 hb; have n5_ := Aside0.mk (below_step (by repeat (first | (with_reducible first | exact HB.out | apply below_alloc | apply pw_below_drewN | apply below_drew1 | refine below_set ?_ GE444.out | refine below_set ?_ GE458.out | refine below_set ?_ GE463.out) | exact HB.out)) hb); clear HO_5; clear HO_13; clear BK444; clear BK458; clear BK463; clear HB; have HO_5 := n0_; have HO_13 := n1_; have BK444 := n2_; have BK458 := n3_; have BK463 := n4_; have HB := n5_; clear n0_ n1_ n2_ n3_ n4_ n5_; (try clear hb); (try clear hb2); (try clear hk); (try clear hi)))
                  go_meet
                  case rel => exact ⟨_, H', ⟨by have := HJ6.out; have := HJ20.out; have := HJ41.out; have := HJ55.out; first | omega | exact Nat.le_refl _⟩, ⟨by (with_reducible repeat (first | apply Kd.R_alloc | apply Kd.R_drewN | apply Kd.R_drew)); exact HO_5.out⟩, ⟨by (with_reducible repeat (first | apply Kd.R_alloc | apply Kd.R_drewN | apply Kd.R_drew)); exact HO_13.out⟩, ⟨be BK444⟩, ⟨be BK458⟩, ⟨be BK463⟩, ⟨by repeat (first | (with_reducible first | exact HB.out | apply below_alloc | apply pw_below_drewN | apply below_drew1 | refine below_set ?_ GE444.out | refine below_set ?_ GE458.out | refine below_set ?_ GE463.out) | exact HB.out)⟩⟩
                 ·replace c69 := Bool.eq_false_iff.mpr c69
                  subst c69
                  have H1 : (some false) = some r := by rw [if_neg (show ¬ (false = true) by decide)] at H; exact H
                  clear H
                  have H := H1
                  clear H1
                  exact absurd ((Option.some.inj H).trans hr.out) (by simp)
                ·rw [if_neg c68] at H
                 have c68b0 : (t478 == 0) = false := beq_eq_false_iff_ne.mpr c68
                 have c68b1 : (t478 != 0) = true := bne_iff_ne.mpr c68
                 exact absurd ((Option.some.inj H).trans hr.out) (by simp)
               ·rw [if_neg c66] at H
                have c66b0 : (t457 == 0) = false := beq_eq_false_iff_ne.mpr c66
                have c66b1 : (t457 != 0) = true := bne_iff_ne.mpr c66
                (first | rw [c66b0] | (simp only [i64_w, i32_w]; rw [c66b0]) | skip)
                have H' := Aside0.mk H
                clear H
                go_wp2
                go_meet
                case rel => exact ⟨_, H', ⟨by have := HJ6.out; have := HJ20.out; have := HJ41.out; have := HJ55.out; first | omega | exact Nat.le_refl _⟩, ⟨by (with_reducible repeat (first | apply Kd.R_alloc | apply Kd.R_drewN | apply Kd.R_drew)); exact HO_5.out⟩, ⟨by (with_reducible repeat (first | apply Kd.R_alloc | apply Kd.R_drewN | apply Kd.R_drew)); exact HO_13.out⟩, ⟨be BK444⟩, ⟨be BK458⟩, ⟨be BK463⟩, ⟨by repeat (first | (with_reducible first | exact HB.out | apply below_alloc | apply pw_below_drewN | apply below_drew1 | refine below_set ?_ GE444.out | refine below_set ?_ GE458.out | refine below_set ?_ GE463.out) | exact HB.out)⟩⟩
              case rest =>
               as_aux_lemma =>
               clear HC65
               try clear c1
               try clear c2
               try clear p2
               try clear c3
               try clear c4
               try clear c5
               try clear c6
               try clear c7
               try clear c14
               try clear c14b0
               try clear c14b1
               try clear c17
               try clear c18
               try clear c21
               try clear c25
               try clear c30
               try clear c31
               try clear c33
               try clear c33b0
               try clear c33b1
               try clear c34
               try clear c35
               try clear c37
               try clear c38
               try clear c39
               try clear c40
               try clear c41
               try clear c42
               try clear c43
               try clear c44
               try clear c49
               try clear c49b0
               try clear c49b1
               try clear c53
               try clear c57
               try clear c58
               try clear c63
               try clear c63b0
               try clear c63b1
               try clear c64
               try clear c66
               try clear c66b0
               try clear c66b1
               try clear c68
               try clear c68b0
               try clear c68b1
               try clear c69
               try clear c70
               try clear c71
               try clear c73
               try clear hcz10_0
               try clear hcz10_1
               try clear hcz10_2
               try clear hcz12_0
               try clear hcz12_1
               try clear hcz12_2
               try clear hcz22_0
               try clear hcz22_1
               try clear hcz22_2
               try clear hcz26_0
               try clear hcz26_1
               try clear hcz26_2
               try clear hcz27_0
               try clear hcz27_1
               try clear hcz27_2
               try clear hcz32_0
               try clear hcz32_1
               try clear hcz32_2
               try clear hcz36_0
               try clear hcz36_1
               try clear hcz36_2
               try clear hcz38_0
               try clear hcz38_1
               try clear hcz38_2
               try clear hcz45_0
               try clear hcz45_1
               try clear hcz45_2
               try clear hcz47_0
               try clear hcz47_1
               try clear hcz47_2
               try clear hcz59_0
               try clear hcz59_1
               try clear hcz59_2
               try clear hcz61_0
               try clear hcz61_1
               try clear hcz61_2
               try clear hcz72_0
               try clear hcz72_1
               try clear hcz72_2
               try clear hcz74_0
               try clear hcz74_1
               try clear hcz74_2
               try clear hfz10_0
               try clear hfz10_1
               try clear hfz10_2
               try clear hfz12_0
               try clear hfz12_1
               try clear hfz12_2
               try clear hfz22_0
               try clear hfz22_1
               try clear hfz22_2
               try clear hfz26_0
               try clear hfz26_1
               try clear hfz26_2
               try clear hfz27_0
               try clear hfz27_1
               try clear hfz27_2
               try clear hfz32_0
               try clear hfz32_1
               try clear hfz32_2
               try clear hfz36_0
               try clear hfz36_1
               try clear hfz36_2
               try clear hfz38_0
               try clear hfz38_1
               try clear hfz38_2
               try clear hfz45_0
               try clear hfz45_1
               try clear hfz45_2
               try clear hfz47_0
               try clear hfz47_1
               try clear hfz47_2
               try clear hfz59_0
               try clear hfz59_1
               try clear hfz59_2
               try clear hfz61_0
               try clear hfz61_1
               try clear hfz61_2
               try clear hfz72_0
               try clear hfz72_1
               try clear hfz72_2
               try clear hfz74_0
               try clear hfz74_1
               try clear hfz74_2
               try clear p2
               obtain ⟨kq, HA, HJ64, HO_5, HO_13, BK444, BK458, BK463, HB⟩ := hcut
               cases kq with
               | zero => exact absurd HA.out (by simp [laws_FnNeighbours.j4])
               | succ kj64 =>
                have H := HA.out
                clear HA
                simp only [laws_FnNeighbours.j4] at H
                have H' := Aside0.mk H
                clear H
                go_wp2
                go_loopg [23] kj64 (fun kq v23 w' => ∃ (x23_6 : Int), v23 = .int .i64 x23_6 ∧ Aside0 (laws_FnNeighbours.l0 kq t440 t445 t448 t464 t473 x23_6 t441 t442 t443 = some r) ∧ Aside0 (kq ≤ kj64) ∧ Aside0 (Kd.R k27 27 w' w.heap.size (fun k_ => some k_ ≠ (v465 : Value).ownBlock ∧ k_ ≠ gb444 ∧ k_ ≠ gb458 ∧ k_ ≠ gb463) v446 t445) ∧ Aside0 (Kd.R k27 27 w' w.heap.size (fun k_ => some k_ ≠ (v446 : Value).ownBlock ∧ k_ ≠ gb444 ∧ k_ ≠ gb458 ∧ k_ ≠ gb463) v465 t464) ∧ Aside0 (w'.heap[gb444]? = some (.cells #[.int .i64 t441, .int .i64 t442, .int .i64 t443] 27 (0, 0))) ∧ Aside0 (w'.heap[gb458]? = some (.cells #[.int .i64 t454, .int .i64 t455, .int .i64 t456] 27 (0, 0))) ∧ Aside0 (w'.heap[gb463]? = some (.cells #[.int .i64 t459, .int .i64 t460, .int .i64 t461] 27 (0, 0))) ∧ Aside0 (Below w.heap.size w w'))
                case atStart => exact ⟨(0), (by first | rfl | (simp; done) | (simp [*]; done)), H', ⟨Nat.le_refl _⟩, ⟨by (with_reducible repeat (first | apply Kd.R_alloc | apply Kd.R_drewN | apply Kd.R_drew)); exact HO_5.out⟩, ⟨by (with_reducible repeat (first | apply Kd.R_alloc | apply Kd.R_drewN | apply Kd.R_drew)); exact HO_13.out⟩, ⟨be BK444⟩, ⟨be BK458⟩, ⟨be BK463⟩, ⟨by repeat (first | (with_reducible first | exact HB.out | apply below_alloc | apply pw_below_drewN | apply below_drew1 | refine below_set ?_ GE444.out | refine below_set ?_ GE458.out | refine below_set ?_ GE463.out) | exact HB.out)⟩⟩
                case round =>
                 as_aux_lemma =>
                 clear H'
                 try clear c1
                 try clear c2
                 try clear p2
                 try clear c3
                 try clear c4
                 try clear c5
                 try clear c6
                 try clear c7
                 try clear c14
                 try clear c14b0
                 try clear c14b1
                 try clear c17
                 try clear c18
                 try clear c21
                 try clear c25
                 try clear c30
                 try clear c31
                 try clear c33
                 try clear c33b0
                 try clear c33b1
                 try clear c34
                 try clear c35
                 try clear c37
                 try clear c38
                 try clear c39
                 try clear c40
                 try clear c41
                 try clear c42
                 try clear c43
                 try clear c44
                 try clear c49
                 try clear c49b0
                 try clear c49b1
                 try clear c53
                 try clear c57
                 try clear c58
                 try clear c63
                 try clear c63b0
                 try clear c63b1
                 try clear c64
                 try clear c66
                 try clear c66b0
                 try clear c66b1
                 try clear c68
                 try clear c68b0
                 try clear c68b1
                 try clear c69
                 try clear c70
                 try clear c71
                 try clear c73
                 try clear hcz10_0
                 try clear hcz10_1
                 try clear hcz10_2
                 try clear hcz12_0
                 try clear hcz12_1
                 try clear hcz12_2
                 try clear hcz22_0
                 try clear hcz22_1
                 try clear hcz22_2
                 try clear hcz26_0
                 try clear hcz26_1
                 try clear hcz26_2
                 try clear hcz27_0
                 try clear hcz27_1
                 try clear hcz27_2
                 try clear hcz32_0
                 try clear hcz32_1
                 try clear hcz32_2
                 try clear hcz36_0
                 try clear hcz36_1
                 try clear hcz36_2
                 try clear hcz38_0
                 try clear hcz38_1
                 try clear hcz38_2
                 try clear hcz45_0
                 try clear hcz45_1
                 try clear hcz45_2
                 try clear hcz47_0
                 try clear hcz47_1
                 try clear hcz47_2
                 try clear hcz59_0
                 try clear hcz59_1
                 try clear hcz59_2
                 try clear hcz61_0
                 try clear hcz61_1
                 try clear hcz61_2
                 try clear hcz72_0
                 try clear hcz72_1
                 try clear hcz72_2
                 try clear hcz74_0
                 try clear hcz74_1
                 try clear hcz74_2
                 try clear hfz10_0
                 try clear hfz10_1
                 try clear hfz10_2
                 try clear hfz12_0
                 try clear hfz12_1
                 try clear hfz12_2
                 try clear hfz22_0
                 try clear hfz22_1
                 try clear hfz22_2
                 try clear hfz26_0
                 try clear hfz26_1
                 try clear hfz26_2
                 try clear hfz27_0
                 try clear hfz27_1
                 try clear hfz27_2
                 try clear hfz32_0
                 try clear hfz32_1
                 try clear hfz32_2
                 try clear hfz36_0
                 try clear hfz36_1
                 try clear hfz36_2
                 try clear hfz38_0
                 try clear hfz38_1
                 try clear hfz38_2
                 try clear hfz45_0
                 try clear hfz45_1
                 try clear hfz45_2
                 try clear hfz47_0
                 try clear hfz47_1
                 try clear hfz47_2
                 try clear hfz59_0
                 try clear hfz59_1
                 try clear hfz59_2
                 try clear hfz61_0
                 try clear hfz61_1
                 try clear hfz61_2
                 try clear hfz72_0
                 try clear hfz72_1
                 try clear hfz72_2
                 try clear hfz74_0
                 try clear hfz74_1
                 try clear hfz74_2
                 try clear p2
                 obtain ⟨x23_6, rfl, HA, HK6, HO_5, HO_13, BK444, BK458, BK463, HB⟩ := hrel
                 cases gk with
                 | zero => exact absurd HA.out (by simp [laws_FnNeighbours.l0])
                 | succ k6 =>
                  have H := HA.out
                  clear HA
                  simp only [laws_FnNeighbours.l0] at H
                  by_cases c76 : x23_6 < (t464.length : Int)
                  ·rw [if_pos c76] at H
                   have c76b0 : decide (x23_6 < (t464.length : Int)) = true := decide_eq_true c76
                   clear c76
                   by_cases c77 : 0 ≤ x23_6
                   ·rw [if_pos c77] at H
                    have c77b0 : decide (0 ≤ x23_6) = true := decide_eq_true c77
                    clear c77
                    replace H := Option.bind_eq_some_iff.mp H
                    obtain ⟨⟨t480, t481, t482, t483⟩, A780, H⟩ := H
                    replace H : (if t483 = 0 then (if (!(t480 == t441) || (!(t481 == t442) || (!(t482 == t443)))) = true then (some false) else (laws_FnNeighbours.l0 k6 t440 t445 t448 t464 t473 (wrap64 (x23_6 + 1)) t441 t442 t443)) else (some false)) = some r := H
                    have A78 := Aside0.mk A780
                    clear A780
                    by_cases c79 : t483 = 0
                    ·rw [if_pos c79] at H
                     have c79b0 : (t483 == 0) = true := beq_iff_eq.mpr c79
                     have c79b1 : (t483 != 0) = false := bne_eq_false_iff_eq.mpr c79
                     clear c79
                     by_cases c80 : (!(t480 == t441) || (!(t481 == t442) || (!(t482 == t443)))) = true
                     ·rw [if_pos c80] at H
                      have c80b0 : (!(t480 == t441) || (!(t481 == t442) || (!(t482 == t443)))) = true := c80
                      clear c80
                      exact absurd ((Option.some.inj H).trans hr.out) (by simp)
                     ·rw [if_neg c80] at H
                      have c80b0 : (!(t480 == t441) || (!(t481 == t442) || (!(t482 == t443)))) = false := by simpa using c80
                      clear c80
                      have H' := Aside0.mk H
                      clear H
                      obtain ⟨Ao81, co81, eo81⟩ := Kd.R_slice HO_13.out
                      subst eo81
                      have p479 : 0 ≤ (x23_6 : Int) := of_decide_eq_true (by first | (with_reducible assumption) | assumption)
                      have q479 : x23_6 < (t464.length : Int) := of_decide_eq_true (by first | (with_reducible assumption) | assumption)
                      obtain ⟨ad479, e479, hx479_0, hx479_1, hx479_2⟩ := at_T27 (Kd.R_reads' HO_13.out).2.2 x23_6 p479 q479
                      cases e479
                      replace p479 := eq_true p479
                      replace q479 := eq_true q479
                      go_wp2_with (first | ((with_reducible refine gate_callee (f := 37) rfl ?_); refine goesL_ (some 147) rfl rfl Try.func37 (by kernel_rfl) rfl #[.int .i64 t440, .agg #[.int .i64 ((rd_T27 t464 x23_6).f0), .int .i64 ((rd_T27 t464 x23_6).f1), .int .i64 ((rd_T27 t464 x23_6).f2)]] rfl (by (try simp only [List.map_toArray, List.map_cons, List.map_nil]); first | done | rfl | (simp only [List.length_drop, List.length_take]; rfl)) ?_; (with_reducible refine (impl_ParentOf.calls k6 t440 ((rd_T27 t464 x23_6).f0) ((rd_T27 t464 x23_6).f1) ((rd_T27 t464 x23_6).f2) t480 t481 t482 t483 _ A78.out).mono ?_); rintro e w82 ⟨rfl, hb⟩; refine ⟨_, rfl, ?_⟩; have n0_ := Aside0.mk (Kd.R_below (by (with_reducible repeat (first | apply Kd.R_alloc | apply Kd.R_drewN | apply Kd.R_drew)); exact HO_5.out) hb); have n1_ := Aside0.mk (Kd.R_below (by (with_reducible repeat (first | apply Kd.R_alloc | apply Kd.R_drewN | apply Kd.R_drew)); exact HO_13.out) hb); have n2_ := bb BK444 hb; have n3_ := bb BK458 hb; have n4_ := bb BK463 hb; have n5_ := Aside0.mk (below_step (by repeat (first | (with_reducible first | exact HB.out | apply below_alloc | apply pw_below_drewN | apply below_drew1 | refine below_set ?_ GE444.out | refine below_set ?_ GE458.out | refine below_set ?_ GE463.out) | exact HB.out)) hb); clear HO_5; clear HO_13; clear BK444; clear BK458; clear BK463; clear HB; have HO_5 := n0_; have HO_13 := n1_; have BK444 := n2_; have BK458 := n3_; have BK463 := n4_; have HB := n5_; clear n0_ n1_ n2_ n3_ n4_ n5_; (try clear hb); (try clear hb2); (try clear hk); (try clear hi)) | ((with_reducible refine gate_dst (N := 24) rfl ?_); refine box_event ?hg (N := 24) ?hd (cs := #[.int .i64 0, .int .i64 0, .int .i64 0]) (t := 27) ?hr ?_; (case hd => rfl); (case hg => rfl); (case hr => first | (go_simp; done) | (go_simp; rfl)); intro gb484 hg w83 hbox hb; have n0_ := Aside0.mk (Kd.R_below (Kd.R_elderB (by (with_reducible repeat (first | apply Kd.R_alloc | apply Kd.R_drewN | apply Kd.R_drew)); exact HO_5.out) gb484 (Nat.le_of_eq hg.symm)) hb); have n1_ := Aside0.mk (Kd.R_below (Kd.R_elderB (by (with_reducible repeat (first | apply Kd.R_alloc | apply Kd.R_drewN | apply Kd.R_drew)); exact HO_13.out) gb484 (Nat.le_of_eq hg.symm)) hb); have n2_ := bb BK444 hb; have n3_ := bb BK458 hb; have n4_ := bb BK463 hb; have n5_ := Aside0.mk (below_step (by repeat (first | (with_reducible first | exact HB.out | apply below_alloc | apply pw_below_drewN | apply below_drew1 | refine below_set ?_ GE444.out | refine below_set ?_ GE458.out | refine below_set ?_ GE463.out) | exact HB.out)) hb); have n6_ := Aside0.mk (hbox); have n7_ := Aside0.mk ((by rw [hg]; exact (below_size (by repeat (first | (with_reducible first | exact HB.out | apply below_alloc | apply pw_below_drewN | apply below_drew1 | refine below_set ?_ GE444.out | refine below_set ?_ GE458.out | refine below_set ?_ GE463.out) | exact HB.out))) : w.heap.size ≤ gb484)); have n8_ := Aside0.mk ((by rw [hg]; exact (below_size (by repeat (first | (with_reducible first | exact HB.out | apply below_alloc | apply pw_below_drewN | apply below_drew1 | refine below_set ?_ GE444.out | refine below_set ?_ GE458.out | refine below_set ?_ GE463.out) | exact HB.out))) : w.heap.size ≤ gb484)); have n9_ := nl hg BK444; have n10_ := ng hg BK444; have n11_ := nl hg BK458; have n12_ := ng hg BK458; have n13_ := nl hg BK463; have n14_ := ng hg BK463; clear HO_5; clear HO_13; clear BK444; clear BK458; clear BK463; clear HB; have HO_5 := n0_; have HO_13 := n1_; have BK444 := n2_; have BK458 := n3_; have BK463 := n4_; have HB := n5_; have BK484 := n6_; have GW484 := n7_; have GE484 := n8_; have NB444_484 := n9_; have NB484_444 := n10_; have NB458_484 := n11_; have NB484_458 := n12_; have NB463_484 := n13_; have NB484_463 := n14_; clear n0_ n1_ n2_ n3_ n4_ n5_ n6_ n7_ n8_ n9_ n10_ n11_ n12_ n13_ n14_; clear hb hbox hg; have hnb84 := NB484_444.out; have hnc84 := NB444_484.out; have hnb85 := NB484_458.out; have hnc85 := NB458_484.out; have hnb86 := NB484_463.out; have hnc86 := NB463_484.out; obtain ⟨hcz87_0, hcz87_1, hcz87_2, hfz87_0, hfz87_1, hfz87_2⟩ := c3 BK484; have hnb88 := NB444_458.out; have hnc88 := NB458_444.out; have hnb89 := NB444_463.out; have hnc89 := NB463_444.out; obtain ⟨hcz90_0, hcz90_1, hcz90_2, hfz90_0, hfz90_1, hfz90_2⟩ := c3 BK444))
                      go_roundg k6
                      case measure => have := HJ6.out; have := HJ20.out; have := HJ41.out; have := HJ55.out; have := HJ64.out; have := HK6.out; omega
                      case rel => exact ⟨(wrap64 (x23_6 + 1)), (by first | rfl | (simp; done) | (simp [*]; done)), H', ⟨by have := HJ6.out; have := HJ20.out; have := HJ41.out; have := HJ55.out; have := HJ64.out; have := HK6.out; omega⟩, ⟨by (with_reducible repeat (first | apply Kd.R_alloc | apply Kd.R_drewN | apply Kd.R_drew)); exact Kd.R_mono (Kd.R_far (p := ⟨gb484, 2, none⟩) (Kd.R_far (p := ⟨gb484, 1, none⟩) (Kd.R_far (p := ⟨gb484, 0, none⟩) (Kd.R_mono HO_5.out (fun k_ hk => (⟨hk, hk.2⟩ : _ ∧ k_ ≠ gb484))) (fun _ hk => hk.2) (.int .i64 t480)) (fun _ hk => hk.2) (.int .i64 t481)) (fun _ hk => hk.2) (.int .i64 t482)) (fun _ hk => ⟨hk.1.1.1, ⟨hk.1.1.2.1, ⟨hk.1.1.2.2.1, hk.1.1.2.2.2⟩⟩⟩)⟩, ⟨by (with_reducible repeat (first | apply Kd.R_alloc | apply Kd.R_drewN | apply Kd.R_drew)); exact Kd.R_mono (Kd.R_far (p := ⟨gb484, 2, none⟩) (Kd.R_far (p := ⟨gb484, 1, none⟩) (Kd.R_far (p := ⟨gb484, 0, none⟩) (Kd.R_mono HO_13.out (fun k_ hk => (⟨hk, hk.2⟩ : _ ∧ k_ ≠ gb484))) (fun _ hk => hk.2) (.int .i64 t480)) (fun _ hk => hk.2) (.int .i64 t481)) (fun _ hk => hk.2) (.int .i64 t482)) (fun _ hk => ⟨hk.1.1.1, ⟨hk.1.1.2.1, ⟨hk.1.1.2.2.1, hk.1.1.2.2.2⟩⟩⟩)⟩, ⟨by (with_reducible repeat (first | refine blk_drewN ?_ _ | refine blk_drew ?_ | refine blk_alloc ?_ _)); refine blk_far ?_ NB444_484.out _; (with_reducible repeat (first | refine blk_drewN ?_ _ | refine blk_drew ?_ | refine blk_alloc ?_ _)); refine blk_far ?_ NB444_484.out _; (with_reducible repeat (first | refine blk_drewN ?_ _ | refine blk_drew ?_ | refine blk_alloc ?_ _)); refine blk_far ?_ NB444_484.out _; (with_reducible repeat (first | refine blk_drewN ?_ _ | refine blk_drew ?_ | refine blk_alloc ?_ _)); exact BK444.out⟩, ⟨by (with_reducible repeat (first | refine blk_drewN ?_ _ | refine blk_drew ?_ | refine blk_alloc ?_ _)); refine blk_far ?_ NB458_484.out _; (with_reducible repeat (first | refine blk_drewN ?_ _ | refine blk_drew ?_ | refine blk_alloc ?_ _)); refine blk_far ?_ NB458_484.out _; (with_reducible repeat (first | refine blk_drewN ?_ _ | refine blk_drew ?_ | refine blk_alloc ?_ _)); refine blk_far ?_ NB458_484.out _; (with_reducible repeat (first | refine blk_drewN ?_ _ | refine blk_drew ?_ | refine blk_alloc ?_ _)); exact BK458.out⟩, ⟨by (with_reducible repeat (first | refine blk_drewN ?_ _ | refine blk_drew ?_ | refine blk_alloc ?_ _)); refine blk_far ?_ NB463_484.out _; (with_reducible repeat (first | refine blk_drewN ?_ _ | refine blk_drew ?_ | refine blk_alloc ?_ _)); refine blk_far ?_ NB463_484.out _; (with_reducible repeat (first | refine blk_drewN ?_ _ | refine blk_drew ?_ | refine blk_alloc ?_ _)); refine blk_far ?_ NB463_484.out _; (with_reducible repeat (first | refine blk_drewN ?_ _ | refine blk_drew ?_ | refine blk_alloc ?_ _)); exact BK463.out⟩, ⟨by repeat (first | (with_reducible first | exact HB.out | apply below_alloc | apply pw_below_drewN | apply below_drew1 | refine below_set ?_ GE444.out | refine below_set ?_ GE458.out | refine below_set ?_ GE463.out | refine below_set ?_ GE484.out) | exact HB.out)⟩⟩
                    ·rw [if_neg c79] at H
                     have c79b0 : (t483 == 0) = false := beq_eq_false_iff_ne.mpr c79
                     have c79b1 : (t483 != 0) = true := bne_iff_ne.mpr c79
                     exact absurd ((Option.some.inj H).trans hr.out) (by simp)
                   ·rw [if_neg c77] at H
                    exact absurd H (by simp)
                  ·rw [if_neg c76] at H
                   have c76b0 : decide (x23_6 < (t464.length : Int)) = false := decide_eq_false c76
                   clear c76
                   by_cases c91 : t448 = 0
                   ·rw [if_pos c91] at H
                    have c91b0 : (t448 == 0) = true := beq_iff_eq.mpr c91
                    have c91b1 : (t448 != 0) = false := bne_eq_false_iff_eq.mpr c91
                    clear c91
                    have H' := Aside0.mk H
                    clear H
                    obtain ⟨Ao92, co92, eo92⟩ := Kd.R_slice HO_13.out
                    subst eo92
                    go_wp2
                    go_loopg [26] k6 (fun kq v26 w' => ∃ (x26_7 : Int), v26 = .int .i64 x26_7 ∧ Aside0 (laws_FnNeighbours.l1 kq t440 t445 t473 x26_7 t441 t442 t443 = some r) ∧ Aside0 (kq ≤ k6) ∧ Aside0 (Kd.R k27 27 w' w.heap.size (fun k_ => k_ ≠ gb444 ∧ k_ ≠ gb458 ∧ k_ ≠ gb463) v446 t445) ∧ Aside0 (w'.heap[gb444]? = some (.cells #[.int .i64 t441, .int .i64 t442, .int .i64 t443] 27 (0, 0))) ∧ Aside0 (w'.heap[gb458]? = some (.cells #[.int .i64 t454, .int .i64 t455, .int .i64 t456] 27 (0, 0))) ∧ Aside0 (w'.heap[gb463]? = some (.cells #[.int .i64 t459, .int .i64 t460, .int .i64 t461] 27 (0, 0))) ∧ Aside0 (Below w.heap.size w w'))
                    case atStart => exact ⟨(0), (by first | rfl | (simp; done) | (simp [*]; done)), H', ⟨Nat.le_refl _⟩, ⟨by (with_reducible repeat (first | apply Kd.R_alloc | apply Kd.R_drewN | apply Kd.R_drew)); exact Kd.R_mono HO_5.out (fun _ hk => ⟨hk.2.1, ⟨hk.2.2.1, hk.2.2.2⟩⟩)⟩, ⟨be BK444⟩, ⟨be BK458⟩, ⟨be BK463⟩, ⟨by repeat (first | (with_reducible first | exact HB.out | apply below_alloc | apply pw_below_drewN | apply below_drew1 | refine below_set ?_ GE444.out | refine below_set ?_ GE458.out | refine below_set ?_ GE463.out) | exact HB.out)⟩⟩
                    case round =>
                     as_aux_lemma =>
                     clear H'
                     try clear c1
                     try clear c2
                     try clear p2
                     try clear c3
                     try clear c4
                     try clear p4
                     try clear q4
                     try clear hx4
                     try clear c5
                     try clear c6
                     try clear p6
                     try clear c7
                     try clear c8
                     try clear c9
                     try clear c14
                     try clear c14b0
                     try clear c14b1
                     try clear c17
                     try clear c18
                     try clear c21
                     try clear c25
                     try clear c30
                     try clear c31
                     try clear c33
                     try clear c33b0
                     try clear c33b1
                     try clear c34
                     try clear c35
                     try clear c37
                     try clear c38
                     try clear c39
                     try clear c40
                     try clear c41
                     try clear c42
                     try clear c43
                     try clear c44
                     try clear p47
                     try clear q47
                     try clear hx47
                     try clear c49
                     try clear c49b0
                     try clear c49b1
                     try clear c53
                     try clear c57
                     try clear c58
                     try clear c63
                     try clear c63b0
                     try clear c63b1
                     try clear c64
                     try clear p64
                     try clear c66
                     try clear c66b0
                     try clear c66b1
                     try clear c68
                     try clear c68b0
                     try clear c68b1
                     try clear c69
                     try clear c70
                     try clear c71
                     try clear c73
                     try clear c76
                     try clear c76b0
                     try clear c77
                     try clear c77b0
                     try clear c79
                     try clear c79b0
                     try clear c79b1
                     try clear c80
                     try clear c80b0
                     try clear c84
                     try clear c85
                     try clear c86
                     try clear c88
                     try clear c89
                     try clear c91
                     try clear c91b0
                     try clear c91b1
                     try clear hcz10_0
                     try clear hcz10_1
                     try clear hcz10_2
                     try clear hcz12_0
                     try clear hcz12_1
                     try clear hcz12_2
                     try clear hcz22_0
                     try clear hcz22_1
                     try clear hcz22_2
                     try clear hcz26_0
                     try clear hcz26_1
                     try clear hcz26_2
                     try clear hcz27_0
                     try clear hcz27_1
                     try clear hcz27_2
                     try clear hcz32_0
                     try clear hcz32_1
                     try clear hcz32_2
                     try clear hcz36_0
                     try clear hcz36_1
                     try clear hcz36_2
                     try clear hcz38_0
                     try clear hcz38_1
                     try clear hcz38_2
                     try clear hcz45_0
                     try clear hcz45_1
                     try clear hcz45_2
                     try clear hcz47_0
                     try clear hcz47_1
                     try clear hcz47_2
                     try clear hcz59_0
                     try clear hcz59_1
                     try clear hcz59_2
                     try clear hcz61_0
                     try clear hcz61_1
                     try clear hcz61_2
                     try clear hcz72_0
                     try clear hcz72_1
                     try clear hcz72_2
                     try clear hcz74_0
                     try clear hcz74_1
                     try clear hcz74_2
                     try clear hcz87_0
                     try clear hcz87_1
                     try clear hcz87_2
                     try clear hcz90_0
                     try clear hcz90_1
                     try clear hcz90_2
                     try clear hfz10_0
                     try clear hfz10_1
                     try clear hfz10_2
                     try clear hfz12_0
                     try clear hfz12_1
                     try clear hfz12_2
                     try clear hfz22_0
                     try clear hfz22_1
                     try clear hfz22_2
                     try clear hfz26_0
                     try clear hfz26_1
                     try clear hfz26_2
                     try clear hfz27_0
                     try clear hfz27_1
                     try clear hfz27_2
                     try clear hfz32_0
                     try clear hfz32_1
                     try clear hfz32_2
                     try clear hfz36_0
                     try clear hfz36_1
                     try clear hfz36_2
                     try clear hfz38_0
                     try clear hfz38_1
                     try clear hfz38_2
                     try clear hfz45_0
                     try clear hfz45_1
                     try clear hfz45_2
                     try clear hfz47_0
                     try clear hfz47_1
                     try clear hfz47_2
                     try clear hfz59_0
                     try clear hfz59_1
                     try clear hfz59_2
                     try clear hfz61_0
                     try clear hfz61_1
                     try clear hfz61_2
                     try clear hfz72_0
                     try clear hfz72_1
                     try clear hfz72_2
                     try clear hfz74_0
                     try clear hfz74_1
                     try clear hfz74_2
                     try clear hfz87_0
                     try clear hfz87_1
                     try clear hfz87_2
                     try clear hfz90_0
                     try clear hfz90_1
                     try clear hfz90_2
                     try clear hx479_0
                     try clear hx479_1
                     try clear hx479_2
                     try clear p2
                     try clear p479
                     try clear q479
                     obtain ⟨x26_7, rfl, HA, HK7, HO_5, BK444, BK458, BK463, HB⟩ := hrel
                     cases gk with
                     | zero => exact absurd HA.out (by simp [laws_FnNeighbours.l1])
                     | succ k7 =>
                      have H := HA.out
                      clear HA
                      simp only [laws_FnNeighbours.l1] at H
                      by_cases c93 : x26_7 < (t445.length : Int)
                      ·rw [if_pos c93] at H
                       have c93b0 : decide (x26_7 < (t445.length : Int)) = true := decide_eq_true c93
                       clear c93
                       by_cases c94 : 0 ≤ x26_7
                       ·rw [if_pos c94] at H
                        have c94b0 : decide (0 ≤ x26_7) = true := decide_eq_true c94
                        clear c94
                        replace H := Option.bind_eq_some_iff.mp H
                        obtain ⟨⟨t486, t487⟩, A950, H⟩ := H
                        replace H : ((impl_TypeOf.f k7 t440 ((rd_T27 t445 x26_7).f0) ((rd_T27 t445 x26_7).f1) ((rd_T27 t445 x26_7).f2)).bind fun bt489 => (if t487 = 0 then (if t486 = 1 then (if bt489.2 = 0 then (if bt489.1 = t473 then (some false) else (laws_FnNeighbours.l1 k7 t440 t445 t473 (wrap64 (x26_7 + 1)) t441 t442 t443)) else (some false)) else (some false)) else (some false))) = some r := H
                        have A95 := Aside0.mk A950
                        clear A950
                        replace H := Option.bind_eq_some_iff.mp H
                        obtain ⟨⟨t489, t490⟩, A960, H⟩ := H
                        replace H : (if t487 = 0 then (if t486 = 1 then (if t490 = 0 then (if t489 = t473 then (some false) else (laws_FnNeighbours.l1 k7 t440 t445 t473 (wrap64 (x26_7 + 1)) t441 t442 t443)) else (some false)) else (some false)) else (some false)) = some r := H
                        have A96 := Aside0.mk A960
                        clear A960
                        by_cases c97 : t487 = 0
                        ·rw [if_pos c97] at H
                         have c97b0 : (t487 == 0) = true := beq_iff_eq.mpr c97
                         have c97b1 : (t487 != 0) = false := bne_eq_false_iff_eq.mpr c97
                         clear c97
                         by_cases c98 : t486 = 1
                         ·rw [if_pos c98] at H
                          have c98b0 : (t486 == 1) = true := beq_iff_eq.mpr c98
                          have c98b1 : (t486 != 1) = false := bne_eq_false_iff_eq.mpr c98
                          clear c98
                          by_cases c99 : t490 = 0
                          ·rw [if_pos c99] at H
                           have c99b0 : (t490 == 0) = true := beq_iff_eq.mpr c99
                           have c99b1 : (t490 != 0) = false := bne_eq_false_iff_eq.mpr c99
                           clear c99
                           by_cases c100 : t489 = t473
                           ·rw [if_pos c100] at H
                            have c100b0 : (t489 == t473) = true := beq_iff_eq.mpr c100
                            have c100b1 : (t489 != t473) = false := bne_eq_false_iff_eq.mpr c100
                            clear c100
                            exact absurd ((Option.some.inj H).trans hr.out) (by simp)
                           ·rw [if_neg c100] at H
                            have c100b0 : (t489 == t473) = false := beq_eq_false_iff_ne.mpr c100
                            have c100b1 : (t489 != t473) = true := bne_iff_ne.mpr c100
                            have H' := Aside0.mk H
                            clear H
                            obtain ⟨Ao101, co101, eo101⟩ := Kd.R_slice HO_5.out
                            subst eo101
                            try go_wp2
                            have n0_ := Aside0.mk (Kd.R_drew HO_5.out)
                            have n1_ := Aside0.mk (blk_drew BK444.out)
                            have n2_ := Aside0.mk (blk_drew BK458.out)
                            have n3_ := Aside0.mk (blk_drew BK463.out)
                            have n4_ := Aside0.mk (below_drew1 HB.out)
                            clear HO_5
                            clear BK444
                            clear BK458
                            clear BK463
                            clear HB
                            have HO_5 := n0_
                            have BK444 := n1_
                            have BK458 := n2_
                            have BK463 := n3_
                            have HB := n4_
                            clear n0_ n1_ n2_ n3_ n4_
                            have p485 : 0 ≤ (x26_7 : Int) := of_decide_eq_true (by first | (with_reducible assumption) | assumption)
                            have q485 : x26_7 < (t445.length : Int) := of_decide_eq_true (by first | (with_reducible assumption) | assumption)
                            obtain ⟨ad485, e485, hx485_0, hx485_1, hx485_2⟩ := at_T27 (Kd.R_reads' HO_5.out).2.2 x26_7 p485 q485
                            cases e485
                            replace p485 := eq_true p485
                            replace q485 := eq_true q485
                            refine start_ (n := 12) (S := fun w' => w'.cell? ⟨gb444, 0, none⟩ = some (.int .i64 t441) ∧ w'.cell? ⟨gb444, 1, none⟩ = some (.int .i64 t442) ∧ w'.cell? ⟨gb444, 2, none⟩ = some (.int .i64 t443) ∧ w'.cell? (ad485.add ((x26_7).toNat * 3)) = some (.int .i64 ((rd_T27 t445 x26_7).f0)) ∧ w'.cell? ⟨(ad485.add ((x26_7).toNat * 3)).block, (ad485.add ((x26_7).toNat * 3)).off + 1, none⟩ = some (.int .i64 ((rd_T27 t445 x26_7).f1)) ∧ w'.cell? ⟨(ad485.add ((x26_7).toNat * 3)).block, (ad485.add ((x26_7).toNat * 3)).off + 2, none⟩ = some (.int .i64 ((rd_T27 t445 x26_7).f2))) (ds := []) #[false, false, false, false, false, false, false, false, false, false, false, false] (by kernel_rfl) rfl rfl ⟨(blk_cell BK444.out 0).trans rfl, (blk_cell BK444.out 1).trans rfl, (blk_cell BK444.out 2).trans rfl, hx485_0, hx485_1, hx485_2⟩ (fun hHeld => ?_); refine with_tabW laws_FnNeighbours.tab35 laws_FnNeighbours.bits35 (fun HT_ HW_ => ?_)
                            generalize wr.drew = w102 at HO_5 BK444 BK458 BK463 HB hx485_0 hx485_1 hx485_2 hHeld ⊢
                            refine pure_ (i := 0) (N := some 169) (v := ?_) (a' := ?_) #[true, false, false, false, false, false, false, false, false, false, false, false] rfl rfl (any_of HT_.out (by kernel_rfl)) (fun _ _ _ h => h) (Or.inl ⟨by rfl, ?_⟩) ?_ ?_
                            rotate_left
                            ·intro w'
                             go_simp
                             with_reducible rfl
                            rotate_left
                            ·simp only [Act.put, List.setIfInBounds_toArray, List.set_cons_zero, List.set_cons_succ, i64_w, i32_w]
                             rfl
                            refine pure_ (i := 2) (N := some 171) (v := ?_) (a' := ?_) #[true, false, true, false, false, false, false, false, false, false, false, false] rfl rfl (any_of HT_.out (by kernel_rfl)) (fun _ _ _ h => h) (Or.inl ⟨by rfl, ?_⟩) ?_ ?_
                            rotate_left
                            ·intro w'
                             go_simp
                             with_reducible rfl
                            rotate_left
                            ·simp only [Act.put, List.setIfInBounds_toArray, List.set_cons_zero, List.set_cons_succ, i64_w, i32_w]
                             rfl
                            refine pure_ (i := 3) (N := some 172) (v := ?_) (a' := ?_) #[true, false, true, true, false, false, false, false, false, false, false, false] rfl rfl (any_of HT_.out (by kernel_rfl)) (fun _ _ _ h => h) (Or.inl ⟨by rfl, ?_⟩) ?_ ?_
                            rotate_left
                            ·intro w'
                             go_simp
                             with_reducible rfl
                            rotate_left
                            ·simp only [Act.put, List.setIfInBounds_toArray, List.set_cons_zero, List.set_cons_succ, i64_w, i32_w]
                             rfl
                            refine pure_ (i := 4) (N := some 173) (v := ?_) (a' := ?_) #[true, false, true, true, true, false, false, false, false, false, false, false] rfl rfl (any_of HT_.out (by kernel_rfl)) (fun _ _ _ h => h) (Or.inl ⟨by rfl, ?_⟩) ?_ ?_
                            rotate_left
                            ·intro w'
                             go_simp
                             with_reducible rfl
                            rotate_left
                            ·simp only [Act.put, List.setIfInBounds_toArray, List.set_cons_zero, List.set_cons_succ, i64_w, i32_w]
                             rfl
                            refine take_ (i := 1) (N := some 170) (v := ?_) (a' := ?_) #[true, true, true, true, true, false, false, false, false, false, false, false] rfl rfl (take_ofW HT_.out HW_.out (by kernel_rfl)) (fun _ _ _ h => h) (Or.inl ⟨by rfl, ?_⟩) hHeld ?_ ?_
                            rotate_left
                            ·rintro w' ⟨s0, s1, s2, s3, s4, s5⟩
                             go_simp
                             with_reducible rfl
                            rotate_left
                            ·simp only [Act.put, List.setIfInBounds_toArray, List.set_cons_zero, List.set_cons_succ, i64_w, i32_w]
                             rfl
                            refine take_ (i := 5) (N := some 174) (v := ?_) (a' := ?_) #[true, true, true, true, true, true, false, false, false, false, false, false] rfl rfl (take_ofW HT_.out HW_.out (by kernel_rfl)) (fun _ _ _ h => h) (Or.inl ⟨by rfl, ?_⟩) hHeld ?_ ?_
                            rotate_left
                            ·rintro w' ⟨s0, s1, s2, s3, s4, s5⟩
                             go_simp
                             with_reducible rfl
                            rotate_left
                            ·simp only [Act.put, List.setIfInBounds_toArray, List.set_cons_zero, List.set_cons_succ, i64_w, i32_w]
                             rfl
                            refine one_ (i := 6) (N := some 175) #[true, true, true, true, true, true, true, false, false, false, false, false] rfl rfl (one_of HT_.out (by kernel_rfl)) (by decide) (fun K hK => ?_)
                            refine goes_ Try.func44 (by kernel_rfl) rfl #[.int .i64 t440, .agg #[.int .i64 t441, .int .i64 t442, .int .i64 t443], .agg #[.int .i64 ((rd_T27 t445 x26_7).f0), .int .i64 ((rd_T27 t445 x26_7).f1), .int .i64 ((rd_T27 t445 x26_7).f2)]] (by rfl) rfl rfl (by (try simp only [List.map_toArray, List.map_cons, List.map_nil]); first | done | rfl | (simp only [List.length_drop, List.length_take]; rfl)) ?_
                            with_reducible refine (impl_TreeDistance.calls k7 t440 t441 t442 t443 ((rd_T27 t445 x26_7).f0) ((rd_T27 t445 x26_7).f1) ((rd_T27 t445 x26_7).f2) t486 t487 _ A95.out).mono ?_
                            rintro e w103 ⟨rfl, hb⟩
                            have HS3_ := (hb.cell (World.block_lt_of_cell? _ _ (hHeld.2.2.2.1))).trans (hHeld.2.2.2.1)
                            have HS4_ := (hb.cell (World.block_lt_of_cell? _ _ (hHeld.2.2.2.2.1))).trans (hHeld.2.2.2.2.1)
                            have HS5_ := (hb.cell (World.block_lt_of_cell? _ _ (hHeld.2.2.2.2.2))).trans (hHeld.2.2.2.2.2)
                            refine ⟨_, rfl, ?_⟩
                            have n0_ := Aside0.mk (Kd.R_below (by (with_reducible repeat (first | apply Kd.R_alloc | apply Kd.R_drewN | apply Kd.R_drew)); exact HO_5.out) hb)
                            have n1_ := bb BK444 hb
                            have n2_ := bb BK458 hb
                            have n3_ := bb BK463 hb
                            have n4_ := Aside0.mk (below_step (by repeat (first | (with_reducible first | exact HB.out | apply below_alloc | apply pw_below_drewN | apply below_drew1 | refine below_set ?_ GE444.out | refine below_set ?_ GE458.out | refine below_set ?_ GE463.out) | exact HB.out)) hb)
                            clear HO_5
                            clear BK444
                            clear BK458
                            clear BK463
                            clear HB
                            have HO_5 := n0_
                            have BK444 := n1_
                            have BK458 := n2_
                            have BK463 := n3_
                            have HB := n4_
                            clear n0_ n1_ n2_ n3_ n4_
                            (try clear hb)
                            (try clear hb2)
                            (try clear hk)
                            (try clear hi)
                            refine hK.out _ _ ⟨(blk_cell BK444.out 0).trans rfl, (blk_cell BK444.out 1).trans rfl, (blk_cell BK444.out 2).trans rfl, HS3_, HS4_, HS5_⟩ (fun hHeld => ?_)
                            clear hK K
                            refine norm_ (a' := ?_) ?_ ?_
                            rotate_left
                            ·show Act.put _ (some 175) _ = _
                             simp only [Act.put, List.setIfInBounds_toArray, List.set_cons_zero, List.set_cons_succ, i64_w, i32_w]
                             rfl
                            refine pure_ (i := 7) (N := some 168) (v := ?_) (a' := ?_) #[true, true, true, true, true, true, true, true, false, false, false, false] rfl rfl (any_of HT_.out (by kernel_rfl)) (fun _ _ _ h => h) (Or.inl ⟨by rfl, ?_⟩) ?_ ?_
                            rotate_left
                            ·intro w'
                             go_simp
                             with_reducible rfl
                            rotate_left
                            ·simp only [Act.put, List.setIfInBounds_toArray, List.set_cons_zero, List.set_cons_succ, i64_w, i32_w]
                             rfl
                            refine pure_ (i := 8) (N := some 176) (v := ?_) (a' := ?_) #[true, true, true, true, true, true, true, true, true, false, false, false] rfl rfl (any_of HT_.out (by kernel_rfl)) (fun _ _ _ h => h) (Or.inl ⟨by rfl, ?_⟩) ?_ ?_
                            rotate_left
                            ·intro w'
                             go_simp
                             with_reducible rfl
                            rotate_left
                            ·simp only [Act.put, List.setIfInBounds_toArray, List.set_cons_zero, List.set_cons_succ, i64_w, i32_w]
                             rfl
                            refine pure_ (i := 9) (N := some 177) (v := ?_) (a' := ?_) #[true, true, true, true, true, true, true, true, true, true, false, false] rfl rfl (any_of HT_.out (by kernel_rfl)) (fun _ _ _ h => h) (Or.inl ⟨by rfl, ?_⟩) ?_ ?_
                            rotate_left
                            ·intro w'
                             go_simp
                             with_reducible rfl
                            rotate_left
                            ·simp only [Act.put, List.setIfInBounds_toArray, List.set_cons_zero, List.set_cons_succ, i64_w, i32_w]
                             rfl
                            refine pure_ (i := 10) (N := some 27) (v := ?_) (a' := ?_) #[true, true, true, true, true, true, true, true, true, true, true, false] rfl rfl (any_of HT_.out (by kernel_rfl)) (fun _ _ _ h => h) (Or.inl ⟨by rfl, ?_⟩) ?_ ?_
                            rotate_left
                            ·intro w'
                             go_simp
                             with_reducible rfl
                            rotate_left
                            ·simp only [Act.put, List.setIfInBounds_toArray, List.set_cons_zero, List.set_cons_succ, i64_w, i32_w]
                             rfl
                            refine pure_ (i := 11) (N := some 28) (v := ?_) (a' := ?_) #[true, true, true, true, true, true, true, true, true, true, true, true] rfl rfl (any_of HT_.out (by kernel_rfl)) (fun _ _ _ h => h) (Or.inl ⟨by rfl, ?_⟩) ?_ ?_
                            rotate_left
                            ·intro w'
                             go_simp
                             with_reducible rfl
                            rotate_left
                            ·simp only [Act.put, List.setIfInBounds_toArray, List.set_cons_zero, List.set_cons_succ, i64_w, i32_w]
                             rfl
                            refine done_ (done_of HT_.out (by kernel_rfl)) ?_
                            have p488 : 0 ≤ (x26_7 : Int) := of_decide_eq_true (by first | (with_reducible assumption) | assumption)
                            have q488 : x26_7 < (t445.length : Int) := of_decide_eq_true (by first | (with_reducible assumption) | assumption)
                            obtain ⟨ad488, e488, hx488_0, hx488_1, hx488_2⟩ := at_T27 (Kd.R_reads' HO_5.out).2.2 x26_7 p488 q488
                            obtain rfl : ad485 = ad488 := (by injection e488)
                            replace p488 := eq_true p488
                            replace q488 := eq_true q488
                            try go_wp2_with (first | ((with_reducible refine gate_callee (f := 41) rfl ?_); refine goesL_ (some 184) rfl rfl Try.func41 (by kernel_rfl) rfl #[.int .i64 t440, .agg #[.int .i64 ((rd_T27 t445 x26_7).f0), .int .i64 ((rd_T27 t445 x26_7).f1), .int .i64 ((rd_T27 t445 x26_7).f2)]] rfl (by (try simp only [List.map_toArray, List.map_cons, List.map_nil]); first | done | rfl | (simp only [List.length_drop, List.length_take]; rfl)) ?_; (with_reducible refine (impl_TypeOf.calls k7 t440 ((rd_T27 t445 x26_7).f0) ((rd_T27 t445 x26_7).f1) ((rd_T27 t445 x26_7).f2) t489 t490 _ A96.out).mono ?_); rintro e w104 ⟨rfl, hb⟩; refine ⟨_, rfl, ?_⟩; have n0_ := Aside0.mk (Kd.R_below (by (with_reducible repeat (first | apply Kd.R_alloc | apply Kd.R_drewN | apply Kd.R_drew)); exact HO_5.out) hb); have n1_ := bb BK444 hb; have n2_ := bb BK458 hb; have n3_ := bb BK463 hb; have n4_ := Aside0.mk (below_step (by repeat (first | (with_reducible first | exact HB.out | apply below_alloc | apply pw_below_drewN | apply below_drew1 | refine below_set ?_ GE444.out | refine below_set ?_ GE458.out | refine below_set ?_ GE463.out) | exact HB.out)) hb); clear HO_5; clear BK444; clear BK458; clear BK463; clear HB; have HO_5 := n0_; have BK444 := n1_; have BK458 := n2_; have BK463 := n3_; have HB := n4_; clear n0_ n1_ n2_ n3_ n4_; (try clear hb); (try clear hb2); (try clear hk); (try clear hi)))
                            go_roundg k7
                            case measure => have := HJ6.out; have := HJ20.out; have := HJ41.out; have := HJ55.out; have := HJ64.out; have := HK6.out; have := HK7.out; omega
                            case rel => exact ⟨(wrap64 (x26_7 + 1)), (by first | rfl | (simp; done) | (simp [*]; done)), H', ⟨by have := HJ6.out; have := HJ20.out; have := HJ41.out; have := HJ55.out; have := HJ64.out; have := HK6.out; have := HK7.out; omega⟩, ⟨by (with_reducible repeat (first | apply Kd.R_alloc | apply Kd.R_drewN | apply Kd.R_drew)); exact HO_5.out⟩, ⟨be BK444⟩, ⟨be BK458⟩, ⟨be BK463⟩, ⟨by repeat (first | (with_reducible first | exact HB.out | apply below_alloc | apply pw_below_drewN | apply below_drew1 | refine below_set ?_ GE444.out | refine below_set ?_ GE458.out | refine below_set ?_ GE463.out) | exact HB.out)⟩⟩
                          ·rw [if_neg c99] at H
                           have c99b0 : (t490 == 0) = false := beq_eq_false_iff_ne.mpr c99
                           have c99b1 : (t490 != 0) = true := bne_iff_ne.mpr c99
                           exact absurd ((Option.some.inj H).trans hr.out) (by simp)
                         ·rw [if_neg c98] at H
                          have c98b0 : (t486 == 1) = false := beq_eq_false_iff_ne.mpr c98
                          have c98b1 : (t486 != 1) = true := bne_iff_ne.mpr c98
                          exact absurd ((Option.some.inj H).trans hr.out) (by simp)
                        ·rw [if_neg c97] at H
                         have c97b0 : (t487 == 0) = false := beq_eq_false_iff_ne.mpr c97
                         have c97b1 : (t487 != 0) = true := bne_iff_ne.mpr c97
                         exact absurd ((Option.some.inj H).trans hr.out) (by simp)
                       ·rw [if_neg c94] at H
                        exact absurd H (by simp)
                      ·rw [if_neg c93] at H
                       have c93b0 : decide (x26_7 < (t445.length : Int)) = false := decide_eq_false c93
                       clear c93
                       obtain rfl := Option.some.inj H
                       obtain ⟨Ao105, co105, eo105⟩ := Kd.R_slice HO_5.out
                       subst eo105
                       go_wp2
                       go_ret
                       exact ⟨by first | rfl | (simp [errW_none, errW_some] <;> rfl) | (simp [*, errW_none, errW_some] <;> rfl), by repeat (first | (with_reducible first | exact HB.out | apply below_alloc | apply pw_below_drewN | apply below_drew1 | refine below_set ?_ GE444.out | refine below_set ?_ GE458.out | refine below_set ?_ GE463.out) | exact HB.out)⟩
                   ·rw [if_neg c91] at H
                    have c91b0 : (t448 == 0) = false := beq_eq_false_iff_ne.mpr c91
                    have c91b1 : (t448 != 0) = true := bne_iff_ne.mpr c91
                    obtain rfl := Option.some.inj H
                    obtain ⟨Ao106, co106, eo106⟩ := Kd.R_slice HO_13.out
                    subst eo106
                    obtain ⟨Ao107, co107, eo107⟩ := Kd.R_slice HO_5.out
                    subst eo107
                    go_wp2
                    go_ret
                    exact ⟨by first | rfl | (simp [errW_none, errW_some] <;> rfl) | (simp [*, errW_none, errW_some] <;> rfl), by repeat (first | (with_reducible first | exact HB.out | apply below_alloc | apply pw_below_drewN | apply below_drew1 | refine below_set ?_ GE444.out | refine below_set ?_ GE458.out | refine below_set ?_ GE463.out) | exact HB.out)⟩

/-- THE ONE PURE STATEMENT of laws_FnNeighbours: yours. -/
def laws_FnNeighbours.Pure : Prop := ∀ (l0 : List Int), l0.length ≤ maxLen → l0.length * 1 ≤ 140737488351232 → (∀ x ∈ l0, (Lit.int .u8 x).wf = true) → ∃ k, laws_FnNeighbours.f k l0 = some true
theorem laws_FnNeighbours.walk (P : laws_FnNeighbours.Pure) (a0 : Option Addr) (len0 cap0 : Nat) (z0 : List Int) (w : World) (w0 : (a0 = none ∧ len0 = 0 ∧ cap0 = 0 ∧ z0 = []) ∨ ∃ x, a0 = some x ∧ len0 ≤ cap0 ∧ cap0 ≤ maxLen ∧ z0.length = cap0 ∧ (∀ i, i < z0.length → w.cell? (x.add i) = some (.int .u8 (z0.getD i 0))) ∧ ∀ n ∈ z0, (Lit.int .u8 n).wf = true) (y0 : len0 * 1 ≤ 140737488351232) :
  Calls Try.prog 7 #[.slice a0 len0 cap0] w fun e w' => e = .returned (.bool true) ∧ Below w.heap.size w w' := by
 obtain ⟨l0, rfl, hr0, hm0, hw0, hc0⟩ := ReadsInt.ofRowC w0
 obtain ⟨k, h⟩ := P l0 hm0 y0 hw0
 refine (laws_FnNeighbours.calls k _ _ l0 true w ⟨rfl⟩ (Kd.C_of_reads (d := (0 : Int)) (h1 := fun _ => rfl) hr0) hc0 h).mono ?_
 rintro e w' ⟨rfl, hd⟩
 exact ⟨rfl, hd⟩

end Go.Proofs.Ytpmepopagapeiaa.PFnNeighbours

-- Printed by the kit's print and repaired by a program of this session.
import Derived.Test.YtpmepopagapeiaaPFnTreeDistancesx0
import Derived.Test.YtpmepopagapeiaaPFnTreeDistancesx1
import Derived.Test.YtpmepopagapeiaaPFnTreeDistancesx4
import Derived.Test.YtpmepopagapeiaaPFnTreeDistancesx5
import Derived.Test.YtpmepopagapeiaaPFnTreeDistancesx6
import Derived.Test.YtpmepopagapeiaaPFnTreeDistancesx11
import Derived.Test.YtpmepopagapeiaaPFnTreeDistancesx12
import Derived.Test.YtpmepopagapeiaaPFnTreeDistancesx13
namespace Go.Proofs.Ytpmepopagapeiaa.PFnTreeDistances
open Go.RowKit Go.Proofs.YtpmepopagapeiaaW.PrintWords Go.Proofs.YtpmepopagapeiaaW.PrintLast Go.Proofs.YtpmepopagapeiaaW.PrintMore
attribute [local go_sem] max2_int min2_int max_two min_two max_three min_three max_four min_four   -- for this text's walks alone
set_option linter.unusedVariables false
set_option linter.unusedSimpArgs false

attribute [local go_sem high] eqA27
/-! ### laws_FnTreeDistances: function 8 -/
mutual
def laws_FnTreeDistances.j0 : Nat → Int → Int → Int → Bool → Int → Int → Int → Int → Int → Int → Option (Bool)
 | 0, _, _, _, _, _, _, _, _, _, _ => none
 | k + 1, x3, x6, x7, x60, x531000, x531001, x531002, x532000, x532001, x532002 => if x60 = true then (some false) else ((impl_JoinOf.f k x3 x531000 x531001 x531002 x532000 x532001 x532002).bind fun bt536 => ((spec_JoinOf.f k x3 x531000 x531001 x531002 x532000 x532001 x532002).bind fun bt541 => (if bt536.2.2.2 = bt541.2.2.2 then (laws_FnTreeDistances.j1 k x3 x6 x7 bt536.2.2.2 (!(bt536.1 == bt541.1) || (!(bt536.2.1 == bt541.2.1) || (!(bt536.2.2.1 == bt541.2.2.1)))) x531000 x531001 x531002 x532000 x532001 x532002 bt536.1 bt536.2.1 bt536.2.2.1) else (laws_FnTreeDistances.j1 k x3 x6 x7 bt536.2.2.2 true x531000 x531001 x531002 x532000 x532001 x532002 bt536.1 bt536.2.1 bt536.2.2.1))))
def laws_FnTreeDistances.j1 : Nat → Int → Int → Int → Int → Bool → Int → Int → Int → Int → Int → Int → Int → Int → Int → Option (Bool)
 | 0, _, _, _, _, _, _, _, _, _, _, _, _, _, _ => none
 | k + 1, x3, x6, x7, x11, x82, x531000, x531001, x531002, x532000, x532001, x532002, x541000, x541001, x541002 => if x82 = true then (some false) else ((impl_GeodesicOf.f k x3 x531000 x531001 x531002 x532000 x532001 x532002).bind fun bt546 => ((spec_GeodesicOf.f k x3 x531000 x531001 x531002 x532000 x532001 x532002).bind fun bt550 => (if bt546.2 = bt550.2 then ((laws_balls9.f k bt546.1 bt550.1).bind fun t554 => (laws_FnTreeDistances.j2 k x3 x6 x7 x11 bt546.1 bt546.2 (!t554) x531000 x531001 x531002 x532000 x532001 x532002 x541000 x541001 x541002)) else (laws_FnTreeDistances.j2 k x3 x6 x7 x11 bt546.1 bt546.2 true x531000 x531001 x531002 x532000 x532001 x532002 x541000 x541001 x541002))))
def laws_FnTreeDistances.j2 : Nat → Int → Int → Int → Int → List (S27) → Int → Bool → Int → Int → Int → Int → Int → Int → Int → Int → Int → Option (Bool)
 | 0, _, _, _, _, _, _, _, _, _, _, _, _, _, _, _, _ => none
 | k + 1, x3, x6, x7, x11, x14, x15, x105, x531000, x531001, x531002, x532000, x532001, x532002, x541000, x541001, x541002 => if x105 = true then (some false) else ((impl_Contains.f k x3 x531000 x531001 x531002 x532000 x532001 x532002).bind fun bt555 => ((spec_Contains.f k x3 x531000 x531001 x531002 x532000 x532001 x532002).bind fun bt557 => (if bt555.2 = bt557.2 then (laws_FnTreeDistances.j3 k x3 x6 x7 x11 x14 x15 bt555.1 bt555.2 (bt555.1 != bt557.1) x531000 x531001 x531002 x532000 x532001 x532002 x541000 x541001 x541002) else (laws_FnTreeDistances.j3 k x3 x6 x7 x11 x14 x15 bt555.1 bt555.2 true x531000 x531001 x531002 x532000 x532001 x532002 x541000 x541001 x541002))))
def laws_FnTreeDistances.j3 : Nat → Int → Int → Int → Int → List (S27) → Int → Bool → Int → Bool → Int → Int → Int → Int → Int → Int → Int → Int → Int → Option (Bool)
 | 0, _, _, _, _, _, _, _, _, _, _, _, _, _, _, _, _, _, _ => none
 | k + 1, x3, x6, x7, x11, x14, x15, x18, x19, x127, x531000, x531001, x531002, x532000, x532001, x532002, x541000, x541001, x541002 => if x127 = true then (some false) else (if x7 = 0 then ((impl_TreeDistance.f k x3 x532000 x532001 x532002 x531000 x531001 x531002).bind fun bt559 => (if bt559.2 = 0 then (if bt559.1 = x6 then (laws_FnTreeDistances.j4 k x3 x6 x11 x14 x15 x18 (x19 != 0) x531000 x531001 x531002 x532000 x532001 x532002 x541000 x541001 x541002) else (laws_FnTreeDistances.j4 k x3 x6 x11 x14 x15 x18 true x531000 x531001 x531002 x532000 x532001 x532002 x541000 x541001 x541002)) else (laws_FnTreeDistances.j4 k x3 x6 x11 x14 x15 x18 true x531000 x531001 x531002 x532000 x532001 x532002 x541000 x541001 x541002))) else (if x6 = 0 then (some ((x14.length : Int) == 0)) else (some false)))
def laws_FnTreeDistances.j4 : Nat → Int → Int → Int → List (S27) → Int → Bool → Bool → Int → Int → Int → Int → Int → Int → Int → Int → Int → Option (Bool)
 | 0, _, _, _, _, _, _, _, _, _, _, _, _, _, _, _, _ => none
 | k + 1, x3, x6, x11, x14, x15, x18, x154, x531000, x531001, x531002, x532000, x532001, x532002, x541000, x541001, x541002 => if x154 = true then (some false) else (if x11 = 0 then ((impl_HoldsBall.f k x3 x541000 x541001 x541002 x531000 x531001 x531002).bind fun bt561 => ((impl_HoldsBall.f k x3 x541000 x541001 x541002 x532000 x532001 x532002).bind fun bt563 => (if bt561.2 = 0 then (if bt561.1 = true then (if bt563.2 = 0 then (if bt563.1 = true then (if (x18 != (x541000 == x531000 && (x541001 == x531001 && (x541002 == x531002)))) = true then (some false) else (laws_FnTreeDistances.j5 k x3 x6 x14 x15 x531000 x531001 x531002 x532000 x532001 x532002)) else (some false)) else (some false)) else (some false)) else (some false)))) else (laws_FnTreeDistances.j5 k x3 x6 x14 x15 x531000 x531001 x531002 x532000 x532001 x532002))
def laws_FnTreeDistances.j5 : Nat → Int → Int → List (S27) → Int → Int → Int → Int → Int → Int → Int → Option (Bool)
 | 0, _, _, _, _, _, _, _, _, _, _ => none
 | k + 1, x3, x6, x14, x15, x531000, x531001, x531002, x532000, x532001, x532002 => if x15 = 0 then (laws_FnTreeDistances.l0 k x3 x6 x14 0 x531000 x531001 x531002 x532000 x532001 x532002) else (some true)
def laws_FnTreeDistances.l0 : Nat → Int → Int → List (S27) → Int → Int → Int → Int → Int → Int → Int → Option (Bool)
 | 0, _, _, _, _, _, _, _, _, _, _ => none
 | k + 1, x3, x6, x14, x28, x531000, x531001, x531002, x532000, x532001, x532002 => if (wrap64 (x28 + 1)) < (x14.length : Int) then (if 0 ≤ x28 then (if x28 < (x14.length : Int) then (if 0 ≤ (wrap64 (x28 + 1)) then ((impl_TreeDistance.f k x3 ((rd_T27 x14 x28).f0) ((rd_T27 x14 x28).f1) ((rd_T27 x14 x28).f2) ((rd_T27 x14 (wrap64 (x28 + 1))).f0) ((rd_T27 x14 (wrap64 (x28 + 1))).f1) ((rd_T27 x14 (wrap64 (x28 + 1))).f2)).bind fun bt567 => (if bt567.2 = 0 then (if bt567.1 = 1 then (laws_FnTreeDistances.l0 k x3 x6 x14 (wrap64 (x28 + 1)) x531000 x531001 x531002 x532000 x532001 x532002) else (some false)) else (some false))) else (none)) else (none)) else (none)) else (if (x14.length : Int) = (wrap64 (x6 + 1)) then (if 0 < (x14.length : Int) then (if (((rd_T27 x14 0).f0) == x531000 && (((rd_T27 x14 0).f1) == x531001 && (((rd_T27 x14 0).f2) == x531002))) = true then (if 0 ≤ (wrap64 ((x14.length : Int) - 1)) then (if (wrap64 ((x14.length : Int) - 1)) < (x14.length : Int) then (some (((rd_T27 x14 (wrap64 ((x14.length : Int) - 1))).f0) == x532000 && (((rd_T27 x14 (wrap64 ((x14.length : Int) - 1))).f1) == x532001 && (((rd_T27 x14 (wrap64 ((x14.length : Int) - 1))).f2) == x532002)))) else (none)) else (none)) else (some false)) else (none)) else (some false))
end
def laws_FnTreeDistances.f (k : Nat) (l0 : List Int) : Option (Bool) := (laws_big.f l0).bind fun t522 => (if t522 = true then (some true) else ((spec_DrawTreeDistance.f k l0).bind fun bt523 => ((impl_TreeDistance.f k bt523.1 bt523.2.1 bt523.2.2.1 bt523.2.2.2.1 bt523.2.2.2.2.1 bt523.2.2.2.2.2.1 bt523.2.2.2.2.2.2).bind fun bt532 => ((spec_TreeDistance.f k bt523.1 bt523.2.1 bt523.2.2.1 bt523.2.2.2.1 bt523.2.2.2.2.1 bt523.2.2.2.2.2.1 bt523.2.2.2.2.2.2).bind fun bt534 => (if bt532.2 = bt534.2 then (laws_FnTreeDistances.j0 k bt523.1 bt532.1 bt532.2 (bt532.1 != bt534.1) bt523.2.1 bt523.2.2.1 bt523.2.2.2.1 bt523.2.2.2.2.1 bt523.2.2.2.2.2.1 bt523.2.2.2.2.2.2) else (laws_FnTreeDistances.j0 k bt523.1 bt532.1 bt532.2 true bt523.2.1 bt523.2.2.1 bt523.2.2.2.1 bt523.2.2.2.2.1 bt523.2.2.2.2.2.1 bt523.2.2.2.2.2.2))))))
theorem laws_FnTreeDistances.mono_l : ∀ k, (∀ y0 y1 y2 y3 y4 y5 y6 y7 y8 y9, LeO (laws_FnTreeDistances.j0 k y0 y1 y2 y3 y4 y5 y6 y7 y8 y9) (laws_FnTreeDistances.j0 (k + 1) y0 y1 y2 y3 y4 y5 y6 y7 y8 y9)) ∧ (∀ y0 y1 y2 y3 y4 y5 y6 y7 y8 y9 y10 y11 y12 y13, LeO (laws_FnTreeDistances.j1 k y0 y1 y2 y3 y4 y5 y6 y7 y8 y9 y10 y11 y12 y13) (laws_FnTreeDistances.j1 (k + 1) y0 y1 y2 y3 y4 y5 y6 y7 y8 y9 y10 y11 y12 y13)) ∧ (∀ y0 y1 y2 y3 y4 y5 y6 y7 y8 y9 y10 y11 y12 y13 y14 y15, LeO (laws_FnTreeDistances.j2 k y0 y1 y2 y3 y4 y5 y6 y7 y8 y9 y10 y11 y12 y13 y14 y15) (laws_FnTreeDistances.j2 (k + 1) y0 y1 y2 y3 y4 y5 y6 y7 y8 y9 y10 y11 y12 y13 y14 y15)) ∧ (∀ y0 y1 y2 y3 y4 y5 y6 y7 y8 y9 y10 y11 y12 y13 y14 y15 y16 y17, LeO (laws_FnTreeDistances.j3 k y0 y1 y2 y3 y4 y5 y6 y7 y8 y9 y10 y11 y12 y13 y14 y15 y16 y17) (laws_FnTreeDistances.j3 (k + 1) y0 y1 y2 y3 y4 y5 y6 y7 y8 y9 y10 y11 y12 y13 y14 y15 y16 y17)) ∧ (∀ y0 y1 y2 y3 y4 y5 y6 y7 y8 y9 y10 y11 y12 y13 y14 y15, LeO (laws_FnTreeDistances.j4 k y0 y1 y2 y3 y4 y5 y6 y7 y8 y9 y10 y11 y12 y13 y14 y15) (laws_FnTreeDistances.j4 (k + 1) y0 y1 y2 y3 y4 y5 y6 y7 y8 y9 y10 y11 y12 y13 y14 y15)) ∧ (∀ y0 y1 y2 y3 y4 y5 y6 y7 y8 y9, LeO (laws_FnTreeDistances.j5 k y0 y1 y2 y3 y4 y5 y6 y7 y8 y9) (laws_FnTreeDistances.j5 (k + 1) y0 y1 y2 y3 y4 y5 y6 y7 y8 y9)) ∧ (∀ y0 y1 y2 y3 y4 y5 y6 y7 y8 y9, LeO (laws_FnTreeDistances.l0 k y0 y1 y2 y3 y4 y5 y6 y7 y8 y9) (laws_FnTreeDistances.l0 (k + 1) y0 y1 y2 y3 y4 y5 y6 y7 y8 y9))
 | 0 => ⟨fun _ _ _ _ _ _ _ _ _ _ r h => by simp [laws_FnTreeDistances.j0] at h, fun _ _ _ _ _ _ _ _ _ _ _ _ _ _ r h => by simp [laws_FnTreeDistances.j1] at h, fun _ _ _ _ _ _ _ _ _ _ _ _ _ _ _ _ r h => by simp [laws_FnTreeDistances.j2] at h, fun _ _ _ _ _ _ _ _ _ _ _ _ _ _ _ _ _ _ r h => by simp [laws_FnTreeDistances.j3] at h, fun _ _ _ _ _ _ _ _ _ _ _ _ _ _ _ _ r h => by simp [laws_FnTreeDistances.j4] at h, fun _ _ _ _ _ _ _ _ _ _ r h => by simp [laws_FnTreeDistances.j5] at h, fun _ _ _ _ _ _ _ _ _ _ r h => by simp [laws_FnTreeDistances.l0] at h⟩
 | k + 1 => by
  obtain ⟨ih0, ih1, ih2, ih3, ih4, ih5, ih6⟩ := laws_FnTreeDistances.mono_l k
  refine ⟨?_, ?_, ?_, ?_, ?_, ?_, ?_⟩
  ·intro y0 y1 y2 y3 y4 y5 y6 y7 y8 y9
   unfold laws_FnTreeDistances.j0
   repeat' first
   | (with_reducible exact ih0 _ _ _ _ _ _ _ _ _ _)
   | (with_reducible exact ih1 _ _ _ _ _ _ _ _ _ _ _ _ _ _)
   | (with_reducible exact ih2 _ _ _ _ _ _ _ _ _ _ _ _ _ _ _ _)
   | (with_reducible exact ih3 _ _ _ _ _ _ _ _ _ _ _ _ _ _ _ _ _ _)
   | (with_reducible exact ih4 _ _ _ _ _ _ _ _ _ _ _ _ _ _ _ _)
   | (with_reducible exact ih5 _ _ _ _ _ _ _ _ _ _)
   | (with_reducible exact ih6 _ _ _ _ _ _ _ _ _ _)
   | (with_reducible exact impl_Contains.mono _ _ _ _ _ _ _ _)
   | (with_reducible exact impl_GeodesicOf.mono _ _ _ _ _ _ _ _)
   | (with_reducible exact impl_HoldsBall.mono _ _ _ _ _ _ _ _)
   | (with_reducible exact impl_JoinOf.mono _ _ _ _ _ _ _ _)
   | (with_reducible exact impl_TreeDistance.mono _ _ _ _ _ _ _ _)
   | (with_reducible exact laws_balls9.mono _ _ _)
   | (with_reducible exact spec_Contains.mono _ _ _ _ _ _ _ _)
   | (with_reducible exact spec_DrawTreeDistance.mono _ _)
   | (with_reducible exact spec_GeodesicOf.mono _ _ _ _ _ _ _ _)
   | (with_reducible exact spec_JoinOf.mono _ _ _ _ _ _ _ _)
   | (with_reducible exact spec_TreeDistance.mono _ _ _ _ _ _ _ _)
   | (with_reducible exact LeO.refl _)
   | (with_reducible exact LeO.none _)
   | (with_reducible refine LeO.ite ?_ ?_)
   | (with_reducible refine LeO.bind ?_ (fun _ => ?_))
   | refine LeO.ite ?_ ?_
   | refine LeO.bind ?_ (fun _ => ?_)
  ·intro y0 y1 y2 y3 y4 y5 y6 y7 y8 y9 y10 y11 y12 y13
   unfold laws_FnTreeDistances.j1
   repeat' first
   | (with_reducible exact ih0 _ _ _ _ _ _ _ _ _ _)
   | (with_reducible exact ih1 _ _ _ _ _ _ _ _ _ _ _ _ _ _)
   | (with_reducible exact ih2 _ _ _ _ _ _ _ _ _ _ _ _ _ _ _ _)
   | (with_reducible exact ih3 _ _ _ _ _ _ _ _ _ _ _ _ _ _ _ _ _ _)
   | (with_reducible exact ih4 _ _ _ _ _ _ _ _ _ _ _ _ _ _ _ _)
   | (with_reducible exact ih5 _ _ _ _ _ _ _ _ _ _)
   | (with_reducible exact ih6 _ _ _ _ _ _ _ _ _ _)
   | (with_reducible exact impl_Contains.mono _ _ _ _ _ _ _ _)
   | (with_reducible exact impl_GeodesicOf.mono _ _ _ _ _ _ _ _)
   | (with_reducible exact impl_HoldsBall.mono _ _ _ _ _ _ _ _)
   | (with_reducible exact impl_JoinOf.mono _ _ _ _ _ _ _ _)
   | (with_reducible exact impl_TreeDistance.mono _ _ _ _ _ _ _ _)
   | (with_reducible exact laws_balls9.mono _ _ _)
   | (with_reducible exact spec_Contains.mono _ _ _ _ _ _ _ _)
   | (with_reducible exact spec_DrawTreeDistance.mono _ _)
   | (with_reducible exact spec_GeodesicOf.mono _ _ _ _ _ _ _ _)
   | (with_reducible exact spec_JoinOf.mono _ _ _ _ _ _ _ _)
   | (with_reducible exact spec_TreeDistance.mono _ _ _ _ _ _ _ _)
   | (with_reducible exact LeO.refl _)
   | (with_reducible exact LeO.none _)
   | (with_reducible refine LeO.ite ?_ ?_)
   | (with_reducible refine LeO.bind ?_ (fun _ => ?_))
   | refine LeO.ite ?_ ?_
   | refine LeO.bind ?_ (fun _ => ?_)
  ·intro y0 y1 y2 y3 y4 y5 y6 y7 y8 y9 y10 y11 y12 y13 y14 y15
   unfold laws_FnTreeDistances.j2
   repeat' first
   | (with_reducible exact ih0 _ _ _ _ _ _ _ _ _ _)
   | (with_reducible exact ih1 _ _ _ _ _ _ _ _ _ _ _ _ _ _)
   | (with_reducible exact ih2 _ _ _ _ _ _ _ _ _ _ _ _ _ _ _ _)
   | (with_reducible exact ih3 _ _ _ _ _ _ _ _ _ _ _ _ _ _ _ _ _ _)
   | (with_reducible exact ih4 _ _ _ _ _ _ _ _ _ _ _ _ _ _ _ _)
   | (with_reducible exact ih5 _ _ _ _ _ _ _ _ _ _)
   | (with_reducible exact ih6 _ _ _ _ _ _ _ _ _ _)
   | (with_reducible exact impl_Contains.mono _ _ _ _ _ _ _ _)
   | (with_reducible exact impl_GeodesicOf.mono _ _ _ _ _ _ _ _)
   | (with_reducible exact impl_HoldsBall.mono _ _ _ _ _ _ _ _)
   | (with_reducible exact impl_JoinOf.mono _ _ _ _ _ _ _ _)
   | (with_reducible exact impl_TreeDistance.mono _ _ _ _ _ _ _ _)
   | (with_reducible exact laws_balls9.mono _ _ _)
   | (with_reducible exact spec_Contains.mono _ _ _ _ _ _ _ _)
   | (with_reducible exact spec_DrawTreeDistance.mono _ _)
   | (with_reducible exact spec_GeodesicOf.mono _ _ _ _ _ _ _ _)
   | (with_reducible exact spec_JoinOf.mono _ _ _ _ _ _ _ _)
   | (with_reducible exact spec_TreeDistance.mono _ _ _ _ _ _ _ _)
   | (with_reducible exact LeO.refl _)
   | (with_reducible exact LeO.none _)
   | (with_reducible refine LeO.ite ?_ ?_)
   | (with_reducible refine LeO.bind ?_ (fun _ => ?_))
   | refine LeO.ite ?_ ?_
   | refine LeO.bind ?_ (fun _ => ?_)
  ·intro y0 y1 y2 y3 y4 y5 y6 y7 y8 y9 y10 y11 y12 y13 y14 y15 y16 y17
   unfold laws_FnTreeDistances.j3
   repeat' first
   | (with_reducible exact ih0 _ _ _ _ _ _ _ _ _ _)
   | (with_reducible exact ih1 _ _ _ _ _ _ _ _ _ _ _ _ _ _)
   | (with_reducible exact ih2 _ _ _ _ _ _ _ _ _ _ _ _ _ _ _ _)
   | (with_reducible exact ih3 _ _ _ _ _ _ _ _ _ _ _ _ _ _ _ _ _ _)
   | (with_reducible exact ih4 _ _ _ _ _ _ _ _ _ _ _ _ _ _ _ _)
   | (with_reducible exact ih5 _ _ _ _ _ _ _ _ _ _)
   | (with_reducible exact ih6 _ _ _ _ _ _ _ _ _ _)
   | (with_reducible exact impl_Contains.mono _ _ _ _ _ _ _ _)
   | (with_reducible exact impl_GeodesicOf.mono _ _ _ _ _ _ _ _)
   | (with_reducible exact impl_HoldsBall.mono _ _ _ _ _ _ _ _)
   | (with_reducible exact impl_JoinOf.mono _ _ _ _ _ _ _ _)
   | (with_reducible exact impl_TreeDistance.mono _ _ _ _ _ _ _ _)
   | (with_reducible exact laws_balls9.mono _ _ _)
   | (with_reducible exact spec_Contains.mono _ _ _ _ _ _ _ _)
   | (with_reducible exact spec_DrawTreeDistance.mono _ _)
   | (with_reducible exact spec_GeodesicOf.mono _ _ _ _ _ _ _ _)
   | (with_reducible exact spec_JoinOf.mono _ _ _ _ _ _ _ _)
   | (with_reducible exact spec_TreeDistance.mono _ _ _ _ _ _ _ _)
   | (with_reducible exact LeO.refl _)
   | (with_reducible exact LeO.none _)
   | (with_reducible refine LeO.ite ?_ ?_)
   | (with_reducible refine LeO.bind ?_ (fun _ => ?_))
   | refine LeO.ite ?_ ?_
   | refine LeO.bind ?_ (fun _ => ?_)
  ·intro y0 y1 y2 y3 y4 y5 y6 y7 y8 y9 y10 y11 y12 y13 y14 y15
   unfold laws_FnTreeDistances.j4
   repeat' first
   | (with_reducible exact ih0 _ _ _ _ _ _ _ _ _ _)
   | (with_reducible exact ih1 _ _ _ _ _ _ _ _ _ _ _ _ _ _)
   | (with_reducible exact ih2 _ _ _ _ _ _ _ _ _ _ _ _ _ _ _ _)
   | (with_reducible exact ih3 _ _ _ _ _ _ _ _ _ _ _ _ _ _ _ _ _ _)
   | (with_reducible exact ih4 _ _ _ _ _ _ _ _ _ _ _ _ _ _ _ _)
   | (with_reducible exact ih5 _ _ _ _ _ _ _ _ _ _)
   | (with_reducible exact ih6 _ _ _ _ _ _ _ _ _ _)
   | (with_reducible exact impl_Contains.mono _ _ _ _ _ _ _ _)
   | (with_reducible exact impl_GeodesicOf.mono _ _ _ _ _ _ _ _)
   | (with_reducible exact impl_HoldsBall.mono _ _ _ _ _ _ _ _)
   | (with_reducible exact impl_JoinOf.mono _ _ _ _ _ _ _ _)
   | (with_reducible exact impl_TreeDistance.mono _ _ _ _ _ _ _ _)
   | (with_reducible exact laws_balls9.mono _ _ _)
   | (with_reducible exact spec_Contains.mono _ _ _ _ _ _ _ _)
   | (with_reducible exact spec_DrawTreeDistance.mono _ _)
   | (with_reducible exact spec_GeodesicOf.mono _ _ _ _ _ _ _ _)
   | (with_reducible exact spec_JoinOf.mono _ _ _ _ _ _ _ _)
   | (with_reducible exact spec_TreeDistance.mono _ _ _ _ _ _ _ _)
   | (with_reducible exact LeO.refl _)
   | (with_reducible exact LeO.none _)
   | (with_reducible refine LeO.ite ?_ ?_)
   | (with_reducible refine LeO.bind ?_ (fun _ => ?_))
   | refine LeO.ite ?_ ?_
   | refine LeO.bind ?_ (fun _ => ?_)
  ·intro y0 y1 y2 y3 y4 y5 y6 y7 y8 y9
   unfold laws_FnTreeDistances.j5
   repeat' first
   | (with_reducible exact ih0 _ _ _ _ _ _ _ _ _ _)
   | (with_reducible exact ih1 _ _ _ _ _ _ _ _ _ _ _ _ _ _)
   | (with_reducible exact ih2 _ _ _ _ _ _ _ _ _ _ _ _ _ _ _ _)
   | (with_reducible exact ih3 _ _ _ _ _ _ _ _ _ _ _ _ _ _ _ _ _ _)
   | (with_reducible exact ih4 _ _ _ _ _ _ _ _ _ _ _ _ _ _ _ _)
   | (with_reducible exact ih5 _ _ _ _ _ _ _ _ _ _)
   | (with_reducible exact ih6 _ _ _ _ _ _ _ _ _ _)
   | (with_reducible exact impl_Contains.mono _ _ _ _ _ _ _ _)
   | (with_reducible exact impl_GeodesicOf.mono _ _ _ _ _ _ _ _)
   | (with_reducible exact impl_HoldsBall.mono _ _ _ _ _ _ _ _)
   | (with_reducible exact impl_JoinOf.mono _ _ _ _ _ _ _ _)
   | (with_reducible exact impl_TreeDistance.mono _ _ _ _ _ _ _ _)
   | (with_reducible exact laws_balls9.mono _ _ _)
   | (with_reducible exact spec_Contains.mono _ _ _ _ _ _ _ _)
   | (with_reducible exact spec_DrawTreeDistance.mono _ _)
   | (with_reducible exact spec_GeodesicOf.mono _ _ _ _ _ _ _ _)
   | (with_reducible exact spec_JoinOf.mono _ _ _ _ _ _ _ _)
   | (with_reducible exact spec_TreeDistance.mono _ _ _ _ _ _ _ _)
   | (with_reducible exact LeO.refl _)
   | (with_reducible exact LeO.none _)
   | (with_reducible refine LeO.ite ?_ ?_)
   | (with_reducible refine LeO.bind ?_ (fun _ => ?_))
   | refine LeO.ite ?_ ?_
   | refine LeO.bind ?_ (fun _ => ?_)
  ·intro y0 y1 y2 y3 y4 y5 y6 y7 y8 y9
   unfold laws_FnTreeDistances.l0
   repeat' first
   | (with_reducible exact ih0 _ _ _ _ _ _ _ _ _ _)
   | (with_reducible exact ih1 _ _ _ _ _ _ _ _ _ _ _ _ _ _)
   | (with_reducible exact ih2 _ _ _ _ _ _ _ _ _ _ _ _ _ _ _ _)
   | (with_reducible exact ih3 _ _ _ _ _ _ _ _ _ _ _ _ _ _ _ _ _ _)
   | (with_reducible exact ih4 _ _ _ _ _ _ _ _ _ _ _ _ _ _ _ _)
   | (with_reducible exact ih5 _ _ _ _ _ _ _ _ _ _)
   | (with_reducible exact ih6 _ _ _ _ _ _ _ _ _ _)
   | (with_reducible exact impl_Contains.mono _ _ _ _ _ _ _ _)
   | (with_reducible exact impl_GeodesicOf.mono _ _ _ _ _ _ _ _)
   | (with_reducible exact impl_HoldsBall.mono _ _ _ _ _ _ _ _)
   | (with_reducible exact impl_JoinOf.mono _ _ _ _ _ _ _ _)
   | (with_reducible exact impl_TreeDistance.mono _ _ _ _ _ _ _ _)
   | (with_reducible exact laws_balls9.mono _ _ _)
   | (with_reducible exact spec_Contains.mono _ _ _ _ _ _ _ _)
   | (with_reducible exact spec_DrawTreeDistance.mono _ _)
   | (with_reducible exact spec_GeodesicOf.mono _ _ _ _ _ _ _ _)
   | (with_reducible exact spec_JoinOf.mono _ _ _ _ _ _ _ _)
   | (with_reducible exact spec_TreeDistance.mono _ _ _ _ _ _ _ _)
   | (with_reducible exact LeO.refl _)
   | (with_reducible exact LeO.none _)
   | (with_reducible refine LeO.ite ?_ ?_)
   | (with_reducible refine LeO.bind ?_ (fun _ => ?_))
   | refine LeO.ite ?_ ?_
   | refine LeO.bind ?_ (fun _ => ?_)
theorem laws_FnTreeDistances.mono : ∀ a0 k, LeO (laws_FnTreeDistances.f k a0) (laws_FnTreeDistances.f (k + 1) a0) := by
 intro a0 k
 obtain ⟨ih0, ih1, ih2, ih3, ih4, ih5, ih6⟩ := laws_FnTreeDistances.mono_l k
 unfold laws_FnTreeDistances.f
 repeat' first
   | (with_reducible exact ih0 _ _ _ _ _ _ _ _ _ _)
   | (with_reducible exact ih1 _ _ _ _ _ _ _ _ _ _ _ _ _ _)
   | (with_reducible exact ih2 _ _ _ _ _ _ _ _ _ _ _ _ _ _ _ _)
   | (with_reducible exact ih3 _ _ _ _ _ _ _ _ _ _ _ _ _ _ _ _ _ _)
   | (with_reducible exact ih4 _ _ _ _ _ _ _ _ _ _ _ _ _ _ _ _)
   | (with_reducible exact ih5 _ _ _ _ _ _ _ _ _ _)
   | (with_reducible exact ih6 _ _ _ _ _ _ _ _ _ _)
   | (with_reducible exact impl_Contains.mono _ _ _ _ _ _ _ _)
   | (with_reducible exact impl_GeodesicOf.mono _ _ _ _ _ _ _ _)
   | (with_reducible exact impl_HoldsBall.mono _ _ _ _ _ _ _ _)
   | (with_reducible exact impl_JoinOf.mono _ _ _ _ _ _ _ _)
   | (with_reducible exact impl_TreeDistance.mono _ _ _ _ _ _ _ _)
   | (with_reducible exact laws_balls9.mono _ _ _)
   | (with_reducible exact spec_Contains.mono _ _ _ _ _ _ _ _)
   | (with_reducible exact spec_DrawTreeDistance.mono _ _)
   | (with_reducible exact spec_GeodesicOf.mono _ _ _ _ _ _ _ _)
   | (with_reducible exact spec_JoinOf.mono _ _ _ _ _ _ _ _)
   | (with_reducible exact spec_TreeDistance.mono _ _ _ _ _ _ _ _)
   | (with_reducible exact LeO.refl _)
   | (with_reducible exact LeO.none _)
   | (with_reducible refine LeO.ite ?_ ?_)
   | (with_reducible refine LeO.bind ?_ (fun _ => ?_))
   | refine LeO.ite ?_ ?_
   | refine LeO.bind ?_ (fun _ => ?_)
def laws_FnTreeDistances.T35 : Bool × List (List Nat × List Nat) := (true, [([], []), ([], []), ([], []), ([1, 2], [1, 2]), ([3], [3]), ([], []), ([], []), ([6], [6]), ([5, 7], [5, 7]), ([8], [8]), ([0, 4, 9], [0, 4, 9]), ([10], [10]), ([11], [11]), ([11], [11]), ([12, 10, 0, 1, 2, 3, 4, 5, 6, 7, 8, 9, 10, 11, 12], [12]), ([13, 14, 0, 1, 2, 3, 4, 5, 6, 7, 8, 9, 10, 11, 12, 13, 14], [13])])
def laws_FnTreeDistances.B35 : List Nat := [0, 0, 0, 6, 14, 0, 0, 64, 224, 480, 1023, 2047, 4095, 4095, 8191, 32767]
theorem laws_FnTreeDistances.tab35 : rtab .any (opsOf Try.f8 35) = laws_FnTreeDistances.T35 := by kernel_rfl
theorem laws_FnTreeDistances.bits35 : waitsOk laws_FnTreeDistances.T35.2 laws_FnTreeDistances.B35 = true := by kernel_rfl
def laws_FnTreeDistances.T38 : Bool × List (List Nat × List Nat) := (true, [([], []), ([0], [0]), ([], []), ([2], [2]), ([1, 3], [1, 3]), ([4], [4]), ([5], [5]), ([6, 5], [5, 6]), ([7, 5], [5, 7]), ([5], [5]), ([8, 9, 5], [5, 8, 9]), ([5, 10], [5, 10]), ([11, 5], [11]), ([12], [12]), ([12], [12]), ([14, 12], [12, 14]), ([15, 12], [12, 15]), ([13, 16, 12], [12, 13, 16]), ([17, 12], [12, 17]), ([12], [12]), ([18, 19, 12], [12, 18, 19]), ([12, 20], [12, 20]), ([21, 12, 0, 1, 2, 3, 4, 5, 6, 7, 8, 9, 10, 11, 12, 13, 14, 15, 16, 17, 18, 19, 20, 21], [21])])
def laws_FnTreeDistances.B38 : List Nat := [0, 1, 0, 4, 15, 31, 63, 127, 255, 63, 1023, 2047, 4095, 8191, 8191, 24575, 57343, 131071, 262143, 8191, 1048575, 2097151, 4194303]
theorem laws_FnTreeDistances.tab38 : rtab .any (opsOf Try.f8 38) = laws_FnTreeDistances.T38 := by kernel_rfl
theorem laws_FnTreeDistances.bits38 : waitsOk laws_FnTreeDistances.T38.2 laws_FnTreeDistances.B38 = true := by kernel_rfl
set_option maxHeartbeats 8000000 in
set_option maxRecDepth 100000 in
theorem laws_FnTreeDistances.calls (k : Nat) (A0 : Option Addr) (c0 : Nat) (l0 : List Int) (r : Bool) (w : World) (hr : Aside0 (r = true)) (hr0 : Kd.C (Kd.int .u8) w A0 l0.length l0) (hc0 : l0.length ≤ c0) (h : laws_FnTreeDistances.f k l0 = some r) :
  Calls Try.prog 8 #[.slice A0 l0.length c0] w fun e w' => e = .returned (.bool r) ∧ Below w.heap.size w w' := by
 have hu27 := Try.underlying27
 have HR0 := Aside0.mk hr0
 have HC0 := Aside0.mk hc0
 clear hr0 hc0
 have HB := Aside0.mk (Below.refl w.heap.size w)
 have H : ((laws_big.f l0).bind fun t522 => (if t522 = true then (some true) else ((spec_DrawTreeDistance.f k l0).bind fun bt523 => ((impl_TreeDistance.f k bt523.1 bt523.2.1 bt523.2.2.1 bt523.2.2.2.1 bt523.2.2.2.2.1 bt523.2.2.2.2.2.1 bt523.2.2.2.2.2.2).bind fun bt532 => ((spec_TreeDistance.f k bt523.1 bt523.2.1 bt523.2.2.1 bt523.2.2.2.1 bt523.2.2.2.2.1 bt523.2.2.2.2.2.1 bt523.2.2.2.2.2.2).bind fun bt534 => (if bt532.2 = bt534.2 then (laws_FnTreeDistances.j0 k bt523.1 bt532.1 bt532.2 (bt532.1 != bt534.1) bt523.2.1 bt523.2.2.1 bt523.2.2.2.1 bt523.2.2.2.2.1 bt523.2.2.2.2.2.1 bt523.2.2.2.2.2.2) else (laws_FnTreeDistances.j0 k bt523.1 bt532.1 bt532.2 true bt523.2.1 bt523.2.2.1 bt523.2.2.2.1 bt523.2.2.2.2.1 bt523.2.2.2.2.2.1 bt523.2.2.2.2.2.2))))))) = some r := h
 clear h
 replace H := Option.bind_eq_some_iff.mp H
 obtain ⟨t522, A20, H⟩ := H
 replace H : (if t522 = true then (some true) else ((spec_DrawTreeDistance.f k l0).bind fun bt523 => ((impl_TreeDistance.f k bt523.1 bt523.2.1 bt523.2.2.1 bt523.2.2.2.1 bt523.2.2.2.2.1 bt523.2.2.2.2.2.1 bt523.2.2.2.2.2.2).bind fun bt532 => ((spec_TreeDistance.f k bt523.1 bt523.2.1 bt523.2.2.1 bt523.2.2.2.1 bt523.2.2.2.2.1 bt523.2.2.2.2.2.1 bt523.2.2.2.2.2.2).bind fun bt534 => (if bt532.2 = bt534.2 then (laws_FnTreeDistances.j0 k bt523.1 bt532.1 bt532.2 (bt532.1 != bt534.1) bt523.2.1 bt523.2.2.1 bt523.2.2.2.1 bt523.2.2.2.2.1 bt523.2.2.2.2.2.1 bt523.2.2.2.2.2.2) else (laws_FnTreeDistances.j0 k bt523.1 bt532.1 bt532.2 true bt523.2.1 bt523.2.2.1 bt523.2.2.2.1 bt523.2.2.2.2.1 bt523.2.2.2.2.2.1 bt523.2.2.2.2.2.2)))))) = some r := H
 have A2 := Aside0.mk A20
 clear A20
 by_cases c3 : t522 = true
 ·subst c3
  have H1 : (some true) = some r := by rw [if_pos rfl] at H; exact H
  clear H
  have H := H1
  clear H1
  obtain rfl := Option.some.inj H
  go_enter Try.func8, Try.ntmps8
  go_wp2_with (first | ((with_reducible refine gate_callee (f := 21) rfl ?_); refine g1 (some 32) Try.func21 #[.slice A0 l0.length c0] ?_; (with_reducible refine (laws_big.calls _ _ l0 true _ ?side1 ?side2 A2.out).mono ?_); (case side1 => repeat (first | exact HR0.out | (with_reducible refine Kd.C_alloc ?_ _) | (with_reducible refine Kd.C_drewN ?_ _) | (with_reducible refine Kd.C_drew ?_))); (case side2 => exact HC0.out); rintro e w' ⟨rfl, ⟨nd, rfl⟩⟩; refine ⟨_, rfl, ?_⟩))
  go_ret
  exact ⟨by first | rfl | (simp [errW_none, errW_some] <;> rfl) | (simp [*, errW_none, errW_some] <;> rfl), by repeat (first | (with_reducible first | exact HB.out | apply below_alloc | apply pw_below_drewN | apply below_drew1) | exact HB.out)⟩
 ·replace c3 := Bool.eq_false_iff.mpr c3
  subst c3
  have H1 : ((spec_DrawTreeDistance.f k l0).bind fun bt523 => ((impl_TreeDistance.f k bt523.1 bt523.2.1 bt523.2.2.1 bt523.2.2.2.1 bt523.2.2.2.2.1 bt523.2.2.2.2.2.1 bt523.2.2.2.2.2.2).bind fun bt532 => ((spec_TreeDistance.f k bt523.1 bt523.2.1 bt523.2.2.1 bt523.2.2.2.1 bt523.2.2.2.2.1 bt523.2.2.2.2.2.1 bt523.2.2.2.2.2.2).bind fun bt534 => (if bt532.2 = bt534.2 then (laws_FnTreeDistances.j0 k bt523.1 bt532.1 bt532.2 (bt532.1 != bt534.1) bt523.2.1 bt523.2.2.1 bt523.2.2.2.1 bt523.2.2.2.2.1 bt523.2.2.2.2.2.1 bt523.2.2.2.2.2.2) else (laws_FnTreeDistances.j0 k bt523.1 bt532.1 bt532.2 true bt523.2.1 bt523.2.2.1 bt523.2.2.2.1 bt523.2.2.2.2.1 bt523.2.2.2.2.2.1 bt523.2.2.2.2.2.2))))) = some r := by rw [if_neg (show ¬ (false = true) by decide)] at H; exact H
  clear H
  have H := H1
  clear H1
  replace H := Option.bind_eq_some_iff.mp H
  obtain ⟨⟨t523, t524, t525, t526, t527, t528, t529⟩, A40, H⟩ := H
  replace H : ((impl_TreeDistance.f k t523 t524 t525 t526 t527 t528 t529).bind fun bt532 => ((spec_TreeDistance.f k t523 t524 t525 t526 t527 t528 t529).bind fun bt534 => (if bt532.2 = bt534.2 then (laws_FnTreeDistances.j0 k t523 bt532.1 bt532.2 (bt532.1 != bt534.1) t524 t525 t526 t527 t528 t529) else (laws_FnTreeDistances.j0 k t523 bt532.1 bt532.2 true t524 t525 t526 t527 t528 t529)))) = some r := H
  have A4 := Aside0.mk A40
  clear A40
  replace H := Option.bind_eq_some_iff.mp H
  obtain ⟨⟨t532, t533⟩, A50, H⟩ := H
  replace H : ((spec_TreeDistance.f k t523 t524 t525 t526 t527 t528 t529).bind fun bt534 => (if t533 = bt534.2 then (laws_FnTreeDistances.j0 k t523 t532 t533 (t532 != bt534.1) t524 t525 t526 t527 t528 t529) else (laws_FnTreeDistances.j0 k t523 t532 t533 true t524 t525 t526 t527 t528 t529))) = some r := H
  have A5 := Aside0.mk A50
  clear A50
  replace H := Option.bind_eq_some_iff.mp H
  obtain ⟨⟨t534, t535⟩, A60, H⟩ := H
  replace H : (if t533 = t535 then (laws_FnTreeDistances.j0 k t523 t532 t533 (t532 != t534) t524 t525 t526 t527 t528 t529) else (laws_FnTreeDistances.j0 k t523 t532 t533 true t524 t525 t526 t527 t528 t529)) = some r := H
  have A6 := Aside0.mk A60
  clear A60
  have HC7 := Aside0.mk H
  clear H
  go_enter Try.func8, Try.ntmps8
  go_upto_region 6 with (first | ((with_reducible refine gate_callee (f := 21) rfl ?_); refine g1 (some 32) Try.func21 #[.slice A0 l0.length c0] ?_; (with_reducible refine (laws_big.calls _ _ l0 false _ ?side1 ?side2 A2.out).mono ?_); (case side1 => repeat (first | exact HR0.out | (with_reducible refine Kd.C_alloc ?_ _) | (with_reducible refine Kd.C_drewN ?_ _) | (with_reducible refine Kd.C_drew ?_))); (case side2 => exact HC0.out); rintro e w' ⟨rfl, ⟨nd, rfl⟩⟩; refine ⟨_, rfl, ?_⟩) | ((with_reducible refine gate_callee (f := 45) rfl ?_); refine g1 (some 35) Try.func45 #[.slice A0 l0.length c0] ?_; (with_reducible refine (spec_DrawTreeDistance.calls k _ _ l0 t523 t524 t525 t526 t527 t528 t529 _ ?side1 ?side2 A4.out).mono ?_); (case side1 => repeat (first | exact HR0.out | (with_reducible refine Kd.C_alloc ?_ _) | (with_reducible refine Kd.C_drewN ?_ _) | (with_reducible refine Kd.C_drew ?_))); (case side2 => exact HC0.out); rintro e w8 ⟨rfl, hb⟩; refine ⟨_, rfl, ?_⟩; replace HB := bs hb; (try clear hb); (try clear hb2); (try clear hk); (try clear hi)) | ((with_reducible refine gate_dst (N := 4) rfl ?_); (try (refine gate_guard (by rfl) ?_; dsimp only)); refine bx (N := 4) (cs := #[.int .i64 0, .int .i64 0, .int .i64 0]) (t := 27) ?_; intro gb530 hg w9 hbox hb; have BK530 := Aside0.mk (hbox); have GW530 := sg hg; have GE530 := sg hg; replace HB := bs hb; clear hb hbox hg) | ((with_reducible refine gate_dst (N := 5) rfl ?_); (try (refine gate_guard (by rfl) ?_; dsimp only)); refine bx (N := 5) (cs := #[.int .i64 0, .int .i64 0, .int .i64 0]) (t := 27) ?_; intro gb531 hg w10 hbox hb; have BK531 := Aside0.mk (hbox); have GW531 := sg hg; have GE531 := sg hg; have NB530_531 := nl hg BK530; have NB531_530 := ng hg BK530; replace BK530 := bb BK530 hb; replace HB := bs hb; clear hb hbox hg; have hnb11 := NB530_531.out; have hnc11 := NB531_530.out; obtain ⟨hcz12_0, hcz12_1, hcz12_2, hfz12_0, hfz12_1, hfz12_2⟩ := c3 BK530; obtain ⟨hcz13_0, hcz13_1, hcz13_2, hfz13_0, hfz13_1, hfz13_2⟩ := c3 BK531) | ((with_reducible refine gate_callee (f := 44) rfl ?_); refine g1 (some 43) Try.func44 #[.int .i64 t523, .agg #[.int .i64 t524, .int .i64 t525, .int .i64 t526], .agg #[.int .i64 t527, .int .i64 t528, .int .i64 t529]] ?_; (with_reducible refine (impl_TreeDistance.calls k t523 t524 t525 t526 t527 t528 t529 t532 t533 _ A5.out).mono ?_); rintro e w14 ⟨rfl, hb⟩; refine ⟨_, rfl, ?_⟩; replace BK530 := Aside0.mk (blk_below (g := gb530) (o := .cells #[.int .i64 t524, .int .i64 t525, .int .i64 t526] 27 (0, 0)) (by (with_reducible repeat (first | apply bn | apply bd | apply ba)); refine blk_far ?_ NB530_531.out _; (with_reducible repeat (first | apply bn | apply bd | apply ba)); refine blk_far ?_ NB530_531.out _; (with_reducible repeat (first | apply bn | apply bd | apply ba)); refine blk_far ?_ NB530_531.out _; (with_reducible repeat (first | apply bn | apply bd | apply ba)); refine blk_put (cs := #[.int .i64 t524, .int .i64 t525, .int .i64 0]) ?_ 2 _ rfl; (with_reducible repeat (first | apply bn | apply bd | apply ba)); refine blk_put (cs := #[.int .i64 t524, .int .i64 0, .int .i64 0]) ?_ 1 _ rfl; (with_reducible repeat (first | apply bn | apply bd | apply ba)); refine blk_put (cs := #[.int .i64 0, .int .i64 0, .int .i64 0]) ?_ 0 _ rfl; (with_reducible repeat (first | apply bn | apply bd | apply ba)); exact BK530.out) hb); replace BK531 := Aside0.mk (blk_below (g := gb531) (o := .cells #[.int .i64 t527, .int .i64 t528, .int .i64 t529] 27 (0, 0)) (by (with_reducible repeat (first | apply bn | apply bd | apply ba)); refine blk_put (cs := #[.int .i64 t527, .int .i64 t528, .int .i64 0]) ?_ 2 _ rfl; (with_reducible repeat (first | apply bn | apply bd | apply ba)); refine blk_put (cs := #[.int .i64 t527, .int .i64 0, .int .i64 0]) ?_ 1 _ rfl; (with_reducible repeat (first | apply bn | apply bd | apply ba)); refine blk_put (cs := #[.int .i64 0, .int .i64 0, .int .i64 0]) ?_ 0 _ rfl; (with_reducible repeat (first | apply bn | apply bd | apply ba)); refine blk_far ?_ NB531_530.out _; (with_reducible repeat (first | apply bn | apply bd | apply ba)); refine blk_far ?_ NB531_530.out _; (with_reducible repeat (first | apply bn | apply bd | apply ba)); refine blk_far ?_ NB531_530.out _; (with_reducible repeat (first | apply bn | apply bd | apply ba)); exact BK531.out) hb); replace HB := bs hb; (try clear hb); (try clear hb2); (try clear hk); (try clear hi); obtain ⟨hcz15_0, hcz15_1, hcz15_2, hfz15_0, hfz15_1, hfz15_2⟩ := c3 BK530; obtain ⟨hcz16_0, hcz16_1, hcz16_2, hfz16_0, hfz16_1, hfz16_2⟩ := c3 BK531) | ((with_reducible refine gate_callee (f := 46) rfl ?_); refine g1 (some 50) Try.func46 #[.int .i64 t523, .agg #[.int .i64 t524, .int .i64 t525, .int .i64 t526], .agg #[.int .i64 t527, .int .i64 t528, .int .i64 t529]] ?_; (with_reducible refine (spec_TreeDistance.calls k t523 t524 t525 t526 t527 t528 t529 t534 t535 _ A6.out).mono ?_); rintro e w17 ⟨rfl, hb⟩; refine ⟨_, rfl, ?_⟩; replace BK530 := bb BK530 hb; replace BK531 := bb BK531 hb; replace HB := bs hb; (try clear hb); (try clear hb2); (try clear hk); (try clear hi)))
  (try simp only [Act.put, List.setIfInBounds_toArray, List.set_cons_zero, List.set_cons_succ])
  go_cut [60] (fun v60 wc => ∃ (kq : Nat) (x60_6 : Bool), v60 = .bool x60_6 ∧ Aside0 (laws_FnTreeDistances.j0 kq t523 t532 t533 x60_6 t524 t525 t526 t527 t528 t529 = some r) ∧ Aside0 (kq ≤ k) ∧ Aside0 (wc.heap[gb530]? = some (.cells #[.int .i64 t524, .int .i64 t525, .int .i64 t526] 27 (0, 0))) ∧ Aside0 (wc.heap[gb531]? = some (.cells #[.int .i64 t527, .int .i64 t528, .int .i64 t529] 27 (0, 0))) ∧ Aside0 (Below w.heap.size w wc))
  case first =>
   as_aux_lemma =>
   have H := HC7.out
   clear HC7
   by_cases c18 : t533 = t535
   ·rw [if_pos c18] at H
    have c18b0 : (t533 == t535) = true := beq_iff_eq.mpr c18
    have c18b1 : (t533 != t535) = false := bne_eq_false_iff_eq.mpr c18
    clear c18
    (first | rw [c18b0] | (simp only [i64_w, i32_w]; rw [c18b0]) | skip)
    have H' := Aside0.mk H
    clear H
    go_wp2
    go_meet
    case rel => exact ⟨_, ((t532 != t534)), (by first | rfl | (simp; done) | (simp [*]; done)), H', ⟨by first | omega | exact Nat.le_refl _⟩, ⟨be BK530⟩, ⟨be BK531⟩, ⟨by repeat (first | (with_reducible first | exact HB.out | apply below_alloc | apply pw_below_drewN | apply below_drew1 | refine below_set ?_ GE530.out | refine below_set ?_ GE531.out) | exact HB.out)⟩⟩
   ·rw [if_neg c18] at H
    have c18b0 : (t533 == t535) = false := beq_eq_false_iff_ne.mpr c18
    have c18b1 : (t533 != t535) = true := bne_iff_ne.mpr c18
    (first | rw [c18b0] | (simp only [i64_w, i32_w]; rw [c18b0]) | skip)
    have H' := Aside0.mk H
    clear H
    go_wp2
    go_meet
    case rel => exact ⟨_, (true), (by first | rfl | (simp; done) | (simp [*]; done)), H', ⟨by first | omega | exact Nat.le_refl _⟩, ⟨be BK530⟩, ⟨be BK531⟩, ⟨by repeat (first | (with_reducible first | exact HB.out | apply below_alloc | apply pw_below_drewN | apply below_drew1 | refine below_set ?_ GE530.out | refine below_set ?_ GE531.out) | exact HB.out)⟩⟩
  case rest =>
   as_aux_lemma =>
   clear HC7
   try clear c1
   try clear c2
   try clear p2
   try clear c3
   try clear c4
   try clear c8
   try clear c11
   try clear c18
   try clear c18b0
   try clear c18b1
   try clear hcz12_0 hcz12_1 hcz12_2
   try clear hcz13_0 hcz13_1 hcz13_2
   try clear hcz15_0 hcz15_1 hcz15_2
   try clear hcz16_0 hcz16_1 hcz16_2
   try clear hfz12_0 hfz12_1 hfz12_2
   try clear hfz13_0 hfz13_1 hfz13_2
   try clear hfz15_0 hfz15_1 hfz15_2
   try clear hfz16_0 hfz16_1 hfz16_2
   obtain ⟨kq, x60_6, rfl, HA, HJ6, BK530, BK531, HB⟩ := hcut
   cases kq with
   | zero => exact absurd HA.out (by simp [laws_FnTreeDistances.j0])
   | succ kj6 =>
    have H := HA.out
    clear HA
    simp only [laws_FnTreeDistances.j0] at H
    by_cases c19 : x60_6 = true
    ·subst c19
     have H1 : (some false) = some r := by rw [if_pos rfl] at H; exact H
     clear H
     have H := H1
     clear H1
     exact absurd ((Option.some.inj H).trans hr.out) (by simp)
    ·replace c19 := Bool.eq_false_iff.mpr c19
     subst c19
     have H1 : ((impl_JoinOf.f kj6 t523 t524 t525 t526 t527 t528 t529).bind fun bt536 => ((spec_JoinOf.f kj6 t523 t524 t525 t526 t527 t528 t529).bind fun bt541 => (if bt536.2.2.2 = bt541.2.2.2 then (laws_FnTreeDistances.j1 kj6 t523 t532 t533 bt536.2.2.2 (!(bt536.1 == bt541.1) || (!(bt536.2.1 == bt541.2.1) || (!(bt536.2.2.1 == bt541.2.2.1)))) t524 t525 t526 t527 t528 t529 bt536.1 bt536.2.1 bt536.2.2.1) else (laws_FnTreeDistances.j1 kj6 t523 t532 t533 bt536.2.2.2 true t524 t525 t526 t527 t528 t529 bt536.1 bt536.2.1 bt536.2.2.1)))) = some r := by rw [if_neg (show ¬ (false = true) by decide)] at H; exact H
     clear H
     have H := H1
     clear H1
     replace H := Option.bind_eq_some_iff.mp H
     obtain ⟨⟨t536, t537, t538, t539⟩, A200, H⟩ := H
     replace H : ((spec_JoinOf.f kj6 t523 t524 t525 t526 t527 t528 t529).bind fun bt541 => (if t539 = bt541.2.2.2 then (laws_FnTreeDistances.j1 kj6 t523 t532 t533 t539 (!(t536 == bt541.1) || (!(t537 == bt541.2.1) || (!(t538 == bt541.2.2.1)))) t524 t525 t526 t527 t528 t529 t536 t537 t538) else (laws_FnTreeDistances.j1 kj6 t523 t532 t533 t539 true t524 t525 t526 t527 t528 t529 t536 t537 t538))) = some r := H
     have A20 := Aside0.mk A200
     clear A200
     replace H := Option.bind_eq_some_iff.mp H
     obtain ⟨⟨t541, t542, t543, t544⟩, A210, H⟩ := H
     replace H : (if t539 = t544 then (laws_FnTreeDistances.j1 kj6 t523 t532 t533 t539 (!(t536 == t541) || (!(t537 == t542) || (!(t538 == t543)))) t524 t525 t526 t527 t528 t529 t536 t537 t538) else (laws_FnTreeDistances.j1 kj6 t523 t532 t533 t539 true t524 t525 t526 t527 t528 t529 t536 t537 t538)) = some r := H
     have A21 := Aside0.mk A210
     clear A210
     have HC22 := Aside0.mk H
     clear H
     have hnb23 := NB530_531.out
     have hnc23 := NB531_530.out
     have hcz24_0 : wc.cell? ⟨gb530, 0, none⟩ = some (.int .i64 t524) := (blk_cell BK530.out 0).trans rfl
     have hcz24_1 : wc.cell? ⟨gb530, 1, none⟩ = some (.int .i64 t525) := (blk_cell BK530.out 1).trans rfl
     have hcz24_2 : wc.cell? ⟨gb530, 2, none⟩ = some (.int .i64 t526) := (blk_cell BK530.out 2).trans rfl
     have hfz24_0 := blk_frozen BK530.out 0
     have hfz24_1 := blk_frozen BK530.out 1
     have hfz24_2 := blk_frozen BK530.out 2
     have hcz25_0 : wc.cell? ⟨gb531, 0, none⟩ = some (.int .i64 t527) := (blk_cell BK531.out 0).trans rfl
     have hcz25_1 : wc.cell? ⟨gb531, 1, none⟩ = some (.int .i64 t528) := (blk_cell BK531.out 1).trans rfl
     have hcz25_2 : wc.cell? ⟨gb531, 2, none⟩ = some (.int .i64 t529) := (blk_cell BK531.out 2).trans rfl
     have hfz25_0 := blk_frozen BK531.out 0
     have hfz25_1 := blk_frozen BK531.out 1
     have hfz25_2 := blk_frozen BK531.out 2
     go_upto_region 10 with (first | ((with_reducible refine gate_callee (f := 47) rfl ?_); refine g1 (some 65) Try.func47 #[.int .i64 t523, .agg #[.int .i64 t524, .int .i64 t525, .int .i64 t526], .agg #[.int .i64 t527, .int .i64 t528, .int .i64 t529]] ?_; (with_reducible refine (impl_JoinOf.calls kj6 t523 t524 t525 t526 t527 t528 t529 t536 t537 t538 t539 _ A20.out).mono ?_); rintro e w26 ⟨rfl, hb⟩; refine ⟨_, rfl, ?_⟩; replace BK530 := bb BK530 hb; replace BK531 := bb BK531 hb; replace HB := bs hb; (try clear hb); (try clear hb2); (try clear hk); (try clear hi)) | ((with_reducible refine gate_dst (N := 10) rfl ?_); (try (refine gate_guard (by rfl) ?_; dsimp only)); refine bx (N := 10) (cs := #[.int .i64 0, .int .i64 0, .int .i64 0]) (t := 27) ?_; intro gb540 hg w27 hbox hb; have BK540 := Aside0.mk (hbox); have GW540 := sg hg; have GE540 := sg hg; have NB530_540 := nl hg BK530; have NB540_530 := ng hg BK530; have NB531_540 := nl hg BK531; have NB540_531 := ng hg BK531; replace BK530 := bb BK530 hb; replace BK531 := bb BK531 hb; replace HB := bs hb; clear hb hbox hg; have hnb28 := NB540_530.out; have hnc28 := NB530_540.out; have hnb29 := NB540_531.out; have hnc29 := NB531_540.out; obtain ⟨hcz30_0, hcz30_1, hcz30_2, hfz30_0, hfz30_1, hfz30_2⟩ := c3 BK540; obtain ⟨hcz31_0, hcz31_1, hcz31_2, hfz31_0, hfz31_1, hfz31_2⟩ := c3 BK530; obtain ⟨hcz32_0, hcz32_1, hcz32_2, hfz32_0, hfz32_1, hfz32_2⟩ := c3 BK531) | ((with_reducible refine gate_callee (f := 48) rfl ?_); refine g1 (some 72) Try.func48 #[.int .i64 t523, .agg #[.int .i64 t524, .int .i64 t525, .int .i64 t526], .agg #[.int .i64 t527, .int .i64 t528, .int .i64 t529]] ?_; (with_reducible refine (spec_JoinOf.calls kj6 t523 t524 t525 t526 t527 t528 t529 t541 t542 t543 t544 _ A21.out).mono ?_); rintro e w33 ⟨rfl, hb⟩; refine ⟨_, rfl, ?_⟩; replace BK530 := Aside0.mk (blk_below (g := gb530) (o := .cells #[.int .i64 t524, .int .i64 t525, .int .i64 t526] 27 (0, 0)) (by (with_reducible repeat (first | apply bn | apply bd | apply ba)); refine blk_far ?_ NB530_540.out _; (with_reducible repeat (first | apply bn | apply bd | apply ba)); refine blk_far ?_ NB530_540.out _; (with_reducible repeat (first | apply bn | apply bd | apply ba)); refine blk_far ?_ NB530_540.out _; (with_reducible repeat (first | apply bn | apply bd | apply ba)); exact BK530.out) hb); replace BK531 := Aside0.mk (blk_below (g := gb531) (o := .cells #[.int .i64 t527, .int .i64 t528, .int .i64 t529] 27 (0, 0)) (by (with_reducible repeat (first | apply bn | apply bd | apply ba)); refine blk_far ?_ NB531_540.out _; (with_reducible repeat (first | apply bn | apply bd | apply ba)); refine blk_far ?_ NB531_540.out _; (with_reducible repeat (first | apply bn | apply bd | apply ba)); refine blk_far ?_ NB531_540.out _; (with_reducible repeat (first | apply bn | apply bd | apply ba)); exact BK531.out) hb); replace BK540 := Aside0.mk (blk_below (g := gb540) (o := .cells #[.int .i64 t536, .int .i64 t537, .int .i64 t538] 27 (0, 0)) (by (with_reducible repeat (first | apply bn | apply bd | apply ba)); refine blk_put (cs := #[.int .i64 t536, .int .i64 t537, .int .i64 0]) ?_ 2 _ rfl; (with_reducible repeat (first | apply bn | apply bd | apply ba)); refine blk_put (cs := #[.int .i64 t536, .int .i64 0, .int .i64 0]) ?_ 1 _ rfl; (with_reducible repeat (first | apply bn | apply bd | apply ba)); refine blk_put (cs := #[.int .i64 0, .int .i64 0, .int .i64 0]) ?_ 0 _ rfl; (with_reducible repeat (first | apply bn | apply bd | apply ba)); exact BK540.out) hb); replace HB := bs hb; (try clear hb); (try clear hb2); (try clear hk); (try clear hi)) | ((with_reducible refine gate_dst (N := 12) rfl ?_); (try (refine gate_guard (by rfl) ?_; dsimp only)); refine bx (N := 12) (cs := #[.int .i64 0, .int .i64 0, .int .i64 0]) (t := 27) ?_; intro gb545 hg w34 hbox hb; have BK545 := Aside0.mk (hbox); have GW545 := sg hg; have GE545 := sg hg; have NB530_545 := nl hg BK530; have NB545_530 := ng hg BK530; have NB531_545 := nl hg BK531; have NB545_531 := ng hg BK531; have NB540_545 := nl hg BK540; have NB545_540 := ng hg BK540; replace BK530 := bb BK530 hb; replace BK531 := bb BK531 hb; replace BK540 := bb BK540 hb; replace HB := bs hb; clear hb hbox hg; have hnb35 := NB545_530.out; have hnc35 := NB530_545.out; have hnb36 := NB545_531.out; have hnc36 := NB531_545.out; have hnb37 := NB545_540.out; have hnc37 := NB540_545.out; obtain ⟨hcz38_0, hcz38_1, hcz38_2, hfz38_0, hfz38_1, hfz38_2⟩ := c3 BK545))
     (try simp only [Act.put, List.setIfInBounds_toArray, List.set_cons_zero, List.set_cons_succ])
     go_cut [82] (fun v82 wc => ∃ (kq : Nat) (x82_21 : Bool), v82 = .bool x82_21 ∧ Aside0 (laws_FnTreeDistances.j1 kq t523 t532 t533 t539 x82_21 t524 t525 t526 t527 t528 t529 t536 t537 t538 = some r) ∧ Aside0 (kq ≤ kj6) ∧ Aside0 (wc.heap[gb530]? = some (.cells #[.int .i64 t524, .int .i64 t525, .int .i64 t526] 27 (0, 0))) ∧ Aside0 (wc.heap[gb531]? = some (.cells #[.int .i64 t527, .int .i64 t528, .int .i64 t529] 27 (0, 0))) ∧ Aside0 (wc.heap[gb540]? = some (.cells #[.int .i64 t536, .int .i64 t537, .int .i64 t538] 27 (0, 0))) ∧ Aside0 (wc.heap[gb545]? = some (.cells #[.int .i64 t541, .int .i64 t542, .int .i64 t543] 27 (0, 0))) ∧ Aside0 (Below w.heap.size w wc))
     case first =>
      as_aux_lemma =>
      have H := HC22.out
      clear HC22
      by_cases c39 : t539 = t544
      ·rw [if_pos c39] at H
       have c39b0 : (t539 == t544) = true := beq_iff_eq.mpr c39
       have c39b1 : (t539 != t544) = false := bne_eq_false_iff_eq.mpr c39
       clear c39
       (first | rw [c39b0] | (simp only [i64_w, i32_w]; rw [c39b0]) | skip)
       have H' := Aside0.mk H
       clear H
       have hnb40 := NB540_530.out
       have hnc40 := NB530_540.out
       have hnb41 := NB540_531.out
       have hnc41 := NB531_540.out
       have hnb42 := NB540_545.out
       have hnc42 := NB545_540.out
       have hcz43_0 : w34.cell? ⟨gb540, 0, none⟩ = some (.int .i64 t536) := (blk_cell BK540.out 0).trans rfl
       have hcz43_1 : w34.cell? ⟨gb540, 1, none⟩ = some (.int .i64 t537) := (blk_cell BK540.out 1).trans rfl
       have hcz43_2 : w34.cell? ⟨gb540, 2, none⟩ = some (.int .i64 t538) := (blk_cell BK540.out 2).trans rfl
       have hfz43_0 := blk_frozen BK540.out 0
       have hfz43_1 := blk_frozen BK540.out 1
       have hfz43_2 := blk_frozen BK540.out 2
       have hnb44 := NB545_530.out
       have hnc44 := NB530_545.out
       have hnb45 := NB545_531.out
       have hnc45 := NB531_545.out
       have hcz46_0 : w34.cell? ⟨gb545, 0, none⟩ = some (.int .i64 0) := (blk_cell BK545.out 0).trans rfl
       have hcz46_1 : w34.cell? ⟨gb545, 1, none⟩ = some (.int .i64 0) := (blk_cell BK545.out 1).trans rfl
       have hcz46_2 : w34.cell? ⟨gb545, 2, none⟩ = some (.int .i64 0) := (blk_cell BK545.out 2).trans rfl
       have hfz46_0 := blk_frozen BK545.out 0
       have hfz46_1 := blk_frozen BK545.out 1
       have hfz46_2 := blk_frozen BK545.out 2
       go_wp2
       go_meet
       case rel => exact ⟨_, ((!(t536 == t541) || (!(t537 == t542) || (!(t538 == t543))))), (by first | rfl | (simp; done) | (simp [*]; done)), H', ⟨by have := HJ6.out; first | omega | exact Nat.le_refl _⟩, ⟨by (with_reducible repeat (first | apply bn | apply bd | apply ba)); refine blk_far ?_ NB530_545.out _; (with_reducible repeat (first | apply bn | apply bd | apply ba)); refine blk_far ?_ NB530_545.out _; (with_reducible repeat (first | apply bn | apply bd | apply ba)); refine blk_far ?_ NB530_545.out _; (with_reducible repeat (first | apply bn | apply bd | apply ba)); exact BK530.out⟩, ⟨by (with_reducible repeat (first | apply bn | apply bd | apply ba)); refine blk_far ?_ NB531_545.out _; (with_reducible repeat (first | apply bn | apply bd | apply ba)); refine blk_far ?_ NB531_545.out _; (with_reducible repeat (first | apply bn | apply bd | apply ba)); refine blk_far ?_ NB531_545.out _; (with_reducible repeat (first | apply bn | apply bd | apply ba)); exact BK531.out⟩, ⟨by (with_reducible repeat (first | apply bn | apply bd | apply ba)); refine blk_far ?_ NB540_545.out _; (with_reducible repeat (first | apply bn | apply bd | apply ba)); refine blk_far ?_ NB540_545.out _; (with_reducible repeat (first | apply bn | apply bd | apply ba)); refine blk_far ?_ NB540_545.out _; (with_reducible repeat (first | apply bn | apply bd | apply ba)); exact BK540.out⟩, ⟨by (with_reducible repeat (first | apply bn | apply bd | apply ba)); refine blk_put (cs := #[.int .i64 t541, .int .i64 t542, .int .i64 0]) ?_ 2 _ rfl; (with_reducible repeat (first | apply bn | apply bd | apply ba)); refine blk_put (cs := #[.int .i64 t541, .int .i64 0, .int .i64 0]) ?_ 1 _ rfl; (with_reducible repeat (first | apply bn | apply bd | apply ba)); refine blk_put (cs := #[.int .i64 0, .int .i64 0, .int .i64 0]) ?_ 0 _ rfl; (with_reducible repeat (first | apply bn | apply bd | apply ba)); exact BK545.out⟩, ⟨by repeat (first | (with_reducible first | exact HB.out | apply below_alloc | apply pw_below_drewN | apply below_drew1 | refine below_set ?_ GE530.out | refine below_set ?_ GE531.out | refine below_set ?_ GE540.out | refine below_set ?_ GE545.out) | exact HB.out)⟩⟩
      ·rw [if_neg c39] at H
       have c39b0 : (t539 == t544) = false := beq_eq_false_iff_ne.mpr c39
       have c39b1 : (t539 != t544) = true := bne_iff_ne.mpr c39
       (first | rw [c39b0] | (simp only [i64_w, i32_w]; rw [c39b0]) | skip)
       have H' := Aside0.mk H
       clear H
       go_wp2
       go_meet
       case rel => exact ⟨_, (true), (by first | rfl | (simp; done) | (simp [*]; done)), H', ⟨by have := HJ6.out; first | omega | exact Nat.le_refl _⟩, ⟨by (with_reducible repeat (first | apply bn | apply bd | apply ba)); refine blk_far ?_ NB530_545.out _; (with_reducible repeat (first | apply bn | apply bd | apply ba)); refine blk_far ?_ NB530_545.out _; (with_reducible repeat (first | apply bn | apply bd | apply ba)); refine blk_far ?_ NB530_545.out _; (with_reducible repeat (first | apply bn | apply bd | apply ba)); exact BK530.out⟩, ⟨by (with_reducible repeat (first | apply bn | apply bd | apply ba)); refine blk_far ?_ NB531_545.out _; (with_reducible repeat (first | apply bn | apply bd | apply ba)); refine blk_far ?_ NB531_545.out _; (with_reducible repeat (first | apply bn | apply bd | apply ba)); refine blk_far ?_ NB531_545.out _; (with_reducible repeat (first | apply bn | apply bd | apply ba)); exact BK531.out⟩, ⟨by (with_reducible repeat (first | apply bn | apply bd | apply ba)); refine blk_far ?_ NB540_545.out _; (with_reducible repeat (first | apply bn | apply bd | apply ba)); refine blk_far ?_ NB540_545.out _; (with_reducible repeat (first | apply bn | apply bd | apply ba)); refine blk_far ?_ NB540_545.out _; (with_reducible repeat (first | apply bn | apply bd | apply ba)); exact BK540.out⟩, ⟨by (with_reducible repeat (first | apply bn | apply bd | apply ba)); refine blk_put (cs := #[.int .i64 t541, .int .i64 t542, .int .i64 0]) ?_ 2 _ rfl; (with_reducible repeat (first | apply bn | apply bd | apply ba)); refine blk_put (cs := #[.int .i64 t541, .int .i64 0, .int .i64 0]) ?_ 1 _ rfl; (with_reducible repeat (first | apply bn | apply bd | apply ba)); refine blk_put (cs := #[.int .i64 0, .int .i64 0, .int .i64 0]) ?_ 0 _ rfl; (with_reducible repeat (first | apply bn | apply bd | apply ba)); exact BK545.out⟩, ⟨by repeat (first | (with_reducible first | exact HB.out | apply below_alloc | apply pw_below_drewN | apply below_drew1 | refine below_set ?_ GE530.out | refine below_set ?_ GE531.out | refine below_set ?_ GE540.out | refine below_set ?_ GE545.out) | exact HB.out)⟩⟩
     case rest =>
      as_aux_lemma =>
      clear HC22
      try clear c1
      try clear c2
      try clear p2
      try clear c3
      try clear c4
      try clear c8
      try clear c11
      try clear c18
      try clear c18b0
      try clear c18b1
      try clear c19
      try clear c21
      try clear c23
      try clear c28
      try clear c29
      try clear c35
      try clear c36
      try clear c37
      try clear c39
      try clear c39b0
      try clear c39b1
      try clear c40
      try clear c41
      try clear c42
      try clear c44
      try clear c45
      try clear c46
      try clear hcz12_0 hcz12_1 hcz12_2
      try clear hcz13_0 hcz13_1 hcz13_2
      try clear hcz15_0 hcz15_1 hcz15_2
      try clear hcz16_0 hcz16_1 hcz16_2
      try clear hcz24_0 hcz24_1 hcz24_2
      try clear hcz25_0 hcz25_1 hcz25_2
      try clear hcz30_0 hcz30_1 hcz30_2
      try clear hcz31_0 hcz31_1 hcz31_2
      try clear hcz32_0 hcz32_1 hcz32_2
      try clear hcz38_0 hcz38_1 hcz38_2
      try clear hcz43_0 hcz43_1 hcz43_2
      try clear hcz46_0 hcz46_1 hcz46_2
      try clear hfz12_0 hfz12_1 hfz12_2
      try clear hfz13_0 hfz13_1 hfz13_2
      try clear hfz15_0 hfz15_1 hfz15_2
      try clear hfz16_0 hfz16_1 hfz16_2
      try clear hfz24_0 hfz24_1 hfz24_2
      try clear hfz25_0 hfz25_1 hfz25_2
      try clear hfz30_0 hfz30_1 hfz30_2
      try clear hfz31_0 hfz31_1 hfz31_2
      try clear hfz32_0 hfz32_1 hfz32_2
      try clear hfz38_0 hfz38_1 hfz38_2
      try clear hfz43_0 hfz43_1 hfz43_2
      try clear hfz46_0 hfz46_1 hfz46_2
      try clear p2
      obtain ⟨kq, x82_21, rfl, HA, HJ21, BK530, BK531, BK540, BK545, HB⟩ := hcut
      cases kq with
      | zero => exact absurd HA.out (by simp [laws_FnTreeDistances.j1])
      | succ kj21 =>
       have H := HA.out
       clear HA
       simp only [laws_FnTreeDistances.j1] at H
       by_cases c47 : x82_21 = true
       ·subst c47
        have H1 : (some false) = some r := by rw [if_pos rfl] at H; exact H
        clear H
        have H := H1
        clear H1
        exact absurd ((Option.some.inj H).trans hr.out) (by simp)
       ·replace c47 := Bool.eq_false_iff.mpr c47
        subst c47
        have H1 : ((impl_GeodesicOf.f kj21 t523 t524 t525 t526 t527 t528 t529).bind fun bt546 => ((spec_GeodesicOf.f kj21 t523 t524 t525 t526 t527 t528 t529).bind fun bt550 => (if bt546.2 = bt550.2 then ((laws_balls9.f kj21 bt546.1 bt550.1).bind fun t554 => (laws_FnTreeDistances.j2 kj21 t523 t532 t533 t539 bt546.1 bt546.2 (!t554) t524 t525 t526 t527 t528 t529 t536 t537 t538)) else (laws_FnTreeDistances.j2 kj21 t523 t532 t533 t539 bt546.1 bt546.2 true t524 t525 t526 t527 t528 t529 t536 t537 t538)))) = some r := by rw [if_neg (show ¬ (false = true) by decide)] at H; exact H
        clear H
        have H := H1
        clear H1
        replace H := Option.bind_eq_some_iff.mp H
        obtain ⟨⟨t546, t549⟩, A480, H⟩ := H
        replace H : ((spec_GeodesicOf.f kj21 t523 t524 t525 t526 t527 t528 t529).bind fun bt550 => (if t549 = bt550.2 then ((laws_balls9.f kj21 t546 bt550.1).bind fun t554 => (laws_FnTreeDistances.j2 kj21 t523 t532 t533 t539 t546 t549 (!t554) t524 t525 t526 t527 t528 t529 t536 t537 t538)) else (laws_FnTreeDistances.j2 kj21 t523 t532 t533 t539 t546 t549 true t524 t525 t526 t527 t528 t529 t536 t537 t538))) = some r := H
        have A48 := Aside0.mk A480
        clear A480
        replace H := Option.bind_eq_some_iff.mp H
        obtain ⟨⟨t550, t553⟩, A490, H⟩ := H
        replace H : (if t549 = t553 then ((laws_balls9.f kj21 t546 t550).bind fun t554 => (laws_FnTreeDistances.j2 kj21 t523 t532 t533 t539 t546 t549 (!t554) t524 t525 t526 t527 t528 t529 t536 t537 t538)) else (laws_FnTreeDistances.j2 kj21 t523 t532 t533 t539 t546 t549 true t524 t525 t526 t527 t528 t529 t536 t537 t538)) = some r := H
        have A49 := Aside0.mk A490
        clear A490
        have HC50 := Aside0.mk H
        clear H
        have hnb51 := NB530_531.out
        have hnc51 := NB531_530.out
        have hnb52 := NB530_540.out
        have hnc52 := NB540_530.out
        have hnb53 := NB530_545.out
        have hnc53 := NB545_530.out
        have hcz54_0 : wc.cell? ⟨gb530, 0, none⟩ = some (.int .i64 t524) := (blk_cell BK530.out 0).trans rfl
        have hcz54_1 : wc.cell? ⟨gb530, 1, none⟩ = some (.int .i64 t525) := (blk_cell BK530.out 1).trans rfl
        have hcz54_2 : wc.cell? ⟨gb530, 2, none⟩ = some (.int .i64 t526) := (blk_cell BK530.out 2).trans rfl
        have hfz54_0 := blk_frozen BK530.out 0
        have hfz54_1 := blk_frozen BK530.out 1
        have hfz54_2 := blk_frozen BK530.out 2
        have hnb55 := NB531_540.out
        have hnc55 := NB540_531.out
        have hnb56 := NB531_545.out
        have hnc56 := NB545_531.out
        have hcz57_0 : wc.cell? ⟨gb531, 0, none⟩ = some (.int .i64 t527) := (blk_cell BK531.out 0).trans rfl
        have hcz57_1 : wc.cell? ⟨gb531, 1, none⟩ = some (.int .i64 t528) := (blk_cell BK531.out 1).trans rfl
        have hcz57_2 : wc.cell? ⟨gb531, 2, none⟩ = some (.int .i64 t529) := (blk_cell BK531.out 2).trans rfl
        have hfz57_0 := blk_frozen BK531.out 0
        have hfz57_1 := blk_frozen BK531.out 1
        have hfz57_2 := blk_frozen BK531.out 2
        go_upto_region 14 with (first | ((with_reducible refine gate_callee (f := 13) rfl ?_); refine g1 (some 87) Try.func13 #[.int .i64 t523, .agg #[.int .i64 t524, .int .i64 t525, .int .i64 t526], .agg #[.int .i64 t527, .int .i64 t528, .int .i64 t529]] ?_; (with_reducible refine (impl_GeodesicOf.calls kj21 t523 t524 t525 t526 t527 t528 t529 t546 t549 _ A48.out).mono ?_); rintro e w58 ⟨v547, rfl, ho0, hb⟩; refine ⟨_, rfl, ?_⟩; have HO548 := Aside0.mk (Kd.R_lower (Kd.R_newB (Kd.R_newB (Kd.R_newB (Kd.R_newB ho0 (g := gb530) (o := .cells #[.int .i64 t524, .int .i64 t525, .int .i64 t526] 27 (0, 0)) (be BK530)) (g := gb531) (o := .cells #[.int .i64 t527, .int .i64 t528, .int .i64 t529] 27 (0, 0)) (be BK531)) (g := gb540) (o := .cells #[.int .i64 t536, .int .i64 t537, .int .i64 t538] 27 (0, 0)) (be BK540)) (g := gb545) (o := .cells #[.int .i64 t541, .int .i64 t542, .int .i64 t543] 27 (0, 0)) (be BK545)) (below_size (by repeat (first | (with_reducible first | exact HB.out | apply below_alloc | apply pw_below_drewN | apply below_drew1 | refine below_set ?_ GE530.out | refine below_set ?_ GE531.out | refine below_set ?_ GE540.out | refine below_set ?_ GE545.out) | exact HB.out)))); replace BK530 := bb BK530 hb; replace BK531 := bb BK531 hb; replace BK540 := bb BK540 hb; replace BK545 := bb BK545 hb; replace HB := bs hb; (try clear hb); (try clear hb2); (try clear hk); (try clear hi); (try clear ho0); obtain ⟨hcz59_0, hcz59_1, hcz59_2, hfz59_0, hfz59_1, hfz59_2⟩ := c3 BK530; obtain ⟨hcz60_0, hcz60_1, hcz60_2, hfz60_0, hfz60_1, hfz60_2⟩ := c3 BK531) | ((with_reducible refine gate_callee (f := 11) rfl ?_); refine g1 (some 94) Try.func11 #[.int .i64 t523, .agg #[.int .i64 t524, .int .i64 t525, .int .i64 t526], .agg #[.int .i64 t527, .int .i64 t528, .int .i64 t529]] ?_; (with_reducible refine (spec_GeodesicOf.calls kj21 t523 t524 t525 t526 t527 t528 t529 t550 t553 _ A49.out).mono ?_); rintro e w61 ⟨v551, rfl, ho0, hb⟩; refine ⟨_, rfl, ?_⟩; have HO552 := Aside0.mk (Kd.R_lower (Kd.R_newB (Kd.R_newB (Kd.R_newB (Kd.R_newB (Kd.R_new' ho0 (Kd.R_lt (by (with_reducible repeat (first | apply Kd.R_alloc | apply Kd.R_drewN | apply Kd.R_drew)); exact HO548.out))) (g := gb530) (o := .cells #[.int .i64 t524, .int .i64 t525, .int .i64 t526] 27 (0, 0)) (be BK530)) (g := gb531) (o := .cells #[.int .i64 t527, .int .i64 t528, .int .i64 t529] 27 (0, 0)) (be BK531)) (g := gb540) (o := .cells #[.int .i64 t536, .int .i64 t537, .int .i64 t538] 27 (0, 0)) (be BK540)) (g := gb545) (o := .cells #[.int .i64 t541, .int .i64 t542, .int .i64 t543] 27 (0, 0)) (be BK545)) (below_size (by repeat (first | (with_reducible first | exact HB.out | apply below_alloc | apply pw_below_drewN | apply below_drew1 | refine below_set ?_ GE530.out | refine below_set ?_ GE531.out | refine below_set ?_ GE540.out | refine below_set ?_ GE545.out) | exact HB.out)))); replace HO548 := Aside0.mk (Kd.R_elder' (by (with_reducible repeat (first | apply Kd.R_alloc | apply Kd.R_drewN | apply Kd.R_drew)); exact HO548.out) (Kd.R_base ho0) hb); replace BK530 := bb BK530 hb; replace BK531 := bb BK531 hb; replace BK540 := bb BK540 hb; replace BK545 := bb BK545 hb; replace HB := bs hb; (try clear hb); (try clear hb2); (try clear hk); (try clear hi); (try clear ho0)))
        (try simp only [Act.put, List.setIfInBounds_toArray, List.set_cons_zero, List.set_cons_succ])
        go_cut [105] (fun v105 wc => ∃ (kq : Nat) (x105_49 : Bool), v105 = .bool x105_49 ∧ Aside0 (laws_FnTreeDistances.j2 kq t523 t532 t533 t539 t546 t549 x105_49 t524 t525 t526 t527 t528 t529 t536 t537 t538 = some r) ∧ Aside0 (kq ≤ kj21) ∧ Aside0 (Kd.R k27 27 wc w.heap.size (fun k_ => k_ ≠ gb530 ∧ k_ ≠ gb531 ∧ k_ ≠ gb540 ∧ k_ ≠ gb545) v547 t546) ∧ Aside0 (wc.heap[gb530]? = some (.cells #[.int .i64 t524, .int .i64 t525, .int .i64 t526] 27 (0, 0))) ∧ Aside0 (wc.heap[gb531]? = some (.cells #[.int .i64 t527, .int .i64 t528, .int .i64 t529] 27 (0, 0))) ∧ Aside0 (wc.heap[gb540]? = some (.cells #[.int .i64 t536, .int .i64 t537, .int .i64 t538] 27 (0, 0))) ∧ Aside0 (wc.heap[gb545]? = some (.cells #[.int .i64 t541, .int .i64 t542, .int .i64 t543] 27 (0, 0))) ∧ Aside0 (Below w.heap.size w wc))
        case first =>
         as_aux_lemma =>
         have H := HC50.out
         clear HC50
         by_cases c62 : t549 = t553
         ·rw [if_pos c62] at H
          have c62b0 : (t549 == t553) = true := beq_iff_eq.mpr c62
          have c62b1 : (t549 != t553) = false := bne_eq_false_iff_eq.mpr c62
          clear c62
          (first | rw [c62b0] | (simp only [i64_w, i32_w]; rw [c62b0]) | skip)
          replace H := Option.bind_eq_some_iff.mp H
          obtain ⟨t554, A630, H⟩ := H
          replace H : (laws_FnTreeDistances.j2 kj21 t523 t532 t533 t539 t546 t549 (!t554) t524 t525 t526 t527 t528 t529 t536 t537 t538) = some r := H
          have A63 := Aside0.mk A630
          clear A630
          have H' := Aside0.mk H
          clear H
          obtain ⟨Ao64, co64, eo64⟩ := Kd.R_slice HO548.out
          subst eo64
          obtain ⟨Ao65, co65, eo65⟩ := Kd.R_slice HO552.out
          subst eo65
          go_wp2_with (first | (go_at_call 36; (with_reducible refine (laws_balls9.calls kj21 _ _ t546 _ _ t550 t554 _ ?side1 ?side2 ?side3 ?side4 A63.out).mono ?_); (case side1 => repeat (first | exact (Kd.R_reads' HO548.out).2.2 | (with_reducible refine Kd.C_alloc ?_ _) | (with_reducible refine Kd.C_drewN ?_ _) | (with_reducible refine Kd.C_drew ?_))); (case side2 => exact (Kd.R_reads' HO548.out).2.1); (case side3 => repeat (first | exact (Kd.R_reads' HO552.out).2.2 | (with_reducible refine Kd.C_alloc ?_ _) | (with_reducible refine Kd.C_drewN ?_ _) | (with_reducible refine Kd.C_drew ?_))); (case side4 => exact (Kd.R_reads' HO552.out).2.1); rintro e w' ⟨rfl, ⟨nd, rfl⟩⟩))
          go_meet
          case rel => exact ⟨_, (!t554), (by first | rfl | (simp; done) | (simp [*]; done)), H', ⟨by have := HJ6.out; have := HJ21.out; first | omega | exact Nat.le_refl _⟩, ⟨by (with_reducible repeat (first | apply Kd.R_alloc | apply Kd.R_drewN | apply Kd.R_drew)); exact Kd.R_mono HO548.out (fun _ hk => ⟨hk.1.1.1.1.2, ⟨hk.1.1.1.2, ⟨hk.1.1.2, hk.1.2⟩⟩⟩)⟩, ⟨be BK530⟩, ⟨be BK531⟩, ⟨be BK540⟩, ⟨be BK545⟩, ⟨by repeat (first | (with_reducible first | exact HB.out | apply below_alloc | apply pw_below_drewN | apply below_drew1 | refine below_set ?_ GE530.out | refine below_set ?_ GE531.out | refine below_set ?_ GE540.out | refine below_set ?_ GE545.out) | exact HB.out)⟩⟩
         ·rw [if_neg c62] at H
          have c62b0 : (t549 == t553) = false := beq_eq_false_iff_ne.mpr c62
          have c62b1 : (t549 != t553) = true := bne_iff_ne.mpr c62
          (first | rw [c62b0] | (simp only [i64_w, i32_w]; rw [c62b0]) | skip)
          have H' := Aside0.mk H
          clear H
          go_wp2
          go_meet
          case rel => exact ⟨_, (true), (by first | rfl | (simp; done) | (simp [*]; done)), H', ⟨by have := HJ6.out; have := HJ21.out; first | omega | exact Nat.le_refl _⟩, ⟨by (with_reducible repeat (first | apply Kd.R_alloc | apply Kd.R_drewN | apply Kd.R_drew)); exact Kd.R_mono HO548.out (fun _ hk => ⟨hk.1.1.1.1.2, ⟨hk.1.1.1.2, ⟨hk.1.1.2, hk.1.2⟩⟩⟩)⟩, ⟨be BK530⟩, ⟨be BK531⟩, ⟨be BK540⟩, ⟨be BK545⟩, ⟨by repeat (first | (with_reducible first | exact HB.out | apply below_alloc | apply pw_below_drewN | apply below_drew1 | refine below_set ?_ GE530.out | refine below_set ?_ GE531.out | refine below_set ?_ GE540.out | refine below_set ?_ GE545.out) | exact HB.out)⟩⟩
        case rest =>
         as_aux_lemma =>
         clear HC50
         try clear c1
         try clear c2
         try clear p2
         try clear c3
         try clear c4
         try clear c5
         try clear c6
         try clear c8
         try clear c11
         try clear c13
         try clear c18
         try clear c18b0
         try clear c18b1
         try clear c19
         try clear c21
         try clear c23
         try clear c28
         try clear c29
         try clear c35
         try clear c36
         try clear c37
         try clear c39
         try clear c39b0
         try clear c39b1
         try clear c40
         try clear c41
         try clear c42
         try clear c44
         try clear c45
         try clear c46
         try clear c47
         try clear c48
         try clear c51
         try clear c52
         try clear c53
         try clear c55
         try clear c56
         try clear c62
         try clear c62b0
         try clear c62b1
         try clear hcz12_0 hcz12_1 hcz12_2
         try clear hcz13_0 hcz13_1 hcz13_2
         try clear hcz15_0 hcz15_1 hcz15_2
         try clear hcz16_0 hcz16_1 hcz16_2
         try clear hcz24_0 hcz24_1 hcz24_2
         try clear hcz25_0 hcz25_1 hcz25_2
         try clear hcz30_0 hcz30_1 hcz30_2
         try clear hcz31_0 hcz31_1 hcz31_2
         try clear hcz32_0 hcz32_1 hcz32_2
         try clear hcz38_0 hcz38_1 hcz38_2
         try clear hcz43_0 hcz43_1 hcz43_2
         try clear hcz46_0 hcz46_1 hcz46_2
         try clear hcz54_0 hcz54_1 hcz54_2
         try clear hcz57_0 hcz57_1 hcz57_2
         try clear hcz59_0 hcz59_1 hcz59_2
         try clear hcz60_0 hcz60_1 hcz60_2
         try clear hfz12_0 hfz12_1 hfz12_2
         try clear hfz13_0 hfz13_1 hfz13_2
         try clear hfz15_0 hfz15_1 hfz15_2
         try clear hfz16_0 hfz16_1 hfz16_2
         try clear hfz24_0 hfz24_1 hfz24_2
         try clear hfz25_0 hfz25_1 hfz25_2
         try clear hfz30_0 hfz30_1 hfz30_2
         try clear hfz31_0 hfz31_1 hfz31_2
         try clear hfz32_0 hfz32_1 hfz32_2
         try clear hfz38_0 hfz38_1 hfz38_2
         try clear hfz43_0 hfz43_1 hfz43_2
         try clear hfz46_0 hfz46_1 hfz46_2
         try clear hfz54_0 hfz54_1 hfz54_2
         try clear hfz57_0 hfz57_1 hfz57_2
         try clear hfz59_0 hfz59_1 hfz59_2
         try clear hfz60_0 hfz60_1 hfz60_2
         try clear p2
         obtain ⟨kq, x105_49, rfl, HA, HJ49, HO_14, BK530, BK531, BK540, BK545, HB⟩ := hcut
         cases kq with
         | zero => exact absurd HA.out (by simp [laws_FnTreeDistances.j2])
         | succ kj49 =>
          have H := HA.out
          clear HA
          simp only [laws_FnTreeDistances.j2] at H
          by_cases c66 : x105_49 = true
          ·subst c66
           have H1 : (some false) = some r := by rw [if_pos rfl] at H; exact H
           clear H
           have H := H1
           clear H1
           exact absurd ((Option.some.inj H).trans hr.out) (by simp)
          ·replace c66 := Bool.eq_false_iff.mpr c66
           subst c66
           have H1 : ((impl_Contains.f kj49 t523 t524 t525 t526 t527 t528 t529).bind fun bt555 => ((spec_Contains.f kj49 t523 t524 t525 t526 t527 t528 t529).bind fun bt557 => (if bt555.2 = bt557.2 then (laws_FnTreeDistances.j3 kj49 t523 t532 t533 t539 t546 t549 bt555.1 bt555.2 (bt555.1 != bt557.1) t524 t525 t526 t527 t528 t529 t536 t537 t538) else (laws_FnTreeDistances.j3 kj49 t523 t532 t533 t539 t546 t549 bt555.1 bt555.2 true t524 t525 t526 t527 t528 t529 t536 t537 t538)))) = some r := by rw [if_neg (show ¬ (false = true) by decide)] at H; exact H
           clear H
           have H := H1
           clear H1
           replace H := Option.bind_eq_some_iff.mp H
           obtain ⟨⟨t555, t556⟩, A670, H⟩ := H
           replace H : ((spec_Contains.f kj49 t523 t524 t525 t526 t527 t528 t529).bind fun bt557 => (if t556 = bt557.2 then (laws_FnTreeDistances.j3 kj49 t523 t532 t533 t539 t546 t549 t555 t556 (t555 != bt557.1) t524 t525 t526 t527 t528 t529 t536 t537 t538) else (laws_FnTreeDistances.j3 kj49 t523 t532 t533 t539 t546 t549 t555 t556 true t524 t525 t526 t527 t528 t529 t536 t537 t538))) = some r := H
           have A67 := Aside0.mk A670
           clear A670
           replace H := Option.bind_eq_some_iff.mp H
           obtain ⟨⟨t557, t558⟩, A680, H⟩ := H
           replace H : (if t556 = t558 then (laws_FnTreeDistances.j3 kj49 t523 t532 t533 t539 t546 t549 t555 t556 (t555 != t557) t524 t525 t526 t527 t528 t529 t536 t537 t538) else (laws_FnTreeDistances.j3 kj49 t523 t532 t533 t539 t546 t549 t555 t556 true t524 t525 t526 t527 t528 t529 t536 t537 t538)) = some r := H
           have A68 := Aside0.mk A680
           clear A680
           have HC69 := Aside0.mk H
           clear H
           have hnb70 := NB530_531.out
           have hnc70 := NB531_530.out
           have hnb71 := NB530_540.out
           have hnc71 := NB540_530.out
           have hnb72 := NB530_545.out
           have hnc72 := NB545_530.out
           have hcz73_0 : wc.cell? ⟨gb530, 0, none⟩ = some (.int .i64 t524) := (blk_cell BK530.out 0).trans rfl
           have hcz73_1 : wc.cell? ⟨gb530, 1, none⟩ = some (.int .i64 t525) := (blk_cell BK530.out 1).trans rfl
           have hcz73_2 : wc.cell? ⟨gb530, 2, none⟩ = some (.int .i64 t526) := (blk_cell BK530.out 2).trans rfl
           have hfz73_0 := blk_frozen BK530.out 0
           have hfz73_1 := blk_frozen BK530.out 1
           have hfz73_2 := blk_frozen BK530.out 2
           have hnb74 := NB531_540.out
           have hnc74 := NB540_531.out
           have hnb75 := NB531_545.out
           have hnc75 := NB545_531.out
           have hcz76_0 : wc.cell? ⟨gb531, 0, none⟩ = some (.int .i64 t527) := (blk_cell BK531.out 0).trans rfl
           have hcz76_1 : wc.cell? ⟨gb531, 1, none⟩ = some (.int .i64 t528) := (blk_cell BK531.out 1).trans rfl
           have hcz76_2 : wc.cell? ⟨gb531, 2, none⟩ = some (.int .i64 t529) := (blk_cell BK531.out 2).trans rfl
           have hfz76_0 := blk_frozen BK531.out 0
           have hfz76_1 := blk_frozen BK531.out 1
           have hfz76_2 := blk_frozen BK531.out 2
           go_upto_region 18 with (first | ((with_reducible refine gate_callee (f := 49) rfl ?_); refine g1 (some 110) Try.func49 #[.int .i64 t523, .agg #[.int .i64 t524, .int .i64 t525, .int .i64 t526], .agg #[.int .i64 t527, .int .i64 t528, .int .i64 t529]] ?_; (with_reducible refine (impl_Contains.calls kj49 t523 t524 t525 t526 t527 t528 t529 t555 t556 _ A67.out).mono ?_); rintro e w77 ⟨rfl, hb⟩; refine ⟨_, rfl, ?_⟩; replace HO_14 := Aside0.mk (Kd.R_below (by (with_reducible repeat (first | apply Kd.R_alloc | apply Kd.R_drewN | apply Kd.R_drew)); exact HO_14.out) hb); replace BK530 := bb BK530 hb; replace BK531 := bb BK531 hb; replace BK540 := bb BK540 hb; replace BK545 := bb BK545 hb; replace HB := bs hb; (try clear hb); (try clear hb2); (try clear hk); (try clear hi); obtain ⟨hcz78_0, hcz78_1, hcz78_2, hfz78_0, hfz78_1, hfz78_2⟩ := c3 BK530; obtain ⟨hcz79_0, hcz79_1, hcz79_2, hfz79_0, hfz79_1, hfz79_2⟩ := c3 BK531) | ((with_reducible refine gate_callee (f := 50) rfl ?_); refine g1 (some 117) Try.func50 #[.int .i64 t523, .agg #[.int .i64 t524, .int .i64 t525, .int .i64 t526], .agg #[.int .i64 t527, .int .i64 t528, .int .i64 t529]] ?_; (with_reducible refine (spec_Contains.calls kj49 t523 t524 t525 t526 t527 t528 t529 t557 t558 _ A68.out).mono ?_); rintro e w80 ⟨rfl, hb⟩; refine ⟨_, rfl, ?_⟩; replace HO_14 := Aside0.mk (Kd.R_below (by (with_reducible repeat (first | apply Kd.R_alloc | apply Kd.R_drewN | apply Kd.R_drew)); exact HO_14.out) hb); replace BK530 := bb BK530 hb; replace BK531 := bb BK531 hb; replace BK540 := bb BK540 hb; replace BK545 := bb BK545 hb; replace HB := bs hb; (try clear hb); (try clear hb2); (try clear hk); (try clear hi)))
           (try simp only [Act.put, List.setIfInBounds_toArray, List.set_cons_zero, List.set_cons_succ])
           go_cut [127] (fun v127 wc => ∃ (kq : Nat) (x127_68 : Bool), v127 = .bool x127_68 ∧ Aside0 (laws_FnTreeDistances.j3 kq t523 t532 t533 t539 t546 t549 t555 t556 x127_68 t524 t525 t526 t527 t528 t529 t536 t537 t538 = some r) ∧ Aside0 (kq ≤ kj49) ∧ Aside0 (Kd.R k27 27 wc w.heap.size (fun k_ => k_ ≠ gb530 ∧ k_ ≠ gb531 ∧ k_ ≠ gb540 ∧ k_ ≠ gb545) v547 t546) ∧ Aside0 (wc.heap[gb530]? = some (.cells #[.int .i64 t524, .int .i64 t525, .int .i64 t526] 27 (0, 0))) ∧ Aside0 (wc.heap[gb531]? = some (.cells #[.int .i64 t527, .int .i64 t528, .int .i64 t529] 27 (0, 0))) ∧ Aside0 (wc.heap[gb540]? = some (.cells #[.int .i64 t536, .int .i64 t537, .int .i64 t538] 27 (0, 0))) ∧ Aside0 (wc.heap[gb545]? = some (.cells #[.int .i64 t541, .int .i64 t542, .int .i64 t543] 27 (0, 0))) ∧ Aside0 (Below w.heap.size w wc))
           case first =>
            as_aux_lemma =>
            have H := HC69.out
            clear HC69
            by_cases c81 : t556 = t558
            ·rw [if_pos c81] at H
             have c81b0 : (t556 == t558) = true := beq_iff_eq.mpr c81
             have c81b1 : (t556 != t558) = false := bne_eq_false_iff_eq.mpr c81
             clear c81
             (first | rw [c81b0] | (simp only [i64_w, i32_w]; rw [c81b0]) | skip)
             have H' := Aside0.mk H
             clear H
             go_wp2
             go_meet
             case rel => exact ⟨_, ((t555 != t557)), (by first | rfl | (simp; done) | (simp [*]; done)), H', ⟨by have := HJ6.out; have := HJ21.out; have := HJ49.out; first | omega | exact Nat.le_refl _⟩, ⟨by (with_reducible repeat (first | apply Kd.R_alloc | apply Kd.R_drewN | apply Kd.R_drew)); exact HO_14.out⟩, ⟨be BK530⟩, ⟨be BK531⟩, ⟨be BK540⟩, ⟨be BK545⟩, ⟨by repeat (first | (with_reducible first | exact HB.out | apply below_alloc | apply pw_below_drewN | apply below_drew1 | refine below_set ?_ GE530.out | refine below_set ?_ GE531.out | refine below_set ?_ GE540.out | refine below_set ?_ GE545.out) | exact HB.out)⟩⟩
            ·rw [if_neg c81] at H
             have c81b0 : (t556 == t558) = false := beq_eq_false_iff_ne.mpr c81
             have c81b1 : (t556 != t558) = true := bne_iff_ne.mpr c81
             (first | rw [c81b0] | (simp only [i64_w, i32_w]; rw [c81b0]) | skip)
             have H' := Aside0.mk H
             clear H
             go_wp2
             go_meet
             case rel => exact ⟨_, (true), (by first | rfl | (simp; done) | (simp [*]; done)), H', ⟨by have := HJ6.out; have := HJ21.out; have := HJ49.out; first | omega | exact Nat.le_refl _⟩, ⟨by (with_reducible repeat (first | apply Kd.R_alloc | apply Kd.R_drewN | apply Kd.R_drew)); exact HO_14.out⟩, ⟨be BK530⟩, ⟨be BK531⟩, ⟨be BK540⟩, ⟨be BK545⟩, ⟨by repeat (first | (with_reducible first | exact HB.out | apply below_alloc | apply pw_below_drewN | apply below_drew1 | refine below_set ?_ GE530.out | refine below_set ?_ GE531.out | refine below_set ?_ GE540.out | refine below_set ?_ GE545.out) | exact HB.out)⟩⟩
           case rest =>
            as_aux_lemma =>
            clear HC69
            try clear c1
            try clear c2
            try clear p2
            try clear c3
            try clear c4
            try clear c5
            try clear c6
            try clear c7
            try clear c8
            try clear c11
            try clear c13
            try clear c18
            try clear c18b0
            try clear c18b1
            try clear c19
            try clear c21
            try clear c23
            try clear c28
            try clear c29
            try clear c35
            try clear c36
            try clear c37
            try clear c39
            try clear c39b0
            try clear c39b1
            try clear c40
            try clear c41
            try clear c42
            try clear c44
            try clear c45
            try clear c46
            try clear c47
            try clear c48
            try clear c49
            try clear c50
            try clear c51
            try clear c52
            try clear c53
            try clear c55
            try clear c56
            try clear c62
            try clear c62b0
            try clear c62b1
            try clear c66
            try clear c70
            try clear c71
            try clear c72
            try clear c74
            try clear c75
            try clear c81
            try clear c81b0
            try clear c81b1
            try clear hcz12_0 hcz12_1 hcz12_2
            try clear hcz13_0 hcz13_1 hcz13_2
            try clear hcz15_0 hcz15_1 hcz15_2
            try clear hcz16_0 hcz16_1 hcz16_2
            try clear hcz24_0 hcz24_1 hcz24_2
            try clear hcz25_0 hcz25_1 hcz25_2
            try clear hcz30_0 hcz30_1 hcz30_2
            try clear hcz31_0 hcz31_1 hcz31_2
            try clear hcz32_0 hcz32_1 hcz32_2
            try clear hcz38_0 hcz38_1 hcz38_2
            try clear hcz43_0 hcz43_1 hcz43_2
            try clear hcz46_0 hcz46_1 hcz46_2
            try clear hcz54_0 hcz54_1 hcz54_2
            try clear hcz57_0 hcz57_1 hcz57_2
            try clear hcz59_0 hcz59_1 hcz59_2
            try clear hcz60_0 hcz60_1 hcz60_2
            try clear hcz73_0 hcz73_1 hcz73_2
            try clear hcz76_0 hcz76_1 hcz76_2
            try clear hcz78_0 hcz78_1 hcz78_2
            try clear hcz79_0 hcz79_1 hcz79_2
            try clear hfz12_0 hfz12_1 hfz12_2
            try clear hfz13_0 hfz13_1 hfz13_2
            try clear hfz15_0 hfz15_1 hfz15_2
            try clear hfz16_0 hfz16_1 hfz16_2
            try clear hfz24_0 hfz24_1 hfz24_2
            try clear hfz25_0 hfz25_1 hfz25_2
            try clear hfz30_0 hfz30_1 hfz30_2
            try clear hfz31_0 hfz31_1 hfz31_2
            try clear hfz32_0 hfz32_1 hfz32_2
            try clear hfz38_0 hfz38_1 hfz38_2
            try clear hfz43_0 hfz43_1 hfz43_2
            try clear hfz46_0 hfz46_1 hfz46_2
            try clear hfz54_0 hfz54_1 hfz54_2
            try clear hfz57_0 hfz57_1 hfz57_2
            try clear hfz59_0 hfz59_1 hfz59_2
            try clear hfz60_0 hfz60_1 hfz60_2
            try clear hfz73_0 hfz73_1 hfz73_2
            try clear hfz76_0 hfz76_1 hfz76_2
            try clear hfz78_0 hfz78_1 hfz78_2
            try clear hfz79_0 hfz79_1 hfz79_2
            try clear p2
            obtain ⟨kq, x127_68, rfl, HA, HJ68, HO_14, BK530, BK531, BK540, BK545, HB⟩ := hcut
            cases kq with
            | zero => exact absurd HA.out (by simp [laws_FnTreeDistances.j3])
            | succ kj68 =>
             have H := HA.out
             clear HA
             simp only [laws_FnTreeDistances.j3] at H
             by_cases c82 : x127_68 = true
             ·subst c82
              have H1 : (some false) = some r := by rw [if_pos rfl] at H; exact H
              clear H
              have H := H1
              clear H1
              exact absurd ((Option.some.inj H).trans hr.out) (by simp)
             ·replace c82 := Bool.eq_false_iff.mpr c82
              subst c82
              have H1 : (if t533 = 0 then ((impl_TreeDistance.f kj68 t523 t527 t528 t529 t524 t525 t526).bind fun bt559 => (if bt559.2 = 0 then (if bt559.1 = t532 then (laws_FnTreeDistances.j4 kj68 t523 t532 t539 t546 t549 t555 (t556 != 0) t524 t525 t526 t527 t528 t529 t536 t537 t538) else (laws_FnTreeDistances.j4 kj68 t523 t532 t539 t546 t549 t555 true t524 t525 t526 t527 t528 t529 t536 t537 t538)) else (laws_FnTreeDistances.j4 kj68 t523 t532 t539 t546 t549 t555 true t524 t525 t526 t527 t528 t529 t536 t537 t538))) else (if t532 = 0 then (some ((t546.length : Int) == 0)) else (some false))) = some r := by rw [if_neg (show ¬ (false = true) by decide)] at H; exact H
              clear H
              have H := H1
              clear H1
              by_cases c83 : t533 = 0
              ·rw [if_pos c83] at H
               have c83b0 : (t533 == 0) = true := beq_iff_eq.mpr c83
               have c83b1 : (t533 != 0) = false := bne_eq_false_iff_eq.mpr c83
               clear c83
               replace H := Option.bind_eq_some_iff.mp H
               obtain ⟨⟨t559, t560⟩, A840, H⟩ := H
               replace H : (if t560 = 0 then (if t559 = t532 then (laws_FnTreeDistances.j4 kj68 t523 t532 t539 t546 t549 t555 (t556 != 0) t524 t525 t526 t527 t528 t529 t536 t537 t538) else (laws_FnTreeDistances.j4 kj68 t523 t532 t539 t546 t549 t555 true t524 t525 t526 t527 t528 t529 t536 t537 t538)) else (laws_FnTreeDistances.j4 kj68 t523 t532 t539 t546 t549 t555 true t524 t525 t526 t527 t528 t529 t536 t537 t538)) = some r := H
               have A84 := Aside0.mk A840
               clear A840
               have HC85 := Aside0.mk H
               clear H
               have hnb86 := NB531_530.out
               have hnc86 := NB530_531.out
               have hnb87 := NB531_540.out
               have hnc87 := NB540_531.out
               have hnb88 := NB531_545.out
               have hnc88 := NB545_531.out
               have hcz89_0 : wc.cell? ⟨gb531, 0, none⟩ = some (.int .i64 t527) := (blk_cell BK531.out 0).trans rfl
               have hcz89_1 : wc.cell? ⟨gb531, 1, none⟩ = some (.int .i64 t528) := (blk_cell BK531.out 1).trans rfl
               have hcz89_2 : wc.cell? ⟨gb531, 2, none⟩ = some (.int .i64 t529) := (blk_cell BK531.out 2).trans rfl
               have hfz89_0 := blk_frozen BK531.out 0
               have hfz89_1 := blk_frozen BK531.out 1
               have hfz89_2 := blk_frozen BK531.out 2
               have hnb90 := NB530_540.out
               have hnc90 := NB540_530.out
               have hnb91 := NB530_545.out
               have hnc91 := NB545_530.out
               have hcz92_0 : wc.cell? ⟨gb530, 0, none⟩ = some (.int .i64 t524) := (blk_cell BK530.out 0).trans rfl
               have hcz92_1 : wc.cell? ⟨gb530, 1, none⟩ = some (.int .i64 t525) := (blk_cell BK530.out 1).trans rfl
               have hcz92_2 : wc.cell? ⟨gb530, 2, none⟩ = some (.int .i64 t526) := (blk_cell BK530.out 2).trans rfl
               have hfz92_0 := blk_frozen BK530.out 0
               have hfz92_1 := blk_frozen BK530.out 1
               have hfz92_2 := blk_frozen BK530.out 2
               go_upto_region 23 with (first | ((with_reducible refine gate_callee (f := 44) rfl ?_); refine g1 (some 141) Try.func44 #[.int .i64 t523, .agg #[.int .i64 t527, .int .i64 t528, .int .i64 t529], .agg #[.int .i64 t524, .int .i64 t525, .int .i64 t526]] ?_; (with_reducible refine (impl_TreeDistance.calls kj68 t523 t527 t528 t529 t524 t525 t526 t559 t560 _ A84.out).mono ?_); rintro e w93 ⟨rfl, hb⟩; refine ⟨_, rfl, ?_⟩; replace HO_14 := Aside0.mk (Kd.R_below (by (with_reducible repeat (first | apply Kd.R_alloc | apply Kd.R_drewN | apply Kd.R_drew)); exact HO_14.out) hb); replace BK530 := bb BK530 hb; replace BK531 := bb BK531 hb; replace BK540 := bb BK540 hb; replace BK545 := bb BK545 hb; replace HB := bs hb; (try clear hb); (try clear hb2); (try clear hk); (try clear hi)))
               (try simp only [Act.put, List.setIfInBounds_toArray, List.set_cons_zero, List.set_cons_succ])
               go_cut [154] (fun v154 wc => ∃ (kq : Nat) (x154_84 : Bool), v154 = .bool x154_84 ∧ Aside0 (laws_FnTreeDistances.j4 kq t523 t532 t539 t546 t549 t555 x154_84 t524 t525 t526 t527 t528 t529 t536 t537 t538 = some r) ∧ Aside0 (kq ≤ kj68) ∧ Aside0 (Kd.R k27 27 wc w.heap.size (fun k_ => k_ ≠ gb530 ∧ k_ ≠ gb531 ∧ k_ ≠ gb540 ∧ k_ ≠ gb545) v547 t546) ∧ Aside0 (wc.heap[gb530]? = some (.cells #[.int .i64 t524, .int .i64 t525, .int .i64 t526] 27 (0, 0))) ∧ Aside0 (wc.heap[gb531]? = some (.cells #[.int .i64 t527, .int .i64 t528, .int .i64 t529] 27 (0, 0))) ∧ Aside0 (wc.heap[gb540]? = some (.cells #[.int .i64 t536, .int .i64 t537, .int .i64 t538] 27 (0, 0))) ∧ Aside0 (wc.heap[gb545]? = some (.cells #[.int .i64 t541, .int .i64 t542, .int .i64 t543] 27 (0, 0))) ∧ Aside0 (Below w.heap.size w wc))
               case first =>
                as_aux_lemma =>
                have H := HC85.out
                clear HC85
                by_cases c94 : t560 = 0
                ·rw [if_pos c94] at H
                 have c94b0 : (t560 == 0) = true := beq_iff_eq.mpr c94
                 have c94b1 : (t560 != 0) = false := bne_eq_false_iff_eq.mpr c94
                 clear c94
                 (first | rw [c94b0] | (simp only [i64_w, i32_w]; rw [c94b0]) | skip)
                 by_cases c95 : t559 = t532
                 ·rw [if_pos c95] at H
                  have c95b0 : (t559 == t532) = true := beq_iff_eq.mpr c95
                  have c95b1 : (t559 != t532) = false := bne_eq_false_iff_eq.mpr c95
                  clear c95
                  have H' := Aside0.mk H
                  clear H
                  go_wp2
                  go_meet
                  case rel => exact ⟨_, ((t556 != 0)), (by first | rfl | (simp; done) | (simp [*]; done)), H', ⟨by have := HJ6.out; have := HJ21.out; have := HJ49.out; have := HJ68.out; first | omega | exact Nat.le_refl _⟩, ⟨by (with_reducible repeat (first | apply Kd.R_alloc | apply Kd.R_drewN | apply Kd.R_drew)); exact HO_14.out⟩, ⟨be BK530⟩, ⟨be BK531⟩, ⟨be BK540⟩, ⟨be BK545⟩, ⟨by repeat (first | (with_reducible first | exact HB.out | apply below_alloc | apply pw_below_drewN | apply below_drew1 | refine below_set ?_ GE530.out | refine below_set ?_ GE531.out | refine below_set ?_ GE540.out | refine below_set ?_ GE545.out) | exact HB.out)⟩⟩
                 ·rw [if_neg c95] at H
                  have c95b0 : (t559 == t532) = false := beq_eq_false_iff_ne.mpr c95
                  have c95b1 : (t559 != t532) = true := bne_iff_ne.mpr c95
                  have H' := Aside0.mk H
                  clear H
                  go_wp2
                  go_meet
                  case rel => exact ⟨_, (true), (by first | rfl | (simp; done) | (simp [*]; done)), H', ⟨by have := HJ6.out; have := HJ21.out; have := HJ49.out; have := HJ68.out; first | omega | exact Nat.le_refl _⟩, ⟨by (with_reducible repeat (first | apply Kd.R_alloc | apply Kd.R_drewN | apply Kd.R_drew)); exact HO_14.out⟩, ⟨be BK530⟩, ⟨be BK531⟩, ⟨be BK540⟩, ⟨be BK545⟩, ⟨by repeat (first | (with_reducible first | exact HB.out | apply below_alloc | apply pw_below_drewN | apply below_drew1 | refine below_set ?_ GE530.out | refine below_set ?_ GE531.out | refine below_set ?_ GE540.out | refine below_set ?_ GE545.out) | exact HB.out)⟩⟩
                ·rw [if_neg c94] at H
                 have c94b0 : (t560 == 0) = false := beq_eq_false_iff_ne.mpr c94
                 have c94b1 : (t560 != 0) = true := bne_iff_ne.mpr c94
                 (first | rw [c94b0] | (simp only [i64_w, i32_w]; rw [c94b0]) | skip)
                 have H' := Aside0.mk H
                 clear H
                 go_wp2
                 go_meet
                 case rel => exact ⟨_, (true), (by first | rfl | (simp; done) | (simp [*]; done)), H', ⟨by have := HJ6.out; have := HJ21.out; have := HJ49.out; have := HJ68.out; first | omega | exact Nat.le_refl _⟩, ⟨by (with_reducible repeat (first | apply Kd.R_alloc | apply Kd.R_drewN | apply Kd.R_drew)); exact HO_14.out⟩, ⟨be BK530⟩, ⟨be BK531⟩, ⟨be BK540⟩, ⟨be BK545⟩, ⟨by repeat (first | (with_reducible first | exact HB.out | apply below_alloc | apply pw_below_drewN | apply below_drew1 | refine below_set ?_ GE530.out | refine below_set ?_ GE531.out | refine below_set ?_ GE540.out | refine below_set ?_ GE545.out) | exact HB.out)⟩⟩
               case rest =>
                as_aux_lemma =>
                clear HC85
                try clear c1
                try clear c2
                try clear p2
                try clear c3
                try clear c4
                try clear c5
                try clear c6
                try clear c7
                try clear c8
                try clear c9
                try clear c11
                try clear c13
                try clear c18
                try clear c18b0
                try clear c18b1
                try clear c19
                try clear c21
                try clear c23
                try clear c28
                try clear c29
                try clear c35
                try clear c36
                try clear c37
                try clear c39
                try clear c39b0
                try clear c39b1
                try clear c40
                try clear c41
                try clear c42
                try clear c44
                try clear c45
                try clear c46
                try clear c47
                try clear c48
                try clear c49
                try clear c50
                try clear c51
                try clear c52
                try clear c53
                try clear c55
                try clear c56
                try clear c62
                try clear c62b0
                try clear c62b1
                try clear c66
                try clear c70
                try clear c71
                try clear c72
                try clear c74
                try clear c75
                try clear c81
                try clear c81b0
                try clear c81b1
                try clear c82
                try clear c83
                try clear c83b0
                try clear c83b1
                try clear c86
                try clear c87
                try clear c88
                try clear c90
                try clear c91
                try clear c94
                try clear c94b0
                try clear c94b1
                try clear c95
                try clear c95b0
                try clear c95b1
                try clear hcz12_0 hcz12_1 hcz12_2
                try clear hcz13_0 hcz13_1 hcz13_2
                try clear hcz15_0 hcz15_1 hcz15_2
                try clear hcz16_0 hcz16_1 hcz16_2
                try clear hcz24_0 hcz24_1 hcz24_2
                try clear hcz25_0 hcz25_1 hcz25_2
                try clear hcz30_0 hcz30_1 hcz30_2
                try clear hcz31_0 hcz31_1 hcz31_2
                try clear hcz32_0 hcz32_1 hcz32_2
                try clear hcz38_0 hcz38_1 hcz38_2
                try clear hcz43_0 hcz43_1 hcz43_2
                try clear hcz46_0 hcz46_1 hcz46_2
                try clear hcz54_0 hcz54_1 hcz54_2
                try clear hcz57_0 hcz57_1 hcz57_2
                try clear hcz59_0 hcz59_1 hcz59_2
                try clear hcz60_0 hcz60_1 hcz60_2
                try clear hcz73_0 hcz73_1 hcz73_2
                try clear hcz76_0 hcz76_1 hcz76_2
                try clear hcz78_0 hcz78_1 hcz78_2
                try clear hcz79_0 hcz79_1 hcz79_2
                try clear hcz89_0 hcz89_1 hcz89_2
                try clear hcz92_0 hcz92_1 hcz92_2
                try clear hfz12_0 hfz12_1 hfz12_2
                try clear hfz13_0 hfz13_1 hfz13_2
                try clear hfz15_0 hfz15_1 hfz15_2
                try clear hfz16_0 hfz16_1 hfz16_2
                try clear hfz24_0 hfz24_1 hfz24_2
                try clear hfz25_0 hfz25_1 hfz25_2
                try clear hfz30_0 hfz30_1 hfz30_2
                try clear hfz31_0 hfz31_1 hfz31_2
                try clear hfz32_0 hfz32_1 hfz32_2
                try clear hfz38_0 hfz38_1 hfz38_2
                try clear hfz43_0 hfz43_1 hfz43_2
                try clear hfz46_0 hfz46_1 hfz46_2
                try clear hfz54_0 hfz54_1 hfz54_2
                try clear hfz57_0 hfz57_1 hfz57_2
                try clear hfz59_0 hfz59_1 hfz59_2
                try clear hfz60_0 hfz60_1 hfz60_2
                try clear hfz73_0 hfz73_1 hfz73_2
                try clear hfz76_0 hfz76_1 hfz76_2
                try clear hfz78_0 hfz78_1 hfz78_2
                try clear hfz79_0 hfz79_1 hfz79_2
                try clear hfz89_0 hfz89_1 hfz89_2
                try clear hfz92_0 hfz92_1 hfz92_2
                try clear p2
                obtain ⟨kq, x154_84, rfl, HA, HJ84, HO_14, BK530, BK531, BK540, BK545, HB⟩ := hcut
                cases kq with
                | zero => exact absurd HA.out (by simp [laws_FnTreeDistances.j4])
                | succ kj84 =>
                 have H := HA.out
                 clear HA
                 simp only [laws_FnTreeDistances.j4] at H
                 by_cases c96 : x154_84 = true
                 ·subst c96
                  have H1 : (some false) = some r := by rw [if_pos rfl] at H; exact H
                  clear H
                  have H := H1
                  clear H1
                  exact absurd ((Option.some.inj H).trans hr.out) (by simp)
                 ·replace c96 := Bool.eq_false_iff.mpr c96
                  subst c96
                  have H1 : (if t539 = 0 then ((impl_HoldsBall.f kj84 t523 t536 t537 t538 t524 t525 t526).bind fun bt561 => ((impl_HoldsBall.f kj84 t523 t536 t537 t538 t527 t528 t529).bind fun bt563 => (if bt561.2 = 0 then (if bt561.1 = true then (if bt563.2 = 0 then (if bt563.1 = true then (if (t555 != (t536 == t524 && (t537 == t525 && (t538 == t526)))) = true then (some false) else (laws_FnTreeDistances.j5 kj84 t523 t532 t546 t549 t524 t525 t526 t527 t528 t529)) else (some false)) else (some false)) else (some false)) else (some false)))) else (laws_FnTreeDistances.j5 kj84 t523 t532 t546 t549 t524 t525 t526 t527 t528 t529)) = some r := by rw [if_neg (show ¬ (false = true) by decide)] at H; exact H
                  clear H
                  have H := H1
                  clear H1
                  have HC97 := Aside0.mk H
                  clear H
                  go_upto_if 156 with (fail)
                  go_cut [] (fun wc => ∃ (kq : Nat), Aside0 (laws_FnTreeDistances.j5 kq t523 t532 t546 t549 t524 t525 t526 t527 t528 t529 = some r) ∧ Aside0 (kq ≤ kj84) ∧ Aside0 (Kd.R k27 27 wc w.heap.size (fun k_ => k_ ≠ gb530 ∧ k_ ≠ gb531 ∧ k_ ≠ gb540 ∧ k_ ≠ gb545) v547 t546) ∧ Aside0 (wc.heap[gb530]? = some (.cells #[.int .i64 t524, .int .i64 t525, .int .i64 t526] 27 (0, 0))) ∧ Aside0 (wc.heap[gb531]? = some (.cells #[.int .i64 t527, .int .i64 t528, .int .i64 t529] 27 (0, 0))) ∧ Aside0 (wc.heap[gb540]? = some (.cells #[.int .i64 t536, .int .i64 t537, .int .i64 t538] 27 (0, 0))) ∧ Aside0 (wc.heap[gb545]? = some (.cells #[.int .i64 t541, .int .i64 t542, .int .i64 t543] 27 (0, 0))) ∧ Aside0 (Below w.heap.size w wc))
                  case first =>
                   as_aux_lemma =>
                   have H := HC97.out
                   clear HC97
                   by_cases c98 : t539 = 0
                   ·rw [if_pos c98] at H
                    have c98b0 : (t539 == 0) = true := beq_iff_eq.mpr c98
                    have c98b1 : (t539 != 0) = false := bne_eq_false_iff_eq.mpr c98
                    clear c98
                    (first | rw [c98b0] | (simp only [i64_w, i32_w]; rw [c98b0]) | skip)
                    replace H := Option.bind_eq_some_iff.mp H
                    obtain ⟨⟨t561, t562⟩, A990, H⟩ := H
                    replace H : ((impl_HoldsBall.f kj84 t523 t536 t537 t538 t527 t528 t529).bind fun bt563 => (if t562 = 0 then (if t561 = true then (if bt563.2 = 0 then (if bt563.1 = true then (if (t555 != (t536 == t524 && (t537 == t525 && (t538 == t526)))) = true then (some false) else (laws_FnTreeDistances.j5 kj84 t523 t532 t546 t549 t524 t525 t526 t527 t528 t529)) else (some false)) else (some false)) else (some false)) else (some false))) = some r := H
                    have A99 := Aside0.mk A990
                    clear A990
                    replace H := Option.bind_eq_some_iff.mp H
                    obtain ⟨⟨t563, t564⟩, A1000, H⟩ := H
                    replace H : (if t562 = 0 then (if t561 = true then (if t564 = 0 then (if t563 = true then (if (t555 != (t536 == t524 && (t537 == t525 && (t538 == t526)))) = true then (some false) else (laws_FnTreeDistances.j5 kj84 t523 t532 t546 t549 t524 t525 t526 t527 t528 t529)) else (some false)) else (some false)) else (some false)) else (some false)) = some r := H
                    have A100 := Aside0.mk A1000
                    clear A1000
                    by_cases c101 : t562 = 0
                    ·rw [if_pos c101] at H
                     have c101b0 : (t562 == 0) = true := beq_iff_eq.mpr c101
                     have c101b1 : (t562 != 0) = false := bne_eq_false_iff_eq.mpr c101
                     clear c101
                     by_cases c102 : t561 = true
                     ·subst c102
                      have H1 : (if t564 = 0 then (if t563 = true then (if (t555 != (t536 == t524 && (t537 == t525 && (t538 == t526)))) = true then (some false) else (laws_FnTreeDistances.j5 kj84 t523 t532 t546 t549 t524 t525 t526 t527 t528 t529)) else (some false)) else (some false)) = some r := by rw [if_pos rfl] at H; exact H
                      clear H
                      have H := H1
                      clear H1
                      by_cases c103 : t564 = 0
                      ·rw [if_pos c103] at H
                       have c103b0 : (t564 == 0) = true := beq_iff_eq.mpr c103
                       have c103b1 : (t564 != 0) = false := bne_eq_false_iff_eq.mpr c103
                       clear c103
                       by_cases c104 : t563 = true
                       ·subst c104
                        have H1 : (if (t555 != (t536 == t524 && (t537 == t525 && (t538 == t526)))) = true then (some false) else (laws_FnTreeDistances.j5 kj84 t523 t532 t546 t549 t524 t525 t526 t527 t528 t529)) = some r := by rw [if_pos rfl] at H; exact H
                        clear H
                        have H := H1
                        clear H1
                        by_cases c105 : (t555 != (t536 == t524 && (t537 == t525 && (t538 == t526)))) = true
                        ·rw [if_pos c105] at H
                         have c105b0 : (t555 != (t536 == t524 && (t537 == t525 && (t538 == t526)))) = true := c105
                         (try (have c105b1 : decide (t555 = (t536 == t524 && (t537 == t525 && (t538 == t526)))) = false := by simpa using c105))
                         (try (have c105b2 : (t555 == (t536 == t524 && (t537 == t525 && (t538 == t526)))) = false := by simpa using c105))
                         (try (have c105b3 : ¬ (t555 = (t536 == t524 && (t537 == t525 && (t538 == t526)))) := by simpa using c105))
                         clear c105
                         exact absurd ((Option.some.inj H).trans hr.out) (by simp)
                        ·rw [if_neg c105] at H
                         have c105b0 : (t555 != (t536 == t524 && (t537 == t525 && (t538 == t526)))) = false := by simpa using c105
                         (try (have c105b1 : decide (t555 = (t536 == t524 && (t537 == t525 && (t538 == t526)))) = true := by simpa using c105))
                         (try (have c105b2 : (t555 == (t536 == t524 && (t537 == t525 && (t538 == t526)))) = true := by simpa using c105))
                         clear c105
                         have H' := Aside0.mk H
                         clear H
                         have hnb106 := NB540_530.out
                         have hnc106 := NB530_540.out
                         have hnb107 := NB540_531.out
                         have hnc107 := NB531_540.out
                         have hnb108 := NB540_545.out
                         have hnc108 := NB545_540.out
                         have hcz109_0 : wc.cell? ⟨gb540, 0, none⟩ = some (.int .i64 t536) := (blk_cell BK540.out 0).trans rfl
                         have hcz109_1 : wc.cell? ⟨gb540, 1, none⟩ = some (.int .i64 t537) := (blk_cell BK540.out 1).trans rfl
                         have hcz109_2 : wc.cell? ⟨gb540, 2, none⟩ = some (.int .i64 t538) := (blk_cell BK540.out 2).trans rfl
                         have hfz109_0 := blk_frozen BK540.out 0
                         have hfz109_1 := blk_frozen BK540.out 1
                         have hfz109_2 := blk_frozen BK540.out 2
                         have hnb110 := NB530_531.out
                         have hnc110 := NB531_530.out
                         have hnb111 := NB530_545.out
                         have hnc111 := NB545_530.out
                         have hcz112_0 : wc.cell? ⟨gb530, 0, none⟩ = some (.int .i64 t524) := (blk_cell BK530.out 0).trans rfl
                         have hcz112_1 : wc.cell? ⟨gb530, 1, none⟩ = some (.int .i64 t525) := (blk_cell BK530.out 1).trans rfl
                         have hcz112_2 : wc.cell? ⟨gb530, 2, none⟩ = some (.int .i64 t526) := (blk_cell BK530.out 2).trans rfl
                         have hfz112_0 := blk_frozen BK530.out 0
                         have hfz112_1 := blk_frozen BK530.out 1
                         have hfz112_2 := blk_frozen BK530.out 2
                         go_wp2_with (first | ((with_reducible refine gate_callee (f := 43) rfl ?_); refine g1 (some 161) Try.func43 #[.int .i64 t523, .agg #[.int .i64 t536, .int .i64 t537, .int .i64 t538], .agg #[.int .i64 t524, .int .i64 t525, .int .i64 t526]] ?_; (with_reducible refine (impl_HoldsBall.calls kj84 t523 t536 t537 t538 t524 t525 t526 true t562 _ A99.out).mono ?_); rintro e w113 ⟨rfl, hb⟩; refine ⟨_, rfl, ?_⟩; replace HO_14 := Aside0.mk (Kd.R_below (by (with_reducible repeat (first | apply Kd.R_alloc | apply Kd.R_drewN | apply Kd.R_drew)); exact HO_14.out) hb); replace BK530 := bb BK530 hb; replace BK531 := bb BK531 hb; replace BK540 := bb BK540 hb; replace BK545 := bb BK545 hb; replace HB := bs hb; (try clear hb); (try clear hb2); (try clear hk); (try clear hi); obtain ⟨hcz114_0, hcz114_1, hcz114_2, hfz114_0, hfz114_1, hfz114_2⟩ := c3 BK540; have hnb115 := NB531_545.out; have hnc115 := NB545_531.out; obtain ⟨hcz116_0, hcz116_1, hcz116_2, hfz116_0, hfz116_1, hfz116_2⟩ := c3 BK531) | ((with_reducible refine gate_callee (f := 43) rfl ?_); refine g1 (some 168) Try.func43 #[.int .i64 t523, .agg #[.int .i64 t536, .int .i64 t537, .int .i64 t538], .agg #[.int .i64 t527, .int .i64 t528, .int .i64 t529]] ?_; (with_reducible refine (impl_HoldsBall.calls kj84 t523 t536 t537 t538 t527 t528 t529 true t564 _ A100.out).mono ?_); rintro e w117 ⟨rfl, hb⟩; refine ⟨_, rfl, ?_⟩; replace HO_14 := Aside0.mk (Kd.R_below (by (with_reducible repeat (first | apply Kd.R_alloc | apply Kd.R_drewN | apply Kd.R_drew)); exact HO_14.out) hb); replace BK530 := bb BK530 hb; replace BK531 := bb BK531 hb; replace BK540 := bb BK540 hb; replace BK545 := bb BK545 hb; replace HB := bs hb; (try clear hb); (try clear hb2); (try clear hk); (try clear hi); obtain ⟨hcz118_0, hcz118_1, hcz118_2, hfz118_0, hfz118_1, hfz118_2⟩ := c3 BK540; obtain ⟨hcz119_0, hcz119_1, hcz119_2, hfz119_0, hfz119_1, hfz119_2⟩ := c3 BK530))
                         go_meet
                         case rel => exact ⟨_, H', ⟨by have := HJ6.out; have := HJ21.out; have := HJ49.out; have := HJ68.out; have := HJ84.out; first | omega | exact Nat.le_refl _⟩, ⟨by (with_reducible repeat (first | apply Kd.R_alloc | apply Kd.R_drewN | apply Kd.R_drew)); exact HO_14.out⟩, ⟨be BK530⟩, ⟨be BK531⟩, ⟨be BK540⟩, ⟨be BK545⟩, ⟨by repeat (first | (with_reducible first | exact HB.out | apply below_alloc | apply pw_below_drewN | apply below_drew1 | refine below_set ?_ GE530.out | refine below_set ?_ GE531.out | refine below_set ?_ GE540.out | refine below_set ?_ GE545.out) | exact HB.out)⟩⟩
                       ·replace c104 := Bool.eq_false_iff.mpr c104
                        subst c104
                        have H1 : (some false) = some r := by rw [if_neg (show ¬ (false = true) by decide)] at H; exact H
                        clear H
                        have H := H1
                        clear H1
                        exact absurd ((Option.some.inj H).trans hr.out) (by simp)
                      ·rw [if_neg c103] at H
                       have c103b0 : (t564 == 0) = false := beq_eq_false_iff_ne.mpr c103
                       have c103b1 : (t564 != 0) = true := bne_iff_ne.mpr c103
                       exact absurd ((Option.some.inj H).trans hr.out) (by simp)
                     ·replace c102 := Bool.eq_false_iff.mpr c102
                      subst c102
                      have H1 : (some false) = some r := by rw [if_neg (show ¬ (false = true) by decide)] at H; exact H
                      clear H
                      have H := H1
                      clear H1
                      exact absurd ((Option.some.inj H).trans hr.out) (by simp)
                    ·rw [if_neg c101] at H
                     have c101b0 : (t562 == 0) = false := beq_eq_false_iff_ne.mpr c101
                     have c101b1 : (t562 != 0) = true := bne_iff_ne.mpr c101
                     exact absurd ((Option.some.inj H).trans hr.out) (by simp)
                   ·rw [if_neg c98] at H
                    have c98b0 : (t539 == 0) = false := beq_eq_false_iff_ne.mpr c98
                    have c98b1 : (t539 != 0) = true := bne_iff_ne.mpr c98
                    (first | rw [c98b0] | (simp only [i64_w, i32_w]; rw [c98b0]) | skip)
                    have H' := Aside0.mk H
                    clear H
                    go_wp2
                    go_meet
                    case rel => exact ⟨_, H', ⟨by have := HJ6.out; have := HJ21.out; have := HJ49.out; have := HJ68.out; have := HJ84.out; first | omega | exact Nat.le_refl _⟩, ⟨by (with_reducible repeat (first | apply Kd.R_alloc | apply Kd.R_drewN | apply Kd.R_drew)); exact HO_14.out⟩, ⟨be BK530⟩, ⟨be BK531⟩, ⟨be BK540⟩, ⟨be BK545⟩, ⟨by repeat (first | (with_reducible first | exact HB.out | apply below_alloc | apply pw_below_drewN | apply below_drew1 | refine below_set ?_ GE530.out | refine below_set ?_ GE531.out | refine below_set ?_ GE540.out | refine below_set ?_ GE545.out) | exact HB.out)⟩⟩
                  case rest =>
                   as_aux_lemma =>
                   clear HC97
                   try clear c1
                   try clear c2
                   try clear p2
                   try clear c3
                   try clear c4
                   try clear c5
                   try clear c6
                   try clear c7
                   try clear c8
                   try clear c9
                   try clear c10
                   try clear c11
                   try clear c13
                   try clear c18
                   try clear c18b0
                   try clear c18b1
                   try clear c19
                   try clear c21
                   try clear c23
                   try clear c28
                   try clear c29
                   try clear c35
                   try clear c36
                   try clear c37
                   try clear c39
                   try clear c39b0
                   try clear c39b1
                   try clear c40
                   try clear c41
                   try clear c42
                   try clear c43
                   try clear c44
                   try clear c45
                   try clear c46
                   try clear c47
                   try clear c48
                   try clear c49
                   try clear c50
                   try clear c51
                   try clear c52
                   try clear c53
                   try clear c55
                   try clear c56
                   try clear c62
                   try clear c62b0
                   try clear c62b1
                   try clear c66
                   try clear c70
                   try clear c71
                   try clear c72
                   try clear c74
                   try clear c75
                   try clear c81
                   try clear c81b0
                   try clear c81b1
                   try clear c82
                   try clear c83
                   try clear c83b0
                   try clear c83b1
                   try clear c86
                   try clear c87
                   try clear c88
                   try clear c90
                   try clear c91
                   try clear c94
                   try clear c94b0
                   try clear c94b1
                   try clear c95
                   try clear c95b0
                   try clear c95b1
                   try clear c96
                   try clear c98
                   try clear c98b0
                   try clear c98b1
                   try clear c101
                   try clear c101b0
                   try clear c101b1
                   try clear c102
                   try clear c103
                   try clear c103b0
                   try clear c103b1
                   try clear c104
                   try clear c105
                   try clear c105b0
                   try clear c105b1
                   try clear c105b2
                   try clear c106
                   try clear c107
                   try clear c108
                   try clear c110
                   try clear c111
                   try clear c115
                   try clear hcz109_0 hcz109_1 hcz109_2
                   try clear hcz112_0 hcz112_1 hcz112_2
                   try clear hcz114_0 hcz114_1 hcz114_2
                   try clear hcz116_0 hcz116_1 hcz116_2
                   try clear hcz118_0 hcz118_1 hcz118_2
                   try clear hcz119_0 hcz119_1 hcz119_2
                   try clear hcz12_0 hcz12_1 hcz12_2
                   try clear hcz13_0 hcz13_1 hcz13_2
                   try clear hcz15_0 hcz15_1 hcz15_2
                   try clear hcz16_0 hcz16_1 hcz16_2
                   try clear hcz24_0 hcz24_1 hcz24_2
                   try clear hcz25_0 hcz25_1 hcz25_2
                   try clear hcz30_0 hcz30_1 hcz30_2
                   try clear hcz31_0 hcz31_1 hcz31_2
                   try clear hcz32_0 hcz32_1 hcz32_2
                   try clear hcz38_0 hcz38_1 hcz38_2
                   try clear hcz43_0 hcz43_1 hcz43_2
                   try clear hcz46_0 hcz46_1 hcz46_2
                   try clear hcz54_0 hcz54_1 hcz54_2
                   try clear hcz57_0 hcz57_1 hcz57_2
                   try clear hcz59_0 hcz59_1 hcz59_2
                   try clear hcz60_0 hcz60_1 hcz60_2
                   try clear hcz73_0 hcz73_1 hcz73_2
                   try clear hcz76_0 hcz76_1 hcz76_2
                   try clear hcz78_0 hcz78_1 hcz78_2
                   try clear hcz79_0 hcz79_1 hcz79_2
                   try clear hcz89_0 hcz89_1 hcz89_2
                   try clear hcz92_0 hcz92_1 hcz92_2
                   try clear hfz109_0 hfz109_1 hfz109_2
                   try clear hfz112_0 hfz112_1 hfz112_2
                   try clear hfz114_0 hfz114_1 hfz114_2
                   try clear hfz116_0 hfz116_1 hfz116_2
                   try clear hfz118_0 hfz118_1 hfz118_2
                   try clear hfz119_0 hfz119_1 hfz119_2
                   try clear hfz12_0 hfz12_1 hfz12_2
                   try clear hfz13_0 hfz13_1 hfz13_2
                   try clear hfz15_0 hfz15_1 hfz15_2
                   try clear hfz16_0 hfz16_1 hfz16_2
                   try clear hfz24_0 hfz24_1 hfz24_2
                   try clear hfz25_0 hfz25_1 hfz25_2
                   try clear hfz30_0 hfz30_1 hfz30_2
                   try clear hfz31_0 hfz31_1 hfz31_2
                   try clear hfz32_0 hfz32_1 hfz32_2
                   try clear hfz38_0 hfz38_1 hfz38_2
                   try clear hfz43_0 hfz43_1 hfz43_2
                   try clear hfz46_0 hfz46_1 hfz46_2
                   try clear hfz54_0 hfz54_1 hfz54_2
                   try clear hfz57_0 hfz57_1 hfz57_2
                   try clear hfz59_0 hfz59_1 hfz59_2
                   try clear hfz60_0 hfz60_1 hfz60_2
                   try clear hfz73_0 hfz73_1 hfz73_2
                   try clear hfz76_0 hfz76_1 hfz76_2
                   try clear hfz78_0 hfz78_1 hfz78_2
                   try clear hfz79_0 hfz79_1 hfz79_2
                   try clear hfz89_0 hfz89_1 hfz89_2
                   try clear hfz92_0 hfz92_1 hfz92_2
                   try clear p2
                   obtain ⟨kq, HA, HJ96, HO_14, BK530, BK531, BK540, BK545, HB⟩ := hcut
                   cases kq with
                   | zero => exact absurd HA.out (by simp [laws_FnTreeDistances.j5])
                   | succ kj96 =>
                    have H := HA.out
                    clear HA
                    simp only [laws_FnTreeDistances.j5] at H
                    by_cases c120 : t549 = 0
                    ·rw [if_pos c120] at H
                     have c120b0 : (t549 == 0) = true := beq_iff_eq.mpr c120
                     have c120b1 : (t549 != 0) = false := bne_eq_false_iff_eq.mpr c120
                     clear c120
                     have H' := Aside0.mk H
                     clear H
                     go_wp2
                     go_loopg [28] kj96 (fun kq v28 w' => ∃ (x28_7 : Int), v28 = .int .i64 x28_7 ∧ Aside0 (laws_FnTreeDistances.l0 kq t523 t532 t546 x28_7 t524 t525 t526 t527 t528 t529 = some r) ∧ Aside0 (kq ≤ kj96) ∧ Aside0 (Kd.R k27 27 w' w.heap.size (fun k_ => k_ ≠ gb530 ∧ k_ ≠ gb531 ∧ k_ ≠ gb540 ∧ k_ ≠ gb545) v547 t546) ∧ Aside0 (w'.heap[gb530]? = some (.cells #[.int .i64 t524, .int .i64 t525, .int .i64 t526] 27 (0, 0))) ∧ Aside0 (w'.heap[gb531]? = some (.cells #[.int .i64 t527, .int .i64 t528, .int .i64 t529] 27 (0, 0))) ∧ Aside0 (w'.heap[gb540]? = some (.cells #[.int .i64 t536, .int .i64 t537, .int .i64 t538] 27 (0, 0))) ∧ Aside0 (w'.heap[gb545]? = some (.cells #[.int .i64 t541, .int .i64 t542, .int .i64 t543] 27 (0, 0))) ∧ Aside0 (Below w.heap.size w w'))
                     case atStart => exact ⟨(0), (by first | rfl | (simp; done) | (simp [*]; done)), H', ⟨Nat.le_refl _⟩, ⟨by (with_reducible repeat (first | apply Kd.R_alloc | apply Kd.R_drewN | apply Kd.R_drew)); exact HO_14.out⟩, ⟨be BK530⟩, ⟨be BK531⟩, ⟨be BK540⟩, ⟨be BK545⟩, ⟨by repeat (first | (with_reducible first | exact HB.out | apply below_alloc | apply pw_below_drewN | apply below_drew1 | refine below_set ?_ GE530.out | refine below_set ?_ GE531.out | refine below_set ?_ GE540.out | refine below_set ?_ GE545.out) | exact HB.out)⟩⟩
                     case round =>
                      as_aux_lemma =>
                      clear H'
                      try clear c1
                      try clear c2
                      try clear p2
                      try clear c3
                      try clear c4
                      try clear c5
                      try clear c6
                      try clear c7
                      try clear c8
                      try clear c9
                      try clear c10
                      try clear c11
                      try clear c12
                      try clear c13
                      try clear c18
                      try clear c18b0
                      try clear c18b1
                      try clear c19
                      try clear c21
                      try clear c23
                      try clear c28
                      try clear c29
                      try clear c35
                      try clear c36
                      try clear c37
                      try clear c39
                      try clear c39b0
                      try clear c39b1
                      try clear c40
                      try clear c41
                      try clear c42
                      try clear c43
                      try clear c44
                      try clear c45
                      try clear c46
                      try clear c47
                      try clear c48
                      try clear c49
                      try clear c50
                      try clear c51
                      try clear c52
                      try clear c53
                      try clear c55
                      try clear c56
                      try clear c62
                      try clear c62b0
                      try clear c62b1
                      try clear c66
                      try clear c70
                      try clear c71
                      try clear c72
                      try clear c74
                      try clear c75
                      try clear c81
                      try clear c81b0
                      try clear c81b1
                      try clear c82
                      try clear c83
                      try clear c83b0
                      try clear c83b1
                      try clear c86
                      try clear c87
                      try clear c88
                      try clear c90
                      try clear c91
                      try clear c94
                      try clear c94b0
                      try clear c94b1
                      try clear c95
                      try clear c95b0
                      try clear c95b1
                      try clear c96
                      try clear c98
                      try clear c98b0
                      try clear c98b1
                      try clear c101
                      try clear c101b0
                      try clear c101b1
                      try clear c102
                      try clear c103
                      try clear c103b0
                      try clear c103b1
                      try clear c104
                      try clear c105
                      try clear c105b0
                      try clear c105b1
                      try clear c105b2
                      try clear c106
                      try clear c107
                      try clear c108
                      try clear c110
                      try clear c111
                      try clear c115
                      try clear c120
                      try clear c120b0
                      try clear c120b1
                      try clear hcz109_0 hcz109_1 hcz109_2
                      try clear hcz112_0 hcz112_1 hcz112_2
                      try clear hcz114_0 hcz114_1 hcz114_2
                      try clear hcz116_0 hcz116_1 hcz116_2
                      try clear hcz118_0 hcz118_1 hcz118_2
                      try clear hcz119_0 hcz119_1 hcz119_2
                      try clear hcz12_0 hcz12_1 hcz12_2
                      try clear hcz13_0 hcz13_1 hcz13_2
                      try clear hcz15_0 hcz15_1 hcz15_2
                      try clear hcz16_0 hcz16_1 hcz16_2
                      try clear hcz24_0 hcz24_1 hcz24_2
                      try clear hcz25_0 hcz25_1 hcz25_2
                      try clear hcz30_0 hcz30_1 hcz30_2
                      try clear hcz31_0 hcz31_1 hcz31_2
                      try clear hcz32_0 hcz32_1 hcz32_2
                      try clear hcz38_0 hcz38_1 hcz38_2
                      try clear hcz43_0 hcz43_1 hcz43_2
                      try clear hcz46_0 hcz46_1 hcz46_2
                      try clear hcz54_0 hcz54_1 hcz54_2
                      try clear hcz57_0 hcz57_1 hcz57_2
                      try clear hcz59_0 hcz59_1 hcz59_2
                      try clear hcz60_0 hcz60_1 hcz60_2
                      try clear hcz73_0 hcz73_1 hcz73_2
                      try clear hcz76_0 hcz76_1 hcz76_2
                      try clear hcz78_0 hcz78_1 hcz78_2
                      try clear hcz79_0 hcz79_1 hcz79_2
                      try clear hcz89_0 hcz89_1 hcz89_2
                      try clear hcz92_0 hcz92_1 hcz92_2
                      try clear hfz109_0 hfz109_1 hfz109_2
                      try clear hfz112_0 hfz112_1 hfz112_2
                      try clear hfz114_0 hfz114_1 hfz114_2
                      try clear hfz116_0 hfz116_1 hfz116_2
                      try clear hfz118_0 hfz118_1 hfz118_2
                      try clear hfz119_0 hfz119_1 hfz119_2
                      try clear hfz12_0 hfz12_1 hfz12_2
                      try clear hfz13_0 hfz13_1 hfz13_2
                      try clear hfz15_0 hfz15_1 hfz15_2
                      try clear hfz16_0 hfz16_1 hfz16_2
                      try clear hfz24_0 hfz24_1 hfz24_2
                      try clear hfz25_0 hfz25_1 hfz25_2
                      try clear hfz30_0 hfz30_1 hfz30_2
                      try clear hfz31_0 hfz31_1 hfz31_2
                      try clear hfz32_0 hfz32_1 hfz32_2
                      try clear hfz38_0 hfz38_1 hfz38_2
                      try clear hfz43_0 hfz43_1 hfz43_2
                      try clear hfz46_0 hfz46_1 hfz46_2
                      try clear hfz54_0 hfz54_1 hfz54_2
                      try clear hfz57_0 hfz57_1 hfz57_2
                      try clear hfz59_0 hfz59_1 hfz59_2
                      try clear hfz60_0 hfz60_1 hfz60_2
                      try clear hfz73_0 hfz73_1 hfz73_2
                      try clear hfz76_0 hfz76_1 hfz76_2
                      try clear hfz78_0 hfz78_1 hfz78_2
                      try clear hfz79_0 hfz79_1 hfz79_2
                      try clear hfz89_0 hfz89_1 hfz89_2
                      try clear hfz92_0 hfz92_1 hfz92_2
                      try clear p2
                      obtain ⟨x28_7, rfl, HA, HK7, HO_14, BK530, BK531, BK540, BK545, HB⟩ := hrel
                      cases gk with
                      | zero => exact absurd HA.out (by simp [laws_FnTreeDistances.l0])
                      | succ k7 =>
                       have H := HA.out
                       clear HA
                       simp only [laws_FnTreeDistances.l0] at H
                       by_cases c121 : (wrap64 (x28_7 + 1)) < (t546.length : Int)
                       ·rw [if_pos c121] at H
                        have c121b0 : decide ((wrap64 (x28_7 + 1)) < (t546.length : Int)) = true := decide_eq_true c121
                        clear c121
                        by_cases c122 : 0 ≤ x28_7
                        ·rw [if_pos c122] at H
                         have c122b0 : decide (0 ≤ x28_7) = true := decide_eq_true c122
                         clear c122
                         by_cases c123 : x28_7 < (t546.length : Int)
                         ·rw [if_pos c123] at H
                          have c123b0 : decide (x28_7 < (t546.length : Int)) = true := decide_eq_true c123
                          clear c123
                          obtain ⟨ji124, hji124⟩ : ∃ j_ : Int, (wrap64 (x28_7 + 1)) = j_ := ⟨_, rfl⟩
                          replace H : (if 0 ≤ (ji124) then ((impl_TreeDistance.f k7 t523 ((rd_T27 t546 x28_7).f0) ((rd_T27 t546 x28_7).f1) ((rd_T27 t546 x28_7).f2) ((rd_T27 t546 (ji124)).f0) ((rd_T27 t546 (ji124)).f1) ((rd_T27 t546 (ji124)).f2)).bind fun bt567 => (if bt567.2 = 0 then (if bt567.1 = 1 then (laws_FnTreeDistances.l0 k7 t523 t532 t546 ji124 t524 t525 t526 t527 t528 t529) else (some false)) else (some false))) else (none)) = some r := by first | (rw [hji124] at H; exact H) | (simp only [hji124] at H ⊢; exact H)
                          (try rw [hji124] at c121b0)
                          have hji124w : (IntKind.i64.wrap (x28_7 + 1)) = ji124 := (i64_w _).trans hji124
                          by_cases c125 : 0 ≤ (ji124)
                          ·rw [if_pos c125] at H
                           have c125b0 : decide (0 ≤ (ji124)) = true := decide_eq_true c125
                           clear c125
                           replace H := Option.bind_eq_some_iff.mp H
                           obtain ⟨⟨t567, t568⟩, A1260, H⟩ := H
                           replace H : (if t568 = 0 then (if t567 = 1 then (laws_FnTreeDistances.l0 k7 t523 t532 t546 ji124 t524 t525 t526 t527 t528 t529) else (some false)) else (some false)) = some r := H
                           have A126 := Aside0.mk A1260
                           clear A1260
                           by_cases c127 : t568 = 0
                           ·rw [if_pos c127] at H
                            have c127b0 : (t568 == 0) = true := beq_iff_eq.mpr c127
                            have c127b1 : (t568 != 0) = false := bne_eq_false_iff_eq.mpr c127
                            clear c127
                            by_cases c128 : t567 = 1
                            ·rw [if_pos c128] at H
                             have c128b0 : (t567 == 1) = true := beq_iff_eq.mpr c128
                             have c128b1 : (t567 != 1) = false := bne_eq_false_iff_eq.mpr c128
                             clear c128
                             have H' := Aside0.mk H
                             clear H
                             obtain ⟨Ao129, co129, eo129⟩ := Kd.R_slice HO_14.out
                             subst eo129
                             try go_wp2
                             have n0_ := Aside0.mk (Kd.R_drew HO_14.out)
                             have n1_ := Aside0.mk (blk_drew BK530.out)
                             have n2_ := Aside0.mk (blk_drew BK531.out)
                             have n3_ := Aside0.mk (blk_drew BK540.out)
                             have n4_ := Aside0.mk (blk_drew BK545.out)
                             have n5_ := Aside0.mk (below_drew1 HB.out)
                             clear HO_14
                             clear BK530
                             clear BK531
                             clear BK540
                             clear BK545
                             clear HB
                             have HO_14 := n0_
                             have BK530 := n1_
                             have BK531 := n2_
                             have BK540 := n3_
                             have BK545 := n4_
                             have HB := n5_
                             clear n0_ n1_ n2_ n3_ n4_ n5_
                             have p565 : 0 ≤ (x28_7 : Int) := of_decide_eq_true (by first | (with_reducible assumption) | assumption)
                             have q565 : x28_7 < (t546.length : Int) := of_decide_eq_true (by first | (with_reducible assumption) | assumption)
                             obtain ⟨ad565, e565, hx565_0, hx565_1, hx565_2⟩ := at_T27 (Kd.R_reads' HO_14.out).2.2 x28_7 p565 q565
                             cases e565
                             replace p565 := eq_true p565
                             replace q565 := eq_true q565
                             have p566 : 0 ≤ ((ji124) : Int) := of_decide_eq_true (by first | (with_reducible assumption) | assumption)
                             have q566 : (ji124) < (t546.length : Int) := of_decide_eq_true (by first | (with_reducible assumption) | assumption)
                             obtain ⟨ad566, e566, hx566_0, hx566_1, hx566_2⟩ := at_T27 (Kd.R_reads' HO_14.out).2.2 (ji124) p566 q566
                             obtain rfl : ad565 = ad566 := (by injection e566)
                             replace p566 := eq_true p566
                             replace q566 := eq_true q566
                             refine start_ (n := 16) (S := fun w' => w'.cell? (ad565.add ((x28_7).toNat * 3)) = some (.int .i64 ((rd_T27 t546 x28_7).f0)) ∧ w'.cell? ⟨(ad565.add ((x28_7).toNat * 3)).block, (ad565.add ((x28_7).toNat * 3)).off + 1, none⟩ = some (.int .i64 ((rd_T27 t546 x28_7).f1)) ∧ w'.cell? ⟨(ad565.add ((x28_7).toNat * 3)).block, (ad565.add ((x28_7).toNat * 3)).off + 2, none⟩ = some (.int .i64 ((rd_T27 t546 x28_7).f2)) ∧ w'.cell? (ad565.add (((ji124)).toNat * 3)) = some (.int .i64 ((rd_T27 t546 (ji124)).f0)) ∧ w'.cell? ⟨(ad565.add (((ji124)).toNat * 3)).block, (ad565.add (((ji124)).toNat * 3)).off + 1, none⟩ = some (.int .i64 ((rd_T27 t546 (ji124)).f1)) ∧ w'.cell? ⟨(ad565.add (((ji124)).toNat * 3)).block, (ad565.add (((ji124)).toNat * 3)).off + 2, none⟩ = some (.int .i64 ((rd_T27 t546 (ji124)).f2))) (ds := []) #[false, false, false, false, false, false, false, false, false, false, false, false, false, false, false, false] (by kernel_rfl) rfl rfl ⟨hx565_0, hx565_1, hx565_2, hx566_0, hx566_1, hx566_2⟩ (fun hHeld => ?_); refine with_tabW laws_FnTreeDistances.tab35 laws_FnTreeDistances.bits35 (fun HT_ HW_ => ?_)
                             generalize wr.drew = w130 at HO_14 BK530 BK531 BK540 BK545 HB hx565_0 hx565_1 hx565_2 hx566_0 hx566_1 hx566_2 hHeld ⊢
                             refine pu 0 (some 202) #[true, false, false, false, false, false, false, false, false, false, false, false, false, false, false, false] HT_ ?_
                             refine pu 1 (some 203) #[true, true, false, false, false, false, false, false, false, false, false, false, false, false, false, false] HT_ ?_
                             refine pu 2 (some 204) #[true, true, true, false, false, false, false, false, false, false, false, false, false, false, false, false] HT_ ?_
                             refine pu 3 (some 205) #[true, true, true, true, false, false, false, false, false, false, false, false, false, false, false, false] HT_ ?_
                             refine pu 5 (some 207) #[true, true, true, true, false, true, false, false, false, false, false, false, false, false, false, false] HT_ ?_
                             refine pu 6 (some 208) #[true, true, true, true, false, true, true, false, false, false, false, false, false, false, false, false] HT_ ?_
                             refine pu 7 (some 209) #[true, true, true, true, false, true, true, true, false, false, false, false, false, false, false, false] HT_ ?_
                             refine pu 8 (some 210) #[true, true, true, true, false, true, true, true, true, false, false, false, false, false, false, false] HT_ ?_
                             refine take_ (i := 4) (N := some 206) (v := ?_) (a' := ?_) #[true, true, true, true, true, true, true, true, true, false, false, false, false, false, false, false] rfl rfl (take_ofW HT_.out HW_.out (by kernel_rfl)) (fun _ _ _ h => h) (Or.inl ⟨by rfl, ?_⟩) hHeld ?_ ?_
                             rotate_left
                             ·rintro w' ⟨s0, s1, s2, s3, s4, s5⟩
                              go_simp
                              with_reducible rfl
                             rotate_left
                             ·simp only [Act.put, List.setIfInBounds_toArray, List.set_cons_zero, List.set_cons_succ, i64_w, i32_w]
                              rfl
                             refine take_ (i := 9) (N := some 211) (v := ?_) (a' := ?_) #[true, true, true, true, true, true, true, true, true, true, false, false, false, false, false, false] rfl rfl (take_ofW HT_.out HW_.out (by kernel_rfl)) (fun _ _ _ h => h) (Or.inl ⟨by rfl, ?_⟩) hHeld ?_ ?_
                             rotate_left
                             ·rintro w' ⟨s0, s1, s2, s3, s4, s5⟩
                              go_simp
                              with_reducible rfl
                             rotate_left
                             ·simp only [Act.put, List.setIfInBounds_toArray, List.set_cons_zero, List.set_cons_succ, i64_w, i32_w]
                              rfl
                             refine one_ (i := 10) (N := some 212) #[true, true, true, true, true, true, true, true, true, true, true, false, false, false, false, false] rfl rfl (one_of HT_.out (by kernel_rfl)) (by decide) (fun K hK => ?_)
                             refine goes_ Try.func44 (by kernel_rfl) rfl #[.int .i64 t523, .agg #[.int .i64 ((rd_T27 t546 x28_7).f0), .int .i64 ((rd_T27 t546 x28_7).f1), .int .i64 ((rd_T27 t546 x28_7).f2)], .agg #[.int .i64 ((rd_T27 t546 (ji124)).f0), .int .i64 ((rd_T27 t546 (ji124)).f1), .int .i64 ((rd_T27 t546 (ji124)).f2)]] (by rfl) rfl rfl (by (try simp only [List.map_toArray, List.map_cons, List.map_nil]); first | done | (simp only [hji124]; rfl) | rfl | (simp only [List.length_drop, List.length_take]; rfl)) ?_
                             with_reducible refine (impl_TreeDistance.calls k7 t523 ((rd_T27 t546 x28_7).f0) ((rd_T27 t546 x28_7).f1) ((rd_T27 t546 x28_7).f2) ((rd_T27 t546 (ji124)).f0) ((rd_T27 t546 (ji124)).f1) ((rd_T27 t546 (ji124)).f2) t567 t568 _ A126.out).mono ?_
                             rintro e w131 ⟨rfl, hb⟩
                             have HS0_ := (hb.cell (World.block_lt_of_cell? _ _ (hHeld.1))).trans (hHeld.1)
                             have HS1_ := (hb.cell (World.block_lt_of_cell? _ _ (hHeld.2.1))).trans (hHeld.2.1)
                             have HS2_ := (hb.cell (World.block_lt_of_cell? _ _ (hHeld.2.2.1))).trans (hHeld.2.2.1)
                             have HS3_ := (hb.cell (World.block_lt_of_cell? _ _ (hHeld.2.2.2.1))).trans (hHeld.2.2.2.1)
                             have HS4_ := (hb.cell (World.block_lt_of_cell? _ _ (hHeld.2.2.2.2.1))).trans (hHeld.2.2.2.2.1)
                             have HS5_ := (hb.cell (World.block_lt_of_cell? _ _ (hHeld.2.2.2.2.2))).trans (hHeld.2.2.2.2.2)
                             refine ⟨_, rfl, ?_⟩
                             have n0_ := Aside0.mk (Kd.R_below (by (with_reducible repeat (first | apply Kd.R_alloc | apply Kd.R_drewN | apply Kd.R_drew)); exact HO_14.out) hb)
                             have n1_ := bb BK530 hb
                             have n2_ := bb BK531 hb
                             have n3_ := bb BK540 hb
                             have n4_ := bb BK545 hb
                             have n5_ := Aside0.mk (below_step (by repeat (first | (with_reducible first | exact HB.out | apply below_alloc | apply pw_below_drewN | apply below_drew1 | refine below_set ?_ GE530.out | refine below_set ?_ GE531.out | refine below_set ?_ GE540.out | refine below_set ?_ GE545.out) | exact HB.out)) hb)
                             clear HO_14
                             clear BK530
                             clear BK531
                             clear BK540
                             clear BK545
                             clear HB
                             have HO_14 := n0_
                             have BK530 := n1_
                             have BK531 := n2_
                             have BK540 := n3_
                             have BK545 := n4_
                             have HB := n5_
                             clear n0_ n1_ n2_ n3_ n4_ n5_
                             (try clear hb)
                             (try clear hb2)
                             (try clear hk)
                             (try clear hi)
                             refine hK.out _ _ ⟨HS0_, HS1_, HS2_, HS3_, HS4_, HS5_⟩ (fun hHeld => ?_)
                             clear hK K
                             refine norm_ (a' := ?_) ?_ ?_
                             rotate_left
                             ·show Act.put _ (some 212) _ = _
                              simp only [Act.put, List.setIfInBounds_toArray, List.set_cons_zero, List.set_cons_succ, i64_w, i32_w]
                              rfl
                             refine pu 11 (some 201) #[true, true, true, true, true, true, true, true, true, true, true, true, false, false, false, false] HT_ ?_
                             refine pu 12 (some 213) #[true, true, true, true, true, true, true, true, true, true, true, true, true, false, false, false] HT_ ?_
                             refine pu 13 (some 214) #[true, true, true, true, true, true, true, true, true, true, true, true, true, true, false, false] HT_ ?_
                             refine pu 14 (some 29) #[true, true, true, true, true, true, true, true, true, true, true, true, true, true, true, false] HT_ ?_
                             refine pu 15 (some 30) #[true, true, true, true, true, true, true, true, true, true, true, true, true, true, true, true] HT_ ?_
                             refine done_ (done_of HT_.out (by kernel_rfl)) ?_
                             try go_wp2
                             go_roundg k7
                             case measure => have := HJ6.out; have := HJ21.out; have := HJ49.out; have := HJ68.out; have := HJ84.out; have := HJ96.out; have := HK7.out; omega
                             case rel => exact ⟨(ji124), (by first | rfl | (simp; done) | (simp only [← hji124] <;> (first | rfl | simp)) | (simp [*]; done)), H', ⟨by have := HJ6.out; have := HJ21.out; have := HJ49.out; have := HJ68.out; have := HJ84.out; have := HJ96.out; have := HK7.out; omega⟩, ⟨by (with_reducible repeat (first | apply Kd.R_alloc | apply Kd.R_drewN | apply Kd.R_drew)); exact HO_14.out⟩, ⟨be BK530⟩, ⟨be BK531⟩, ⟨be BK540⟩, ⟨be BK545⟩, ⟨by repeat (first | (with_reducible first | exact HB.out | apply below_alloc | apply pw_below_drewN | apply below_drew1 | refine below_set ?_ GE530.out | refine below_set ?_ GE531.out | refine below_set ?_ GE540.out | refine below_set ?_ GE545.out) | exact HB.out)⟩⟩
                            ·rw [if_neg c128] at H
                             have c128b0 : (t567 == 1) = false := beq_eq_false_iff_ne.mpr c128
                             have c128b1 : (t567 != 1) = true := bne_iff_ne.mpr c128
                             exact absurd ((Option.some.inj H).trans hr.out) (by simp)
                           ·rw [if_neg c127] at H
                            have c127b0 : (t568 == 0) = false := beq_eq_false_iff_ne.mpr c127
                            have c127b1 : (t568 != 0) = true := bne_iff_ne.mpr c127
                            exact absurd ((Option.some.inj H).trans hr.out) (by simp)
                          ·rw [if_neg c125] at H
                           exact absurd H (by simp)
                         ·rw [if_neg c123] at H
                          exact absurd H (by simp)
                        ·rw [if_neg c122] at H
                         exact absurd H (by simp)
                       ·rw [if_neg c121] at H
                        have c121b0 : decide ((wrap64 (x28_7 + 1)) < (t546.length : Int)) = false := decide_eq_false c121
                        clear c121
                        by_cases c132 : (t546.length : Int) = (wrap64 (t532 + 1))
                        ·rw [if_pos c132] at H
                         have c132b0 : ((t546.length : Int) == (wrap64 (t532 + 1))) = true := beq_iff_eq.mpr c132
                         have c132b1 : ((t546.length : Int) != (wrap64 (t532 + 1))) = false := bne_eq_false_iff_eq.mpr c132
                         clear c132
                         by_cases c133 : 0 < (t546.length : Int)
                         ·rw [if_pos c133] at H
                          have c133b0 : decide (0 < (t546.length : Int)) = true := decide_eq_true c133
                          have c133b1 : decide (0 < t546.length) = true := decide_eq_true (by omega)
                          clear c133
                          by_cases c134 : (((rd_T27 t546 0).f0) == t524 && (((rd_T27 t546 0).f1) == t525 && (((rd_T27 t546 0).f2) == t526))) = true
                          ·rw [if_pos c134] at H
                           have c134b0 : (((rd_T27 t546 0).f0) == t524 && (((rd_T27 t546 0).f1) == t525 && (((rd_T27 t546 0).f2) == t526))) = true := c134
                           (try (have c134b1 : decide (((rd_T27 t546 0).f0) = t524 && (((rd_T27 t546 0).f1) == t525 && (((rd_T27 t546 0).f2) == t526))) = true := by simpa using c134))
                           (try (have c134b2 : (((rd_T27 t546 0).f0) == t524 && (((rd_T27 t546 0).f1) == t525 && (((rd_T27 t546 0).f2) == t526))) = true := by simpa using c134))
                           clear c134
                           obtain ⟨ji135, hji135⟩ : ∃ j_ : Int, (wrap64 ((t546.length : Int) - 1)) = j_ := ⟨_, rfl⟩
                           replace H : (if 0 ≤ (ji135) then (if (ji135) < (t546.length : Int) then (some (((rd_T27 t546 (ji135)).f0) == t527 && (((rd_T27 t546 (ji135)).f1) == t528 && (((rd_T27 t546 (ji135)).f2) == t529)))) else (none)) else (none)) = some r := by first | (rw [hji135] at H; exact H) | (simp only [hji135] at H ⊢; exact H)
                           have hji135w : (IntKind.i64.wrap ((t546.length : Int) - 1)) = ji135 := (i64_w _).trans hji135
                           by_cases c136 : 0 ≤ (ji135)
                           ·rw [if_pos c136] at H
                            have c136b0 : decide (0 ≤ (ji135)) = true := decide_eq_true c136
                            clear c136
                            by_cases c137 : (ji135) < (t546.length : Int)
                            ·rw [if_pos c137] at H
                             have c137b0 : decide ((ji135) < (t546.length : Int)) = true := decide_eq_true c137
                             clear c137
                             obtain rfl := Option.some.inj H
                             obtain ⟨Ao138, co138, eo138⟩ := Kd.R_slice HO_14.out
                             subst eo138
                             try go_wp2
                             have n0_ := Aside0.mk (Kd.R_drew HO_14.out)
                             have n1_ := Aside0.mk (blk_drew BK530.out)
                             have n2_ := Aside0.mk (blk_drew BK531.out)
                             have n3_ := Aside0.mk (blk_drew BK540.out)
                             have n4_ := Aside0.mk (blk_drew BK545.out)
                             have n5_ := Aside0.mk (below_drew1 HB.out)
                             clear HO_14
                             clear BK530
                             clear BK531
                             clear BK540
                             clear BK545
                             clear HB
                             have HO_14 := n0_
                             have BK530 := n1_
                             have BK531 := n2_
                             have BK540 := n3_
                             have BK545 := n4_
                             have HB := n5_
                             clear n0_ n1_ n2_ n3_ n4_ n5_
                             have p569 : 0 ≤ (0 : Int) := (by omega)
                             have q569 : 0 < (t546.length : Int) := of_decide_eq_true (by first | (with_reducible assumption) | assumption)
                             obtain ⟨ad569, e569, hx569_0, hx569_1, hx569_2⟩ := at_T27 (Kd.R_reads' HO_14.out).2.2 0 p569 q569
                             cases e569
                             have qi569 : (0 < t546.length) = True := eq_true (by omega)
                             (try rw [show ((0 : Int)).toNat = 0 from rfl] at hx569_0)
                             (try rw [show 0 * 3 = 0 from rfl] at hx569_0)
                             (try rw [Addr.add_zero'] at hx569_0)
                             (try rw [show ((0 : Int)).toNat = 0 from rfl] at hx569_1)
                             (try rw [show 0 * 3 = 0 from rfl] at hx569_1)
                             (try rw [Addr.add_zero'] at hx569_1)
                             (try rw [show ((0 : Int)).toNat = 0 from rfl] at hx569_2)
                             (try rw [show 0 * 3 = 0 from rfl] at hx569_2)
                             (try rw [Addr.add_zero'] at hx569_2)
                             replace p569 := eq_true p569
                             replace q569 := eq_true q569
                             have p570 : 0 ≤ ((ji135) : Int) := of_decide_eq_true (by first | (with_reducible assumption) | assumption)
                             have q570 : (ji135) < (t546.length : Int) := of_decide_eq_true (by first | (with_reducible assumption) | assumption)
                             obtain ⟨ad570, e570, hx570_0, hx570_1, hx570_2⟩ := at_T27 (Kd.R_reads' HO_14.out).2.2 (ji135) p570 q570
                             obtain rfl : ad569 = ad570 := (by injection e570)
                             replace p570 := eq_true p570
                             replace q570 := eq_true q570
                             refine start_ (n := 23) (S := fun w' => w'.cell? ⟨gb530, 0, none⟩ = some (.int .i64 t524) ∧ w'.cell? ⟨gb530, 1, none⟩ = some (.int .i64 t525) ∧ w'.cell? ⟨gb530, 2, none⟩ = some (.int .i64 t526) ∧ w'.cell? ⟨gb531, 0, none⟩ = some (.int .i64 t527) ∧ w'.cell? ⟨gb531, 1, none⟩ = some (.int .i64 t528) ∧ w'.cell? ⟨gb531, 2, none⟩ = some (.int .i64 t529) ∧ w'.cell? ad569 = some (.int .i64 ((rd_T27 t546 0).f0)) ∧ w'.cell? ⟨ad569.block, ad569.off + 1, none⟩ = some (.int .i64 ((rd_T27 t546 0).f1)) ∧ w'.cell? ⟨ad569.block, ad569.off + 2, none⟩ = some (.int .i64 ((rd_T27 t546 0).f2)) ∧ w'.cell? (ad569.add (((ji135)).toNat * 3)) = some (.int .i64 ((rd_T27 t546 (ji135)).f0)) ∧ w'.cell? ⟨(ad569.add (((ji135)).toNat * 3)).block, (ad569.add (((ji135)).toNat * 3)).off + 1, none⟩ = some (.int .i64 ((rd_T27 t546 (ji135)).f1)) ∧ w'.cell? ⟨(ad569.add (((ji135)).toNat * 3)).block, (ad569.add (((ji135)).toNat * 3)).off + 2, none⟩ = some (.int .i64 ((rd_T27 t546 (ji135)).f2))) (ds := []) #[false, false, false, false, false, false, false, false, false, false, false, false, false, false, false, false, false, false, false, false, false, false, false] (by kernel_rfl) rfl rfl ⟨(blk_cell BK530.out 0).trans rfl, (blk_cell BK530.out 1).trans rfl, (blk_cell BK530.out 2).trans rfl, (blk_cell BK531.out 0).trans rfl, (blk_cell BK531.out 1).trans rfl, (blk_cell BK531.out 2).trans rfl, hx569_0, hx569_1, hx569_2, hx570_0, hx570_1, hx570_2⟩ (fun hHeld => ?_); refine with_tabW laws_FnTreeDistances.tab38 laws_FnTreeDistances.bits38 (fun HT_ HW_ => ?_)
                             generalize wr.drew = w139 at HO_14 BK530 BK531 BK540 BK545 HB hx569_0 hx569_1 hx569_2 hx570_0 hx570_1 hx570_2 hHeld ⊢
                             refine pu 0 (some 221) #[true, false, false, false, false, false, false, false, false, false, false, false, false, false, false, false, false, false, false, false, false, false, false] HT_ ?_
                             refine pu 1 (some 222) #[true, true, false, false, false, false, false, false, false, false, false, false, false, false, false, false, false, false, false, false, false, false, false] HT_ ?_
                             refine pu 2 (some 223) #[true, true, true, false, false, false, false, false, false, false, false, false, false, false, false, false, false, false, false, false, false, false, false] HT_ ?_
                             refine pu 3 (some 224) #[true, true, true, true, false, false, false, false, false, false, false, false, false, false, false, false, false, false, false, false, false, false, false] HT_ ?_
                             refine pu 4 (some 225) #[true, true, true, true, true, false, false, false, false, false, false, false, false, false, false, false, false, false, false, false, false, false, false] HT_ ?_
                             refine pu 5 (some 226) #[true, true, true, true, true, true, false, false, false, false, false, false, false, false, false, false, false, false, false, false, false, false, false] HT_ ?_
                             refine pu 6 (some 227) #[true, true, true, true, true, true, true, false, false, false, false, false, false, false, false, false, false, false, false, false, false, false, false] HT_ ?_
                             refine pu 7 (some 228) #[true, true, true, true, true, true, true, true, false, false, false, false, false, false, false, false, false, false, false, false, false, false, false] HT_ ?_
                             refine take_ (i := 8) (N := some 229) (v := ?_) (a' := ?_) #[true, true, true, true, true, true, true, true, true, false, false, false, false, false, false, false, false, false, false, false, false, false, false] rfl rfl (take_ofW HT_.out HW_.out (by kernel_rfl)) (fun _ _ _ h => h) (Or.inl ⟨by rfl, ?_⟩) hHeld ?_ ?_
                             rotate_left
                             ·rintro w' ⟨s0, s1, s2, s3, s4, s5, s6, s7, s8, s9, s10, s11⟩
                              go_simp
                              with_reducible rfl
                             rotate_left
                             ·simp only [Act.put, List.setIfInBounds_toArray, List.set_cons_zero, List.set_cons_succ, i64_w, i32_w]
                              rfl
                             refine take_ (i := 9) (N := some 230) (v := ?_) (a' := ?_) #[true, true, true, true, true, true, true, true, true, true, false, false, false, false, false, false, false, false, false, false, false, false, false] rfl rfl (take_ofW HT_.out HW_.out (by kernel_rfl)) (fun _ _ _ h => h) (Or.inl ⟨by rfl, ?_⟩) hHeld ?_ ?_
                             rotate_left
                             ·rintro w' ⟨s0, s1, s2, s3, s4, s5, s6, s7, s8, s9, s10, s11⟩
                              go_simp
                              with_reducible rfl
                             rotate_left
                             ·simp only [Act.put, List.setIfInBounds_toArray, List.set_cons_zero, List.set_cons_succ, i64_w, i32_w]
                              rfl
                             refine pu 10 (some 231) #[true, true, true, true, true, true, true, true, true, true, true, false, false, false, false, false, false, false, false, false, false, false, false] HT_ ?_
                             refine pu 11 (some 232) #[true, true, true, true, true, true, true, true, true, true, true, true, false, false, false, false, false, false, false, false, false, false, false] HT_ ?_
                             refine pu 12 (some 233) #[true, true, true, true, true, true, true, true, true, true, true, true, true, false, false, false, false, false, false, false, false, false, false] HT_ ?_
                             refine pu 13 (some 234) #[true, true, true, true, true, true, true, true, true, true, true, true, true, true, false, false, false, false, false, false, false, false, false] HT_ ?_
                             refine pu 14 (some 235) #[true, true, true, true, true, true, true, true, true, true, true, true, true, true, true, false, false, false, false, false, false, false, false] HT_ ?_
                             refine pu 15 (some 236) #[true, true, true, true, true, true, true, true, true, true, true, true, true, true, true, true, false, false, false, false, false, false, false] HT_ ?_
                             refine pu 16 (some 237) #[true, true, true, true, true, true, true, true, true, true, true, true, true, true, true, true, true, false, false, false, false, false, false] HT_ ?_
                             refine pu 17 (some 238) #[true, true, true, true, true, true, true, true, true, true, true, true, true, true, true, true, true, true, false, false, false, false, false] HT_ ?_
                             refine take_ (i := 18) (N := some 239) (v := ?_) (a' := ?_) #[true, true, true, true, true, true, true, true, true, true, true, true, true, true, true, true, true, true, true, false, false, false, false] rfl rfl (take_ofW HT_.out HW_.out (by kernel_rfl)) (fun _ _ _ h => h) (Or.inl ⟨by rfl, ?_⟩) hHeld ?_ ?_
                             rotate_left
                             ·rintro w' ⟨s0, s1, s2, s3, s4, s5, s6, s7, s8, s9, s10, s11⟩
                              go_simp
                              with_reducible rfl
                             rotate_left
                             ·simp only [Act.put, List.setIfInBounds_toArray, List.set_cons_zero, List.set_cons_succ, i64_w, i32_w]
                              rfl
                             refine take_ (i := 19) (N := some 240) (v := ?_) (a' := ?_) #[true, true, true, true, true, true, true, true, true, true, true, true, true, true, true, true, true, true, true, true, false, false, false] rfl rfl (take_ofW HT_.out HW_.out (by kernel_rfl)) (fun _ _ _ h => h) (Or.inl ⟨by rfl, ?_⟩) hHeld ?_ ?_
                             rotate_left
                             ·rintro w' ⟨s0, s1, s2, s3, s4, s5, s6, s7, s8, s9, s10, s11⟩
                              go_simp
                              with_reducible rfl
                             rotate_left
                             ·simp only [Act.put, List.setIfInBounds_toArray, List.set_cons_zero, List.set_cons_succ, i64_w, i32_w]
                              rfl
                             refine pu 20 (some 241) #[true, true, true, true, true, true, true, true, true, true, true, true, true, true, true, true, true, true, true, true, true, false, false] HT_ ?_
                             refine pu 21 (some 242) #[true, true, true, true, true, true, true, true, true, true, true, true, true, true, true, true, true, true, true, true, true, true, false] HT_ ?_
                             refine pu 22 (some 2) #[true, true, true, true, true, true, true, true, true, true, true, true, true, true, true, true, true, true, true, true, true, true, true] HT_ ?_
                             refine done_ (done_of HT_.out (by kernel_rfl)) ?_
                             try go_wp2
                             go_ret
                             exact ⟨by first | rfl | (simp [errW_none, errW_some] <;> rfl) | (simp only [← hji135]; first | rfl | (simp [errW_none, errW_some] <;> rfl)) | (simp [*, errW_none, errW_some] <;> rfl), by repeat (first | (with_reducible first | exact HB.out | apply below_alloc | apply pw_below_drewN | apply below_drew1 | refine below_set ?_ GE530.out | refine below_set ?_ GE531.out | refine below_set ?_ GE540.out | refine below_set ?_ GE545.out) | exact HB.out)⟩
                            ·rw [if_neg c137] at H
                             exact absurd H (by simp)
                           ·rw [if_neg c136] at H
                            exact absurd H (by simp)
                          ·rw [if_neg c134] at H
                           have c134b0 : (((rd_T27 t546 0).f0) == t524 && (((rd_T27 t546 0).f1) == t525 && (((rd_T27 t546 0).f2) == t526))) = false := by simpa using c134
                           (try (have c134b1 : decide (((rd_T27 t546 0).f0) = t524 && (((rd_T27 t546 0).f1) == t525 && (((rd_T27 t546 0).f2) == t526))) = false := by simpa using c134))
                           (try (have c134b2 : (((rd_T27 t546 0).f0) == t524 && (((rd_T27 t546 0).f1) == t525 && (((rd_T27 t546 0).f2) == t526))) = false := by simpa using c134))
                           (try (have c134b3 : ¬ (((rd_T27 t546 0).f0) = t524 && (((rd_T27 t546 0).f1) == t525 && (((rd_T27 t546 0).f2) == t526))) := by simpa using c134))
                           clear c134
                           exact absurd ((Option.some.inj H).trans hr.out) (by simp)
                         ·rw [if_neg c133] at H
                          exact absurd H (by simp)
                        ·rw [if_neg c132] at H
                         have c132b0 : ((t546.length : Int) == (wrap64 (t532 + 1))) = false := beq_eq_false_iff_ne.mpr c132
                         have c132b1 : ((t546.length : Int) != (wrap64 (t532 + 1))) = true := bne_iff_ne.mpr c132
                         exact absurd ((Option.some.inj H).trans hr.out) (by simp)
                    ·rw [if_neg c120] at H
                     have c120b0 : (t549 == 0) = false := beq_eq_false_iff_ne.mpr c120
                     have c120b1 : (t549 != 0) = true := bne_iff_ne.mpr c120
                     obtain rfl := Option.some.inj H
                     go_wp2
                     go_ret
                     exact ⟨by first | rfl | (simp [errW_none, errW_some] <;> rfl) | (simp [*, errW_none, errW_some] <;> rfl), by repeat (first | (with_reducible first | exact HB.out | apply below_alloc | apply pw_below_drewN | apply below_drew1 | refine below_set ?_ GE530.out | refine below_set ?_ GE531.out | refine below_set ?_ GE540.out | refine below_set ?_ GE545.out) | exact HB.out)⟩
              ·rw [if_neg c83] at H
               have c83b0 : (t533 == 0) = false := beq_eq_false_iff_ne.mpr c83
               have c83b1 : (t533 != 0) = true := bne_iff_ne.mpr c83
               by_cases c140 : t532 = 0
               ·rw [if_pos c140] at H
                have c140b0 : (t532 == 0) = true := beq_iff_eq.mpr c140
                have c140b1 : (t532 != 0) = false := bne_eq_false_iff_eq.mpr c140
                clear c140
                obtain rfl := Option.some.inj H
                obtain ⟨Ao141, co141, eo141⟩ := Kd.R_slice HO_14.out
                subst eo141
                go_wp2
                go_ret
                exact ⟨by first | rfl | (simp [errW_none, errW_some] <;> rfl) | (simp [*, errW_none, errW_some] <;> rfl), by repeat (first | (with_reducible first | exact HB.out | apply below_alloc | apply pw_below_drewN | apply below_drew1 | refine below_set ?_ GE530.out | refine below_set ?_ GE531.out | refine below_set ?_ GE540.out | refine below_set ?_ GE545.out) | exact HB.out)⟩
               ·rw [if_neg c140] at H
                have c140b0 : (t532 == 0) = false := beq_eq_false_iff_ne.mpr c140
                have c140b1 : (t532 != 0) = true := bne_iff_ne.mpr c140
                exact absurd ((Option.some.inj H).trans hr.out) (by simp)

/-- THE ONE PURE STATEMENT of laws_FnTreeDistances: yours. -/
def laws_FnTreeDistances.Pure : Prop := ∀ (l0 : List Int), l0.length ≤ maxLen → l0.length * 1 ≤ 140737488351232 → (∀ x ∈ l0, (Lit.int .u8 x).wf = true) → ∃ k, laws_FnTreeDistances.f k l0 = some true
theorem laws_FnTreeDistances.walk (P : laws_FnTreeDistances.Pure) (a0 : Option Addr) (len0 cap0 : Nat) (z0 : List Int) (w : World) (w0 : (a0 = none ∧ len0 = 0 ∧ cap0 = 0 ∧ z0 = []) ∨ ∃ x, a0 = some x ∧ len0 ≤ cap0 ∧ cap0 ≤ maxLen ∧ z0.length = cap0 ∧ (∀ i, i < z0.length → w.cell? (x.add i) = some (.int .u8 (z0.getD i 0))) ∧ ∀ n ∈ z0, (Lit.int .u8 n).wf = true) (y0 : len0 * 1 ≤ 140737488351232) :
  Calls Try.prog 8 #[.slice a0 len0 cap0] w fun e w' => e = .returned (.bool true) ∧ Below w.heap.size w w' := by
 obtain ⟨l0, rfl, hr0, hm0, hw0, hc0⟩ := ReadsInt.ofRowC w0
 obtain ⟨k, h⟩ := P l0 hm0 y0 hw0
 refine (laws_FnTreeDistances.calls k _ _ l0 true w ⟨rfl⟩ (Kd.C_of_reads (d := (0 : Int)) (h1 := fun _ => rfl) hr0) hc0 h).mono ?_
 rintro e w' ⟨rfl, hd⟩
 exact ⟨rfl, hd⟩

end Go.Proofs.Ytpmepopagapeiaa.PFnTreeDistances

/- What the Go functions of this law compute, each as a Lean function, and that each call comes to that answer; written by a program of this session. No condition. -/
import Derived.Test.YtmokjfncblnfcaaVQFnSharedLoadsx0
import Derived.Test.YtmokjfncblnfcaaVQFnSharedLoadsx1
import Derived.Test.YtmokjfncblnfcaaVQFnSharedLoadsx3
import Derived.Test.YtmokjfncblnfcaaVQFnSharedLoadsx7
namespace Go.Proofs.Ytmokjfncblnfcaa.QFnSharedLoads
open Go.RowKit Go.Proofs.YtmokjfncblnfcaaW.PrintWords Go.Proofs.YtmokjfncblnfcaaW.PrintLast Go.Proofs.YtmokjfncblnfcaaW.PrintMore
attribute [local go_sem] max2_int min2_int max_two min_two max_three min_three max_four min_four   -- for this text's walks alone
set_option linter.unusedVariables false
set_option linter.unusedSimpArgs false

/-! ### laws_FnSharedLoads: function 11 -/
mutual
def laws_FnSharedLoads.j0 : Nat → List (S28) → Int → List (S25) → List Int → Bool → Int → Int → Option (Bool)
 | 0, _, _, _, _, _, _, _ => none
 | k + 1, x5, x6, x7, x11, x94, x278000, x278001 => if x94 = true then (some false) else (laws_FnSharedLoads.l0 k x5 x6 x7 x11 0 0 x278000 x278001)
def laws_FnSharedLoads.l0 : Nat → List (S28) → Int → List (S25) → List Int → Int → Int → Int → Int → Option (Bool)
 | 0, _, _, _, _, _, _, _, _ => none
 | k + 1, x5, x6, x7, x11, x13, x14, x278000, x278001 => if x14 < (x5.length : Int) then (if 0 ≤ x14 then ((laws_a2Has.f k x11 x14).bind fun t284 => (if ((decide (x278000 > (wrap64 (((rd_T28 x5 x14).f0) * x278001)))) == t284) = true then (laws_FnSharedLoads.j2 k x5 x6 x7 x11 x13 x14 (decide (x278000 > (wrap64 (((rd_T28 x5 x14).f0) * x278001)))) true x278000 x278001) else (if x14 < (x7.length : Int) then (if ((rd_T25 x7 x14).f1) < 1 then (laws_FnSharedLoads.j2 k x5 x6 x7 x11 x13 x14 (decide (x278000 > (wrap64 (((rd_T28 x5 x14).f0) * x278001)))) true x278000 x278001) else (if ((rd_T25 x7 x14).f0) < 0 then (laws_FnSharedLoads.j2 k x5 x6 x7 x11 x13 x14 (decide (x278000 > (wrap64 (((rd_T28 x5 x14).f0) * x278001)))) true x278000 x278001) else (laws_FnSharedLoads.j2 k x5 x6 x7 x11 x13 x14 (decide (x278000 > (wrap64 (((rd_T28 x5 x14).f0) * x278001)))) ((decide (((rd_T25 x7 x14).f0) > 0)) != (decide (x278000 > (wrap64 (((rd_T28 x5 x14).f0) * x278001))))) x278000 x278001))) else (none)))) else (none)) else (laws_FnSharedLoads.l1 k x5 x6 x11 x13 0 1 0 x278000 x278001)
def laws_FnSharedLoads.j2 : Nat → List (S28) → Int → List (S25) → List Int → Int → Int → Bool → Bool → Int → Int → Option (Bool)
 | 0, _, _, _, _, _, _, _, _, _, _ => none
 | k + 1, x5, x6, x7, x11, x13, x14, x15, x142, x278000, x278001 => if x142 = true then (some false) else (if x15 = true then (if 0 ≤ x14 then (if x14 < (x5.length : Int) then (laws_FnSharedLoads.l0 k x5 x6 x7 x11 (wrap64 (x13 + ((rd_T28 x5 x14).f1))) (wrap64 (x14 + 1)) x278000 x278001) else (none)) else (none)) else (laws_FnSharedLoads.l0 k x5 x6 x7 x11 x13 (wrap64 (x14 + 1)) x278000 x278001))
def laws_FnSharedLoads.l1 : Nat → List (S28) → Int → List Int → Int → Int → Int → Int → Int → Int → Option (Bool)
 | 0, _, _, _, _, _, _, _, _, _ => none
 | k + 1, x5, x6, x11, x13, x16, x17, x18, x278000, x278001 => if x18 < (x5.length : Int) then ((laws_a2Has.f k x11 x18).bind fun t289 => (if t289 = true then (laws_FnSharedLoads.l1 k x5 x6 x11 x13 x16 x17 (wrap64 (x18 + 1)) x278000 x278001) else (if 0 ≤ x18 then (laws_FnSharedLoads.l1 k x5 x6 x11 x13 (wrap64 ((wrap64 (x16 * ((rd_T28 x5 x18).f0))) + (wrap64 (((rd_T28 x5 x18).f1) * x17)))) (wrap64 (x17 * ((rd_T28 x5 x18).f0))) (wrap64 (x18 + 1)) x278000 x278001) else (none)))) else (if x6 > 0 then ((laws_a2Equal.f (wrap64 (x6 + x13)) x17 x278000 x278001 x16).bind fun t293 => (laws_FnSharedLoads.j4 k x5 (!t293))) else (laws_FnSharedLoads.j4 k x5 false))
def laws_FnSharedLoads.j4 : Nat → List (S28) → Bool → Option (Bool)
 | 0, _, _ => none
 | k + 1, x5, x194 => if x194 = true then (some false) else ((impl_AllBear.f k x5).bind fun bt294 => (if bt294.2 = 0 then (if bt294.1 < 1 then (laws_FnSharedLoads.j5 k x5 bt294.1 true) else (laws_FnSharedLoads.j5 k x5 bt294.1 (decide (bt294.1 > 10000)))) else (some (bt294.2 == 3))))
def laws_FnSharedLoads.j5 : Nat → List (S28) → Int → Bool → Option (Bool)
 | 0, _, _, _ => none
 | k + 1, x5, x19, x209 => if x209 = true then (some false) else ((impl_SlackLines.f k x5 x19).bind fun bt296 => ((impl_SlackLines.f k x5 (wrap64 (x19 - 1))).bind fun bt300 => (if bt296.2 = 0 then (if (bt296.1.length : Int) = 0 then (if bt300.2 = 0 then (some (decide ((bt300.1.length : Int) > 0))) else (some false)) else (some false)) else (some false))))
end
def laws_FnSharedLoads.f (k : Nat) (l0 : List Int) (l1 : List Int) : Option (Bool) := (laws_a2Long.f l0 l1).bind fun t265 => (if t265 = true then (some true) else ((spec_A2Springs.f k l0).bind fun t266 => ((laws_a2At.f l1 0 250).bind fun t269 => ((impl_SharedForces.f k t266 (wrap64 (t269 * 8))).bind fun bt270 => ((impl_SharedLength.f k t266 (wrap64 (t269 * 8))).bind fun bt274 => ((impl_SlackLines.f k t266 (wrap64 (t269 * 8))).bind fun bt278 => (if bt270.2 = 0 then (if (bt270.1.length : Int) = (t266.length : Int) then (if bt274.2.2 = 0 then (if bt274.2.1 < 1 then (laws_FnSharedLoads.j0 k t266 (wrap64 (t269 * 8)) bt270.1 bt278.1 true bt274.1 bt274.2.1) else (if bt274.2.1 > 1000000000000 then (laws_FnSharedLoads.j0 k t266 (wrap64 (t269 * 8)) bt270.1 bt278.1 true bt274.1 bt274.2.1) else (if bt274.1 < 1 then (laws_FnSharedLoads.j0 k t266 (wrap64 (t269 * 8)) bt270.1 bt278.1 true bt274.1 bt274.2.1) else (if bt274.1 > 1000000000000 then (laws_FnSharedLoads.j0 k t266 (wrap64 (t269 * 8)) bt270.1 bt278.1 true bt274.1 bt274.2.1) else (if bt278.2 = 0 then ((laws_a2Rises.f k bt278.1 (t266.length : Int)).bind fun t282 => (laws_FnSharedLoads.j0 k t266 (wrap64 (t269 * 8)) bt270.1 bt278.1 (!t282) bt274.1 bt274.2.1)) else (laws_FnSharedLoads.j0 k t266 (wrap64 (t269 * 8)) bt270.1 bt278.1 true bt274.1 bt274.2.1)))))) else (laws_FnSharedLoads.j0 k t266 (wrap64 (t269 * 8)) bt270.1 bt278.1 true bt274.1 bt274.2.1)) else (laws_FnSharedLoads.j0 k t266 (wrap64 (t269 * 8)) bt270.1 bt278.1 true bt274.1 bt274.2.1)) else (laws_FnSharedLoads.j0 k t266 (wrap64 (t269 * 8)) bt270.1 bt278.1 true bt274.1 bt274.2.1))))))))
theorem laws_FnSharedLoads.mono_l : ∀ k, (∀ y0 y1 y2 y3 y4 y5 y6, LeO (laws_FnSharedLoads.j0 k y0 y1 y2 y3 y4 y5 y6) (laws_FnSharedLoads.j0 (k + 1) y0 y1 y2 y3 y4 y5 y6)) ∧ (∀ y0 y1 y2 y3 y4 y5 y6 y7, LeO (laws_FnSharedLoads.l0 k y0 y1 y2 y3 y4 y5 y6 y7) (laws_FnSharedLoads.l0 (k + 1) y0 y1 y2 y3 y4 y5 y6 y7)) ∧ (∀ y0 y1 y2 y3 y4 y5 y6 y7 y8 y9, LeO (laws_FnSharedLoads.j2 k y0 y1 y2 y3 y4 y5 y6 y7 y8 y9) (laws_FnSharedLoads.j2 (k + 1) y0 y1 y2 y3 y4 y5 y6 y7 y8 y9)) ∧ (∀ y0 y1 y2 y3 y4 y5 y6 y7 y8, LeO (laws_FnSharedLoads.l1 k y0 y1 y2 y3 y4 y5 y6 y7 y8) (laws_FnSharedLoads.l1 (k + 1) y0 y1 y2 y3 y4 y5 y6 y7 y8)) ∧ (∀ y0 y1, LeO (laws_FnSharedLoads.j4 k y0 y1) (laws_FnSharedLoads.j4 (k + 1) y0 y1)) ∧ (∀ y0 y1 y2, LeO (laws_FnSharedLoads.j5 k y0 y1 y2) (laws_FnSharedLoads.j5 (k + 1) y0 y1 y2))
 | 0 => ⟨fun _ _ _ _ _ _ _ r h => by simp [laws_FnSharedLoads.j0] at h, fun _ _ _ _ _ _ _ _ r h => by simp [laws_FnSharedLoads.l0] at h, fun _ _ _ _ _ _ _ _ _ _ r h => by simp [laws_FnSharedLoads.j2] at h, fun _ _ _ _ _ _ _ _ _ r h => by simp [laws_FnSharedLoads.l1] at h, fun _ _ r h => by simp [laws_FnSharedLoads.j4] at h, fun _ _ _ r h => by simp [laws_FnSharedLoads.j5] at h⟩
 | k + 1 => by
  obtain ⟨ih0, ih1, ih2, ih3, ih4, ih5⟩ := laws_FnSharedLoads.mono_l k
  refine ⟨?_, ?_, ?_, ?_, ?_, ?_⟩
  ·
   intro y0 y1 y2 y3 y4 y5 y6
   unfold laws_FnSharedLoads.j0
   repeat' first
   | (with_reducible exact ih0 _ _ _ _ _ _ _)
   | (with_reducible exact ih1 _ _ _ _ _ _ _ _)
   | (with_reducible exact ih2 _ _ _ _ _ _ _ _ _ _)
   | (with_reducible exact ih3 _ _ _ _ _ _ _ _ _)
   | (with_reducible exact ih4 _ _)
   | (with_reducible exact ih5 _ _ _)
   | (with_reducible exact impl_AllBear.mono _ _)
   | (with_reducible exact impl_SharedForces.mono _ _ _)
   | (with_reducible exact impl_SharedLength.mono _ _ _)
   | (with_reducible exact impl_SlackLines.mono _ _ _)
   | (with_reducible exact laws_a2Has.mono _ _ _)
   | (with_reducible exact laws_a2Rises.mono _ _ _)
   | (with_reducible exact spec_A2Springs.mono _ _)
   | (with_reducible exact LeO.refl _)
   | (with_reducible exact LeO.none _)
   | (with_reducible refine LeO.ite ?_ ?_)
   | (with_reducible refine LeO.bind ?_ (fun _ => ?_))
   | exact ih0 _ _ _ _ _ _ _
   | exact ih1 _ _ _ _ _ _ _ _
   | exact ih2 _ _ _ _ _ _ _ _ _ _
   | exact ih3 _ _ _ _ _ _ _ _ _
   | exact ih4 _ _
   | exact ih5 _ _ _
   | exact impl_AllBear.mono _ _
   | exact impl_SharedForces.mono _ _ _
   | exact impl_SharedLength.mono _ _ _
   | exact impl_SlackLines.mono _ _ _
   | exact laws_a2Has.mono _ _ _
   | exact laws_a2Rises.mono _ _ _
   | exact spec_A2Springs.mono _ _
   | exact LeO.none _
   | refine LeO.ite ?_ ?_
   | refine LeO.bind ?_ (fun _ => ?_)
  ·
   intro y0 y1 y2 y3 y4 y5 y6 y7
   unfold laws_FnSharedLoads.l0
   repeat' first
   | (with_reducible exact ih0 _ _ _ _ _ _ _)
   | (with_reducible exact ih1 _ _ _ _ _ _ _ _)
   | (with_reducible exact ih2 _ _ _ _ _ _ _ _ _ _)
   | (with_reducible exact ih3 _ _ _ _ _ _ _ _ _)
   | (with_reducible exact ih4 _ _)
   | (with_reducible exact ih5 _ _ _)
   | (with_reducible exact impl_AllBear.mono _ _)
   | (with_reducible exact impl_SharedForces.mono _ _ _)
   | (with_reducible exact impl_SharedLength.mono _ _ _)
   | (with_reducible exact impl_SlackLines.mono _ _ _)
   | (with_reducible exact laws_a2Has.mono _ _ _)
   | (with_reducible exact laws_a2Rises.mono _ _ _)
   | (with_reducible exact spec_A2Springs.mono _ _)
   | (with_reducible exact LeO.refl _)
   | (with_reducible exact LeO.none _)
   | (with_reducible refine LeO.ite ?_ ?_)
   | (with_reducible refine LeO.bind ?_ (fun _ => ?_))
   | exact ih0 _ _ _ _ _ _ _
   | exact ih1 _ _ _ _ _ _ _ _
   | exact ih2 _ _ _ _ _ _ _ _ _ _
   | exact ih3 _ _ _ _ _ _ _ _ _
   | exact ih4 _ _
   | exact ih5 _ _ _
   | exact impl_AllBear.mono _ _
   | exact impl_SharedForces.mono _ _ _
   | exact impl_SharedLength.mono _ _ _
   | exact impl_SlackLines.mono _ _ _
   | exact laws_a2Has.mono _ _ _
   | exact laws_a2Rises.mono _ _ _
   | exact spec_A2Springs.mono _ _
   | exact LeO.none _
   | refine LeO.ite ?_ ?_
   | refine LeO.bind ?_ (fun _ => ?_)
  ·
   intro y0 y1 y2 y3 y4 y5 y6 y7 y8 y9
   unfold laws_FnSharedLoads.j2
   repeat' first
   | (with_reducible exact ih0 _ _ _ _ _ _ _)
   | (with_reducible exact ih1 _ _ _ _ _ _ _ _)
   | (with_reducible exact ih2 _ _ _ _ _ _ _ _ _ _)
   | (with_reducible exact ih3 _ _ _ _ _ _ _ _ _)
   | (with_reducible exact ih4 _ _)
   | (with_reducible exact ih5 _ _ _)
   | (with_reducible exact impl_AllBear.mono _ _)
   | (with_reducible exact impl_SharedForces.mono _ _ _)
   | (with_reducible exact impl_SharedLength.mono _ _ _)
   | (with_reducible exact impl_SlackLines.mono _ _ _)
   | (with_reducible exact laws_a2Has.mono _ _ _)
   | (with_reducible exact laws_a2Rises.mono _ _ _)
   | (with_reducible exact spec_A2Springs.mono _ _)
   | (with_reducible exact LeO.refl _)
   | (with_reducible exact LeO.none _)
   | (with_reducible refine LeO.ite ?_ ?_)
   | (with_reducible refine LeO.bind ?_ (fun _ => ?_))
   | exact ih0 _ _ _ _ _ _ _
   | exact ih1 _ _ _ _ _ _ _ _
   | exact ih2 _ _ _ _ _ _ _ _ _ _
   | exact ih3 _ _ _ _ _ _ _ _ _
   | exact ih4 _ _
   | exact ih5 _ _ _
   | exact impl_AllBear.mono _ _
   | exact impl_SharedForces.mono _ _ _
   | exact impl_SharedLength.mono _ _ _
   | exact impl_SlackLines.mono _ _ _
   | exact laws_a2Has.mono _ _ _
   | exact laws_a2Rises.mono _ _ _
   | exact spec_A2Springs.mono _ _
   | exact LeO.none _
   | refine LeO.ite ?_ ?_
   | refine LeO.bind ?_ (fun _ => ?_)
  ·
   intro y0 y1 y2 y3 y4 y5 y6 y7 y8
   unfold laws_FnSharedLoads.l1
   repeat' first
   | (with_reducible exact ih0 _ _ _ _ _ _ _)
   | (with_reducible exact ih1 _ _ _ _ _ _ _ _)
   | (with_reducible exact ih2 _ _ _ _ _ _ _ _ _ _)
   | (with_reducible exact ih3 _ _ _ _ _ _ _ _ _)
   | (with_reducible exact ih4 _ _)
   | (with_reducible exact ih5 _ _ _)
   | (with_reducible exact impl_AllBear.mono _ _)
   | (with_reducible exact impl_SharedForces.mono _ _ _)
   | (with_reducible exact impl_SharedLength.mono _ _ _)
   | (with_reducible exact impl_SlackLines.mono _ _ _)
   | (with_reducible exact laws_a2Has.mono _ _ _)
   | (with_reducible exact laws_a2Rises.mono _ _ _)
   | (with_reducible exact spec_A2Springs.mono _ _)
   | (with_reducible exact LeO.refl _)
   | (with_reducible exact LeO.none _)
   | (with_reducible refine LeO.ite ?_ ?_)
   | (with_reducible refine LeO.bind ?_ (fun _ => ?_))
   | exact ih0 _ _ _ _ _ _ _
   | exact ih1 _ _ _ _ _ _ _ _
   | exact ih2 _ _ _ _ _ _ _ _ _ _
   | exact ih3 _ _ _ _ _ _ _ _ _
   | exact ih4 _ _
   | exact ih5 _ _ _
   | exact impl_AllBear.mono _ _
   | exact impl_SharedForces.mono _ _ _
   | exact impl_SharedLength.mono _ _ _
   | exact impl_SlackLines.mono _ _ _
   | exact laws_a2Has.mono _ _ _
   | exact laws_a2Rises.mono _ _ _
   | exact spec_A2Springs.mono _ _
   | exact LeO.none _
   | refine LeO.ite ?_ ?_
   | refine LeO.bind ?_ (fun _ => ?_)
  ·
   intro y0 y1
   unfold laws_FnSharedLoads.j4
   repeat' first
   | (with_reducible exact ih0 _ _ _ _ _ _ _)
   | (with_reducible exact ih1 _ _ _ _ _ _ _ _)
   | (with_reducible exact ih2 _ _ _ _ _ _ _ _ _ _)
   | (with_reducible exact ih3 _ _ _ _ _ _ _ _ _)
   | (with_reducible exact ih4 _ _)
   | (with_reducible exact ih5 _ _ _)
   | (with_reducible exact impl_AllBear.mono _ _)
   | (with_reducible exact impl_SharedForces.mono _ _ _)
   | (with_reducible exact impl_SharedLength.mono _ _ _)
   | (with_reducible exact impl_SlackLines.mono _ _ _)
   | (with_reducible exact laws_a2Has.mono _ _ _)
   | (with_reducible exact laws_a2Rises.mono _ _ _)
   | (with_reducible exact spec_A2Springs.mono _ _)
   | (with_reducible exact LeO.refl _)
   | (with_reducible exact LeO.none _)
   | (with_reducible refine LeO.ite ?_ ?_)
   | (with_reducible refine LeO.bind ?_ (fun _ => ?_))
   | exact ih0 _ _ _ _ _ _ _
   | exact ih1 _ _ _ _ _ _ _ _
   | exact ih2 _ _ _ _ _ _ _ _ _ _
   | exact ih3 _ _ _ _ _ _ _ _ _
   | exact ih4 _ _
   | exact ih5 _ _ _
   | exact impl_AllBear.mono _ _
   | exact impl_SharedForces.mono _ _ _
   | exact impl_SharedLength.mono _ _ _
   | exact impl_SlackLines.mono _ _ _
   | exact laws_a2Has.mono _ _ _
   | exact laws_a2Rises.mono _ _ _
   | exact spec_A2Springs.mono _ _
   | exact LeO.none _
   | refine LeO.ite ?_ ?_
   | refine LeO.bind ?_ (fun _ => ?_)
  ·
   intro y0 y1 y2
   unfold laws_FnSharedLoads.j5
   repeat' first
   | (with_reducible exact ih0 _ _ _ _ _ _ _)
   | (with_reducible exact ih1 _ _ _ _ _ _ _ _)
   | (with_reducible exact ih2 _ _ _ _ _ _ _ _ _ _)
   | (with_reducible exact ih3 _ _ _ _ _ _ _ _ _)
   | (with_reducible exact ih4 _ _)
   | (with_reducible exact ih5 _ _ _)
   | (with_reducible exact impl_AllBear.mono _ _)
   | (with_reducible exact impl_SharedForces.mono _ _ _)
   | (with_reducible exact impl_SharedLength.mono _ _ _)
   | (with_reducible exact impl_SlackLines.mono _ _ _)
   | (with_reducible exact laws_a2Has.mono _ _ _)
   | (with_reducible exact laws_a2Rises.mono _ _ _)
   | (with_reducible exact spec_A2Springs.mono _ _)
   | (with_reducible exact LeO.refl _)
   | (with_reducible exact LeO.none _)
   | (with_reducible refine LeO.ite ?_ ?_)
   | (with_reducible refine LeO.bind ?_ (fun _ => ?_))
   | exact ih0 _ _ _ _ _ _ _
   | exact ih1 _ _ _ _ _ _ _ _
   | exact ih2 _ _ _ _ _ _ _ _ _ _
   | exact ih3 _ _ _ _ _ _ _ _ _
   | exact ih4 _ _
   | exact ih5 _ _ _
   | exact impl_AllBear.mono _ _
   | exact impl_SharedForces.mono _ _ _
   | exact impl_SharedLength.mono _ _ _
   | exact impl_SlackLines.mono _ _ _
   | exact laws_a2Has.mono _ _ _
   | exact laws_a2Rises.mono _ _ _
   | exact spec_A2Springs.mono _ _
   | exact LeO.none _
   | refine LeO.ite ?_ ?_
   | refine LeO.bind ?_ (fun _ => ?_)
theorem laws_FnSharedLoads.mono : ∀ a0 a1 k, LeO (laws_FnSharedLoads.f k a0 a1) (laws_FnSharedLoads.f (k + 1) a0 a1) := by
 intro a0 a1 k
 obtain ⟨ih0, ih1, ih2, ih3, ih4, ih5⟩ := laws_FnSharedLoads.mono_l k
 unfold laws_FnSharedLoads.f
 repeat' first
   | (with_reducible exact ih0 _ _ _ _ _ _ _)
   | (with_reducible exact ih1 _ _ _ _ _ _ _ _)
   | (with_reducible exact ih2 _ _ _ _ _ _ _ _ _ _)
   | (with_reducible exact ih3 _ _ _ _ _ _ _ _ _)
   | (with_reducible exact ih4 _ _)
   | (with_reducible exact ih5 _ _ _)
   | (with_reducible exact impl_AllBear.mono _ _)
   | (with_reducible exact impl_SharedForces.mono _ _ _)
   | (with_reducible exact impl_SharedLength.mono _ _ _)
   | (with_reducible exact impl_SlackLines.mono _ _ _)
   | (with_reducible exact laws_a2Has.mono _ _ _)
   | (with_reducible exact laws_a2Rises.mono _ _ _)
   | (with_reducible exact spec_A2Springs.mono _ _)
   | (with_reducible exact LeO.refl _)
   | (with_reducible exact LeO.none _)
   | (with_reducible refine LeO.ite ?_ ?_)
   | (with_reducible refine LeO.bind ?_ (fun _ => ?_))
   | exact ih0 _ _ _ _ _ _ _
   | exact ih1 _ _ _ _ _ _ _ _
   | exact ih2 _ _ _ _ _ _ _ _ _ _
   | exact ih3 _ _ _ _ _ _ _ _ _
   | exact ih4 _ _
   | exact ih5 _ _ _
   | exact impl_AllBear.mono _ _
   | exact impl_SharedForces.mono _ _ _
   | exact impl_SharedLength.mono _ _ _
   | exact impl_SlackLines.mono _ _ _
   | exact laws_a2Has.mono _ _ _
   | exact laws_a2Rises.mono _ _ _
   | exact spec_A2Springs.mono _ _
   | exact LeO.none _
   | refine LeO.ite ?_ ?_
   | refine LeO.bind ?_ (fun _ => ?_)
set_option maxHeartbeats 8000000 in
set_option maxRecDepth 100000 in
theorem laws_FnSharedLoads.calls (k : Nat) (A0 : Option Addr) (c0 : Nat) (l0 : List Int) (A1 : Option Addr) (c1 : Nat) (l1 : List Int) (r : Bool) (w : World) (hr0 : Kd.C (Kd.int .u8) w A0 l0.length l0) (hc0 : l0.length ≤ c0) (hr1 : Kd.C (Kd.int .u8) w A1 l1.length l1) (hc1 : l1.length ≤ c1) (h : laws_FnSharedLoads.f k l0 l1 = some r) :
  Calls Try.prog 11 #[.slice A0 l0.length c0, .slice A1 l1.length c1] w fun e w' => e = .returned (.bool r) ∧ Below w.heap.size w w' := by
 have hu25 := Try.underlying25
 have HR0 := aS hr0
 have HC0 := aS hc0
 clear hr0 hc0
 have HR1 := aS hr1
 have HC1 := aS hc1
 clear hr1 hc1
 have HB := aS (Below.refl w.heap.size w)
 have H : ((laws_a2Long.f l0 l1).bind fun t265 => (if t265 = true then (some true) else ((spec_A2Springs.f k l0).bind fun t266 => ((laws_a2At.f l1 0 250).bind fun t269 => ((impl_SharedForces.f k t266 (wrap64 (t269 * 8))).bind fun bt270 => ((impl_SharedLength.f k t266 (wrap64 (t269 * 8))).bind fun bt274 => ((impl_SlackLines.f k t266 (wrap64 (t269 * 8))).bind fun bt278 => (if bt270.2 = 0 then (if (bt270.1.length : Int) = (t266.length : Int) then (if bt274.2.2 = 0 then (if bt274.2.1 < 1 then (laws_FnSharedLoads.j0 k t266 (wrap64 (t269 * 8)) bt270.1 bt278.1 true bt274.1 bt274.2.1) else (if bt274.2.1 > 1000000000000 then (laws_FnSharedLoads.j0 k t266 (wrap64 (t269 * 8)) bt270.1 bt278.1 true bt274.1 bt274.2.1) else (if bt274.1 < 1 then (laws_FnSharedLoads.j0 k t266 (wrap64 (t269 * 8)) bt270.1 bt278.1 true bt274.1 bt274.2.1) else (if bt274.1 > 1000000000000 then (laws_FnSharedLoads.j0 k t266 (wrap64 (t269 * 8)) bt270.1 bt278.1 true bt274.1 bt274.2.1) else (if bt278.2 = 0 then ((laws_a2Rises.f k bt278.1 (t266.length : Int)).bind fun t282 => (laws_FnSharedLoads.j0 k t266 (wrap64 (t269 * 8)) bt270.1 bt278.1 (!t282) bt274.1 bt274.2.1)) else (laws_FnSharedLoads.j0 k t266 (wrap64 (t269 * 8)) bt270.1 bt278.1 true bt274.1 bt274.2.1)))))) else (laws_FnSharedLoads.j0 k t266 (wrap64 (t269 * 8)) bt270.1 bt278.1 true bt274.1 bt274.2.1)) else (laws_FnSharedLoads.j0 k t266 (wrap64 (t269 * 8)) bt270.1 bt278.1 true bt274.1 bt274.2.1)) else (laws_FnSharedLoads.j0 k t266 (wrap64 (t269 * 8)) bt270.1 bt278.1 true bt274.1 bt274.2.1))))))))) = some r := h
 clear h
 replace H := Option.bind_eq_some_iff.mp H
 obtain ⟨t265, A30, H⟩ := H
 replace H : (if t265 = true then (some true) else ((spec_A2Springs.f k l0).bind fun t266 => ((laws_a2At.f l1 0 250).bind fun t269 => ((impl_SharedForces.f k t266 (wrap64 (t269 * 8))).bind fun bt270 => ((impl_SharedLength.f k t266 (wrap64 (t269 * 8))).bind fun bt274 => ((impl_SlackLines.f k t266 (wrap64 (t269 * 8))).bind fun bt278 => (if bt270.2 = 0 then (if (bt270.1.length : Int) = (t266.length : Int) then (if bt274.2.2 = 0 then (if bt274.2.1 < 1 then (laws_FnSharedLoads.j0 k t266 (wrap64 (t269 * 8)) bt270.1 bt278.1 true bt274.1 bt274.2.1) else (if bt274.2.1 > 1000000000000 then (laws_FnSharedLoads.j0 k t266 (wrap64 (t269 * 8)) bt270.1 bt278.1 true bt274.1 bt274.2.1) else (if bt274.1 < 1 then (laws_FnSharedLoads.j0 k t266 (wrap64 (t269 * 8)) bt270.1 bt278.1 true bt274.1 bt274.2.1) else (if bt274.1 > 1000000000000 then (laws_FnSharedLoads.j0 k t266 (wrap64 (t269 * 8)) bt270.1 bt278.1 true bt274.1 bt274.2.1) else (if bt278.2 = 0 then ((laws_a2Rises.f k bt278.1 (t266.length : Int)).bind fun t282 => (laws_FnSharedLoads.j0 k t266 (wrap64 (t269 * 8)) bt270.1 bt278.1 (!t282) bt274.1 bt274.2.1)) else (laws_FnSharedLoads.j0 k t266 (wrap64 (t269 * 8)) bt270.1 bt278.1 true bt274.1 bt274.2.1)))))) else (laws_FnSharedLoads.j0 k t266 (wrap64 (t269 * 8)) bt270.1 bt278.1 true bt274.1 bt274.2.1)) else (laws_FnSharedLoads.j0 k t266 (wrap64 (t269 * 8)) bt270.1 bt278.1 true bt274.1 bt274.2.1)) else (laws_FnSharedLoads.j0 k t266 (wrap64 (t269 * 8)) bt270.1 bt278.1 true bt274.1 bt274.2.1)))))))) = some r := H
 have A3 := aS A30
 clear A30
 have HC4 := aS H
 clear H
 go_enter Try.func11, Try.ntmps11
 go_upto_if 27 with (first | (go_at_call 18; (with_reducible refine (laws_a2Long.calls _ _ l0 _ _ l1 t265 _ ?side1 ?side2 ?side3 ?side4 A3.out).mono ?_); (case side1 => exact sC HR0.out); (case side2 => exact HC0.out); (case side3 => exact sC HR1.out); (case side4 => exact HC1.out); rintro e w' ⟨rfl, ⟨nd, rfl⟩⟩; (try first | exact ⟨rfl, _, World.drewN_drewN _ _ _⟩ | exact ⟨rfl, _, Eq.trans (World.drewN_drewN _ _ _) (congrArg (World.drewN _) (Nat.add_assoc _ _ _))⟩)))
 repeat (go_quiet (first | (go_at_call 18; (with_reducible refine (laws_a2Long.calls _ _ l0 _ _ l1 t265 _ ?side1 ?side2 ?side3 ?side4 A3.out).mono ?_); (case side1 => exact sC HR0.out); (case side2 => exact HC0.out); (case side3 => exact sC HR1.out); (case side4 => exact HC1.out); rintro e w' ⟨rfl, ⟨nd, rfl⟩⟩; (try first | exact ⟨rfl, _, World.drewN_drewN _ _ _⟩ | exact ⟨rfl, _, Eq.trans (World.drewN_drewN _ _ _) (congrArg (World.drewN _) (Nat.add_assoc _ _ _))⟩))); go_upto_if 27 with (first | (go_at_call 18; (with_reducible refine (laws_a2Long.calls _ _ l0 _ _ l1 t265 _ ?side1 ?side2 ?side3 ?side4 A3.out).mono ?_); (case side1 => exact sC HR0.out); (case side2 => exact HC0.out); (case side3 => exact sC HR1.out); (case side4 => exact HC1.out); rintro e w' ⟨rfl, ⟨nd, rfl⟩⟩; (try first | exact ⟨rfl, _, World.drewN_drewN _ _ _⟩ | exact ⟨rfl, _, Eq.trans (World.drewN_drewN _ _ _) (congrArg (World.drewN _) (Nat.add_assoc _ _ _))⟩))))
 (try simp only [Act.put, List.setIfInBounds_toArray, List.set_cons_zero, List.set_cons_succ])
 have H := HC4.out
 clear HC4
 by_cases c5 : t265 = true
 ·
  subst c5
  have H1 : (some true) = some r := by rw [if_pos rfl] at H; exact H
  clear H
  have H := H1
  clear H1
  obtain rfl := Option.some.inj H
  go_wp2
  repeat (go_quiet (fail); try go_wp2)
  go_ret
  exact ⟨by first | rfl | (simp [errW_none, errW_some, i64_w]; done) | (simp [errW_none, errW_some] <;> rfl) | (simp [*, errW_none, errW_some] <;> rfl), by repeat (first | (with_reducible first | exact HB.out | apply below_alloc | apply pw_below_drewN | apply below_drew1) | exact HB.out)⟩
 ·
  replace c5 := Bool.eq_false_iff.mpr c5
  subst c5
  have H1 : ((spec_A2Springs.f k l0).bind fun t266 => ((laws_a2At.f l1 0 250).bind fun t269 => ((impl_SharedForces.f k t266 (wrap64 (t269 * 8))).bind fun bt270 => ((impl_SharedLength.f k t266 (wrap64 (t269 * 8))).bind fun bt274 => ((impl_SlackLines.f k t266 (wrap64 (t269 * 8))).bind fun bt278 => (if bt270.2 = 0 then (if (bt270.1.length : Int) = (t266.length : Int) then (if bt274.2.2 = 0 then (if bt274.2.1 < 1 then (laws_FnSharedLoads.j0 k t266 (wrap64 (t269 * 8)) bt270.1 bt278.1 true bt274.1 bt274.2.1) else (if bt274.2.1 > 1000000000000 then (laws_FnSharedLoads.j0 k t266 (wrap64 (t269 * 8)) bt270.1 bt278.1 true bt274.1 bt274.2.1) else (if bt274.1 < 1 then (laws_FnSharedLoads.j0 k t266 (wrap64 (t269 * 8)) bt270.1 bt278.1 true bt274.1 bt274.2.1) else (if bt274.1 > 1000000000000 then (laws_FnSharedLoads.j0 k t266 (wrap64 (t269 * 8)) bt270.1 bt278.1 true bt274.1 bt274.2.1) else (if bt278.2 = 0 then ((laws_a2Rises.f k bt278.1 (t266.length : Int)).bind fun t282 => (laws_FnSharedLoads.j0 k t266 (wrap64 (t269 * 8)) bt270.1 bt278.1 (!t282) bt274.1 bt274.2.1)) else (laws_FnSharedLoads.j0 k t266 (wrap64 (t269 * 8)) bt270.1 bt278.1 true bt274.1 bt274.2.1)))))) else (laws_FnSharedLoads.j0 k t266 (wrap64 (t269 * 8)) bt270.1 bt278.1 true bt274.1 bt274.2.1)) else (laws_FnSharedLoads.j0 k t266 (wrap64 (t269 * 8)) bt270.1 bt278.1 true bt274.1 bt274.2.1)) else (laws_FnSharedLoads.j0 k t266 (wrap64 (t269 * 8)) bt270.1 bt278.1 true bt274.1 bt274.2.1))))))) = some r := by rw [if_neg (show ¬ (false = true) by decide)] at H; exact H
  clear H
  have H := H1
  clear H1
  replace H := Option.bind_eq_some_iff.mp H
  obtain ⟨t266, A60, H⟩ := H
  replace H : ((laws_a2At.f l1 0 250).bind fun t269 => ((impl_SharedForces.f k t266 (wrap64 (t269 * 8))).bind fun bt270 => ((impl_SharedLength.f k t266 (wrap64 (t269 * 8))).bind fun bt274 => ((impl_SlackLines.f k t266 (wrap64 (t269 * 8))).bind fun bt278 => (if bt270.2 = 0 then (if (bt270.1.length : Int) = (t266.length : Int) then (if bt274.2.2 = 0 then (if bt274.2.1 < 1 then (laws_FnSharedLoads.j0 k t266 (wrap64 (t269 * 8)) bt270.1 bt278.1 true bt274.1 bt274.2.1) else (if bt274.2.1 > 1000000000000 then (laws_FnSharedLoads.j0 k t266 (wrap64 (t269 * 8)) bt270.1 bt278.1 true bt274.1 bt274.2.1) else (if bt274.1 < 1 then (laws_FnSharedLoads.j0 k t266 (wrap64 (t269 * 8)) bt270.1 bt278.1 true bt274.1 bt274.2.1) else (if bt274.1 > 1000000000000 then (laws_FnSharedLoads.j0 k t266 (wrap64 (t269 * 8)) bt270.1 bt278.1 true bt274.1 bt274.2.1) else (if bt278.2 = 0 then ((laws_a2Rises.f k bt278.1 (t266.length : Int)).bind fun t282 => (laws_FnSharedLoads.j0 k t266 (wrap64 (t269 * 8)) bt270.1 bt278.1 (!t282) bt274.1 bt274.2.1)) else (laws_FnSharedLoads.j0 k t266 (wrap64 (t269 * 8)) bt270.1 bt278.1 true bt274.1 bt274.2.1)))))) else (laws_FnSharedLoads.j0 k t266 (wrap64 (t269 * 8)) bt270.1 bt278.1 true bt274.1 bt274.2.1)) else (laws_FnSharedLoads.j0 k t266 (wrap64 (t269 * 8)) bt270.1 bt278.1 true bt274.1 bt274.2.1)) else (laws_FnSharedLoads.j0 k t266 (wrap64 (t269 * 8)) bt270.1 bt278.1 true bt274.1 bt274.2.1)))))) = some r := H
  have A6 := aS A60
  clear A60
  replace H := Option.bind_eq_some_iff.mp H
  obtain ⟨t269, A70, H⟩ := H
  replace H : ((impl_SharedForces.f k t266 (wrap64 (t269 * 8))).bind fun bt270 => ((impl_SharedLength.f k t266 (wrap64 (t269 * 8))).bind fun bt274 => ((impl_SlackLines.f k t266 (wrap64 (t269 * 8))).bind fun bt278 => (if bt270.2 = 0 then (if (bt270.1.length : Int) = (t266.length : Int) then (if bt274.2.2 = 0 then (if bt274.2.1 < 1 then (laws_FnSharedLoads.j0 k t266 (wrap64 (t269 * 8)) bt270.1 bt278.1 true bt274.1 bt274.2.1) else (if bt274.2.1 > 1000000000000 then (laws_FnSharedLoads.j0 k t266 (wrap64 (t269 * 8)) bt270.1 bt278.1 true bt274.1 bt274.2.1) else (if bt274.1 < 1 then (laws_FnSharedLoads.j0 k t266 (wrap64 (t269 * 8)) bt270.1 bt278.1 true bt274.1 bt274.2.1) else (if bt274.1 > 1000000000000 then (laws_FnSharedLoads.j0 k t266 (wrap64 (t269 * 8)) bt270.1 bt278.1 true bt274.1 bt274.2.1) else (if bt278.2 = 0 then ((laws_a2Rises.f k bt278.1 (t266.length : Int)).bind fun t282 => (laws_FnSharedLoads.j0 k t266 (wrap64 (t269 * 8)) bt270.1 bt278.1 (!t282) bt274.1 bt274.2.1)) else (laws_FnSharedLoads.j0 k t266 (wrap64 (t269 * 8)) bt270.1 bt278.1 true bt274.1 bt274.2.1)))))) else (laws_FnSharedLoads.j0 k t266 (wrap64 (t269 * 8)) bt270.1 bt278.1 true bt274.1 bt274.2.1)) else (laws_FnSharedLoads.j0 k t266 (wrap64 (t269 * 8)) bt270.1 bt278.1 true bt274.1 bt274.2.1)) else (laws_FnSharedLoads.j0 k t266 (wrap64 (t269 * 8)) bt270.1 bt278.1 true bt274.1 bt274.2.1))))) = some r := H
  have A7 := aS A70
  clear A70
  replace H := Option.bind_eq_some_iff.mp H
  obtain ⟨⟨t270, t271⟩, A80, H⟩ := H
  replace H : ((impl_SharedLength.f k t266 (wrap64 (t269 * 8))).bind fun bt274 => ((impl_SlackLines.f k t266 (wrap64 (t269 * 8))).bind fun bt278 => (if t271 = 0 then (if (t270.length : Int) = (t266.length : Int) then (if bt274.2.2 = 0 then (if bt274.2.1 < 1 then (laws_FnSharedLoads.j0 k t266 (wrap64 (t269 * 8)) t270 bt278.1 true bt274.1 bt274.2.1) else (if bt274.2.1 > 1000000000000 then (laws_FnSharedLoads.j0 k t266 (wrap64 (t269 * 8)) t270 bt278.1 true bt274.1 bt274.2.1) else (if bt274.1 < 1 then (laws_FnSharedLoads.j0 k t266 (wrap64 (t269 * 8)) t270 bt278.1 true bt274.1 bt274.2.1) else (if bt274.1 > 1000000000000 then (laws_FnSharedLoads.j0 k t266 (wrap64 (t269 * 8)) t270 bt278.1 true bt274.1 bt274.2.1) else (if bt278.2 = 0 then ((laws_a2Rises.f k bt278.1 (t266.length : Int)).bind fun t282 => (laws_FnSharedLoads.j0 k t266 (wrap64 (t269 * 8)) t270 bt278.1 (!t282) bt274.1 bt274.2.1)) else (laws_FnSharedLoads.j0 k t266 (wrap64 (t269 * 8)) t270 bt278.1 true bt274.1 bt274.2.1)))))) else (laws_FnSharedLoads.j0 k t266 (wrap64 (t269 * 8)) t270 bt278.1 true bt274.1 bt274.2.1)) else (laws_FnSharedLoads.j0 k t266 (wrap64 (t269 * 8)) t270 bt278.1 true bt274.1 bt274.2.1)) else (laws_FnSharedLoads.j0 k t266 (wrap64 (t269 * 8)) t270 bt278.1 true bt274.1 bt274.2.1)))) = some r := H
  have A8 := aS A80
  clear A80
  replace H := Option.bind_eq_some_iff.mp H
  obtain ⟨⟨t274, t275, t276⟩, A90, H⟩ := H
  replace H : ((impl_SlackLines.f k t266 (wrap64 (t269 * 8))).bind fun bt278 => (if t271 = 0 then (if (t270.length : Int) = (t266.length : Int) then (if t276 = 0 then (if t275 < 1 then (laws_FnSharedLoads.j0 k t266 (wrap64 (t269 * 8)) t270 bt278.1 true t274 t275) else (if t275 > 1000000000000 then (laws_FnSharedLoads.j0 k t266 (wrap64 (t269 * 8)) t270 bt278.1 true t274 t275) else (if t274 < 1 then (laws_FnSharedLoads.j0 k t266 (wrap64 (t269 * 8)) t270 bt278.1 true t274 t275) else (if t274 > 1000000000000 then (laws_FnSharedLoads.j0 k t266 (wrap64 (t269 * 8)) t270 bt278.1 true t274 t275) else (if bt278.2 = 0 then ((laws_a2Rises.f k bt278.1 (t266.length : Int)).bind fun t282 => (laws_FnSharedLoads.j0 k t266 (wrap64 (t269 * 8)) t270 bt278.1 (!t282) t274 t275)) else (laws_FnSharedLoads.j0 k t266 (wrap64 (t269 * 8)) t270 bt278.1 true t274 t275)))))) else (laws_FnSharedLoads.j0 k t266 (wrap64 (t269 * 8)) t270 bt278.1 true t274 t275)) else (laws_FnSharedLoads.j0 k t266 (wrap64 (t269 * 8)) t270 bt278.1 true t274 t275)) else (laws_FnSharedLoads.j0 k t266 (wrap64 (t269 * 8)) t270 bt278.1 true t274 t275))) = some r := H
  have A9 := aS A90
  clear A90
  replace H := Option.bind_eq_some_iff.mp H
  obtain ⟨⟨t278, t279⟩, A100, H⟩ := H
  replace H : (if t271 = 0 then (if (t270.length : Int) = (t266.length : Int) then (if t276 = 0 then (if t275 < 1 then (laws_FnSharedLoads.j0 k t266 (wrap64 (t269 * 8)) t270 t278 true t274 t275) else (if t275 > 1000000000000 then (laws_FnSharedLoads.j0 k t266 (wrap64 (t269 * 8)) t270 t278 true t274 t275) else (if t274 < 1 then (laws_FnSharedLoads.j0 k t266 (wrap64 (t269 * 8)) t270 t278 true t274 t275) else (if t274 > 1000000000000 then (laws_FnSharedLoads.j0 k t266 (wrap64 (t269 * 8)) t270 t278 true t274 t275) else (if t279 = 0 then ((laws_a2Rises.f k t278 (t266.length : Int)).bind fun t282 => (laws_FnSharedLoads.j0 k t266 (wrap64 (t269 * 8)) t270 t278 (!t282) t274 t275)) else (laws_FnSharedLoads.j0 k t266 (wrap64 (t269 * 8)) t270 t278 true t274 t275)))))) else (laws_FnSharedLoads.j0 k t266 (wrap64 (t269 * 8)) t270 t278 true t274 t275)) else (laws_FnSharedLoads.j0 k t266 (wrap64 (t269 * 8)) t270 t278 true t274 t275)) else (laws_FnSharedLoads.j0 k t266 (wrap64 (t269 * 8)) t270 t278 true t274 t275)) = some r := H
  have A10 := aS A100
  clear A100
  have HC11 := aS H
  clear H
  go_upto_region 8 with (first | (go_at_call 19; (with_reducible refine (spec_A2Springs.calls k _ _ l0 t266 _ ?side1 ?side2 A6.out).mono ?_); (case side1 => exact sC (Kd.C_below HR0.out HB.out)); (case side2 => exact HC0.out); rintro e w12 ⟨v267, rfl, ho0, hb⟩; have n0_ := aS (Kd.R_lower ho0 (below_size (sW HB.out))); have n1_ := aS (below_step (sW HB.out) hb); clear HB; have HO268 := n0_; have HB := n1_; clear n0_ n1_; (try clear hb); (try clear hb2); (try clear hk); (try clear hi); (try clear ho0)) | (go_at_call 20; (with_reducible refine (laws_a2At.calls _ _ l1 0 250 t269 _ ?side1 ?side2 A7.out).mono ?_); (case side1 => exact sC (Kd.C_below HR1.out HB.out)); (case side2 => exact HC1.out); rintro e w' ⟨rfl, ⟨nd, rfl⟩⟩; (try first | exact ⟨rfl, _, World.drewN_drewN _ _ _⟩ | exact ⟨rfl, _, Eq.trans (World.drewN_drewN _ _ _) (congrArg (World.drewN _) (Nat.add_assoc _ _ _))⟩); obtain ⟨Ao13, co13, eo13⟩ := Kd.R_slice HO268.out; subst eo13) | (go_at_call 38; (with_reducible refine (impl_SharedForces.calls k _ _ t266 (wrap64 (t269 * 8)) t270 t271 _ ?side1 ?side2 A8.out).mono ?_); (case side1 => exact sC (Kd.R_reads' HO268.out).2.2); (case side2 => exact (Kd.R_reads' HO268.out).2.1); rintro e w14 ⟨v272, rfl, ho0, hb⟩; have n0_ := aS (Kd.R_below (sR HO268.out) hb); have n1_ := aS (Kd.R_lower ho0 (below_size (sW HB.out))); have n2_ := aS (below_step (sW HB.out) hb); clear HO268 HB; have HO268 := n0_; have HO273 := n1_; have HB := n2_; clear n0_ n1_ n2_; (try clear hb); (try clear hb2); (try clear hk); (try clear hi); (try clear ho0)) | (go_at_call 30; (with_reducible refine (impl_SharedLength.calls k _ _ t266 (wrap64 (t269 * 8)) t274 t275 t276 _ ?side1 ?side2 A9.out).mono ?_); (case side1 => exact sC (Kd.R_reads' HO268.out).2.2); (case side2 => exact (Kd.R_reads' HO268.out).2.1); rintro e w15 ⟨rfl, hb⟩; have n0_ := aS (Kd.R_below (sR HO268.out) hb); have n1_ := aS (Kd.R_below (sR HO273.out) hb); have n2_ := aS (below_step (sW HB.out) hb); clear HO268 HO273 HB; have HO268 := n0_; have HO273 := n1_; have HB := n2_; clear n0_ n1_ n2_; (try clear hb); (try clear hb2); (try clear hk); (try clear hi)) | ((with_reducible refine gate_dst (N := 9) rfl ?_); (try (refine gate_guard (by rfl) ?_; dsimp only)); refine box_event ?hg (N := 9) ?hd (cs := #[.int .i64 0, .int .i64 0]) (t := 25) ?hr ?_; (case hd => rfl); (case hg => rfl); (case hr => first | (go_simp; done) | (go_simp; rfl)); intro gb277 hg w16 hbox hb; have n0_ := aS (Kd.R_below (sR HO268.out) hb); have n1_ := aS (Kd.R_below (Kd.R_elderB (sR HO273.out) gb277 (Nat.le_of_eq hg.symm)) hb); have n2_ := aS (below_step (sW HB.out) hb); have n3_ := aS (hbox); have n4_ := aS ((by rw [hg]; exact (below_size (sW HB.out)) : w.heap.size ≤ gb277)); have n5_ := aS ((by rw [hg]; exact (below_size (sW HB.out)) : w.heap.size ≤ gb277)); clear HO268 HO273 HB; have HO268 := n0_; have HO273 := n1_; have HB := n2_; have BK277 := n3_; have GW277 := n4_; have GE277 := n5_; clear n0_ n1_ n2_ n3_ n4_ n5_; clear hb hbox hg; have hcz17_0 : w16.cell? ⟨gb277, 0, none⟩ = some (.int .i64 0) := (blk_cell BK277.out 0).trans rfl; have hcz17_1 : w16.cell? ⟨gb277, 1, none⟩ = some (.int .i64 0) := (blk_cell BK277.out 1).trans rfl; have hfz17_0 := blk_frozen BK277.out 0; have hfz17_1 := blk_frozen BK277.out 1) | (go_at_call 32; (with_reducible refine (impl_SlackLines.calls k _ _ t266 (wrap64 (t269 * 8)) t278 t279 _ ?side1 ?side2 A10.out).mono ?_); (case side1 => refine (Kd.R_reads' (e := 28) (base := w.heap.size) (ok := fun k_ => True) (n := t266.length) (c := co13) ?_).2.2; exact (sR (Kd.R_mono (Kd.R_far (p := ⟨gb277, 1, none⟩) (Kd.R_far (p := ⟨gb277, 0, none⟩) (Kd.R_types HO268.out BK277.out (by decide)) (fun _ hk => hk.2) (.int .i64 t274)) (fun _ hk => hk.2) (.int .i64 t275)) (fun _ h_ => h_.1)))); (case side2 => exact (Kd.R_reads' HO268.out).2.1); rintro e w18 ⟨v280, rfl, ho0, hb⟩; have n0_ := aS (Kd.R_below (sR (Kd.R_mono (Kd.R_far (p := ⟨gb277, 1, none⟩) (Kd.R_far (p := ⟨gb277, 0, none⟩) (Kd.R_types HO268.out BK277.out (by decide)) (fun _ hk => hk.2) (.int .i64 t274)) (fun _ hk => hk.2) (.int .i64 t275)) (fun _ h_ => h_.1))) hb); have n1_ := aS (Kd.R_below (sR (Kd.R_mono (Kd.R_far (p := ⟨gb277, 1, none⟩) (Kd.R_far (p := ⟨gb277, 0, none⟩) (Kd.R_mono HO273.out (fun k_ hk => (⟨hk, hk.2⟩ : _ ∧ k_ ≠ gb277))) (fun _ hk => hk.2) (.int .i64 t274)) (fun _ hk => hk.2) (.int .i64 t275)) (fun _ h_ => h_.1))) hb); have n2_ := aS (Kd.R_lower ho0 (below_size (sW HB.out))); have n3_ := aS (blk_below (g := gb277) (o := .cells #[.int .i64 t274, .int .i64 t275] 25 (0, 0)) (by (with_reducible repeat (first | refine blk_drewN ?_ _ | refine blk_drew ?_ | refine blk_alloc ?_ _)); refine blk_put (cs := #[.int .i64 t274, .int .i64 0]) ?_ 1 _ rfl; (with_reducible repeat (first | refine blk_drewN ?_ _ | refine blk_drew ?_ | refine blk_alloc ?_ _)); refine blk_put (cs := #[.int .i64 0, .int .i64 0]) ?_ 0 _ rfl; (with_reducible repeat (first | refine blk_drewN ?_ _ | refine blk_drew ?_ | refine blk_alloc ?_ _)); exact BK277.out) hb); have n4_ := aS (below_step (sW HB.out) hb); clear HO268 HO273 BK277 HB; have HO268 := n0_; have HO273 := n1_; have HO281 := n2_; have BK277 := n3_; have HB := n4_; clear n0_ n1_ n2_ n3_ n4_; (try clear hb); (try clear hb2); (try clear hk); (try clear hi); (try clear ho0)))
  repeat (go_quiet (first | (go_at_call 19; (with_reducible refine (spec_A2Springs.calls k _ _ l0 t266 _ ?side1 ?side2 A6.out).mono ?_); (case side1 => exact sC (Kd.C_below HR0.out HB.out)); (case side2 => exact HC0.out); rintro e w12 ⟨v267, rfl, ho0, hb⟩; have n0_ := aS (Kd.R_lower ho0 (below_size (sW HB.out))); have n1_ := aS (below_step (sW HB.out) hb); clear HB; have HO268 := n0_; have HB := n1_; clear n0_ n1_; (try clear hb); (try clear hb2); (try clear hk); (try clear hi); (try clear ho0)) | (go_at_call 20; (with_reducible refine (laws_a2At.calls _ _ l1 0 250 t269 _ ?side1 ?side2 A7.out).mono ?_); (case side1 => exact sC (Kd.C_below HR1.out HB.out)); (case side2 => exact HC1.out); rintro e w' ⟨rfl, ⟨nd, rfl⟩⟩; (try first | exact ⟨rfl, _, World.drewN_drewN _ _ _⟩ | exact ⟨rfl, _, Eq.trans (World.drewN_drewN _ _ _) (congrArg (World.drewN _) (Nat.add_assoc _ _ _))⟩); obtain ⟨Ao13, co13, eo13⟩ := Kd.R_slice HO268.out; subst eo13) | (go_at_call 38; (with_reducible refine (impl_SharedForces.calls k _ _ t266 (wrap64 (t269 * 8)) t270 t271 _ ?side1 ?side2 A8.out).mono ?_); (case side1 => exact sC (Kd.R_reads' HO268.out).2.2); (case side2 => exact (Kd.R_reads' HO268.out).2.1); rintro e w14 ⟨v272, rfl, ho0, hb⟩; have n0_ := aS (Kd.R_below (sR HO268.out) hb); have n1_ := aS (Kd.R_lower ho0 (below_size (sW HB.out))); have n2_ := aS (below_step (sW HB.out) hb); clear HO268 HB; have HO268 := n0_; have HO273 := n1_; have HB := n2_; clear n0_ n1_ n2_; (try clear hb); (try clear hb2); (try clear hk); (try clear hi); (try clear ho0)) | (go_at_call 30; (with_reducible refine (impl_SharedLength.calls k _ _ t266 (wrap64 (t269 * 8)) t274 t275 t276 _ ?side1 ?side2 A9.out).mono ?_); (case side1 => exact sC (Kd.R_reads' HO268.out).2.2); (case side2 => exact (Kd.R_reads' HO268.out).2.1); rintro e w15 ⟨rfl, hb⟩; have n0_ := aS (Kd.R_below (sR HO268.out) hb); have n1_ := aS (Kd.R_below (sR HO273.out) hb); have n2_ := aS (below_step (sW HB.out) hb); clear HO268 HO273 HB; have HO268 := n0_; have HO273 := n1_; have HB := n2_; clear n0_ n1_ n2_; (try clear hb); (try clear hb2); (try clear hk); (try clear hi)) | ((with_reducible refine gate_dst (N := 9) rfl ?_); (try (refine gate_guard (by rfl) ?_; dsimp only)); refine box_event ?hg (N := 9) ?hd (cs := #[.int .i64 0, .int .i64 0]) (t := 25) ?hr ?_; (case hd => rfl); (case hg => rfl); (case hr => first | (go_simp; done) | (go_simp; rfl)); intro gb277 hg w16 hbox hb; have n0_ := aS (Kd.R_below (sR HO268.out) hb); have n1_ := aS (Kd.R_below (Kd.R_elderB (sR HO273.out) gb277 (Nat.le_of_eq hg.symm)) hb); have n2_ := aS (below_step (sW HB.out) hb); have n3_ := aS (hbox); have n4_ := aS ((by rw [hg]; exact (below_size (sW HB.out)) : w.heap.size ≤ gb277)); have n5_ := aS ((by rw [hg]; exact (below_size (sW HB.out)) : w.heap.size ≤ gb277)); clear HO268 HO273 HB; have HO268 := n0_; have HO273 := n1_; have HB := n2_; have BK277 := n3_; have GW277 := n4_; have GE277 := n5_; clear n0_ n1_ n2_ n3_ n4_ n5_; clear hb hbox hg; have hcz17_0 : w16.cell? ⟨gb277, 0, none⟩ = some (.int .i64 0) := (blk_cell BK277.out 0).trans rfl; have hcz17_1 : w16.cell? ⟨gb277, 1, none⟩ = some (.int .i64 0) := (blk_cell BK277.out 1).trans rfl; have hfz17_0 := blk_frozen BK277.out 0; have hfz17_1 := blk_frozen BK277.out 1) | (go_at_call 32; (with_reducible refine (impl_SlackLines.calls k _ _ t266 (wrap64 (t269 * 8)) t278 t279 _ ?side1 ?side2 A10.out).mono ?_); (case side1 => refine (Kd.R_reads' (e := 28) (base := w.heap.size) (ok := fun k_ => True) (n := t266.length) (c := co13) ?_).2.2; exact (sR (Kd.R_mono (Kd.R_far (p := ⟨gb277, 1, none⟩) (Kd.R_far (p := ⟨gb277, 0, none⟩) (Kd.R_types HO268.out BK277.out (by decide)) (fun _ hk => hk.2) (.int .i64 t274)) (fun _ hk => hk.2) (.int .i64 t275)) (fun _ h_ => h_.1)))); (case side2 => exact (Kd.R_reads' HO268.out).2.1); rintro e w18 ⟨v280, rfl, ho0, hb⟩; have n0_ := aS (Kd.R_below (sR (Kd.R_mono (Kd.R_far (p := ⟨gb277, 1, none⟩) (Kd.R_far (p := ⟨gb277, 0, none⟩) (Kd.R_types HO268.out BK277.out (by decide)) (fun _ hk => hk.2) (.int .i64 t274)) (fun _ hk => hk.2) (.int .i64 t275)) (fun _ h_ => h_.1))) hb); have n1_ := aS (Kd.R_below (sR (Kd.R_mono (Kd.R_far (p := ⟨gb277, 1, none⟩) (Kd.R_far (p := ⟨gb277, 0, none⟩) (Kd.R_mono HO273.out (fun k_ hk => (⟨hk, hk.2⟩ : _ ∧ k_ ≠ gb277))) (fun _ hk => hk.2) (.int .i64 t274)) (fun _ hk => hk.2) (.int .i64 t275)) (fun _ h_ => h_.1))) hb); have n2_ := aS (Kd.R_lower ho0 (below_size (sW HB.out))); have n3_ := aS (blk_below (g := gb277) (o := .cells #[.int .i64 t274, .int .i64 t275] 25 (0, 0)) (by (with_reducible repeat (first | refine blk_drewN ?_ _ | refine blk_drew ?_ | refine blk_alloc ?_ _)); refine blk_put (cs := #[.int .i64 t274, .int .i64 0]) ?_ 1 _ rfl; (with_reducible repeat (first | refine blk_drewN ?_ _ | refine blk_drew ?_ | refine blk_alloc ?_ _)); refine blk_put (cs := #[.int .i64 0, .int .i64 0]) ?_ 0 _ rfl; (with_reducible repeat (first | refine blk_drewN ?_ _ | refine blk_drew ?_ | refine blk_alloc ?_ _)); exact BK277.out) hb); have n4_ := aS (below_step (sW HB.out) hb); clear HO268 HO273 BK277 HB; have HO268 := n0_; have HO273 := n1_; have HO281 := n2_; have BK277 := n3_; have HB := n4_; clear n0_ n1_ n2_ n3_ n4_; (try clear hb); (try clear hb2); (try clear hk); (try clear hi); (try clear ho0))); go_upto_region 8 with (first | (go_at_call 19; (with_reducible refine (spec_A2Springs.calls k _ _ l0 t266 _ ?side1 ?side2 A6.out).mono ?_); (case side1 => exact sC (Kd.C_below HR0.out HB.out)); (case side2 => exact HC0.out); rintro e w12 ⟨v267, rfl, ho0, hb⟩; have n0_ := aS (Kd.R_lower ho0 (below_size (sW HB.out))); have n1_ := aS (below_step (sW HB.out) hb); clear HB; have HO268 := n0_; have HB := n1_; clear n0_ n1_; (try clear hb); (try clear hb2); (try clear hk); (try clear hi); (try clear ho0)) | (go_at_call 20; (with_reducible refine (laws_a2At.calls _ _ l1 0 250 t269 _ ?side1 ?side2 A7.out).mono ?_); (case side1 => exact sC (Kd.C_below HR1.out HB.out)); (case side2 => exact HC1.out); rintro e w' ⟨rfl, ⟨nd, rfl⟩⟩; (try first | exact ⟨rfl, _, World.drewN_drewN _ _ _⟩ | exact ⟨rfl, _, Eq.trans (World.drewN_drewN _ _ _) (congrArg (World.drewN _) (Nat.add_assoc _ _ _))⟩); obtain ⟨Ao13, co13, eo13⟩ := Kd.R_slice HO268.out; subst eo13) | (go_at_call 38; (with_reducible refine (impl_SharedForces.calls k _ _ t266 (wrap64 (t269 * 8)) t270 t271 _ ?side1 ?side2 A8.out).mono ?_); (case side1 => exact sC (Kd.R_reads' HO268.out).2.2); (case side2 => exact (Kd.R_reads' HO268.out).2.1); rintro e w14 ⟨v272, rfl, ho0, hb⟩; have n0_ := aS (Kd.R_below (sR HO268.out) hb); have n1_ := aS (Kd.R_lower ho0 (below_size (sW HB.out))); have n2_ := aS (below_step (sW HB.out) hb); clear HO268 HB; have HO268 := n0_; have HO273 := n1_; have HB := n2_; clear n0_ n1_ n2_; (try clear hb); (try clear hb2); (try clear hk); (try clear hi); (try clear ho0)) | (go_at_call 30; (with_reducible refine (impl_SharedLength.calls k _ _ t266 (wrap64 (t269 * 8)) t274 t275 t276 _ ?side1 ?side2 A9.out).mono ?_); (case side1 => exact sC (Kd.R_reads' HO268.out).2.2); (case side2 => exact (Kd.R_reads' HO268.out).2.1); rintro e w15 ⟨rfl, hb⟩; have n0_ := aS (Kd.R_below (sR HO268.out) hb); have n1_ := aS (Kd.R_below (sR HO273.out) hb); have n2_ := aS (below_step (sW HB.out) hb); clear HO268 HO273 HB; have HO268 := n0_; have HO273 := n1_; have HB := n2_; clear n0_ n1_ n2_; (try clear hb); (try clear hb2); (try clear hk); (try clear hi)) | ((with_reducible refine gate_dst (N := 9) rfl ?_); (try (refine gate_guard (by rfl) ?_; dsimp only)); refine box_event ?hg (N := 9) ?hd (cs := #[.int .i64 0, .int .i64 0]) (t := 25) ?hr ?_; (case hd => rfl); (case hg => rfl); (case hr => first | (go_simp; done) | (go_simp; rfl)); intro gb277 hg w16 hbox hb; have n0_ := aS (Kd.R_below (sR HO268.out) hb); have n1_ := aS (Kd.R_below (Kd.R_elderB (sR HO273.out) gb277 (Nat.le_of_eq hg.symm)) hb); have n2_ := aS (below_step (sW HB.out) hb); have n3_ := aS (hbox); have n4_ := aS ((by rw [hg]; exact (below_size (sW HB.out)) : w.heap.size ≤ gb277)); have n5_ := aS ((by rw [hg]; exact (below_size (sW HB.out)) : w.heap.size ≤ gb277)); clear HO268 HO273 HB; have HO268 := n0_; have HO273 := n1_; have HB := n2_; have BK277 := n3_; have GW277 := n4_; have GE277 := n5_; clear n0_ n1_ n2_ n3_ n4_ n5_; clear hb hbox hg; have hcz17_0 : w16.cell? ⟨gb277, 0, none⟩ = some (.int .i64 0) := (blk_cell BK277.out 0).trans rfl; have hcz17_1 : w16.cell? ⟨gb277, 1, none⟩ = some (.int .i64 0) := (blk_cell BK277.out 1).trans rfl; have hfz17_0 := blk_frozen BK277.out 0; have hfz17_1 := blk_frozen BK277.out 1) | (go_at_call 32; (with_reducible refine (impl_SlackLines.calls k _ _ t266 (wrap64 (t269 * 8)) t278 t279 _ ?side1 ?side2 A10.out).mono ?_); (case side1 => refine (Kd.R_reads' (e := 28) (base := w.heap.size) (ok := fun k_ => True) (n := t266.length) (c := co13) ?_).2.2; exact (sR (Kd.R_mono (Kd.R_far (p := ⟨gb277, 1, none⟩) (Kd.R_far (p := ⟨gb277, 0, none⟩) (Kd.R_types HO268.out BK277.out (by decide)) (fun _ hk => hk.2) (.int .i64 t274)) (fun _ hk => hk.2) (.int .i64 t275)) (fun _ h_ => h_.1)))); (case side2 => exact (Kd.R_reads' HO268.out).2.1); rintro e w18 ⟨v280, rfl, ho0, hb⟩; have n0_ := aS (Kd.R_below (sR (Kd.R_mono (Kd.R_far (p := ⟨gb277, 1, none⟩) (Kd.R_far (p := ⟨gb277, 0, none⟩) (Kd.R_types HO268.out BK277.out (by decide)) (fun _ hk => hk.2) (.int .i64 t274)) (fun _ hk => hk.2) (.int .i64 t275)) (fun _ h_ => h_.1))) hb); have n1_ := aS (Kd.R_below (sR (Kd.R_mono (Kd.R_far (p := ⟨gb277, 1, none⟩) (Kd.R_far (p := ⟨gb277, 0, none⟩) (Kd.R_mono HO273.out (fun k_ hk => (⟨hk, hk.2⟩ : _ ∧ k_ ≠ gb277))) (fun _ hk => hk.2) (.int .i64 t274)) (fun _ hk => hk.2) (.int .i64 t275)) (fun _ h_ => h_.1))) hb); have n2_ := aS (Kd.R_lower ho0 (below_size (sW HB.out))); have n3_ := aS (blk_below (g := gb277) (o := .cells #[.int .i64 t274, .int .i64 t275] 25 (0, 0)) (by (with_reducible repeat (first | refine blk_drewN ?_ _ | refine blk_drew ?_ | refine blk_alloc ?_ _)); refine blk_put (cs := #[.int .i64 t274, .int .i64 0]) ?_ 1 _ rfl; (with_reducible repeat (first | refine blk_drewN ?_ _ | refine blk_drew ?_ | refine blk_alloc ?_ _)); refine blk_put (cs := #[.int .i64 0, .int .i64 0]) ?_ 0 _ rfl; (with_reducible repeat (first | refine blk_drewN ?_ _ | refine blk_drew ?_ | refine blk_alloc ?_ _)); exact BK277.out) hb); have n4_ := aS (below_step (sW HB.out) hb); clear HO268 HO273 BK277 HB; have HO268 := n0_; have HO273 := n1_; have HO281 := n2_; have BK277 := n3_; have HB := n4_; clear n0_ n1_ n2_ n3_ n4_; (try clear hb); (try clear hb2); (try clear hk); (try clear hi); (try clear ho0))))
  (try simp only [Act.put, List.setIfInBounds_toArray, List.set_cons_zero, List.set_cons_succ])
  go_cut [94] (fun v94 wc => ∃ (kq : Nat) (x94_10 : Bool), v94 = .bool x94_10 ∧ Aside0 (laws_FnSharedLoads.j0 kq t266 (wrap64 (t269 * 8)) t270 t278 x94_10 t274 t275 = some r) ∧ Aside0 (kq ≤ k) ∧ Aside0 (Kd.R k28 28 wc w.heap.size (fun _ => True) (.slice Ao13 t266.length co13) t266) ∧ Aside0 (Kd.R k25 25 wc w.heap.size (fun k_ => k_ ≠ gb277) v272 t270) ∧ Aside0 (Kd.R (Kd.int .i64) 2 wc w.heap.size (fun _ => True) v280 t278) ∧ Aside0 (wc.heap[gb277]? = some (.cells #[.int .i64 t274, .int .i64 t275] 25 (0, 0))) ∧ Aside0 (Below w.heap.size w wc))
  case first =>
   as_aux_lemma =>
    have H := HC11.out
    clear HC11
    by_cases c19 : t271 = 0
    ·
     rw [if_pos c19] at H
     have c19b0 : (t271 == 0) = true := beq_iff_eq.mpr c19
     have c19b1 : (t271 != 0) = false := bne_eq_false_iff_eq.mpr c19
     clear c19
     (first | rw [c19b0] | (simp only [i64_w, i32_w]; rw [c19b0]) | (rw [c19b2]; simp only [Bool.not_false, Bool.not_true]) | skip)
     by_cases c20 : (t270.length : Int) = (t266.length : Int)
     ·
      rw [if_pos c20] at H
      have c20b0 : ((t270.length : Int) == (t266.length : Int)) = true := beq_iff_eq.mpr c20
      have c20b1 : ((t270.length : Int) != (t266.length : Int)) = false := bne_eq_false_iff_eq.mpr c20
      have c20b2 : (t270.length == t266.length) = true := by first | simpa using c20 | (simp at c20 ⊢; omega)
      clear c20
      by_cases c21 : t276 = 0
      ·
       rw [if_pos c21] at H
       have c21b0 : (t276 == 0) = true := beq_iff_eq.mpr c21
       have c21b1 : (t276 != 0) = false := bne_eq_false_iff_eq.mpr c21
       clear c21
       by_cases c22 : t275 < 1
       ·
        rw [if_pos c22] at H
        have c22b0 : decide (t275 < 1) = true := decide_eq_true c22
        clear c22
        have H' := aS H
        clear H
        obtain ⟨Ao23, co23, eo23⟩ := Kd.R_slice HO273.out
        subst eo23
        have hcz24_0 : w18.cell? ⟨gb277, 0, none⟩ = some (.int .i64 t274) := (blk_cell BK277.out 0).trans rfl
        have hcz24_1 : w18.cell? ⟨gb277, 1, none⟩ = some (.int .i64 t275) := (blk_cell BK277.out 1).trans rfl
        have hfz24_0 := blk_frozen BK277.out 0
        have hfz24_1 := blk_frozen BK277.out 1
        go_wp2
        repeat (go_quiet (fail); try go_wp2)
        go_meet
        case rel => exact ⟨_, (true), (by first | rfl | (simp; done) | (simp [*]; done) | (simp only [i64_w]; done) | (simp [i64_w]; done)), H', ⟨by first | omega | exact Nat.le_refl _⟩, ⟨by (with_reducible repeat (first | apply Kd.R_alloc | apply Kd.R_drewN | apply Kd.R_drew)); exact HO268.out⟩, ⟨by (with_reducible repeat (first | apply Kd.R_alloc | apply Kd.R_drewN | apply Kd.R_drew)); exact Kd.R_mono HO273.out (fun _ hk => hk.2)⟩, ⟨by (with_reducible repeat (first | apply Kd.R_alloc | apply Kd.R_drewN | apply Kd.R_drew)); exact HO281.out⟩, ⟨by (with_reducible repeat (first | refine blk_drewN ?_ _ | refine blk_drew ?_ | refine blk_alloc ?_ _)); exact BK277.out⟩, ⟨by repeat (first | (with_reducible first | exact HB.out | apply below_alloc | apply pw_below_drewN | apply below_drew1 | refine below_set ?_ GE277.out) | exact HB.out)⟩⟩
       ·
        rw [if_neg c22] at H
        have c22b0 : decide (t275 < 1) = false := decide_eq_false c22
        clear c22
        by_cases c25 : t275 > 1000000000000
        ·
         rw [if_pos c25] at H
         have c25b0 : decide (1000000000000 < t275) = true := decide_eq_true c25
         clear c25
         have H' := aS H
         clear H
         obtain ⟨Ao26, co26, eo26⟩ := Kd.R_slice HO273.out
         subst eo26
         have hcz27_0 : w18.cell? ⟨gb277, 0, none⟩ = some (.int .i64 t274) := (blk_cell BK277.out 0).trans rfl
         have hcz27_1 : w18.cell? ⟨gb277, 1, none⟩ = some (.int .i64 t275) := (blk_cell BK277.out 1).trans rfl
         have hfz27_0 := blk_frozen BK277.out 0
         have hfz27_1 := blk_frozen BK277.out 1
         go_wp2
         repeat (go_quiet (fail); try go_wp2)
         go_meet
         case rel => exact ⟨_, (true), (by first | rfl | (simp; done) | (simp [*]; done) | (simp only [i64_w]; done) | (simp [i64_w]; done)), H', ⟨by first | omega | exact Nat.le_refl _⟩, ⟨by (with_reducible repeat (first | apply Kd.R_alloc | apply Kd.R_drewN | apply Kd.R_drew)); exact HO268.out⟩, ⟨by (with_reducible repeat (first | apply Kd.R_alloc | apply Kd.R_drewN | apply Kd.R_drew)); exact Kd.R_mono HO273.out (fun _ hk => hk.2)⟩, ⟨by (with_reducible repeat (first | apply Kd.R_alloc | apply Kd.R_drewN | apply Kd.R_drew)); exact HO281.out⟩, ⟨by (with_reducible repeat (first | refine blk_drewN ?_ _ | refine blk_drew ?_ | refine blk_alloc ?_ _)); exact BK277.out⟩, ⟨by repeat (first | (with_reducible first | exact HB.out | apply below_alloc | apply pw_below_drewN | apply below_drew1 | refine below_set ?_ GE277.out) | exact HB.out)⟩⟩
        ·
         rw [if_neg c25] at H
         have c25b0 : decide (1000000000000 < t275) = false := decide_eq_false c25
         clear c25
         by_cases c28 : t274 < 1
         ·
          rw [if_pos c28] at H
          have c28b0 : decide (t274 < 1) = true := decide_eq_true c28
          clear c28
          have H' := aS H
          clear H
          obtain ⟨Ao29, co29, eo29⟩ := Kd.R_slice HO273.out
          subst eo29
          have hcz30_0 : w18.cell? ⟨gb277, 0, none⟩ = some (.int .i64 t274) := (blk_cell BK277.out 0).trans rfl
          have hcz30_1 : w18.cell? ⟨gb277, 1, none⟩ = some (.int .i64 t275) := (blk_cell BK277.out 1).trans rfl
          have hfz30_0 := blk_frozen BK277.out 0
          have hfz30_1 := blk_frozen BK277.out 1
          go_wp2
          repeat (go_quiet (fail); try go_wp2)
          go_meet
          case rel => exact ⟨_, (true), (by first | rfl | (simp; done) | (simp [*]; done) | (simp only [i64_w]; done) | (simp [i64_w]; done)), H', ⟨by first | omega | exact Nat.le_refl _⟩, ⟨by (with_reducible repeat (first | apply Kd.R_alloc | apply Kd.R_drewN | apply Kd.R_drew)); exact HO268.out⟩, ⟨by (with_reducible repeat (first | apply Kd.R_alloc | apply Kd.R_drewN | apply Kd.R_drew)); exact Kd.R_mono HO273.out (fun _ hk => hk.2)⟩, ⟨by (with_reducible repeat (first | apply Kd.R_alloc | apply Kd.R_drewN | apply Kd.R_drew)); exact HO281.out⟩, ⟨by (with_reducible repeat (first | refine blk_drewN ?_ _ | refine blk_drew ?_ | refine blk_alloc ?_ _)); exact BK277.out⟩, ⟨by repeat (first | (with_reducible first | exact HB.out | apply below_alloc | apply pw_below_drewN | apply below_drew1 | refine below_set ?_ GE277.out) | exact HB.out)⟩⟩
         ·
          rw [if_neg c28] at H
          have c28b0 : decide (t274 < 1) = false := decide_eq_false c28
          clear c28
          by_cases c31 : t274 > 1000000000000
          ·
           rw [if_pos c31] at H
           have c31b0 : decide (1000000000000 < t274) = true := decide_eq_true c31
           clear c31
           have H' := aS H
           clear H
           obtain ⟨Ao32, co32, eo32⟩ := Kd.R_slice HO273.out
           subst eo32
           have hcz33_0 : w18.cell? ⟨gb277, 0, none⟩ = some (.int .i64 t274) := (blk_cell BK277.out 0).trans rfl
           have hcz33_1 : w18.cell? ⟨gb277, 1, none⟩ = some (.int .i64 t275) := (blk_cell BK277.out 1).trans rfl
           have hfz33_0 := blk_frozen BK277.out 0
           have hfz33_1 := blk_frozen BK277.out 1
           go_wp2
           repeat (go_quiet (fail); try go_wp2)
           go_meet
           case rel => exact ⟨_, (true), (by first | rfl | (simp; done) | (simp [*]; done) | (simp only [i64_w]; done) | (simp [i64_w]; done)), H', ⟨by first | omega | exact Nat.le_refl _⟩, ⟨by (with_reducible repeat (first | apply Kd.R_alloc | apply Kd.R_drewN | apply Kd.R_drew)); exact HO268.out⟩, ⟨by (with_reducible repeat (first | apply Kd.R_alloc | apply Kd.R_drewN | apply Kd.R_drew)); exact Kd.R_mono HO273.out (fun _ hk => hk.2)⟩, ⟨by (with_reducible repeat (first | apply Kd.R_alloc | apply Kd.R_drewN | apply Kd.R_drew)); exact HO281.out⟩, ⟨by (with_reducible repeat (first | refine blk_drewN ?_ _ | refine blk_drew ?_ | refine blk_alloc ?_ _)); exact BK277.out⟩, ⟨by repeat (first | (with_reducible first | exact HB.out | apply below_alloc | apply pw_below_drewN | apply below_drew1 | refine below_set ?_ GE277.out) | exact HB.out)⟩⟩
          ·
           rw [if_neg c31] at H
           have c31b0 : decide (1000000000000 < t274) = false := decide_eq_false c31
           clear c31
           by_cases c34 : t279 = 0
           ·
            rw [if_pos c34] at H
            have c34b0 : (t279 == 0) = true := beq_iff_eq.mpr c34
            have c34b1 : (t279 != 0) = false := bne_eq_false_iff_eq.mpr c34
            clear c34
            replace H := Option.bind_eq_some_iff.mp H
            obtain ⟨t282, A350, H⟩ := H
            replace H : (laws_FnSharedLoads.j0 k t266 (wrap64 (t269 * 8)) t270 t278 (!t282) t274 t275) = some r := H
            have A35 := aS A350
            clear A350
            have H' := aS H
            clear H
            obtain ⟨Ao36, co36, eo36⟩ := Kd.R_slice HO273.out
            subst eo36
            have hcz37_0 : w18.cell? ⟨gb277, 0, none⟩ = some (.int .i64 t274) := (blk_cell BK277.out 0).trans rfl
            have hcz37_1 : w18.cell? ⟨gb277, 1, none⟩ = some (.int .i64 t275) := (blk_cell BK277.out 1).trans rfl
            have hfz37_0 := blk_frozen BK277.out 0
            have hfz37_1 := blk_frozen BK277.out 1
            obtain ⟨Ao38, co38, eo38⟩ := Kd.R_slice HO281.out
            subst eo38
            go_wp2_with (first | (go_at_call 42; (with_reducible refine (laws_a2Rises.calls k _ _ t278 (t266.length : Int) t282 _ ?side1 ?side2 A35.out).mono ?_); (case side1 => exact sC (Kd.R_reads' HO281.out).2.2); (case side2 => exact (Kd.R_reads' HO281.out).2.1); rintro e w' ⟨rfl, ⟨nd, rfl⟩⟩; (try first | exact ⟨rfl, _, World.drewN_drewN _ _ _⟩ | exact ⟨rfl, _, Eq.trans (World.drewN_drewN _ _ _) (congrArg (World.drewN _) (Nat.add_assoc _ _ _))⟩)))
            repeat (go_quiet (first | (go_at_call 42; (with_reducible refine (laws_a2Rises.calls k _ _ t278 (t266.length : Int) t282 _ ?side1 ?side2 A35.out).mono ?_); (case side1 => exact sC (Kd.R_reads' HO281.out).2.2); (case side2 => exact (Kd.R_reads' HO281.out).2.1); rintro e w' ⟨rfl, ⟨nd, rfl⟩⟩; (try first | exact ⟨rfl, _, World.drewN_drewN _ _ _⟩ | exact ⟨rfl, _, Eq.trans (World.drewN_drewN _ _ _) (congrArg (World.drewN _) (Nat.add_assoc _ _ _))⟩))); try go_wp2_with (first | (go_at_call 42; (with_reducible refine (laws_a2Rises.calls k _ _ t278 (t266.length : Int) t282 _ ?side1 ?side2 A35.out).mono ?_); (case side1 => exact sC (Kd.R_reads' HO281.out).2.2); (case side2 => exact (Kd.R_reads' HO281.out).2.1); rintro e w' ⟨rfl, ⟨nd, rfl⟩⟩; (try first | exact ⟨rfl, _, World.drewN_drewN _ _ _⟩ | exact ⟨rfl, _, Eq.trans (World.drewN_drewN _ _ _) (congrArg (World.drewN _) (Nat.add_assoc _ _ _))⟩))))
            go_meet
            case rel => exact ⟨_, (!t282), (by first | rfl | (simp; done) | (simp [*]; done) | (simp only [i64_w]; done) | (simp [i64_w]; done)), H', ⟨by first | omega | exact Nat.le_refl _⟩, ⟨by (with_reducible repeat (first | apply Kd.R_alloc | apply Kd.R_drewN | apply Kd.R_drew)); exact HO268.out⟩, ⟨by (with_reducible repeat (first | apply Kd.R_alloc | apply Kd.R_drewN | apply Kd.R_drew)); exact Kd.R_mono HO273.out (fun _ hk => hk.2)⟩, ⟨by (with_reducible repeat (first | apply Kd.R_alloc | apply Kd.R_drewN | apply Kd.R_drew)); exact HO281.out⟩, ⟨by (with_reducible repeat (first | refine blk_drewN ?_ _ | refine blk_drew ?_ | refine blk_alloc ?_ _)); exact BK277.out⟩, ⟨by repeat (first | (with_reducible first | exact HB.out | apply below_alloc | apply pw_below_drewN | apply below_drew1 | refine below_set ?_ GE277.out) | exact HB.out)⟩⟩
           ·
            rw [if_neg c34] at H
            have c34b0 : (t279 == 0) = false := beq_eq_false_iff_ne.mpr c34
            have c34b1 : (t279 != 0) = true := bne_iff_ne.mpr c34
            have H' := aS H
            clear H
            obtain ⟨Ao39, co39, eo39⟩ := Kd.R_slice HO273.out
            subst eo39
            have hcz40_0 : w18.cell? ⟨gb277, 0, none⟩ = some (.int .i64 t274) := (blk_cell BK277.out 0).trans rfl
            have hcz40_1 : w18.cell? ⟨gb277, 1, none⟩ = some (.int .i64 t275) := (blk_cell BK277.out 1).trans rfl
            have hfz40_0 := blk_frozen BK277.out 0
            have hfz40_1 := blk_frozen BK277.out 1
            go_wp2
            repeat (go_quiet (fail); try go_wp2)
            go_meet
            case rel => exact ⟨_, (true), (by first | rfl | (simp; done) | (simp [*]; done) | (simp only [i64_w]; done) | (simp [i64_w]; done)), H', ⟨by first | omega | exact Nat.le_refl _⟩, ⟨by (with_reducible repeat (first | apply Kd.R_alloc | apply Kd.R_drewN | apply Kd.R_drew)); exact HO268.out⟩, ⟨by (with_reducible repeat (first | apply Kd.R_alloc | apply Kd.R_drewN | apply Kd.R_drew)); exact Kd.R_mono HO273.out (fun _ hk => hk.2)⟩, ⟨by (with_reducible repeat (first | apply Kd.R_alloc | apply Kd.R_drewN | apply Kd.R_drew)); exact HO281.out⟩, ⟨by (with_reducible repeat (first | refine blk_drewN ?_ _ | refine blk_drew ?_ | refine blk_alloc ?_ _)); exact BK277.out⟩, ⟨by repeat (first | (with_reducible first | exact HB.out | apply below_alloc | apply pw_below_drewN | apply below_drew1 | refine below_set ?_ GE277.out) | exact HB.out)⟩⟩
      ·
       rw [if_neg c21] at H
       have c21b0 : (t276 == 0) = false := beq_eq_false_iff_ne.mpr c21
       have c21b1 : (t276 != 0) = true := bne_iff_ne.mpr c21
       have H' := aS H
       clear H
       obtain ⟨Ao41, co41, eo41⟩ := Kd.R_slice HO273.out
       subst eo41
       go_wp2
       repeat (go_quiet (fail); try go_wp2)
       go_meet
       case rel => exact ⟨_, (true), (by first | rfl | (simp; done) | (simp [*]; done) | (simp only [i64_w]; done) | (simp [i64_w]; done)), H', ⟨by first | omega | exact Nat.le_refl _⟩, ⟨by (with_reducible repeat (first | apply Kd.R_alloc | apply Kd.R_drewN | apply Kd.R_drew)); exact HO268.out⟩, ⟨by (with_reducible repeat (first | apply Kd.R_alloc | apply Kd.R_drewN | apply Kd.R_drew)); exact Kd.R_mono HO273.out (fun _ hk => hk.2)⟩, ⟨by (with_reducible repeat (first | apply Kd.R_alloc | apply Kd.R_drewN | apply Kd.R_drew)); exact HO281.out⟩, ⟨by (with_reducible repeat (first | refine blk_drewN ?_ _ | refine blk_drew ?_ | refine blk_alloc ?_ _)); exact BK277.out⟩, ⟨by repeat (first | (with_reducible first | exact HB.out | apply below_alloc | apply pw_below_drewN | apply below_drew1 | refine below_set ?_ GE277.out) | exact HB.out)⟩⟩
     ·
      rw [if_neg c20] at H
      have c20b0 : ((t270.length : Int) == (t266.length : Int)) = false := beq_eq_false_iff_ne.mpr c20
      have c20b1 : ((t270.length : Int) != (t266.length : Int)) = true := bne_iff_ne.mpr c20
      have c20b2 : (t270.length == t266.length) = false := by first | simpa using c20 | (simp at c20 ⊢; omega)
      have H' := aS H
      clear H
      obtain ⟨Ao42, co42, eo42⟩ := Kd.R_slice HO273.out
      subst eo42
      go_wp2
      repeat (go_quiet (fail); try go_wp2)
      go_meet
      case rel => exact ⟨_, (true), (by first | rfl | (simp; done) | (simp [*]; done) | (simp only [i64_w]; done) | (simp [i64_w]; done)), H', ⟨by first | omega | exact Nat.le_refl _⟩, ⟨by (with_reducible repeat (first | apply Kd.R_alloc | apply Kd.R_drewN | apply Kd.R_drew)); exact HO268.out⟩, ⟨by (with_reducible repeat (first | apply Kd.R_alloc | apply Kd.R_drewN | apply Kd.R_drew)); exact Kd.R_mono HO273.out (fun _ hk => hk.2)⟩, ⟨by (with_reducible repeat (first | apply Kd.R_alloc | apply Kd.R_drewN | apply Kd.R_drew)); exact HO281.out⟩, ⟨by (with_reducible repeat (first | refine blk_drewN ?_ _ | refine blk_drew ?_ | refine blk_alloc ?_ _)); exact BK277.out⟩, ⟨by repeat (first | (with_reducible first | exact HB.out | apply below_alloc | apply pw_below_drewN | apply below_drew1 | refine below_set ?_ GE277.out) | exact HB.out)⟩⟩
    ·
     rw [if_neg c19] at H
     have c19b0 : (t271 == 0) = false := beq_eq_false_iff_ne.mpr c19
     have c19b1 : (t271 != 0) = true := bne_iff_ne.mpr c19
     (first | rw [c19b0] | (simp only [i64_w, i32_w]; rw [c19b0]) | (rw [c19b2]; simp only [Bool.not_false, Bool.not_true]) | skip)
     have H' := aS H
     clear H
     go_wp2
     repeat (go_quiet (fail); try go_wp2)
     go_meet
     case rel => exact ⟨_, (true), (by first | rfl | (simp; done) | (simp [*]; done) | (simp only [i64_w]; done) | (simp [i64_w]; done)), H', ⟨by first | omega | exact Nat.le_refl _⟩, ⟨by (with_reducible repeat (first | apply Kd.R_alloc | apply Kd.R_drewN | apply Kd.R_drew)); exact HO268.out⟩, ⟨by (with_reducible repeat (first | apply Kd.R_alloc | apply Kd.R_drewN | apply Kd.R_drew)); exact Kd.R_mono HO273.out (fun _ hk => hk.2)⟩, ⟨by (with_reducible repeat (first | apply Kd.R_alloc | apply Kd.R_drewN | apply Kd.R_drew)); exact HO281.out⟩, ⟨by (with_reducible repeat (first | refine blk_drewN ?_ _ | refine blk_drew ?_ | refine blk_alloc ?_ _)); exact BK277.out⟩, ⟨by repeat (first | (with_reducible first | exact HB.out | apply below_alloc | apply pw_below_drewN | apply below_drew1 | refine below_set ?_ GE277.out) | exact HB.out)⟩⟩
  case rest =>
   as_aux_lemma =>
    clear HC11
    (try clear c1); (try clear c2); (try clear p2); (try clear c3); (try clear c5); (try clear p6); (try clear c11); (try clear c19); (try clear c19b0); (try clear c19b1); (try clear c19b2); (try clear c20); (try clear c20b0); (try clear c20b1); (try clear c20b2); (try clear c21); (try clear c21b0); (try clear c21b1); (try clear c22); (try clear c22b0); (try clear c25); (try clear c25b0); (try clear c28); (try clear c28b0); (try clear c31); (try clear c31b0); (try clear c34); (try clear c34b0); (try clear c34b1); (try clear hcz17_0); (try clear hcz17_1); (try clear hcz24_0); (try clear hcz24_1); (try clear hcz27_0); (try clear hcz27_1); (try clear hcz30_0); (try clear hcz30_1); (try clear hcz33_0); (try clear hcz33_1); (try clear hcz37_0); (try clear hcz37_1); (try clear hcz40_0); (try clear hcz40_1); (try clear hfz17_0); (try clear hfz17_1); (try clear hfz24_0); (try clear hfz24_1); (try clear hfz27_0); (try clear hfz27_1); (try clear hfz30_0); (try clear hfz30_1); (try clear hfz33_0); (try clear hfz33_1); (try clear hfz37_0); (try clear hfz37_1); (try clear hfz40_0); (try clear hfz40_1)
    obtain ⟨kq, x94_10, rfl, HA, HJ10, HO_5, HO_7, HO_11, BK277, HB⟩ := hcut
    cases kq with
    | zero => exact absurd HA.out (by simp [laws_FnSharedLoads.j0])
    | succ kj10 =>
     have H := HA.out
     clear HA
     simp only [laws_FnSharedLoads.j0] at H
     by_cases c43 : x94_10 = true
     ·
      subst c43
      have H1 : (some false) = some r := by rw [if_pos rfl] at H; exact H
      clear H
      have H := H1
      clear H1
      obtain rfl := Option.some.inj H
      go_wp2
      repeat (go_quiet (fail); try go_wp2)
      go_ret
      exact ⟨by first | rfl | (simp [errW_none, errW_some, i64_w]; done) | (simp [errW_none, errW_some] <;> rfl) | (simp [*, errW_none, errW_some] <;> rfl), by repeat (first | (with_reducible first | exact HB.out | apply below_alloc | apply pw_below_drewN | apply below_drew1) | exact HB.out)⟩
     ·
      replace c43 := Bool.eq_false_iff.mpr c43
      subst c43
      have H1 : (laws_FnSharedLoads.l0 kj10 t266 (wrap64 (t269 * 8)) t270 t278 0 0 t274 t275) = some r := by rw [if_neg (show ¬ (false = true) by decide)] at H; exact H
      clear H
      have H := H1
      clear H1
      have H' := aS H
      clear H
      go_wp2
      repeat (go_quiet (fail); try go_wp2)
      go_loopg [13, 14] kj10 (fun kq v13 v14 w' => ∃ (x13_2 : Int) (x14_2 : Int), v13 = .int .i64 x13_2 ∧ v14 = .int .i64 x14_2 ∧ Aside0 (laws_FnSharedLoads.l0 kq t266 (wrap64 (t269 * 8)) t270 t278 x13_2 x14_2 t274 t275 = some r) ∧ Aside0 (kq ≤ kj10) ∧ Aside0 (Kd.R k28 28 w' w.heap.size (fun _ => True) (.slice Ao13 t266.length co13) t266) ∧ Aside0 (Kd.R k25 25 w' w.heap.size (fun k_ => k_ ≠ gb277) v272 t270) ∧ Aside0 (Kd.R (Kd.int .i64) 2 w' w.heap.size (fun _ => True) v280 t278) ∧ Aside0 (w'.heap[gb277]? = some (.cells #[.int .i64 t274, .int .i64 t275] 25 (0, 0))) ∧ Aside0 (Below w.heap.size w w'))
      case atStart => exact ⟨(0), (0), (by first | rfl | (simp; done) | (simp [*]; done) | (simp only [i64_w]; done) | (simp [i64_w]; done)), (by first | rfl | (simp; done) | (simp [*]; done) | (simp only [i64_w]; done) | (simp [i64_w]; done)), H', ⟨Nat.le_refl _⟩, ⟨by (with_reducible repeat (first | apply Kd.R_alloc | apply Kd.R_drewN | apply Kd.R_drew)); exact HO_5.out⟩, ⟨by (with_reducible repeat (first | apply Kd.R_alloc | apply Kd.R_drewN | apply Kd.R_drew)); exact HO_7.out⟩, ⟨by (with_reducible repeat (first | apply Kd.R_alloc | apply Kd.R_drewN | apply Kd.R_drew)); exact HO_11.out⟩, ⟨by (with_reducible repeat (first | refine blk_drewN ?_ _ | refine blk_drew ?_ | refine blk_alloc ?_ _)); exact BK277.out⟩, ⟨by repeat (first | (with_reducible first | exact HB.out | apply below_alloc | apply pw_below_drewN | apply below_drew1 | refine below_set ?_ GE277.out) | exact HB.out)⟩⟩
      case round =>
       as_aux_lemma =>
        clear H'
        (try clear c1); (try clear c2); (try clear p2); (try clear c3); (try clear c4); (try clear c5); (try clear p6); (try clear c11); (try clear c19); (try clear c19b0); (try clear c19b1); (try clear c19b2); (try clear c20); (try clear c20b0); (try clear c20b1); (try clear c20b2); (try clear c21); (try clear c21b0); (try clear c21b1); (try clear c22); (try clear c22b0); (try clear c25); (try clear c25b0); (try clear c28); (try clear c28b0); (try clear c31); (try clear c31b0); (try clear c34); (try clear c34b0); (try clear c34b1); (try clear c43); (try clear hcz17_0); (try clear hcz17_1); (try clear hcz24_0); (try clear hcz24_1); (try clear hcz27_0); (try clear hcz27_1); (try clear hcz30_0); (try clear hcz30_1); (try clear hcz33_0); (try clear hcz33_1); (try clear hcz37_0); (try clear hcz37_1); (try clear hcz40_0); (try clear hcz40_1); (try clear hfz17_0); (try clear hfz17_1); (try clear hfz24_0); (try clear hfz24_1); (try clear hfz27_0); (try clear hfz27_1); (try clear hfz30_0); (try clear hfz30_1); (try clear hfz33_0); (try clear hfz33_1); (try clear hfz37_0); (try clear hfz37_1); (try clear hfz40_0); (try clear hfz40_1); (try clear p2); (try clear p6)
        obtain ⟨x13_2, x14_2, rfl, rfl, HA, HK2, HO_5, HO_7, HO_11, BK277, HB⟩ := hrel
        cases gk with
        | zero => exact absurd HA.out (by simp [laws_FnSharedLoads.l0])
        | succ k2 =>
         have H := HA.out
         clear HA
         simp only [laws_FnSharedLoads.l0] at H
         by_cases c44 : x14_2 < (t266.length : Int)
         ·
          rw [if_pos c44] at H
          have c44b0 : decide (x14_2 < (t266.length : Int)) = true := decide_eq_true c44
          clear c44
          by_cases c45 : 0 ≤ x14_2
          ·
           rw [if_pos c45] at H
           have c45b0 : decide (0 ≤ x14_2) = true := decide_eq_true c45
           clear c45
           have HC46 := aS H
           clear H
           have hcz47_0 : wr.cell? ⟨gb277, 0, none⟩ = some (.int .i64 t274) := (blk_cell BK277.out 0).trans rfl
           have hcz47_1 : wr.cell? ⟨gb277, 1, none⟩ = some (.int .i64 t275) := (blk_cell BK277.out 1).trans rfl
           have hfz47_0 := blk_frozen BK277.out 0
           have hfz47_1 := blk_frozen BK277.out 1
           have p283 : 0 ≤ (x14_2 : Int) := of_decide_eq_true (by first | (with_reducible assumption) | assumption)
           have q283 : x14_2 < (t266.length : Int) := of_decide_eq_true (by first | (with_reducible assumption) | assumption)
           obtain ⟨ad283, e283, hx283_0, hx283_1⟩ := at_T28 (Kd.R_reads' HO_5.out).2.2 x14_2 p283 q283
           cases e283
           replace p283 := eq_true p283
           replace q283 := eq_true q283
           go_upto_region 15 with (fail)
           repeat (go_quiet (fail); go_upto_region 15 with (fail))
           go_cut [142] (fun v142 wc => ∃ (kq : Nat) (x142_45 : Bool), v142 = .bool x142_45 ∧ Aside0 (laws_FnSharedLoads.j2 kq t266 (wrap64 (t269 * 8)) t270 t278 x13_2 x14_2 (decide (t274 > (wrap64 (((rd_T28 t266 x14_2).f0) * t275)))) x142_45 t274 t275 = some r) ∧ Aside0 (kq ≤ k2) ∧ Aside0 (Kd.R k28 28 wc w.heap.size (fun _ => True) (.slice (some ad283) t266.length co13) t266) ∧ Aside0 (Kd.R k25 25 wc w.heap.size (fun k_ => k_ ≠ gb277) v272 t270) ∧ Aside0 (Kd.R (Kd.int .i64) 2 wc w.heap.size (fun _ => True) v280 t278) ∧ Aside0 (wc.heap[gb277]? = some (.cells #[.int .i64 t274, .int .i64 t275] 25 (0, 0))) ∧ Aside0 (Below w.heap.size w wc))
           case first =>
            as_aux_lemma =>
             have H := HC46.out
             clear HC46
             replace H := Option.bind_eq_some_iff.mp H
             obtain ⟨t284, A480, H⟩ := H
             replace H : (if ((decide (t274 > (wrap64 (((rd_T28 t266 x14_2).f0) * t275)))) == t284) = true then (laws_FnSharedLoads.j2 k2 t266 (wrap64 (t269 * 8)) t270 t278 x13_2 x14_2 (decide (t274 > (wrap64 (((rd_T28 t266 x14_2).f0) * t275)))) true t274 t275) else (if x14_2 < (t270.length : Int) then (if ((rd_T25 t270 x14_2).f1) < 1 then (laws_FnSharedLoads.j2 k2 t266 (wrap64 (t269 * 8)) t270 t278 x13_2 x14_2 (decide (t274 > (wrap64 (((rd_T28 t266 x14_2).f0) * t275)))) true t274 t275) else (if ((rd_T25 t270 x14_2).f0) < 0 then (laws_FnSharedLoads.j2 k2 t266 (wrap64 (t269 * 8)) t270 t278 x13_2 x14_2 (decide (t274 > (wrap64 (((rd_T28 t266 x14_2).f0) * t275)))) true t274 t275) else (laws_FnSharedLoads.j2 k2 t266 (wrap64 (t269 * 8)) t270 t278 x13_2 x14_2 (decide (t274 > (wrap64 (((rd_T28 t266 x14_2).f0) * t275)))) ((decide (((rd_T25 t270 x14_2).f0) > 0)) != (decide (t274 > (wrap64 (((rd_T28 t266 x14_2).f0) * t275))))) t274 t275))) else (none))) = some r := H
             have A48 := aS A480
             clear A480
             by_cases c49 : ((decide (t274 > (wrap64 (((rd_T28 t266 x14_2).f0) * t275)))) == t284) = true
             ·
              rw [if_pos c49] at H
              have c49b0 : ((decide (t274 > (wrap64 (((rd_T28 t266 x14_2).f0) * t275)))) == t284) = true := c49
              (try (have c49b1 : decide ((decide (t274 > (wrap64 (((rd_T28 t266 x14_2).f0) * t275)))) = t284) = true := by simpa using c49))
              (try (have c49b2 : ((decide (t274 > (wrap64 (((rd_T28 t266 x14_2).f0) * t275)))) == t284) = true := by simpa using c49))
              clear c49
              (first | rw [c49b0] | (simp only [i64_w, i32_w]; rw [c49b0]) | (rw [c49b2]; simp only [Bool.not_false, Bool.not_true]) | skip)
              have H' := aS H
              clear H
              obtain ⟨Ao50, co50, eo50⟩ := Kd.R_slice HO_11.out
              subst eo50
              go_wp2_with (first | (go_at_call 43; (with_reducible refine (laws_a2Has.calls k2 _ _ t278 x14_2 t284 _ ?side1 ?side2 A48.out).mono ?_); (case side1 => exact sC (Kd.R_reads' HO_11.out).2.2); (case side2 => exact (Kd.R_reads' HO_11.out).2.1); rintro e w' ⟨rfl, ⟨nd, rfl⟩⟩; (try first | exact ⟨rfl, _, World.drewN_drewN _ _ _⟩ | exact ⟨rfl, _, Eq.trans (World.drewN_drewN _ _ _) (congrArg (World.drewN _) (Nat.add_assoc _ _ _))⟩)))
              repeat (go_quiet (first | (go_at_call 43; (with_reducible refine (laws_a2Has.calls k2 _ _ t278 x14_2 t284 _ ?side1 ?side2 A48.out).mono ?_); (case side1 => exact sC (Kd.R_reads' HO_11.out).2.2); (case side2 => exact (Kd.R_reads' HO_11.out).2.1); rintro e w' ⟨rfl, ⟨nd, rfl⟩⟩; (try first | exact ⟨rfl, _, World.drewN_drewN _ _ _⟩ | exact ⟨rfl, _, Eq.trans (World.drewN_drewN _ _ _) (congrArg (World.drewN _) (Nat.add_assoc _ _ _))⟩))); try go_wp2_with (first | (go_at_call 43; (with_reducible refine (laws_a2Has.calls k2 _ _ t278 x14_2 t284 _ ?side1 ?side2 A48.out).mono ?_); (case side1 => exact sC (Kd.R_reads' HO_11.out).2.2); (case side2 => exact (Kd.R_reads' HO_11.out).2.1); rintro e w' ⟨rfl, ⟨nd, rfl⟩⟩; (try first | exact ⟨rfl, _, World.drewN_drewN _ _ _⟩ | exact ⟨rfl, _, Eq.trans (World.drewN_drewN _ _ _) (congrArg (World.drewN _) (Nat.add_assoc _ _ _))⟩))))
              go_meet
              case rel => exact ⟨_, (true), (by first | rfl | (simp; done) | (simp [*]; done) | (simp only [i64_w]; done) | (simp [i64_w]; done)), H', ⟨by have := HJ10.out; have := HK2.out; first | omega | exact Nat.le_refl _⟩, ⟨by (with_reducible repeat (first | apply Kd.R_alloc | apply Kd.R_drewN | apply Kd.R_drew)); exact HO_5.out⟩, ⟨by (with_reducible repeat (first | apply Kd.R_alloc | apply Kd.R_drewN | apply Kd.R_drew)); exact HO_7.out⟩, ⟨by (with_reducible repeat (first | apply Kd.R_alloc | apply Kd.R_drewN | apply Kd.R_drew)); exact HO_11.out⟩, ⟨by (with_reducible repeat (first | refine blk_drewN ?_ _ | refine blk_drew ?_ | refine blk_alloc ?_ _)); exact BK277.out⟩, ⟨by repeat (first | (with_reducible first | exact HB.out | apply below_alloc | apply pw_below_drewN | apply below_drew1 | refine below_set ?_ GE277.out) | exact HB.out)⟩⟩
             ·
              rw [if_neg c49] at H
              have c49b0 : ((decide (t274 > (wrap64 (((rd_T28 t266 x14_2).f0) * t275)))) == t284) = false := by simpa using c49
              (try (have c49b1 : decide ((decide (t274 > (wrap64 (((rd_T28 t266 x14_2).f0) * t275)))) = t284) = false := by simpa using c49))
              (try (have c49b2 : ((decide (t274 > (wrap64 (((rd_T28 t266 x14_2).f0) * t275)))) == t284) = false := by simpa using c49))
              (try (have c49b3 : ¬ ((decide (t274 > (wrap64 (((rd_T28 t266 x14_2).f0) * t275)))) = t284) := by simpa using c49))
              clear c49
              (first | rw [c49b0] | (simp only [i64_w, i32_w]; rw [c49b0]) | (rw [c49b2]; simp only [Bool.not_false, Bool.not_true]) | skip)
              by_cases c51 : x14_2 < (t270.length : Int)
              ·
               rw [if_pos c51] at H
               have c51b0 : decide (x14_2 < (t270.length : Int)) = true := decide_eq_true c51
               clear c51
               by_cases c52 : ((rd_T25 t270 x14_2).f1) < 1
               ·
                rw [if_pos c52] at H
                have c52b0 : decide (((rd_T25 t270 x14_2).f1) < 1) = true := decide_eq_true c52
                clear c52
                have H' := aS H
                clear H
                obtain ⟨Ao53, co53, eo53⟩ := Kd.R_slice HO_11.out
                subst eo53
                go_wp2_with (first | (go_at_call 43; (with_reducible refine (laws_a2Has.calls k2 _ _ t278 x14_2 t284 _ ?side1 ?side2 A48.out).mono ?_); (case side1 => exact sC (Kd.R_reads' HO_11.out).2.2); (case side2 => exact (Kd.R_reads' HO_11.out).2.1); rintro e w' ⟨rfl, ⟨nd, rfl⟩⟩; (try first | exact ⟨rfl, _, World.drewN_drewN _ _ _⟩ | exact ⟨rfl, _, Eq.trans (World.drewN_drewN _ _ _) (congrArg (World.drewN _) (Nat.add_assoc _ _ _))⟩); obtain ⟨Ao54, co54, eo54⟩ := Kd.R_slice HO_7.out; subst eo54; have p285 : 0 ≤ (x14_2 : Int) := of_decide_eq_true (by first | (with_reducible assumption) | assumption); have q285 : x14_2 < (t270.length : Int) := of_decide_eq_true (by first | (with_reducible assumption) | assumption); obtain ⟨ad285, e285, hx285_0, hx285_1⟩ := at_T25 (Kd.R_reads' HO_7.out).2.2 x14_2 p285 q285; cases e285; replace p285 := eq_true p285; replace q285 := eq_true q285))
                repeat (go_quiet (first | (go_at_call 43; (with_reducible refine (laws_a2Has.calls k2 _ _ t278 x14_2 t284 _ ?side1 ?side2 A48.out).mono ?_); (case side1 => exact sC (Kd.R_reads' HO_11.out).2.2); (case side2 => exact (Kd.R_reads' HO_11.out).2.1); rintro e w' ⟨rfl, ⟨nd, rfl⟩⟩; (try first | exact ⟨rfl, _, World.drewN_drewN _ _ _⟩ | exact ⟨rfl, _, Eq.trans (World.drewN_drewN _ _ _) (congrArg (World.drewN _) (Nat.add_assoc _ _ _))⟩); obtain ⟨Ao54, co54, eo54⟩ := Kd.R_slice HO_7.out; subst eo54; have p285 : 0 ≤ (x14_2 : Int) := of_decide_eq_true (by first | (with_reducible assumption) | assumption); have q285 : x14_2 < (t270.length : Int) := of_decide_eq_true (by first | (with_reducible assumption) | assumption); obtain ⟨ad285, e285, hx285_0, hx285_1⟩ := at_T25 (Kd.R_reads' HO_7.out).2.2 x14_2 p285 q285; cases e285; replace p285 := eq_true p285; replace q285 := eq_true q285)); try go_wp2_with (first | (go_at_call 43; (with_reducible refine (laws_a2Has.calls k2 _ _ t278 x14_2 t284 _ ?side1 ?side2 A48.out).mono ?_); (case side1 => exact sC (Kd.R_reads' HO_11.out).2.2); (case side2 => exact (Kd.R_reads' HO_11.out).2.1); rintro e w' ⟨rfl, ⟨nd, rfl⟩⟩; (try first | exact ⟨rfl, _, World.drewN_drewN _ _ _⟩ | exact ⟨rfl, _, Eq.trans (World.drewN_drewN _ _ _) (congrArg (World.drewN _) (Nat.add_assoc _ _ _))⟩); obtain ⟨Ao54, co54, eo54⟩ := Kd.R_slice HO_7.out; subst eo54; have p285 : 0 ≤ (x14_2 : Int) := of_decide_eq_true (by first | (with_reducible assumption) | assumption); have q285 : x14_2 < (t270.length : Int) := of_decide_eq_true (by first | (with_reducible assumption) | assumption); obtain ⟨ad285, e285, hx285_0, hx285_1⟩ := at_T25 (Kd.R_reads' HO_7.out).2.2 x14_2 p285 q285; cases e285; replace p285 := eq_true p285; replace q285 := eq_true q285)))
                go_meet
                case rel => exact ⟨_, (true), (by first | rfl | (simp; done) | (simp [*]; done) | (simp only [i64_w]; done) | (simp [i64_w]; done)), H', ⟨by have := HJ10.out; have := HK2.out; first | omega | exact Nat.le_refl _⟩, ⟨by (with_reducible repeat (first | apply Kd.R_alloc | apply Kd.R_drewN | apply Kd.R_drew)); exact HO_5.out⟩, ⟨by (with_reducible repeat (first | apply Kd.R_alloc | apply Kd.R_drewN | apply Kd.R_drew)); exact HO_7.out⟩, ⟨by (with_reducible repeat (first | apply Kd.R_alloc | apply Kd.R_drewN | apply Kd.R_drew)); exact HO_11.out⟩, ⟨by (with_reducible repeat (first | refine blk_drewN ?_ _ | refine blk_drew ?_ | refine blk_alloc ?_ _)); exact BK277.out⟩, ⟨by repeat (first | (with_reducible first | exact HB.out | apply below_alloc | apply pw_below_drewN | apply below_drew1 | refine below_set ?_ GE277.out) | exact HB.out)⟩⟩
               ·
                rw [if_neg c52] at H
                have c52b0 : decide (((rd_T25 t270 x14_2).f1) < 1) = false := decide_eq_false c52
                clear c52
                by_cases c55 : ((rd_T25 t270 x14_2).f0) < 0
                ·
                 rw [if_pos c55] at H
                 have c55b0 : decide (((rd_T25 t270 x14_2).f0) < 0) = true := decide_eq_true c55
                 clear c55
                 have H' := aS H
                 clear H
                 obtain ⟨Ao56, co56, eo56⟩ := Kd.R_slice HO_11.out
                 subst eo56
                 go_wp2_with (first | (go_at_call 43; (with_reducible refine (laws_a2Has.calls k2 _ _ t278 x14_2 t284 _ ?side1 ?side2 A48.out).mono ?_); (case side1 => exact sC (Kd.R_reads' HO_11.out).2.2); (case side2 => exact (Kd.R_reads' HO_11.out).2.1); rintro e w' ⟨rfl, ⟨nd, rfl⟩⟩; (try first | exact ⟨rfl, _, World.drewN_drewN _ _ _⟩ | exact ⟨rfl, _, Eq.trans (World.drewN_drewN _ _ _) (congrArg (World.drewN _) (Nat.add_assoc _ _ _))⟩); obtain ⟨Ao57, co57, eo57⟩ := Kd.R_slice HO_7.out; subst eo57; have p285 : 0 ≤ (x14_2 : Int) := of_decide_eq_true (by first | (with_reducible assumption) | assumption); have q285 : x14_2 < (t270.length : Int) := of_decide_eq_true (by first | (with_reducible assumption) | assumption); obtain ⟨ad285, e285, hx285_0, hx285_1⟩ := at_T25 (Kd.R_reads' HO_7.out).2.2 x14_2 p285 q285; cases e285; replace p285 := eq_true p285; replace q285 := eq_true q285; have p286 : 0 ≤ (x14_2 : Int) := of_decide_eq_true (by first | (with_reducible assumption) | assumption); have q286 : x14_2 < (t270.length : Int) := of_decide_eq_true (by first | (with_reducible assumption) | assumption); obtain ⟨ad286, e286, hx286_0, hx286_1⟩ := at_T25 (Kd.R_reads' HO_7.out).2.2 x14_2 p286 q286; obtain rfl : ad285 = ad286 := (by injection e286); replace p286 := eq_true p286; replace q286 := eq_true q286))
                 repeat (go_quiet (first | (go_at_call 43; (with_reducible refine (laws_a2Has.calls k2 _ _ t278 x14_2 t284 _ ?side1 ?side2 A48.out).mono ?_); (case side1 => exact sC (Kd.R_reads' HO_11.out).2.2); (case side2 => exact (Kd.R_reads' HO_11.out).2.1); rintro e w' ⟨rfl, ⟨nd, rfl⟩⟩; (try first | exact ⟨rfl, _, World.drewN_drewN _ _ _⟩ | exact ⟨rfl, _, Eq.trans (World.drewN_drewN _ _ _) (congrArg (World.drewN _) (Nat.add_assoc _ _ _))⟩); obtain ⟨Ao57, co57, eo57⟩ := Kd.R_slice HO_7.out; subst eo57; have p285 : 0 ≤ (x14_2 : Int) := of_decide_eq_true (by first | (with_reducible assumption) | assumption); have q285 : x14_2 < (t270.length : Int) := of_decide_eq_true (by first | (with_reducible assumption) | assumption); obtain ⟨ad285, e285, hx285_0, hx285_1⟩ := at_T25 (Kd.R_reads' HO_7.out).2.2 x14_2 p285 q285; cases e285; replace p285 := eq_true p285; replace q285 := eq_true q285; have p286 : 0 ≤ (x14_2 : Int) := of_decide_eq_true (by first | (with_reducible assumption) | assumption); have q286 : x14_2 < (t270.length : Int) := of_decide_eq_true (by first | (with_reducible assumption) | assumption); obtain ⟨ad286, e286, hx286_0, hx286_1⟩ := at_T25 (Kd.R_reads' HO_7.out).2.2 x14_2 p286 q286; obtain rfl : ad285 = ad286 := (by injection e286); replace p286 := eq_true p286; replace q286 := eq_true q286)); try go_wp2_with (first | (go_at_call 43; (with_reducible refine (laws_a2Has.calls k2 _ _ t278 x14_2 t284 _ ?side1 ?side2 A48.out).mono ?_); (case side1 => exact sC (Kd.R_reads' HO_11.out).2.2); (case side2 => exact (Kd.R_reads' HO_11.out).2.1); rintro e w' ⟨rfl, ⟨nd, rfl⟩⟩; (try first | exact ⟨rfl, _, World.drewN_drewN _ _ _⟩ | exact ⟨rfl, _, Eq.trans (World.drewN_drewN _ _ _) (congrArg (World.drewN _) (Nat.add_assoc _ _ _))⟩); obtain ⟨Ao57, co57, eo57⟩ := Kd.R_slice HO_7.out; subst eo57; have p285 : 0 ≤ (x14_2 : Int) := of_decide_eq_true (by first | (with_reducible assumption) | assumption); have q285 : x14_2 < (t270.length : Int) := of_decide_eq_true (by first | (with_reducible assumption) | assumption); obtain ⟨ad285, e285, hx285_0, hx285_1⟩ := at_T25 (Kd.R_reads' HO_7.out).2.2 x14_2 p285 q285; cases e285; replace p285 := eq_true p285; replace q285 := eq_true q285; have p286 : 0 ≤ (x14_2 : Int) := of_decide_eq_true (by first | (with_reducible assumption) | assumption); have q286 : x14_2 < (t270.length : Int) := of_decide_eq_true (by first | (with_reducible assumption) | assumption); obtain ⟨ad286, e286, hx286_0, hx286_1⟩ := at_T25 (Kd.R_reads' HO_7.out).2.2 x14_2 p286 q286; obtain rfl : ad285 = ad286 := (by injection e286); replace p286 := eq_true p286; replace q286 := eq_true q286)))
                 go_meet
                 case rel => exact ⟨_, (true), (by first | rfl | (simp; done) | (simp [*]; done) | (simp only [i64_w]; done) | (simp [i64_w]; done)), H', ⟨by have := HJ10.out; have := HK2.out; first | omega | exact Nat.le_refl _⟩, ⟨by (with_reducible repeat (first | apply Kd.R_alloc | apply Kd.R_drewN | apply Kd.R_drew)); exact HO_5.out⟩, ⟨by (with_reducible repeat (first | apply Kd.R_alloc | apply Kd.R_drewN | apply Kd.R_drew)); exact HO_7.out⟩, ⟨by (with_reducible repeat (first | apply Kd.R_alloc | apply Kd.R_drewN | apply Kd.R_drew)); exact HO_11.out⟩, ⟨by (with_reducible repeat (first | refine blk_drewN ?_ _ | refine blk_drew ?_ | refine blk_alloc ?_ _)); exact BK277.out⟩, ⟨by repeat (first | (with_reducible first | exact HB.out | apply below_alloc | apply pw_below_drewN | apply below_drew1 | refine below_set ?_ GE277.out) | exact HB.out)⟩⟩
                ·
                 rw [if_neg c55] at H
                 have c55b0 : decide (((rd_T25 t270 x14_2).f0) < 0) = false := decide_eq_false c55
                 clear c55
                 have H' := aS H
                 clear H
                 obtain ⟨Ao58, co58, eo58⟩ := Kd.R_slice HO_11.out
                 subst eo58
                 go_wp2_with (first | (go_at_call 43; (with_reducible refine (laws_a2Has.calls k2 _ _ t278 x14_2 t284 _ ?side1 ?side2 A48.out).mono ?_); (case side1 => exact sC (Kd.R_reads' HO_11.out).2.2); (case side2 => exact (Kd.R_reads' HO_11.out).2.1); rintro e w' ⟨rfl, ⟨nd, rfl⟩⟩; (try first | exact ⟨rfl, _, World.drewN_drewN _ _ _⟩ | exact ⟨rfl, _, Eq.trans (World.drewN_drewN _ _ _) (congrArg (World.drewN _) (Nat.add_assoc _ _ _))⟩); obtain ⟨Ao59, co59, eo59⟩ := Kd.R_slice HO_7.out; subst eo59; have p285 : 0 ≤ (x14_2 : Int) := of_decide_eq_true (by first | (with_reducible assumption) | assumption); have q285 : x14_2 < (t270.length : Int) := of_decide_eq_true (by first | (with_reducible assumption) | assumption); obtain ⟨ad285, e285, hx285_0, hx285_1⟩ := at_T25 (Kd.R_reads' HO_7.out).2.2 x14_2 p285 q285; cases e285; replace p285 := eq_true p285; replace q285 := eq_true q285; have p286 : 0 ≤ (x14_2 : Int) := of_decide_eq_true (by first | (with_reducible assumption) | assumption); have q286 : x14_2 < (t270.length : Int) := of_decide_eq_true (by first | (with_reducible assumption) | assumption); obtain ⟨ad286, e286, hx286_0, hx286_1⟩ := at_T25 (Kd.R_reads' HO_7.out).2.2 x14_2 p286 q286; obtain rfl : ad285 = ad286 := (by injection e286); replace p286 := eq_true p286; replace q286 := eq_true q286; have p287 : 0 ≤ (x14_2 : Int) := of_decide_eq_true (by first | (with_reducible assumption) | assumption); have q287 : x14_2 < (t270.length : Int) := of_decide_eq_true (by first | (with_reducible assumption) | assumption); obtain ⟨ad287, e287, hx287_0, hx287_1⟩ := at_T25 (Kd.R_reads' HO_7.out).2.2 x14_2 p287 q287; obtain rfl : ad285 = ad287 := (by injection e287); replace p287 := eq_true p287; replace q287 := eq_true q287))
                 repeat (go_quiet (first | (go_at_call 43; (with_reducible refine (laws_a2Has.calls k2 _ _ t278 x14_2 t284 _ ?side1 ?side2 A48.out).mono ?_); (case side1 => exact sC (Kd.R_reads' HO_11.out).2.2); (case side2 => exact (Kd.R_reads' HO_11.out).2.1); rintro e w' ⟨rfl, ⟨nd, rfl⟩⟩; (try first | exact ⟨rfl, _, World.drewN_drewN _ _ _⟩ | exact ⟨rfl, _, Eq.trans (World.drewN_drewN _ _ _) (congrArg (World.drewN _) (Nat.add_assoc _ _ _))⟩); obtain ⟨Ao59, co59, eo59⟩ := Kd.R_slice HO_7.out; subst eo59; have p285 : 0 ≤ (x14_2 : Int) := of_decide_eq_true (by first | (with_reducible assumption) | assumption); have q285 : x14_2 < (t270.length : Int) := of_decide_eq_true (by first | (with_reducible assumption) | assumption); obtain ⟨ad285, e285, hx285_0, hx285_1⟩ := at_T25 (Kd.R_reads' HO_7.out).2.2 x14_2 p285 q285; cases e285; replace p285 := eq_true p285; replace q285 := eq_true q285; have p286 : 0 ≤ (x14_2 : Int) := of_decide_eq_true (by first | (with_reducible assumption) | assumption); have q286 : x14_2 < (t270.length : Int) := of_decide_eq_true (by first | (with_reducible assumption) | assumption); obtain ⟨ad286, e286, hx286_0, hx286_1⟩ := at_T25 (Kd.R_reads' HO_7.out).2.2 x14_2 p286 q286; obtain rfl : ad285 = ad286 := (by injection e286); replace p286 := eq_true p286; replace q286 := eq_true q286; have p287 : 0 ≤ (x14_2 : Int) := of_decide_eq_true (by first | (with_reducible assumption) | assumption); have q287 : x14_2 < (t270.length : Int) := of_decide_eq_true (by first | (with_reducible assumption) | assumption); obtain ⟨ad287, e287, hx287_0, hx287_1⟩ := at_T25 (Kd.R_reads' HO_7.out).2.2 x14_2 p287 q287; obtain rfl : ad285 = ad287 := (by injection e287); replace p287 := eq_true p287; replace q287 := eq_true q287)); try go_wp2_with (first | (go_at_call 43; (with_reducible refine (laws_a2Has.calls k2 _ _ t278 x14_2 t284 _ ?side1 ?side2 A48.out).mono ?_); (case side1 => exact sC (Kd.R_reads' HO_11.out).2.2); (case side2 => exact (Kd.R_reads' HO_11.out).2.1); rintro e w' ⟨rfl, ⟨nd, rfl⟩⟩; (try first | exact ⟨rfl, _, World.drewN_drewN _ _ _⟩ | exact ⟨rfl, _, Eq.trans (World.drewN_drewN _ _ _) (congrArg (World.drewN _) (Nat.add_assoc _ _ _))⟩); obtain ⟨Ao59, co59, eo59⟩ := Kd.R_slice HO_7.out; subst eo59; have p285 : 0 ≤ (x14_2 : Int) := of_decide_eq_true (by first | (with_reducible assumption) | assumption); have q285 : x14_2 < (t270.length : Int) := of_decide_eq_true (by first | (with_reducible assumption) | assumption); obtain ⟨ad285, e285, hx285_0, hx285_1⟩ := at_T25 (Kd.R_reads' HO_7.out).2.2 x14_2 p285 q285; cases e285; replace p285 := eq_true p285; replace q285 := eq_true q285; have p286 : 0 ≤ (x14_2 : Int) := of_decide_eq_true (by first | (with_reducible assumption) | assumption); have q286 : x14_2 < (t270.length : Int) := of_decide_eq_true (by first | (with_reducible assumption) | assumption); obtain ⟨ad286, e286, hx286_0, hx286_1⟩ := at_T25 (Kd.R_reads' HO_7.out).2.2 x14_2 p286 q286; obtain rfl : ad285 = ad286 := (by injection e286); replace p286 := eq_true p286; replace q286 := eq_true q286; have p287 : 0 ≤ (x14_2 : Int) := of_decide_eq_true (by first | (with_reducible assumption) | assumption); have q287 : x14_2 < (t270.length : Int) := of_decide_eq_true (by first | (with_reducible assumption) | assumption); obtain ⟨ad287, e287, hx287_0, hx287_1⟩ := at_T25 (Kd.R_reads' HO_7.out).2.2 x14_2 p287 q287; obtain rfl : ad285 = ad287 := (by injection e287); replace p287 := eq_true p287; replace q287 := eq_true q287)))
                 go_meet
                 case rel => exact ⟨_, (((decide (((rd_T25 t270 x14_2).f0) > 0)) != (decide (t274 > (wrap64 (((rd_T28 t266 x14_2).f0) * t275)))))), (by first | rfl | (simp; done) | (simp [*]; done) | (simp only [i64_w]; done) | (simp [i64_w]; done)), H', ⟨by have := HJ10.out; have := HK2.out; first | omega | exact Nat.le_refl _⟩, ⟨by (with_reducible repeat (first | apply Kd.R_alloc | apply Kd.R_drewN | apply Kd.R_drew)); exact HO_5.out⟩, ⟨by (with_reducible repeat (first | apply Kd.R_alloc | apply Kd.R_drewN | apply Kd.R_drew)); exact HO_7.out⟩, ⟨by (with_reducible repeat (first | apply Kd.R_alloc | apply Kd.R_drewN | apply Kd.R_drew)); exact HO_11.out⟩, ⟨by (with_reducible repeat (first | refine blk_drewN ?_ _ | refine blk_drew ?_ | refine blk_alloc ?_ _)); exact BK277.out⟩, ⟨by repeat (first | (with_reducible first | exact HB.out | apply below_alloc | apply pw_below_drewN | apply below_drew1 | refine below_set ?_ GE277.out) | exact HB.out)⟩⟩
              ·
               rw [if_neg c51] at H
               exact absurd H (by simp)
           case rest =>
            as_aux_lemma =>
             clear HC46
             (try clear c1); (try clear c2); (try clear p2); (try clear q2); (try clear hx2); (try clear c3); (try clear c4); (try clear c5); (try clear p6); (try clear c11); (try clear c19); (try clear c19b0); (try clear c19b1); (try clear c19b2); (try clear c20); (try clear c20b0); (try clear c20b1); (try clear c20b2); (try clear c21); (try clear c21b0); (try clear c21b1); (try clear c22); (try clear c22b0); (try clear c25); (try clear c25b0); (try clear c28); (try clear c28b0); (try clear p28); (try clear q28); (try clear hx28); (try clear c31); (try clear c31b0); (try clear c34); (try clear c34b0); (try clear c34b1); (try clear c43); (try clear c44); (try clear c44b0); (try clear c45); (try clear c45b0); (try clear c49); (try clear c49b0); (try clear c49b1); (try clear c49b2); (try clear c51); (try clear c51b0); (try clear c52); (try clear c52b0); (try clear c55); (try clear c55b0); (try clear hcz17_0); (try clear hcz17_1); (try clear hcz24_0); (try clear hcz24_1); (try clear hcz27_0); (try clear hcz27_1); (try clear hcz30_0); (try clear hcz30_1); (try clear hcz33_0); (try clear hcz33_1); (try clear hcz37_0); (try clear hcz37_1); (try clear hcz40_0); (try clear hcz40_1); (try clear hcz47_0); (try clear hcz47_1); (try clear hfz17_0); (try clear hfz17_1); (try clear hfz24_0); (try clear hfz24_1); (try clear hfz27_0); (try clear hfz27_1); (try clear hfz30_0); (try clear hfz30_1); (try clear hfz33_0); (try clear hfz33_1); (try clear hfz37_0); (try clear hfz37_1); (try clear hfz40_0); (try clear hfz40_1); (try clear hfz47_0); (try clear hfz47_1); (try clear hx283_0); (try clear hx283_1); (try clear hx285_0); (try clear hx285_1); (try clear hx286_0); (try clear hx286_1); (try clear hx287_0); (try clear hx287_1); (try clear p2); (try clear p283); (try clear p285); (try clear p286); (try clear p287); (try clear p6); (try clear q283); (try clear q285); (try clear q286); (try clear q287)
             obtain ⟨kq, x142_45, rfl, HA, HJ45, HO_5, HO_7, HO_11, BK277, HB⟩ := hcut
             cases kq with
             | zero => exact absurd HA.out (by simp [laws_FnSharedLoads.j2])
             | succ kj45 =>
              have H := HA.out
              clear HA
              simp only [laws_FnSharedLoads.j2] at H
              by_cases c60 : x142_45 = true
              ·
               subst c60
               have H1 : (some false) = some r := by rw [if_pos rfl] at H; exact H
               clear H
               have H := H1
               clear H1
               obtain rfl := Option.some.inj H
               go_wp2
               repeat (go_quiet (fail); try go_wp2)
               go_ret
               exact ⟨by first | rfl | (simp [errW_none, errW_some, i64_w]; done) | (simp [errW_none, errW_some] <;> rfl) | (simp [*, errW_none, errW_some] <;> rfl), by repeat (first | (with_reducible first | exact HB.out | apply below_alloc | apply pw_below_drewN | apply below_drew1) | exact HB.out)⟩
              ·
               replace c60 := Bool.eq_false_iff.mpr c60
               subst c60
               have H1 : (if (decide (t274 > (wrap64 (((rd_T28 t266 x14_2).f0) * t275)))) = true then (if 0 ≤ x14_2 then (if x14_2 < (t266.length : Int) then (laws_FnSharedLoads.l0 kj45 t266 (wrap64 (t269 * 8)) t270 t278 (wrap64 (x13_2 + ((rd_T28 t266 x14_2).f1))) (wrap64 (x14_2 + 1)) t274 t275) else (none)) else (none)) else (laws_FnSharedLoads.l0 kj45 t266 (wrap64 (t269 * 8)) t270 t278 x13_2 (wrap64 (x14_2 + 1)) t274 t275)) = some r := by rw [if_neg (show ¬ (false = true) by decide)] at H; exact H
               clear H
               have H := H1
               clear H1
               by_cases c61 : (decide (t274 > (wrap64 (((rd_T28 t266 x14_2).f0) * t275)))) = true
               ·
                rw [if_pos c61] at H
                have c61b0 : (decide (t274 > (wrap64 (((rd_T28 t266 x14_2).f0) * t275)))) = true := c61
                (try (have c61b1 : decide ((wrap64 (((rd_T28 t266 x14_2).f0) * t275)) < t274) = true := by simpa using c61))
                clear c61
                (try go_simp)
                by_cases c62 : 0 ≤ x14_2
                ·
                 rw [if_pos c62] at H
                 have c62b0 : decide (0 ≤ x14_2) = true := decide_eq_true c62
                 clear c62
                 by_cases c63 : x14_2 < (t266.length : Int)
                 ·
                  rw [if_pos c63] at H
                  have c63b0 : decide (x14_2 < (t266.length : Int)) = true := decide_eq_true c63
                  clear c63
                  have H' := aS H
                  clear H
                  have p288 : 0 ≤ (x14_2 : Int) := of_decide_eq_true (by first | (with_reducible assumption) | assumption)
                  have q288 : x14_2 < (t266.length : Int) := of_decide_eq_true (by first | (with_reducible assumption) | assumption)
                  obtain ⟨ad288, e288, hx288_0, hx288_1⟩ := at_T28 (Kd.R_reads' HO_5.out).2.2 x14_2 p288 q288
                  obtain rfl : ad283 = ad288 := (by injection e288)
                  replace p288 := eq_true p288
                  replace q288 := eq_true q288
                  go_wp2
                  repeat (go_quiet (fail); try go_wp2)
                  go_roundg kj45
                  case measure => have := HJ10.out; have := HK2.out; have := HJ45.out; omega
                  case rel => exact ⟨(wrap64 (x13_2 + ((rd_T28 t266 x14_2).f1))), (wrap64 (x14_2 + 1)), (by first | rfl | (simp; done) | (simp [*]; done) | (simp only [i64_w]; done) | (simp [i64_w]; done)), (by first | rfl | (simp; done) | (simp [*]; done) | (simp only [i64_w]; done) | (simp [i64_w]; done)), H', ⟨by have := HJ10.out; have := HK2.out; have := HJ45.out; omega⟩, ⟨by (with_reducible repeat (first | apply Kd.R_alloc | apply Kd.R_drewN | apply Kd.R_drew)); exact HO_5.out⟩, ⟨by (with_reducible repeat (first | apply Kd.R_alloc | apply Kd.R_drewN | apply Kd.R_drew)); exact HO_7.out⟩, ⟨by (with_reducible repeat (first | apply Kd.R_alloc | apply Kd.R_drewN | apply Kd.R_drew)); exact HO_11.out⟩, ⟨by (with_reducible repeat (first | refine blk_drewN ?_ _ | refine blk_drew ?_ | refine blk_alloc ?_ _)); exact BK277.out⟩, ⟨by repeat (first | (with_reducible first | exact HB.out | apply below_alloc | apply pw_below_drewN | apply below_drew1 | refine below_set ?_ GE277.out) | exact HB.out)⟩⟩
                 ·
                  rw [if_neg c63] at H
                  exact absurd H (by simp)
                ·
                 rw [if_neg c62] at H
                 exact absurd H (by simp)
               ·
                rw [if_neg c61] at H
                have c61b0 : (decide (t274 > (wrap64 (((rd_T28 t266 x14_2).f0) * t275)))) = false := by simpa using c61
                (try (have c61b1 : decide ((wrap64 (((rd_T28 t266 x14_2).f0) * t275)) < t274) = false := by simpa using c61))
                clear c61
                (try go_simp)
                have H' := aS H
                clear H
                go_wp2
                repeat (go_quiet (fail); try go_wp2)
                go_roundg kj45
                case measure => have := HJ10.out; have := HK2.out; have := HJ45.out; omega
                case rel => exact ⟨(x13_2), (wrap64 (x14_2 + 1)), (by first | rfl | (simp; done) | (simp [*]; done) | (simp only [i64_w]; done) | (simp [i64_w]; done)), (by first | rfl | (simp; done) | (simp [*]; done) | (simp only [i64_w]; done) | (simp [i64_w]; done)), H', ⟨by have := HJ10.out; have := HK2.out; have := HJ45.out; omega⟩, ⟨by (with_reducible repeat (first | apply Kd.R_alloc | apply Kd.R_drewN | apply Kd.R_drew)); exact HO_5.out⟩, ⟨by (with_reducible repeat (first | apply Kd.R_alloc | apply Kd.R_drewN | apply Kd.R_drew)); exact HO_7.out⟩, ⟨by (with_reducible repeat (first | apply Kd.R_alloc | apply Kd.R_drewN | apply Kd.R_drew)); exact HO_11.out⟩, ⟨by (with_reducible repeat (first | refine blk_drewN ?_ _ | refine blk_drew ?_ | refine blk_alloc ?_ _)); exact BK277.out⟩, ⟨by repeat (first | (with_reducible first | exact HB.out | apply below_alloc | apply pw_below_drewN | apply below_drew1 | refine below_set ?_ GE277.out) | exact HB.out)⟩⟩
          ·
           rw [if_neg c45] at H
           exact absurd H (by simp)
         ·
          rw [if_neg c44] at H
          have c44b0 : decide (x14_2 < (t266.length : Int)) = false := decide_eq_false c44
          clear c44
          have H' := aS H
          clear H
          go_wp2
          repeat (go_quiet (fail); try go_wp2)
          go_loopg [16, 17, 18] k2 (fun kq v16 v17 v18 w' => ∃ (x16_3 : Int) (x17_3 : Int) (x18_3 : Int), v16 = .int .i64 x16_3 ∧ v17 = .int .i64 x17_3 ∧ v18 = .int .i64 x18_3 ∧ Aside0 (laws_FnSharedLoads.l1 kq t266 (wrap64 (t269 * 8)) t278 x13_2 x16_3 x17_3 x18_3 t274 t275 = some r) ∧ Aside0 (kq ≤ k2) ∧ Aside0 (Kd.R k28 28 w' w.heap.size (fun _ => True) (.slice Ao13 t266.length co13) t266) ∧ Aside0 (Kd.R (Kd.int .i64) 2 w' w.heap.size (fun _ => True) v280 t278) ∧ Aside0 (w'.heap[gb277]? = some (.cells #[.int .i64 t274, .int .i64 t275] 25 (0, 0))) ∧ Aside0 (Below w.heap.size w w'))
          case atStart => exact ⟨(0), (1), (0), (by first | rfl | (simp; done) | (simp [*]; done) | (simp only [i64_w]; done) | (simp [i64_w]; done)), (by first | rfl | (simp; done) | (simp [*]; done) | (simp only [i64_w]; done) | (simp [i64_w]; done)), (by first | rfl | (simp; done) | (simp [*]; done) | (simp only [i64_w]; done) | (simp [i64_w]; done)), H', ⟨Nat.le_refl _⟩, ⟨by (with_reducible repeat (first | apply Kd.R_alloc | apply Kd.R_drewN | apply Kd.R_drew)); exact HO_5.out⟩, ⟨by (with_reducible repeat (first | apply Kd.R_alloc | apply Kd.R_drewN | apply Kd.R_drew)); exact HO_11.out⟩, ⟨by (with_reducible repeat (first | refine blk_drewN ?_ _ | refine blk_drew ?_ | refine blk_alloc ?_ _)); exact BK277.out⟩, ⟨by repeat (first | (with_reducible first | exact HB.out | apply below_alloc | apply pw_below_drewN | apply below_drew1 | refine below_set ?_ GE277.out) | exact HB.out)⟩⟩
          case round =>
           as_aux_lemma =>
            clear H'
            (try clear c1); (try clear c2); (try clear p2); (try clear q2); (try clear hx2); (try clear c3); (try clear c4); (try clear c5); (try clear c6); (try clear p6); (try clear c11); (try clear c19); (try clear c19b0); (try clear c19b1); (try clear c19b2); (try clear c20); (try clear c20b0); (try clear c20b1); (try clear c20b2); (try clear c21); (try clear c21b0); (try clear c21b1); (try clear c22); (try clear c22b0); (try clear c25); (try clear c25b0); (try clear c28); (try clear c28b0); (try clear p28); (try clear q28); (try clear hx28); (try clear c31); (try clear c31b0); (try clear c34); (try clear c34b0); (try clear c34b1); (try clear c43); (try clear c44); (try clear c44b0); (try clear c45); (try clear c45b0); (try clear c49); (try clear c49b0); (try clear c49b1); (try clear c49b2); (try clear c51); (try clear c51b0); (try clear c52); (try clear c52b0); (try clear c55); (try clear c55b0); (try clear c60); (try clear c61); (try clear c61b0); (try clear c61b1); (try clear c62); (try clear c62b0); (try clear c63); (try clear c63b0); (try clear hcz17_0); (try clear hcz17_1); (try clear hcz24_0); (try clear hcz24_1); (try clear hcz27_0); (try clear hcz27_1); (try clear hcz30_0); (try clear hcz30_1); (try clear hcz33_0); (try clear hcz33_1); (try clear hcz37_0); (try clear hcz37_1); (try clear hcz40_0); (try clear hcz40_1); (try clear hcz47_0); (try clear hcz47_1); (try clear hfz17_0); (try clear hfz17_1); (try clear hfz24_0); (try clear hfz24_1); (try clear hfz27_0); (try clear hfz27_1); (try clear hfz30_0); (try clear hfz30_1); (try clear hfz33_0); (try clear hfz33_1); (try clear hfz37_0); (try clear hfz37_1); (try clear hfz40_0); (try clear hfz40_1); (try clear hfz47_0); (try clear hfz47_1); (try clear hx283_0); (try clear hx283_1); (try clear hx285_0); (try clear hx285_1); (try clear hx286_0); (try clear hx286_1); (try clear hx287_0); (try clear hx287_1); (try clear hx288_0); (try clear hx288_1); (try clear p2); (try clear p28); (try clear p283); (try clear p285); (try clear p286); (try clear p287); (try clear p288); (try clear p6); (try clear q2); (try clear q28); (try clear q283); (try clear q285); (try clear q286); (try clear q287); (try clear q288)
            obtain ⟨x16_3, x17_3, x18_3, rfl, rfl, rfl, HA, HK3, HO_5, HO_11, BK277, HB⟩ := hrel
            cases gk with
            | zero => exact absurd HA.out (by simp [laws_FnSharedLoads.l1])
            | succ k3 =>
             have H := HA.out
             clear HA
             simp only [laws_FnSharedLoads.l1] at H
             by_cases c64 : x18_3 < (t266.length : Int)
             ·
              rw [if_pos c64] at H
              have c64b0 : decide (x18_3 < (t266.length : Int)) = true := decide_eq_true c64
              clear c64
              replace H := Option.bind_eq_some_iff.mp H
              obtain ⟨t289, A650, H⟩ := H
              replace H : (if t289 = true then (laws_FnSharedLoads.l1 k3 t266 (wrap64 (t269 * 8)) t278 x13_2 x16_3 x17_3 (wrap64 (x18_3 + 1)) t274 t275) else (if 0 ≤ x18_3 then (laws_FnSharedLoads.l1 k3 t266 (wrap64 (t269 * 8)) t278 x13_2 (wrap64 ((wrap64 (x16_3 * ((rd_T28 t266 x18_3).f0))) + (wrap64 (((rd_T28 t266 x18_3).f1) * x17_3)))) (wrap64 (x17_3 * ((rd_T28 t266 x18_3).f0))) (wrap64 (x18_3 + 1)) t274 t275) else (none))) = some r := H
              have A65 := aS A650
              clear A650
              have HC66 := aS H
              clear H
              obtain ⟨Ao67, co67, eo67⟩ := Kd.R_slice HO_11.out
              subst eo67
              go_upto_if 160 with (first | (go_at_call 43; (with_reducible refine (laws_a2Has.calls k3 _ _ t278 x18_3 t289 _ ?side1 ?side2 A65.out).mono ?_); (case side1 => exact sC (Kd.R_reads' HO_11.out).2.2); (case side2 => exact (Kd.R_reads' HO_11.out).2.1); rintro e w' ⟨rfl, ⟨nd, rfl⟩⟩; (try first | exact ⟨rfl, _, World.drewN_drewN _ _ _⟩ | exact ⟨rfl, _, Eq.trans (World.drewN_drewN _ _ _) (congrArg (World.drewN _) (Nat.add_assoc _ _ _))⟩)))
              repeat (go_quiet (first | (go_at_call 43; (with_reducible refine (laws_a2Has.calls k3 _ _ t278 x18_3 t289 _ ?side1 ?side2 A65.out).mono ?_); (case side1 => exact sC (Kd.R_reads' HO_11.out).2.2); (case side2 => exact (Kd.R_reads' HO_11.out).2.1); rintro e w' ⟨rfl, ⟨nd, rfl⟩⟩; (try first | exact ⟨rfl, _, World.drewN_drewN _ _ _⟩ | exact ⟨rfl, _, Eq.trans (World.drewN_drewN _ _ _) (congrArg (World.drewN _) (Nat.add_assoc _ _ _))⟩))); go_upto_if 160 with (first | (go_at_call 43; (with_reducible refine (laws_a2Has.calls k3 _ _ t278 x18_3 t289 _ ?side1 ?side2 A65.out).mono ?_); (case side1 => exact sC (Kd.R_reads' HO_11.out).2.2); (case side2 => exact (Kd.R_reads' HO_11.out).2.1); rintro e w' ⟨rfl, ⟨nd, rfl⟩⟩; (try first | exact ⟨rfl, _, World.drewN_drewN _ _ _⟩ | exact ⟨rfl, _, Eq.trans (World.drewN_drewN _ _ _) (congrArg (World.drewN _) (Nat.add_assoc _ _ _))⟩))))
              (try simp only [Act.put, List.setIfInBounds_toArray, List.set_cons_zero, List.set_cons_succ])
              have H := HC66.out
              clear HC66
              by_cases c68 : t289 = true
              ·
               subst c68
               have H1 : (laws_FnSharedLoads.l1 k3 t266 (wrap64 (t269 * 8)) t278 x13_2 x16_3 x17_3 (wrap64 (x18_3 + 1)) t274 t275) = some r := by rw [if_pos rfl] at H; exact H
               clear H
               have H := H1
               clear H1
               have H' := aS H
               clear H
               go_wp2
               repeat (go_quiet (fail); try go_wp2)
               go_roundg k3
               case measure => have := HJ10.out; have := HK2.out; have := HK3.out; omega
               case rel => exact ⟨(x16_3), (x17_3), (wrap64 (x18_3 + 1)), (by first | rfl | (simp; done) | (simp [*]; done) | (simp only [i64_w]; done) | (simp [i64_w]; done)), (by first | rfl | (simp; done) | (simp [*]; done) | (simp only [i64_w]; done) | (simp [i64_w]; done)), (by first | rfl | (simp; done) | (simp [*]; done) | (simp only [i64_w]; done) | (simp [i64_w]; done)), H', ⟨by have := HJ10.out; have := HK2.out; have := HK3.out; omega⟩, ⟨by (with_reducible repeat (first | apply Kd.R_alloc | apply Kd.R_drewN | apply Kd.R_drew)); exact HO_5.out⟩, ⟨by (with_reducible repeat (first | apply Kd.R_alloc | apply Kd.R_drewN | apply Kd.R_drew)); exact HO_11.out⟩, ⟨by (with_reducible repeat (first | refine blk_drewN ?_ _ | refine blk_drew ?_ | refine blk_alloc ?_ _)); exact BK277.out⟩, ⟨by repeat (first | (with_reducible first | exact HB.out | apply below_alloc | apply pw_below_drewN | apply below_drew1 | refine below_set ?_ GE277.out) | exact HB.out)⟩⟩
              ·
               replace c68 := Bool.eq_false_iff.mpr c68
               subst c68
               have H1 : (if 0 ≤ x18_3 then (laws_FnSharedLoads.l1 k3 t266 (wrap64 (t269 * 8)) t278 x13_2 (wrap64 ((wrap64 (x16_3 * ((rd_T28 t266 x18_3).f0))) + (wrap64 (((rd_T28 t266 x18_3).f1) * x17_3)))) (wrap64 (x17_3 * ((rd_T28 t266 x18_3).f0))) (wrap64 (x18_3 + 1)) t274 t275) else (none)) = some r := by rw [if_neg (show ¬ (false = true) by decide)] at H; exact H
               clear H
               have H := H1
               clear H1
               by_cases c69 : 0 ≤ x18_3
               ·
                rw [if_pos c69] at H
                have c69b0 : decide (0 ≤ x18_3) = true := decide_eq_true c69
                clear c69
                (first | rw [c69b0] | (simp only [i64_w, i32_w]; rw [c69b0]) | (rw [c69b2]; simp only [Bool.not_false, Bool.not_true]) | skip)
                have H' := aS H
                clear H
                have p290 : 0 ≤ (x18_3 : Int) := of_decide_eq_true (by first | (with_reducible assumption) | assumption)
                have q290 : x18_3 < (t266.length : Int) := of_decide_eq_true (by first | (with_reducible assumption) | assumption)
                obtain ⟨ad290, e290, hx290_0, hx290_1⟩ := at_T28 (Kd.R_reads' HO_5.out).2.2 x18_3 p290 q290
                cases e290
                replace p290 := eq_true p290
                replace q290 := eq_true q290
                have p291 : 0 ≤ (x18_3 : Int) := of_decide_eq_true (by first | (with_reducible assumption) | assumption)
                have q291 : x18_3 < (t266.length : Int) := of_decide_eq_true (by first | (with_reducible assumption) | assumption)
                obtain ⟨ad291, e291, hx291_0, hx291_1⟩ := at_T28 (Kd.R_reads' HO_5.out).2.2 x18_3 p291 q291
                obtain rfl : ad290 = ad291 := (by injection e291)
                replace p291 := eq_true p291
                replace q291 := eq_true q291
                have p292 : 0 ≤ (x18_3 : Int) := of_decide_eq_true (by first | (with_reducible assumption) | assumption)
                have q292 : x18_3 < (t266.length : Int) := of_decide_eq_true (by first | (with_reducible assumption) | assumption)
                obtain ⟨ad292, e292, hx292_0, hx292_1⟩ := at_T28 (Kd.R_reads' HO_5.out).2.2 x18_3 p292 q292
                obtain rfl : ad290 = ad292 := (by injection e292)
                replace p292 := eq_true p292
                replace q292 := eq_true q292
                go_wp2
                repeat (go_quiet (fail); try go_wp2)
                go_roundg k3
                case measure => have := HJ10.out; have := HK2.out; have := HK3.out; omega
                case rel => exact ⟨(wrap64 ((wrap64 (x16_3 * ((rd_T28 t266 x18_3).f0))) + (wrap64 (((rd_T28 t266 x18_3).f1) * x17_3)))), (wrap64 (x17_3 * ((rd_T28 t266 x18_3).f0))), (wrap64 (x18_3 + 1)), (by first | rfl | (simp; done) | (simp [*]; done) | (simp only [i64_w]; done) | (simp [i64_w]; done)), (by first | rfl | (simp; done) | (simp [*]; done) | (simp only [i64_w]; done) | (simp [i64_w]; done)), (by first | rfl | (simp; done) | (simp [*]; done) | (simp only [i64_w]; done) | (simp [i64_w]; done)), H', ⟨by have := HJ10.out; have := HK2.out; have := HK3.out; omega⟩, ⟨by (with_reducible repeat (first | apply Kd.R_alloc | apply Kd.R_drewN | apply Kd.R_drew)); exact HO_5.out⟩, ⟨by (with_reducible repeat (first | apply Kd.R_alloc | apply Kd.R_drewN | apply Kd.R_drew)); exact HO_11.out⟩, ⟨by (with_reducible repeat (first | refine blk_drewN ?_ _ | refine blk_drew ?_ | refine blk_alloc ?_ _)); exact BK277.out⟩, ⟨by repeat (first | (with_reducible first | exact HB.out | apply below_alloc | apply pw_below_drewN | apply below_drew1 | refine below_set ?_ GE277.out) | exact HB.out)⟩⟩
               ·
                rw [if_neg c69] at H
                exact absurd H (by simp)
             ·
              rw [if_neg c64] at H
              have c64b0 : decide (x18_3 < (t266.length : Int)) = false := decide_eq_false c64
              clear c64
              have HC70 := aS H
              clear H
              go_upto_region 27 with (fail)
              repeat (go_quiet (fail); go_upto_region 27 with (fail))
              go_cut [194] (fun v194 wc => ∃ (kq : Nat) (x194_69 : Bool), v194 = .bool x194_69 ∧ Aside0 (laws_FnSharedLoads.j4 kq t266 x194_69 = some r) ∧ Aside0 (kq ≤ k3) ∧ Aside0 (Kd.R k28 28 wc w.heap.size (fun _ => True) (.slice Ao13 t266.length co13) t266) ∧ Aside0 (Below w.heap.size w wc))
              case first =>
               as_aux_lemma =>
                have H := HC70.out
                clear HC70
                by_cases c71 : (wrap64 (t269 * 8)) > 0
                ·
                 rw [if_pos c71] at H
                 have c71b0 : decide (0 < (wrap64 (t269 * 8))) = true := decide_eq_true c71
                 clear c71
                 (first | rw [c71b0] | (simp only [i64_w, i32_w]; rw [c71b0]) | (rw [c71b2]; simp only [Bool.not_false, Bool.not_true]) | skip)
                 replace H := Option.bind_eq_some_iff.mp H
                 obtain ⟨t293, A720, H⟩ := H
                 replace H : (laws_FnSharedLoads.j4 k3 t266 (!t293)) = some r := H
                 have A72 := aS A720
                 clear A720
                 have H' := aS H
                 clear H
                 have hcz73_0 : wr.cell? ⟨gb277, 0, none⟩ = some (.int .i64 t274) := (blk_cell BK277.out 0).trans rfl
                 have hcz73_1 : wr.cell? ⟨gb277, 1, none⟩ = some (.int .i64 t275) := (blk_cell BK277.out 1).trans rfl
                 have hfz73_0 := blk_frozen BK277.out 0
                 have hfz73_1 := blk_frozen BK277.out 1
                 go_wp2_with (first | (go_at_call 44; (with_reducible refine (laws_a2Equal.calls (wrap64 ((wrap64 (t269 * 8)) + x13_2)) x17_3 t274 t275 x16_3 t293 _ A72.out).mono ?_); rintro e w74 ⟨rfl, hb⟩; have n0_ := aS (Kd.R_below (sR HO_5.out) hb); have n1_ := aS (blk_below (g := gb277) (o := .cells #[.int .i64 t274, .int .i64 t275] 25 (0, 0)) (sB BK277.out) hb); have n2_ := aS (below_step (sW HB.out) hb); clear HO_5 BK277 HB; have HO_5 := n0_; have BK277 := n1_; have HB := n2_; clear n0_ n1_ n2_; (try clear hb); (try clear hb2); (try clear hk); (try clear hi)))
                 repeat (go_quiet (first | (go_at_call 44; (with_reducible refine (laws_a2Equal.calls (wrap64 ((wrap64 (t269 * 8)) + x13_2)) x17_3 t274 t275 x16_3 t293 _ A72.out).mono ?_); rintro e w74 ⟨rfl, hb⟩; have n0_ := aS (Kd.R_below (sR HO_5.out) hb); have n1_ := aS (blk_below (g := gb277) (o := .cells #[.int .i64 t274, .int .i64 t275] 25 (0, 0)) (sB BK277.out) hb); have n2_ := aS (below_step (sW HB.out) hb); clear HO_5 BK277 HB; have HO_5 := n0_; have BK277 := n1_; have HB := n2_; clear n0_ n1_ n2_; (try clear hb); (try clear hb2); (try clear hk); (try clear hi))); try go_wp2_with (first | (go_at_call 44; (with_reducible refine (laws_a2Equal.calls (wrap64 ((wrap64 (t269 * 8)) + x13_2)) x17_3 t274 t275 x16_3 t293 _ A72.out).mono ?_); rintro e w74 ⟨rfl, hb⟩; have n0_ := aS (Kd.R_below (sR HO_5.out) hb); have n1_ := aS (blk_below (g := gb277) (o := .cells #[.int .i64 t274, .int .i64 t275] 25 (0, 0)) (sB BK277.out) hb); have n2_ := aS (below_step (sW HB.out) hb); clear HO_5 BK277 HB; have HO_5 := n0_; have BK277 := n1_; have HB := n2_; clear n0_ n1_ n2_; (try clear hb); (try clear hb2); (try clear hk); (try clear hi))))
                 go_meet
                 case rel => exact ⟨_, (!t293), (by first | rfl | (simp; done) | (simp [*]; done) | (simp only [i64_w]; done) | (simp [i64_w]; done)), H', ⟨by have := HJ10.out; have := HK2.out; have := HK3.out; first | omega | exact Nat.le_refl _⟩, ⟨by (with_reducible repeat (first | apply Kd.R_alloc | apply Kd.R_drewN | apply Kd.R_drew)); exact HO_5.out⟩, ⟨by repeat (first | (with_reducible first | exact HB.out | apply below_alloc | apply pw_below_drewN | apply below_drew1) | exact HB.out)⟩⟩
                ·
                 rw [if_neg c71] at H
                 have c71b0 : decide (0 < (wrap64 (t269 * 8))) = false := decide_eq_false c71
                 clear c71
                 (first | rw [c71b0] | (simp only [i64_w, i32_w]; rw [c71b0]) | (rw [c71b2]; simp only [Bool.not_false, Bool.not_true]) | skip)
                 have H' := aS H
                 clear H
                 go_wp2
                 repeat (go_quiet (fail); try go_wp2)
                 go_meet
                 case rel => exact ⟨_, (false), (by first | rfl | (simp; done) | (simp [*]; done) | (simp only [i64_w]; done) | (simp [i64_w]; done)), H', ⟨by have := HJ10.out; have := HK2.out; have := HK3.out; first | omega | exact Nat.le_refl _⟩, ⟨by (with_reducible repeat (first | apply Kd.R_alloc | apply Kd.R_drewN | apply Kd.R_drew)); exact HO_5.out⟩, ⟨by repeat (first | (with_reducible first | exact HB.out | apply below_alloc | apply pw_below_drewN | apply below_drew1) | exact HB.out)⟩⟩
              case rest =>
               as_aux_lemma =>
                clear HC70
                (try clear c1); (try clear c2); (try clear p2); (try clear q2); (try clear hx2); (try clear c3); (try clear c4); (try clear c5); (try clear c6); (try clear p6); (try clear c7); (try clear c11); (try clear c19); (try clear c19b0); (try clear c19b1); (try clear c19b2); (try clear c20); (try clear c20b0); (try clear c20b1); (try clear c20b2); (try clear c21); (try clear c21b0); (try clear c21b1); (try clear c22); (try clear c22b0); (try clear c25); (try clear c25b0); (try clear c28); (try clear c28b0); (try clear p28); (try clear q28); (try clear hx28); (try clear p29); (try clear q29); (try clear hx29); (try clear c31); (try clear c31b0); (try clear c34); (try clear c34b0); (try clear c34b1); (try clear c43); (try clear c44); (try clear c44b0); (try clear c45); (try clear c45b0); (try clear c49); (try clear c49b0); (try clear c49b1); (try clear c49b2); (try clear c51); (try clear c51b0); (try clear c52); (try clear c52b0); (try clear c55); (try clear c55b0); (try clear c60); (try clear c61); (try clear c61b0); (try clear c61b1); (try clear c62); (try clear c62b0); (try clear c63); (try clear c63b0); (try clear c64); (try clear c64b0); (try clear p64); (try clear c68); (try clear c69); (try clear c69b0); (try clear c69b2); (try clear c71); (try clear c71b0); (try clear c71b2); (try clear hcz17_0); (try clear hcz17_1); (try clear hcz24_0); (try clear hcz24_1); (try clear hcz27_0); (try clear hcz27_1); (try clear hcz30_0); (try clear hcz30_1); (try clear hcz33_0); (try clear hcz33_1); (try clear hcz37_0); (try clear hcz37_1); (try clear hcz40_0); (try clear hcz40_1); (try clear hcz47_0); (try clear hcz47_1); (try clear hcz73_0); (try clear hcz73_1); (try clear hfz17_0); (try clear hfz17_1); (try clear hfz24_0); (try clear hfz24_1); (try clear hfz27_0); (try clear hfz27_1); (try clear hfz30_0); (try clear hfz30_1); (try clear hfz33_0); (try clear hfz33_1); (try clear hfz37_0); (try clear hfz37_1); (try clear hfz40_0); (try clear hfz40_1); (try clear hfz47_0); (try clear hfz47_1); (try clear hfz73_0); (try clear hfz73_1); (try clear hx283_0); (try clear hx283_1); (try clear hx285_0); (try clear hx285_1); (try clear hx286_0); (try clear hx286_1); (try clear hx287_0); (try clear hx287_1); (try clear hx288_0); (try clear hx288_1); (try clear hx290_0); (try clear hx290_1); (try clear hx291_0); (try clear hx291_1); (try clear hx292_0); (try clear hx292_1); (try clear p2); (try clear p28); (try clear p283); (try clear p285); (try clear p286); (try clear p287); (try clear p288); (try clear p290); (try clear p291); (try clear p292); (try clear p6); (try clear q2); (try clear q28); (try clear q283); (try clear q285); (try clear q286); (try clear q287); (try clear q288); (try clear q290); (try clear q291); (try clear q292)
                obtain ⟨kq, x194_69, rfl, HA, HJ69, HO_5, HB⟩ := hcut
                cases kq with
                | zero => exact absurd HA.out (by simp [laws_FnSharedLoads.j4])
                | succ kj69 =>
                 have H := HA.out
                 clear HA
                 simp only [laws_FnSharedLoads.j4] at H
                 by_cases c75 : x194_69 = true
                 ·
                  subst c75
                  have H1 : (some false) = some r := by rw [if_pos rfl] at H; exact H
                  clear H
                  have H := H1
                  clear H1
                  obtain rfl := Option.some.inj H
                  go_wp2
                  repeat (go_quiet (fail); try go_wp2)
                  go_ret
                  exact ⟨by first | rfl | (simp [errW_none, errW_some, i64_w]; done) | (simp [errW_none, errW_some] <;> rfl) | (simp [*, errW_none, errW_some] <;> rfl), by repeat (first | (with_reducible first | exact HB.out | apply below_alloc | apply pw_below_drewN | apply below_drew1) | exact HB.out)⟩
                 ·
                  replace c75 := Bool.eq_false_iff.mpr c75
                  subst c75
                  have H1 : ((impl_AllBear.f kj69 t266).bind fun bt294 => (if bt294.2 = 0 then (if bt294.1 < 1 then (laws_FnSharedLoads.j5 kj69 t266 bt294.1 true) else (laws_FnSharedLoads.j5 kj69 t266 bt294.1 (decide (bt294.1 > 10000)))) else (some (bt294.2 == 3)))) = some r := by rw [if_neg (show ¬ (false = true) by decide)] at H; exact H
                  clear H
                  have H := H1
                  clear H1
                  replace H := Option.bind_eq_some_iff.mp H
                  obtain ⟨⟨t294, t295⟩, A760, H⟩ := H
                  replace H : (if t295 = 0 then (if t294 < 1 then (laws_FnSharedLoads.j5 kj69 t266 t294 true) else (laws_FnSharedLoads.j5 kj69 t266 t294 (decide (t294 > 10000)))) else (some (t295 == 3))) = some r := H
                  have A76 := aS A760
                  clear A760
                  have HC77 := aS H
                  clear H
                  go_upto_if 201 with (first | (go_at_call 28; (with_reducible refine (impl_AllBear.calls kj69 _ _ t266 t294 t295 _ ?side1 ?side2 A76.out).mono ?_); (case side1 => exact sC (Kd.R_reads' HO_5.out).2.2); (case side2 => exact (Kd.R_reads' HO_5.out).2.1); rintro e w78 ⟨rfl, hb⟩; have n0_ := aS (Kd.R_below (sR HO_5.out) hb); have n1_ := aS (below_step (sW HB.out) hb); clear HO_5 HB; have HO_5 := n0_; have HB := n1_; clear n0_ n1_; (try clear hb); (try clear hb2); (try clear hk); (try clear hi)))
                  repeat (go_quiet (first | (go_at_call 28; (with_reducible refine (impl_AllBear.calls kj69 _ _ t266 t294 t295 _ ?side1 ?side2 A76.out).mono ?_); (case side1 => exact sC (Kd.R_reads' HO_5.out).2.2); (case side2 => exact (Kd.R_reads' HO_5.out).2.1); rintro e w78 ⟨rfl, hb⟩; have n0_ := aS (Kd.R_below (sR HO_5.out) hb); have n1_ := aS (below_step (sW HB.out) hb); clear HO_5 HB; have HO_5 := n0_; have HB := n1_; clear n0_ n1_; (try clear hb); (try clear hb2); (try clear hk); (try clear hi))); go_upto_if 201 with (first | (go_at_call 28; (with_reducible refine (impl_AllBear.calls kj69 _ _ t266 t294 t295 _ ?side1 ?side2 A76.out).mono ?_); (case side1 => exact sC (Kd.R_reads' HO_5.out).2.2); (case side2 => exact (Kd.R_reads' HO_5.out).2.1); rintro e w78 ⟨rfl, hb⟩; have n0_ := aS (Kd.R_below (sR HO_5.out) hb); have n1_ := aS (below_step (sW HB.out) hb); clear HO_5 HB; have HO_5 := n0_; have HB := n1_; clear n0_ n1_; (try clear hb); (try clear hb2); (try clear hk); (try clear hi))))
                  (try simp only [Act.put, List.setIfInBounds_toArray, List.set_cons_zero, List.set_cons_succ])
                  have H := HC77.out
                  clear HC77
                  by_cases c79 : t295 = 0
                  ·
                   rw [if_pos c79] at H
                   have c79b0 : (t295 == 0) = true := beq_iff_eq.mpr c79
                   have c79b1 : (t295 != 0) = false := bne_eq_false_iff_eq.mpr c79
                   clear c79
                   (first | rw [c79b0] | (simp only [i64_w, i32_w]; rw [c79b0]) | (rw [c79b2]; simp only [Bool.not_false, Bool.not_true]) | skip)
                   have HC80 := aS H
                   clear H
                   go_upto_region 32 with (fail)
                   repeat (go_quiet (fail); go_upto_region 32 with (fail))
                   go_cut [209] (fun v209 wc => ∃ (kq : Nat) (x209_79 : Bool), v209 = .bool x209_79 ∧ Aside0 (laws_FnSharedLoads.j5 kq t266 t294 x209_79 = some r) ∧ Aside0 (kq ≤ kj69) ∧ Aside0 (Kd.R k28 28 wc w.heap.size (fun _ => True) (.slice Ao13 t266.length co13) t266) ∧ Aside0 (Below w.heap.size w wc))
                   case first =>
                    as_aux_lemma =>
                     have H := HC80.out
                     clear HC80
                     by_cases c81 : t294 < 1
                     ·
                      rw [if_pos c81] at H
                      have c81b0 : decide (t294 < 1) = true := decide_eq_true c81
                      clear c81
                      (first | rw [c81b0] | (simp only [i64_w, i32_w]; rw [c81b0]) | (rw [c81b2]; simp only [Bool.not_false, Bool.not_true]) | skip)
                      have H' := aS H
                      clear H
                      go_wp2
                      repeat (go_quiet (fail); try go_wp2)
                      go_meet
                      case rel => exact ⟨_, (true), (by first | rfl | (simp; done) | (simp [*]; done) | (simp only [i64_w]; done) | (simp [i64_w]; done)), H', ⟨by have := HJ10.out; have := HK2.out; have := HK3.out; have := HJ69.out; first | omega | exact Nat.le_refl _⟩, ⟨by (with_reducible repeat (first | apply Kd.R_alloc | apply Kd.R_drewN | apply Kd.R_drew)); exact HO_5.out⟩, ⟨by repeat (first | (with_reducible first | exact HB.out | apply below_alloc | apply pw_below_drewN | apply below_drew1) | exact HB.out)⟩⟩
                     ·
                      rw [if_neg c81] at H
                      have c81b0 : decide (t294 < 1) = false := decide_eq_false c81
                      clear c81
                      (first | rw [c81b0] | (simp only [i64_w, i32_w]; rw [c81b0]) | (rw [c81b2]; simp only [Bool.not_false, Bool.not_true]) | skip)
                      have H' := aS H
                      clear H
                      go_wp2
                      repeat (go_quiet (fail); try go_wp2)
                      go_meet
                      case rel => exact ⟨_, (decide (t294 > 10000)), (by first | rfl | (simp; done) | (simp [*]; done) | (simp only [i64_w]; done) | (simp [i64_w]; done)), H', ⟨by have := HJ10.out; have := HK2.out; have := HK3.out; have := HJ69.out; first | omega | exact Nat.le_refl _⟩, ⟨by (with_reducible repeat (first | apply Kd.R_alloc | apply Kd.R_drewN | apply Kd.R_drew)); exact HO_5.out⟩, ⟨by repeat (first | (with_reducible first | exact HB.out | apply below_alloc | apply pw_below_drewN | apply below_drew1) | exact HB.out)⟩⟩
                   case rest =>
                    as_aux_lemma =>
                     clear HC80
                     (try clear c1); (try clear c2); (try clear p2); (try clear q2); (try clear hx2); (try clear c3); (try clear c4); (try clear c5); (try clear c6); (try clear p6); (try clear c7); (try clear c8); (try clear c11); (try clear c19); (try clear c19b0); (try clear c19b1); (try clear c19b2); (try clear c20); (try clear c20b0); (try clear c20b1); (try clear c20b2); (try clear c21); (try clear c21b0); (try clear c21b1); (try clear c22); (try clear c22b0); (try clear c25); (try clear c25b0); (try clear c28); (try clear c28b0); (try clear p28); (try clear q28); (try clear hx28); (try clear p29); (try clear q29); (try clear hx29); (try clear c31); (try clear c31b0); (try clear c34); (try clear c34b0); (try clear c34b1); (try clear c43); (try clear c44); (try clear c44b0); (try clear c45); (try clear c45b0); (try clear c49); (try clear c49b0); (try clear c49b1); (try clear c49b2); (try clear c51); (try clear c51b0); (try clear c52); (try clear c52b0); (try clear c55); (try clear c55b0); (try clear c60); (try clear c61); (try clear c61b0); (try clear c61b1); (try clear c62); (try clear c62b0); (try clear c63); (try clear c63b0); (try clear c64); (try clear c64b0); (try clear p64); (try clear c68); (try clear c69); (try clear c69b0); (try clear c69b2); (try clear c71); (try clear c71b0); (try clear c71b2); (try clear c75); (try clear c79); (try clear c79b0); (try clear c79b1); (try clear c79b2); (try clear c81); (try clear c81b0); (try clear c81b2); (try clear hcz17_0); (try clear hcz17_1); (try clear hcz24_0); (try clear hcz24_1); (try clear hcz27_0); (try clear hcz27_1); (try clear hcz30_0); (try clear hcz30_1); (try clear hcz33_0); (try clear hcz33_1); (try clear hcz37_0); (try clear hcz37_1); (try clear hcz40_0); (try clear hcz40_1); (try clear hcz47_0); (try clear hcz47_1); (try clear hcz73_0); (try clear hcz73_1); (try clear hfz17_0); (try clear hfz17_1); (try clear hfz24_0); (try clear hfz24_1); (try clear hfz27_0); (try clear hfz27_1); (try clear hfz30_0); (try clear hfz30_1); (try clear hfz33_0); (try clear hfz33_1); (try clear hfz37_0); (try clear hfz37_1); (try clear hfz40_0); (try clear hfz40_1); (try clear hfz47_0); (try clear hfz47_1); (try clear hfz73_0); (try clear hfz73_1); (try clear hx283_0); (try clear hx283_1); (try clear hx285_0); (try clear hx285_1); (try clear hx286_0); (try clear hx286_1); (try clear hx287_0); (try clear hx287_1); (try clear hx288_0); (try clear hx288_1); (try clear hx290_0); (try clear hx290_1); (try clear hx291_0); (try clear hx291_1); (try clear hx292_0); (try clear hx292_1); (try clear p2); (try clear p28); (try clear p283); (try clear p285); (try clear p286); (try clear p287); (try clear p288); (try clear p29); (try clear p290); (try clear p291); (try clear p292); (try clear p6); (try clear p64); (try clear q2); (try clear q28); (try clear q283); (try clear q285); (try clear q286); (try clear q287); (try clear q288); (try clear q29); (try clear q290); (try clear q291); (try clear q292)
                     obtain ⟨kq, x209_79, rfl, HA, HJ79, HO_5, HB⟩ := hcut
                     cases kq with
                     | zero => exact absurd HA.out (by simp [laws_FnSharedLoads.j5])
                     | succ kj79 =>
                      have H := HA.out
                      clear HA
                      simp only [laws_FnSharedLoads.j5] at H
                      by_cases c82 : x209_79 = true
                      ·
                       subst c82
                       have H1 : (some false) = some r := by rw [if_pos rfl] at H; exact H
                       clear H
                       have H := H1
                       clear H1
                       obtain rfl := Option.some.inj H
                       go_wp2
                       repeat (go_quiet (fail); try go_wp2)
                       go_ret
                       exact ⟨by first | rfl | (simp [errW_none, errW_some, i64_w]; done) | (simp [errW_none, errW_some] <;> rfl) | (simp [*, errW_none, errW_some] <;> rfl), by repeat (first | (with_reducible first | exact HB.out | apply below_alloc | apply pw_below_drewN | apply below_drew1) | exact HB.out)⟩
                      ·
                       replace c82 := Bool.eq_false_iff.mpr c82
                       subst c82
                       have H1 : ((impl_SlackLines.f kj79 t266 t294).bind fun bt296 => ((impl_SlackLines.f kj79 t266 (wrap64 (t294 - 1))).bind fun bt300 => (if bt296.2 = 0 then (if (bt296.1.length : Int) = 0 then (if bt300.2 = 0 then (some (decide ((bt300.1.length : Int) > 0))) else (some false)) else (some false)) else (some false)))) = some r := by rw [if_neg (show ¬ (false = true) by decide)] at H; exact H
                       clear H
                       have H := H1
                       clear H1
                       replace H := Option.bind_eq_some_iff.mp H
                       obtain ⟨⟨t296, t297⟩, A830, H⟩ := H
                       replace H : ((impl_SlackLines.f kj79 t266 (wrap64 (t294 - 1))).bind fun bt300 => (if t297 = 0 then (if (t296.length : Int) = 0 then (if bt300.2 = 0 then (some (decide ((bt300.1.length : Int) > 0))) else (some false)) else (some false)) else (some false))) = some r := H
                       have A83 := aS A830
                       clear A830
                       replace H := Option.bind_eq_some_iff.mp H
                       obtain ⟨⟨t300, t301⟩, A840, H⟩ := H
                       replace H : (if t297 = 0 then (if (t296.length : Int) = 0 then (if t301 = 0 then (some (decide ((t300.length : Int) > 0))) else (some false)) else (some false)) else (some false)) = some r := H
                       have A84 := aS A840
                       clear A840
                       by_cases c85 : t297 = 0
                       ·
                        rw [if_pos c85] at H
                        have c85b0 : (t297 == 0) = true := beq_iff_eq.mpr c85
                        have c85b1 : (t297 != 0) = false := bne_eq_false_iff_eq.mpr c85
                        clear c85
                        by_cases c86 : (t296.length : Int) = 0
                        ·
                         rw [if_pos c86] at H
                         have c86b0 : ((t296.length : Int) == 0) = true := beq_iff_eq.mpr c86
                         have c86b1 : ((t296.length : Int) != 0) = false := bne_eq_false_iff_eq.mpr c86
                         clear c86
                         by_cases c87 : t301 = 0
                         ·
                          rw [if_pos c87] at H
                          have c87b0 : (t301 == 0) = true := beq_iff_eq.mpr c87
                          have c87b1 : (t301 != 0) = false := bne_eq_false_iff_eq.mpr c87
                          clear c87
                          obtain rfl := Option.some.inj H
                          go_wp2_with (first | (go_at_call 32; (with_reducible refine (impl_SlackLines.calls kj79 _ _ t266 t294 t296 t297 _ ?side1 ?side2 A83.out).mono ?_); (case side1 => exact sC (Kd.R_reads' HO_5.out).2.2); (case side2 => exact (Kd.R_reads' HO_5.out).2.1); rintro e w88 ⟨v298, rfl, ho0, hb⟩; have n0_ := aS (Kd.R_below (sR HO_5.out) hb); have n1_ := aS (Kd.R_lower ho0 (below_size (sW HB.out))); have n2_ := aS (below_step (sW HB.out) hb); clear HO_5 HB; have HO_5 := n0_; have HO299 := n1_; have HB := n2_; clear n0_ n1_ n2_; (try clear hb); (try clear hb2); (try clear hk); (try clear hi); (try clear ho0)) | (go_at_call 32; (with_reducible refine (impl_SlackLines.calls kj79 _ _ t266 (wrap64 (t294 - 1)) t300 t301 _ ?side1 ?side2 A84.out).mono ?_); (case side1 => exact sC (Kd.R_reads' HO_5.out).2.2); (case side2 => exact (Kd.R_reads' HO_5.out).2.1); rintro e w89 ⟨v302, rfl, ho0, hb⟩; have n0_ := aS (Kd.R_below (sR HO_5.out) hb); have n1_ := aS (Kd.R_elder' (sR HO299.out) (Kd.R_base ho0) hb); have n2_ := aS (Kd.R_lower (Kd.R_new' ho0 (Kd.R_lt (sR HO299.out))) (below_size (sW HB.out))); have n3_ := aS (below_step (sW HB.out) hb); clear HO_5 HO299 HB; have HO_5 := n0_; have HO299 := n1_; have HO303 := n2_; have HB := n3_; clear n0_ n1_ n2_ n3_; (try clear hb); (try clear hb2); (try clear hk); (try clear hi); (try clear ho0); obtain ⟨Ao90, co90, eo90⟩ := Kd.R_slice HO299.out; subst eo90; obtain ⟨Ao91, co91, eo91⟩ := Kd.R_slice HO303.out; subst eo91))
                          repeat (go_quiet (first | (go_at_call 32; (with_reducible refine (impl_SlackLines.calls kj79 _ _ t266 t294 t296 t297 _ ?side1 ?side2 A83.out).mono ?_); (case side1 => exact sC (Kd.R_reads' HO_5.out).2.2); (case side2 => exact (Kd.R_reads' HO_5.out).2.1); rintro e w88 ⟨v298, rfl, ho0, hb⟩; have n0_ := aS (Kd.R_below (sR HO_5.out) hb); have n1_ := aS (Kd.R_lower ho0 (below_size (sW HB.out))); have n2_ := aS (below_step (sW HB.out) hb); clear HO_5 HB; have HO_5 := n0_; have HO299 := n1_; have HB := n2_; clear n0_ n1_ n2_; (try clear hb); (try clear hb2); (try clear hk); (try clear hi); (try clear ho0)) | (go_at_call 32; (with_reducible refine (impl_SlackLines.calls kj79 _ _ t266 (wrap64 (t294 - 1)) t300 t301 _ ?side1 ?side2 A84.out).mono ?_); (case side1 => exact sC (Kd.R_reads' HO_5.out).2.2); (case side2 => exact (Kd.R_reads' HO_5.out).2.1); rintro e w89 ⟨v302, rfl, ho0, hb⟩; have n0_ := aS (Kd.R_below (sR HO_5.out) hb); have n1_ := aS (Kd.R_elder' (sR HO299.out) (Kd.R_base ho0) hb); have n2_ := aS (Kd.R_lower (Kd.R_new' ho0 (Kd.R_lt (sR HO299.out))) (below_size (sW HB.out))); have n3_ := aS (below_step (sW HB.out) hb); clear HO_5 HO299 HB; have HO_5 := n0_; have HO299 := n1_; have HO303 := n2_; have HB := n3_; clear n0_ n1_ n2_ n3_; (try clear hb); (try clear hb2); (try clear hk); (try clear hi); (try clear ho0); obtain ⟨Ao90, co90, eo90⟩ := Kd.R_slice HO299.out; subst eo90; obtain ⟨Ao91, co91, eo91⟩ := Kd.R_slice HO303.out; subst eo91)); try go_wp2_with (first | (go_at_call 32; (with_reducible refine (impl_SlackLines.calls kj79 _ _ t266 t294 t296 t297 _ ?side1 ?side2 A83.out).mono ?_); (case side1 => exact sC (Kd.R_reads' HO_5.out).2.2); (case side2 => exact (Kd.R_reads' HO_5.out).2.1); rintro e w88 ⟨v298, rfl, ho0, hb⟩; have n0_ := aS (Kd.R_below (sR HO_5.out) hb); have n1_ := aS (Kd.R_lower ho0 (below_size (sW HB.out))); have n2_ := aS (below_step (sW HB.out) hb); clear HO_5 HB; have HO_5 := n0_; have HO299 := n1_; have HB := n2_; clear n0_ n1_ n2_; (try clear hb); (try clear hb2); (try clear hk); (try clear hi); (try clear ho0)) | (go_at_call 32; (with_reducible refine (impl_SlackLines.calls kj79 _ _ t266 (wrap64 (t294 - 1)) t300 t301 _ ?side1 ?side2 A84.out).mono ?_); (case side1 => exact sC (Kd.R_reads' HO_5.out).2.2); (case side2 => exact (Kd.R_reads' HO_5.out).2.1); rintro e w89 ⟨v302, rfl, ho0, hb⟩; have n0_ := aS (Kd.R_below (sR HO_5.out) hb); have n1_ := aS (Kd.R_elder' (sR HO299.out) (Kd.R_base ho0) hb); have n2_ := aS (Kd.R_lower (Kd.R_new' ho0 (Kd.R_lt (sR HO299.out))) (below_size (sW HB.out))); have n3_ := aS (below_step (sW HB.out) hb); clear HO_5 HO299 HB; have HO_5 := n0_; have HO299 := n1_; have HO303 := n2_; have HB := n3_; clear n0_ n1_ n2_ n3_; (try clear hb); (try clear hb2); (try clear hk); (try clear hi); (try clear ho0); obtain ⟨Ao90, co90, eo90⟩ := Kd.R_slice HO299.out; subst eo90; obtain ⟨Ao91, co91, eo91⟩ := Kd.R_slice HO303.out; subst eo91)))
                          go_ret
                          exact ⟨by first | rfl | (simp [errW_none, errW_some, i64_w]; done) | (simp [errW_none, errW_some] <;> rfl) | (simp [*, errW_none, errW_some] <;> rfl), by repeat (first | (with_reducible first | exact HB.out | apply below_alloc | apply pw_below_drewN | apply below_drew1) | exact HB.out)⟩
                         ·
                          rw [if_neg c87] at H
                          have c87b0 : (t301 == 0) = false := beq_eq_false_iff_ne.mpr c87
                          have c87b1 : (t301 != 0) = true := bne_iff_ne.mpr c87
                          obtain rfl := Option.some.inj H
                          go_wp2_with (first | (go_at_call 32; (with_reducible refine (impl_SlackLines.calls kj79 _ _ t266 t294 t296 t297 _ ?side1 ?side2 A83.out).mono ?_); (case side1 => exact sC (Kd.R_reads' HO_5.out).2.2); (case side2 => exact (Kd.R_reads' HO_5.out).2.1); rintro e w92 ⟨v298, rfl, ho0, hb⟩; have n0_ := aS (Kd.R_below (sR HO_5.out) hb); have n1_ := aS (Kd.R_lower ho0 (below_size (sW HB.out))); have n2_ := aS (below_step (sW HB.out) hb); clear HO_5 HB; have HO_5 := n0_; have HO299 := n1_; have HB := n2_; clear n0_ n1_ n2_; (try clear hb); (try clear hb2); (try clear hk); (try clear hi); (try clear ho0)) | (go_at_call 32; (with_reducible refine (impl_SlackLines.calls kj79 _ _ t266 (wrap64 (t294 - 1)) t300 t301 _ ?side1 ?side2 A84.out).mono ?_); (case side1 => exact sC (Kd.R_reads' HO_5.out).2.2); (case side2 => exact (Kd.R_reads' HO_5.out).2.1); rintro e w93 ⟨v302, rfl, ho0, hb⟩; have n0_ := aS (Kd.R_below (sR HO_5.out) hb); have n1_ := aS (Kd.R_elder' (sR HO299.out) (Kd.R_base ho0) hb); have n2_ := aS (Kd.R_lower (Kd.R_new' ho0 (Kd.R_lt (sR HO299.out))) (below_size (sW HB.out))); have n3_ := aS (below_step (sW HB.out) hb); clear HO_5 HO299 HB; have HO_5 := n0_; have HO299 := n1_; have HO303 := n2_; have HB := n3_; clear n0_ n1_ n2_ n3_; (try clear hb); (try clear hb2); (try clear hk); (try clear hi); (try clear ho0); obtain ⟨Ao94, co94, eo94⟩ := Kd.R_slice HO299.out; subst eo94))
                          repeat (go_quiet (first | (go_at_call 32; (with_reducible refine (impl_SlackLines.calls kj79 _ _ t266 t294 t296 t297 _ ?side1 ?side2 A83.out).mono ?_); (case side1 => exact sC (Kd.R_reads' HO_5.out).2.2); (case side2 => exact (Kd.R_reads' HO_5.out).2.1); rintro e w92 ⟨v298, rfl, ho0, hb⟩; have n0_ := aS (Kd.R_below (sR HO_5.out) hb); have n1_ := aS (Kd.R_lower ho0 (below_size (sW HB.out))); have n2_ := aS (below_step (sW HB.out) hb); clear HO_5 HB; have HO_5 := n0_; have HO299 := n1_; have HB := n2_; clear n0_ n1_ n2_; (try clear hb); (try clear hb2); (try clear hk); (try clear hi); (try clear ho0)) | (go_at_call 32; (with_reducible refine (impl_SlackLines.calls kj79 _ _ t266 (wrap64 (t294 - 1)) t300 t301 _ ?side1 ?side2 A84.out).mono ?_); (case side1 => exact sC (Kd.R_reads' HO_5.out).2.2); (case side2 => exact (Kd.R_reads' HO_5.out).2.1); rintro e w93 ⟨v302, rfl, ho0, hb⟩; have n0_ := aS (Kd.R_below (sR HO_5.out) hb); have n1_ := aS (Kd.R_elder' (sR HO299.out) (Kd.R_base ho0) hb); have n2_ := aS (Kd.R_lower (Kd.R_new' ho0 (Kd.R_lt (sR HO299.out))) (below_size (sW HB.out))); have n3_ := aS (below_step (sW HB.out) hb); clear HO_5 HO299 HB; have HO_5 := n0_; have HO299 := n1_; have HO303 := n2_; have HB := n3_; clear n0_ n1_ n2_ n3_; (try clear hb); (try clear hb2); (try clear hk); (try clear hi); (try clear ho0); obtain ⟨Ao94, co94, eo94⟩ := Kd.R_slice HO299.out; subst eo94)); try go_wp2_with (first | (go_at_call 32; (with_reducible refine (impl_SlackLines.calls kj79 _ _ t266 t294 t296 t297 _ ?side1 ?side2 A83.out).mono ?_); (case side1 => exact sC (Kd.R_reads' HO_5.out).2.2); (case side2 => exact (Kd.R_reads' HO_5.out).2.1); rintro e w92 ⟨v298, rfl, ho0, hb⟩; have n0_ := aS (Kd.R_below (sR HO_5.out) hb); have n1_ := aS (Kd.R_lower ho0 (below_size (sW HB.out))); have n2_ := aS (below_step (sW HB.out) hb); clear HO_5 HB; have HO_5 := n0_; have HO299 := n1_; have HB := n2_; clear n0_ n1_ n2_; (try clear hb); (try clear hb2); (try clear hk); (try clear hi); (try clear ho0)) | (go_at_call 32; (with_reducible refine (impl_SlackLines.calls kj79 _ _ t266 (wrap64 (t294 - 1)) t300 t301 _ ?side1 ?side2 A84.out).mono ?_); (case side1 => exact sC (Kd.R_reads' HO_5.out).2.2); (case side2 => exact (Kd.R_reads' HO_5.out).2.1); rintro e w93 ⟨v302, rfl, ho0, hb⟩; have n0_ := aS (Kd.R_below (sR HO_5.out) hb); have n1_ := aS (Kd.R_elder' (sR HO299.out) (Kd.R_base ho0) hb); have n2_ := aS (Kd.R_lower (Kd.R_new' ho0 (Kd.R_lt (sR HO299.out))) (below_size (sW HB.out))); have n3_ := aS (below_step (sW HB.out) hb); clear HO_5 HO299 HB; have HO_5 := n0_; have HO299 := n1_; have HO303 := n2_; have HB := n3_; clear n0_ n1_ n2_ n3_; (try clear hb); (try clear hb2); (try clear hk); (try clear hi); (try clear ho0); obtain ⟨Ao94, co94, eo94⟩ := Kd.R_slice HO299.out; subst eo94)))
                          go_ret
                          exact ⟨by first | rfl | (simp [errW_none, errW_some, i64_w]; done) | (simp [errW_none, errW_some] <;> rfl) | (simp [*, errW_none, errW_some] <;> rfl), by repeat (first | (with_reducible first | exact HB.out | apply below_alloc | apply pw_below_drewN | apply below_drew1) | exact HB.out)⟩
                        ·
                         rw [if_neg c86] at H
                         have c86b0 : ((t296.length : Int) == 0) = false := beq_eq_false_iff_ne.mpr c86
                         have c86b1 : ((t296.length : Int) != 0) = true := bne_iff_ne.mpr c86
                         have c86b2 : ¬ (t296 = []) := fun h_ => c86 (by rw [h_]; rfl)
                         obtain rfl := Option.some.inj H
                         go_wp2_with (first | (go_at_call 32; (with_reducible refine (impl_SlackLines.calls kj79 _ _ t266 t294 t296 t297 _ ?side1 ?side2 A83.out).mono ?_); (case side1 => exact sC (Kd.R_reads' HO_5.out).2.2); (case side2 => exact (Kd.R_reads' HO_5.out).2.1); rintro e w95 ⟨v298, rfl, ho0, hb⟩; have n0_ := aS (Kd.R_below (sR HO_5.out) hb); have n1_ := aS (Kd.R_lower ho0 (below_size (sW HB.out))); have n2_ := aS (below_step (sW HB.out) hb); clear HO_5 HB; have HO_5 := n0_; have HO299 := n1_; have HB := n2_; clear n0_ n1_ n2_; (try clear hb); (try clear hb2); (try clear hk); (try clear hi); (try clear ho0)) | (go_at_call 32; (with_reducible refine (impl_SlackLines.calls kj79 _ _ t266 (wrap64 (t294 - 1)) t300 t301 _ ?side1 ?side2 A84.out).mono ?_); (case side1 => exact sC (Kd.R_reads' HO_5.out).2.2); (case side2 => exact (Kd.R_reads' HO_5.out).2.1); rintro e w96 ⟨v302, rfl, ho0, hb⟩; have n0_ := aS (Kd.R_below (sR HO_5.out) hb); have n1_ := aS (Kd.R_elder' (sR HO299.out) (Kd.R_base ho0) hb); have n2_ := aS (Kd.R_lower (Kd.R_new' ho0 (Kd.R_lt (sR HO299.out))) (below_size (sW HB.out))); have n3_ := aS (below_step (sW HB.out) hb); clear HO_5 HO299 HB; have HO_5 := n0_; have HO299 := n1_; have HO303 := n2_; have HB := n3_; clear n0_ n1_ n2_ n3_; (try clear hb); (try clear hb2); (try clear hk); (try clear hi); (try clear ho0); obtain ⟨Ao97, co97, eo97⟩ := Kd.R_slice HO299.out; subst eo97))
                         repeat (go_quiet (first | (go_at_call 32; (with_reducible refine (impl_SlackLines.calls kj79 _ _ t266 t294 t296 t297 _ ?side1 ?side2 A83.out).mono ?_); (case side1 => exact sC (Kd.R_reads' HO_5.out).2.2); (case side2 => exact (Kd.R_reads' HO_5.out).2.1); rintro e w95 ⟨v298, rfl, ho0, hb⟩; have n0_ := aS (Kd.R_below (sR HO_5.out) hb); have n1_ := aS (Kd.R_lower ho0 (below_size (sW HB.out))); have n2_ := aS (below_step (sW HB.out) hb); clear HO_5 HB; have HO_5 := n0_; have HO299 := n1_; have HB := n2_; clear n0_ n1_ n2_; (try clear hb); (try clear hb2); (try clear hk); (try clear hi); (try clear ho0)) | (go_at_call 32; (with_reducible refine (impl_SlackLines.calls kj79 _ _ t266 (wrap64 (t294 - 1)) t300 t301 _ ?side1 ?side2 A84.out).mono ?_); (case side1 => exact sC (Kd.R_reads' HO_5.out).2.2); (case side2 => exact (Kd.R_reads' HO_5.out).2.1); rintro e w96 ⟨v302, rfl, ho0, hb⟩; have n0_ := aS (Kd.R_below (sR HO_5.out) hb); have n1_ := aS (Kd.R_elder' (sR HO299.out) (Kd.R_base ho0) hb); have n2_ := aS (Kd.R_lower (Kd.R_new' ho0 (Kd.R_lt (sR HO299.out))) (below_size (sW HB.out))); have n3_ := aS (below_step (sW HB.out) hb); clear HO_5 HO299 HB; have HO_5 := n0_; have HO299 := n1_; have HO303 := n2_; have HB := n3_; clear n0_ n1_ n2_ n3_; (try clear hb); (try clear hb2); (try clear hk); (try clear hi); (try clear ho0); obtain ⟨Ao97, co97, eo97⟩ := Kd.R_slice HO299.out; subst eo97)); try go_wp2_with (first | (go_at_call 32; (with_reducible refine (impl_SlackLines.calls kj79 _ _ t266 t294 t296 t297 _ ?side1 ?side2 A83.out).mono ?_); (case side1 => exact sC (Kd.R_reads' HO_5.out).2.2); (case side2 => exact (Kd.R_reads' HO_5.out).2.1); rintro e w95 ⟨v298, rfl, ho0, hb⟩; have n0_ := aS (Kd.R_below (sR HO_5.out) hb); have n1_ := aS (Kd.R_lower ho0 (below_size (sW HB.out))); have n2_ := aS (below_step (sW HB.out) hb); clear HO_5 HB; have HO_5 := n0_; have HO299 := n1_; have HB := n2_; clear n0_ n1_ n2_; (try clear hb); (try clear hb2); (try clear hk); (try clear hi); (try clear ho0)) | (go_at_call 32; (with_reducible refine (impl_SlackLines.calls kj79 _ _ t266 (wrap64 (t294 - 1)) t300 t301 _ ?side1 ?side2 A84.out).mono ?_); (case side1 => exact sC (Kd.R_reads' HO_5.out).2.2); (case side2 => exact (Kd.R_reads' HO_5.out).2.1); rintro e w96 ⟨v302, rfl, ho0, hb⟩; have n0_ := aS (Kd.R_below (sR HO_5.out) hb); have n1_ := aS (Kd.R_elder' (sR HO299.out) (Kd.R_base ho0) hb); have n2_ := aS (Kd.R_lower (Kd.R_new' ho0 (Kd.R_lt (sR HO299.out))) (below_size (sW HB.out))); have n3_ := aS (below_step (sW HB.out) hb); clear HO_5 HO299 HB; have HO_5 := n0_; have HO299 := n1_; have HO303 := n2_; have HB := n3_; clear n0_ n1_ n2_ n3_; (try clear hb); (try clear hb2); (try clear hk); (try clear hi); (try clear ho0); obtain ⟨Ao97, co97, eo97⟩ := Kd.R_slice HO299.out; subst eo97)))
                         go_ret
                         exact ⟨by first | rfl | (simp [errW_none, errW_some, i64_w]; done) | (simp [errW_none, errW_some] <;> rfl) | (simp [*, errW_none, errW_some] <;> rfl), by repeat (first | (with_reducible first | exact HB.out | apply below_alloc | apply pw_below_drewN | apply below_drew1) | exact HB.out)⟩
                       ·
                        rw [if_neg c85] at H
                        have c85b0 : (t297 == 0) = false := beq_eq_false_iff_ne.mpr c85
                        have c85b1 : (t297 != 0) = true := bne_iff_ne.mpr c85
                        obtain rfl := Option.some.inj H
                        go_wp2_with (first | (go_at_call 32; (with_reducible refine (impl_SlackLines.calls kj79 _ _ t266 t294 t296 t297 _ ?side1 ?side2 A83.out).mono ?_); (case side1 => exact sC (Kd.R_reads' HO_5.out).2.2); (case side2 => exact (Kd.R_reads' HO_5.out).2.1); rintro e w98 ⟨v298, rfl, ho0, hb⟩; have n0_ := aS (Kd.R_below (sR HO_5.out) hb); have n1_ := aS (Kd.R_lower ho0 (below_size (sW HB.out))); have n2_ := aS (below_step (sW HB.out) hb); clear HO_5 HB; have HO_5 := n0_; have HO299 := n1_; have HB := n2_; clear n0_ n1_ n2_; (try clear hb); (try clear hb2); (try clear hk); (try clear hi); (try clear ho0)) | (go_at_call 32; (with_reducible refine (impl_SlackLines.calls kj79 _ _ t266 (wrap64 (t294 - 1)) t300 t301 _ ?side1 ?side2 A84.out).mono ?_); (case side1 => exact sC (Kd.R_reads' HO_5.out).2.2); (case side2 => exact (Kd.R_reads' HO_5.out).2.1); rintro e w99 ⟨v302, rfl, ho0, hb⟩; have n0_ := aS (Kd.R_below (sR HO_5.out) hb); have n1_ := aS (Kd.R_elder' (sR HO299.out) (Kd.R_base ho0) hb); have n2_ := aS (Kd.R_lower (Kd.R_new' ho0 (Kd.R_lt (sR HO299.out))) (below_size (sW HB.out))); have n3_ := aS (below_step (sW HB.out) hb); clear HO_5 HO299 HB; have HO_5 := n0_; have HO299 := n1_; have HO303 := n2_; have HB := n3_; clear n0_ n1_ n2_ n3_; (try clear hb); (try clear hb2); (try clear hk); (try clear hi); (try clear ho0)))
                        repeat (go_quiet (first | (go_at_call 32; (with_reducible refine (impl_SlackLines.calls kj79 _ _ t266 t294 t296 t297 _ ?side1 ?side2 A83.out).mono ?_); (case side1 => exact sC (Kd.R_reads' HO_5.out).2.2); (case side2 => exact (Kd.R_reads' HO_5.out).2.1); rintro e w98 ⟨v298, rfl, ho0, hb⟩; have n0_ := aS (Kd.R_below (sR HO_5.out) hb); have n1_ := aS (Kd.R_lower ho0 (below_size (sW HB.out))); have n2_ := aS (below_step (sW HB.out) hb); clear HO_5 HB; have HO_5 := n0_; have HO299 := n1_; have HB := n2_; clear n0_ n1_ n2_; (try clear hb); (try clear hb2); (try clear hk); (try clear hi); (try clear ho0)) | (go_at_call 32; (with_reducible refine (impl_SlackLines.calls kj79 _ _ t266 (wrap64 (t294 - 1)) t300 t301 _ ?side1 ?side2 A84.out).mono ?_); (case side1 => exact sC (Kd.R_reads' HO_5.out).2.2); (case side2 => exact (Kd.R_reads' HO_5.out).2.1); rintro e w99 ⟨v302, rfl, ho0, hb⟩; have n0_ := aS (Kd.R_below (sR HO_5.out) hb); have n1_ := aS (Kd.R_elder' (sR HO299.out) (Kd.R_base ho0) hb); have n2_ := aS (Kd.R_lower (Kd.R_new' ho0 (Kd.R_lt (sR HO299.out))) (below_size (sW HB.out))); have n3_ := aS (below_step (sW HB.out) hb); clear HO_5 HO299 HB; have HO_5 := n0_; have HO299 := n1_; have HO303 := n2_; have HB := n3_; clear n0_ n1_ n2_ n3_; (try clear hb); (try clear hb2); (try clear hk); (try clear hi); (try clear ho0))); try go_wp2_with (first | (go_at_call 32; (with_reducible refine (impl_SlackLines.calls kj79 _ _ t266 t294 t296 t297 _ ?side1 ?side2 A83.out).mono ?_); (case side1 => exact sC (Kd.R_reads' HO_5.out).2.2); (case side2 => exact (Kd.R_reads' HO_5.out).2.1); rintro e w98 ⟨v298, rfl, ho0, hb⟩; have n0_ := aS (Kd.R_below (sR HO_5.out) hb); have n1_ := aS (Kd.R_lower ho0 (below_size (sW HB.out))); have n2_ := aS (below_step (sW HB.out) hb); clear HO_5 HB; have HO_5 := n0_; have HO299 := n1_; have HB := n2_; clear n0_ n1_ n2_; (try clear hb); (try clear hb2); (try clear hk); (try clear hi); (try clear ho0)) | (go_at_call 32; (with_reducible refine (impl_SlackLines.calls kj79 _ _ t266 (wrap64 (t294 - 1)) t300 t301 _ ?side1 ?side2 A84.out).mono ?_); (case side1 => exact sC (Kd.R_reads' HO_5.out).2.2); (case side2 => exact (Kd.R_reads' HO_5.out).2.1); rintro e w99 ⟨v302, rfl, ho0, hb⟩; have n0_ := aS (Kd.R_below (sR HO_5.out) hb); have n1_ := aS (Kd.R_elder' (sR HO299.out) (Kd.R_base ho0) hb); have n2_ := aS (Kd.R_lower (Kd.R_new' ho0 (Kd.R_lt (sR HO299.out))) (below_size (sW HB.out))); have n3_ := aS (below_step (sW HB.out) hb); clear HO_5 HO299 HB; have HO_5 := n0_; have HO299 := n1_; have HO303 := n2_; have HB := n3_; clear n0_ n1_ n2_ n3_; (try clear hb); (try clear hb2); (try clear hk); (try clear hi); (try clear ho0))))
                        go_ret
                        exact ⟨by first | rfl | (simp [errW_none, errW_some, i64_w]; done) | (simp [errW_none, errW_some] <;> rfl) | (simp [*, errW_none, errW_some] <;> rfl), by repeat (first | (with_reducible first | exact HB.out | apply below_alloc | apply pw_below_drewN | apply below_drew1) | exact HB.out)⟩
                  ·
                   rw [if_neg c79] at H
                   have c79b0 : (t295 == 0) = false := beq_eq_false_iff_ne.mpr c79
                   have c79b1 : (t295 != 0) = true := bne_iff_ne.mpr c79
                   (first | rw [c79b0] | (simp only [i64_w, i32_w]; rw [c79b0]) | (rw [c79b2]; simp only [Bool.not_false, Bool.not_true]) | skip)
                   obtain rfl := Option.some.inj H
                   go_wp2
                   repeat (go_quiet (fail); try go_wp2)
                   go_ret
                   exact ⟨by first | rfl | (simp [errW_none, errW_some, i64_w]; done) | (simp [errW_none, errW_some] <;> rfl) | (simp [*, errW_none, errW_some] <;> rfl), by repeat (first | (with_reducible first | exact HB.out | apply below_alloc | apply pw_below_drewN | apply below_drew1) | exact HB.out)⟩
    
/-- THE ONE PURE STATEMENT of laws_FnSharedLoads. -/
def laws_FnSharedLoads.Pure : Prop := ∀ (l0 : List Int) (l1 : List Int), (l0.length * 1 ≤ 140737488351232 ∧ l0.length ≤ maxLen ∧ (∀ y0 ∈ l0, (Lit.int .u8 y0).wf = true)) → (l1.length * 1 ≤ 140737488351232 ∧ l1.length ≤ maxLen ∧ (∀ y0 ∈ l1, (Lit.int .u8 y0).wf = true)) → ∃ k, laws_FnSharedLoads.f k l0 l1 = some true
theorem laws_FnSharedLoads.walk : True := trivial

end Go.Proofs.Ytmokjfncblnfcaa.QFnSharedLoads

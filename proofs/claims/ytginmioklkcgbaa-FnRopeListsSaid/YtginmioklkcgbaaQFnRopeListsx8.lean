/- What the Go functions of this law compute, each as a Lean function, and that each call comes to that answer; written by a program of this session. No condition. -/
import Derived.Test.YtginmioklkcgbaaQFnRopeListsx0
import Derived.Test.YtginmioklkcgbaaQFnRopeListsx1
import Derived.Test.YtginmioklkcgbaaQFnRopeListsx2
import Derived.Test.YtginmioklkcgbaaQFnRopeListsx5
import Derived.Test.YtginmioklkcgbaaQFnRopeListsx6
import Derived.Test.YtginmioklkcgbaaQFnRopeListsx7
namespace Go.Proofs.Ytginmioklkcgbaa.QFnRopeLists
open Go.RowKit Go.Proofs.YtginmioklkcgbaaW.PrintWords Go.Proofs.YtginmioklkcgbaaW.PrintLast Go.Proofs.YtginmioklkcgbaaW.PrintMore
attribute [local go_sem] max2_int min2_int max_two min_two max_three min_three max_four min_four   -- for this text's walks alone
set_option linter.unusedVariables false
set_option linter.unusedSimpArgs false

attribute [local go_sem high] eqA68
/-! ### laws_FnRopeLists: function 5 -/
mutual
def laws_FnRopeLists.l0 : Nat → List (S68) → Int → Int → Int → Int → Bool → Int → Option (Bool)
 | 0, _, _, _, _, _, _, _ => none
 | k + 1, x5, x6, x7, x8, x9, x10, x11 => if x11 < (x5.length : Int) then (if 0 ≤ x11 then (if ((rd_T68 x5 x11).f2) < (wrap64 (x6 * x7)) then (laws_FnRopeLists.l0 k x5 x6 x7 x8 x9 x10 (wrap64 (x11 + 1))) else (if x9 = 0 then (if x8 < 0 then (some false) else (if x8 ≥ (x5.length : Int) then (some false) else (if 0 ≤ x8 then (if x8 < (x5.length : Int) then (if ((rd_T68 x5 x11).f3) < ((rd_T68 x5 x8).f3) then (some false) else (if ((rd_T68 x5 x11).f3) = ((rd_T68 x5 x8).f3) then (if x11 < x8 then (some false) else (laws_FnRopeLists.l0 k x5 x6 x7 x8 x9 false (wrap64 (x11 + 1)))) else (laws_FnRopeLists.l0 k x5 x6 x7 x8 x9 false (wrap64 (x11 + 1))))) else (none)) else (none)))) else (some false))) else (none)) else (if (x10 != (x9 == 3)) = true then (laws_FnRopeLists.j1 k x5 true) else (if x10 = true then (laws_FnRopeLists.j1 k x5 false) else (if 0 ≤ x8 then (if x8 < (x5.length : Int) then (laws_FnRopeLists.j1 k x5 (decide (((rd_T68 x5 x8).f2) < (wrap64 (x6 * x7))))) else (none)) else (none))))
def laws_FnRopeLists.j1 : Nat → List (S68) → Bool → Option (Bool)
 | 0, _, _ => none
 | k + 1, x5, x121 => if x121 = true then (some false) else ((impl_BeatenRopes.f k x5).bind fun bt238 => (if bt238.2 = 0 then ((laws_a2Rises.f k bt238.1 (x5.length : Int)).bind fun t242 => (if t242 = true then (if (x5.length : Int) > 0 then (laws_FnRopeLists.j2 k x5 bt238.1 ((bt238.1.length : Int) == (x5.length : Int))) else (laws_FnRopeLists.j2 k x5 bt238.1 false)) else (laws_FnRopeLists.j2 k x5 bt238.1 true))) else (laws_FnRopeLists.j2 k x5 bt238.1 true)))
def laws_FnRopeLists.j2 : Nat → List (S68) → List Int → Bool → Option (Bool)
 | 0, _, _, _ => none
 | k + 1, x5, x12, x147 => if x147 = true then (some false) else (laws_FnRopeLists.l1 k x5 x12 (([] : List (S68))) 0)
def laws_FnRopeLists.l1 : Nat → List (S68) → List Int → List (S68) → Int → Option (Bool)
 | 0, _, _, _, _ => none
 | k + 1, x5, x12, x14, x15 => if x15 < (x5.length : Int) then (if 0 ≤ x15 then ((impl_AddRope.f k x14 ((rd_T68 x5 x15).f0) ((rd_T68 x5 x15).f1) ((rd_T68 x5 x15).f2) ((rd_T68 x5 x15).f3)).bind fun bt247 => ((impl_RopeNamed.f k x5 ((rd_T68 x5 x15).f0)).bind fun bt252 => ((impl_AddRope.f k x5 ((rd_T68 x5 x15).f0) ((rd_T68 x5 x15).f1) ((rd_T68 x5 x15).f2) ((rd_T68 x5 x15).f3)).bind fun bt255 => (if bt247.2 = 0 then (if (bt247.1.length : Int) = (wrap64 (x15 + 1)) then (if x15 < (bt247.1.length : Int) then (if (!((((rd_T68 bt247.1 x15).f0).toList) == (((rd_T68 x5 x15).f0).toList)) || (!(((rd_T68 bt247.1 x15).f1) == ((rd_T68 x5 x15).f1)) || (!(((rd_T68 bt247.1 x15).f2) == ((rd_T68 x5 x15).f2)) || (!(((rd_T68 bt247.1 x15).f3) == ((rd_T68 x5 x15).f3)))))) = true then (laws_FnRopeLists.j4 k x5 x12 x15 bt247.1 true) else (if bt252.2 = 0 then (if bt252.1 = x15 then (laws_FnRopeLists.j4 k x5 x12 x15 bt247.1 (bt255.2 != 4)) else (laws_FnRopeLists.j4 k x5 x12 x15 bt247.1 true)) else (laws_FnRopeLists.j4 k x5 x12 x15 bt247.1 true))) else (none)) else (laws_FnRopeLists.j4 k x5 x12 x15 bt247.1 true)) else (laws_FnRopeLists.j4 k x5 x12 x15 bt247.1 true))))) else (none)) else (some true)
def laws_FnRopeLists.j4 : Nat → List (S68) → List Int → Int → List (S68) → Bool → Option (Bool)
 | 0, _, _, _, _, _ => none
 | k + 1, x5, x12, x15, x16, x215 => if x215 = true then (some false) else (laws_FnRopeLists.l2 k x5 x12 x16 x15 false 0)
def laws_FnRopeLists.l2 : Nat → List (S68) → List Int → List (S68) → Int → Bool → Int → Option (Bool)
 | 0, _, _, _, _, _, _ => none
 | k + 1, x5, x12, x14, x15, x22, x23 => if x23 < (x5.length : Int) then (if 0 ≤ x23 then (if 0 ≤ x15 then (if x15 < (x5.length : Int) then (if x22 = true then (laws_FnRopeLists.l2 k x5 x12 x14 x15 true (wrap64 (x23 + 1))) else (if ((rd_T68 x5 x23).f2) ≥ ((rd_T68 x5 x15).f2) then (if ((rd_T68 x5 x23).f3) ≤ ((rd_T68 x5 x15).f3) then (if ((rd_T68 x5 x23).f1) ≤ ((rd_T68 x5 x15).f1) then (if ((rd_T68 x5 x23).f2) > ((rd_T68 x5 x15).f2) then (laws_FnRopeLists.l2 k x5 x12 x14 x15 true (wrap64 (x23 + 1))) else (if ((rd_T68 x5 x23).f3) < ((rd_T68 x5 x15).f3) then (laws_FnRopeLists.l2 k x5 x12 x14 x15 true (wrap64 (x23 + 1))) else (laws_FnRopeLists.l2 k x5 x12 x14 x15 (decide (((rd_T68 x5 x23).f1) < ((rd_T68 x5 x15).f1))) (wrap64 (x23 + 1))))) else (laws_FnRopeLists.l2 k x5 x12 x14 x15 false (wrap64 (x23 + 1)))) else (laws_FnRopeLists.l2 k x5 x12 x14 x15 false (wrap64 (x23 + 1)))) else (laws_FnRopeLists.l2 k x5 x12 x14 x15 false (wrap64 (x23 + 1))))) else (none)) else (none)) else (none)) else ((laws_a2Has.f k x12 x15).bind fun t265 => (if (x22 != t265) = true then (some false) else (laws_FnRopeLists.l1 k x5 x12 x14 (wrap64 (x15 + 1)))))
end
def laws_FnRopeLists.f (k : Nat) (l0 : List Int) (l1 : List Int) : Option (Bool) := (laws_a2Long.f l0 l1).bind fun t224 => (if t224 = true then (some true) else ((spec_A2Ropes.f k l0).bind fun t225 => ((laws_a2At.f l1 0 60).bind fun t228 => ((laws_a2At.f l1 1 6).bind fun t229 => ((impl_RopeFor.f k t225 (wrap64 (100 * (wrap64 (1 + t228)))) (wrap64 (1 + t229))).bind fun bt230 => (laws_FnRopeLists.l0 k t225 (wrap64 (100 * (wrap64 (1 + t228)))) (wrap64 (1 + t229)) bt230.1 bt230.2 true 0))))))
theorem laws_FnRopeLists.mono_l : ∀ k, (∀ y0 y1 y2 y3 y4 y5 y6, LeO (laws_FnRopeLists.l0 k y0 y1 y2 y3 y4 y5 y6) (laws_FnRopeLists.l0 (k + 1) y0 y1 y2 y3 y4 y5 y6)) ∧ (∀ y0 y1, LeO (laws_FnRopeLists.j1 k y0 y1) (laws_FnRopeLists.j1 (k + 1) y0 y1)) ∧ (∀ y0 y1 y2, LeO (laws_FnRopeLists.j2 k y0 y1 y2) (laws_FnRopeLists.j2 (k + 1) y0 y1 y2)) ∧ (∀ y0 y1 y2 y3, LeO (laws_FnRopeLists.l1 k y0 y1 y2 y3) (laws_FnRopeLists.l1 (k + 1) y0 y1 y2 y3)) ∧ (∀ y0 y1 y2 y3 y4, LeO (laws_FnRopeLists.j4 k y0 y1 y2 y3 y4) (laws_FnRopeLists.j4 (k + 1) y0 y1 y2 y3 y4)) ∧ (∀ y0 y1 y2 y3 y4 y5, LeO (laws_FnRopeLists.l2 k y0 y1 y2 y3 y4 y5) (laws_FnRopeLists.l2 (k + 1) y0 y1 y2 y3 y4 y5))
 | 0 => ⟨fun _ _ _ _ _ _ _ r h => by simp [laws_FnRopeLists.l0] at h, fun _ _ r h => by simp [laws_FnRopeLists.j1] at h, fun _ _ _ r h => by simp [laws_FnRopeLists.j2] at h, fun _ _ _ _ r h => by simp [laws_FnRopeLists.l1] at h, fun _ _ _ _ _ r h => by simp [laws_FnRopeLists.j4] at h, fun _ _ _ _ _ _ r h => by simp [laws_FnRopeLists.l2] at h⟩
 | k + 1 => by
  obtain ⟨ih0, ih1, ih2, ih3, ih4, ih5⟩ := laws_FnRopeLists.mono_l k
  refine ⟨?_, ?_, ?_, ?_, ?_, ?_⟩
  ·
   intro y0 y1 y2 y3 y4 y5 y6
   unfold laws_FnRopeLists.l0
   repeat' first
   | (with_reducible exact ih0 _ _ _ _ _ _ _)
   | (with_reducible exact ih1 _ _)
   | (with_reducible exact ih2 _ _ _)
   | (with_reducible exact ih3 _ _ _ _)
   | (with_reducible exact ih4 _ _ _ _ _)
   | (with_reducible exact ih5 _ _ _ _ _ _)
   | (with_reducible exact impl_AddRope.mono _ _ _ _ _ _)
   | (with_reducible exact impl_BeatenRopes.mono _ _)
   | (with_reducible exact impl_RopeFor.mono _ _ _ _)
   | (with_reducible exact impl_RopeNamed.mono _ _ _)
   | (with_reducible exact laws_a2Has.mono _ _ _)
   | (with_reducible exact laws_a2Rises.mono _ _ _)
   | (with_reducible exact spec_A2Ropes.mono _ _)
   | (with_reducible exact LeO.refl _)
   | (with_reducible exact LeO.none _)
   | (with_reducible refine LeO.ite ?_ ?_)
   | (with_reducible refine LeO.bind ?_ (fun _ => ?_))
   | exact ih0 _ _ _ _ _ _ _
   | exact ih1 _ _
   | exact ih2 _ _ _
   | exact ih3 _ _ _ _
   | exact ih4 _ _ _ _ _
   | exact ih5 _ _ _ _ _ _
   | exact impl_AddRope.mono _ _ _ _ _ _
   | exact impl_BeatenRopes.mono _ _
   | exact impl_RopeFor.mono _ _ _ _
   | exact impl_RopeNamed.mono _ _ _
   | exact laws_a2Has.mono _ _ _
   | exact laws_a2Rises.mono _ _ _
   | exact spec_A2Ropes.mono _ _
   | exact LeO.none _
   | refine LeO.ite ?_ ?_
   | refine LeO.bind ?_ (fun _ => ?_)
  ·
   intro y0 y1
   unfold laws_FnRopeLists.j1
   repeat' first
   | (with_reducible exact ih0 _ _ _ _ _ _ _)
   | (with_reducible exact ih1 _ _)
   | (with_reducible exact ih2 _ _ _)
   | (with_reducible exact ih3 _ _ _ _)
   | (with_reducible exact ih4 _ _ _ _ _)
   | (with_reducible exact ih5 _ _ _ _ _ _)
   | (with_reducible exact impl_AddRope.mono _ _ _ _ _ _)
   | (with_reducible exact impl_BeatenRopes.mono _ _)
   | (with_reducible exact impl_RopeFor.mono _ _ _ _)
   | (with_reducible exact impl_RopeNamed.mono _ _ _)
   | (with_reducible exact laws_a2Has.mono _ _ _)
   | (with_reducible exact laws_a2Rises.mono _ _ _)
   | (with_reducible exact spec_A2Ropes.mono _ _)
   | (with_reducible exact LeO.refl _)
   | (with_reducible exact LeO.none _)
   | (with_reducible refine LeO.ite ?_ ?_)
   | (with_reducible refine LeO.bind ?_ (fun _ => ?_))
   | exact ih0 _ _ _ _ _ _ _
   | exact ih1 _ _
   | exact ih2 _ _ _
   | exact ih3 _ _ _ _
   | exact ih4 _ _ _ _ _
   | exact ih5 _ _ _ _ _ _
   | exact impl_AddRope.mono _ _ _ _ _ _
   | exact impl_BeatenRopes.mono _ _
   | exact impl_RopeFor.mono _ _ _ _
   | exact impl_RopeNamed.mono _ _ _
   | exact laws_a2Has.mono _ _ _
   | exact laws_a2Rises.mono _ _ _
   | exact spec_A2Ropes.mono _ _
   | exact LeO.none _
   | refine LeO.ite ?_ ?_
   | refine LeO.bind ?_ (fun _ => ?_)
  ·
   intro y0 y1 y2
   unfold laws_FnRopeLists.j2
   repeat' first
   | (with_reducible exact ih0 _ _ _ _ _ _ _)
   | (with_reducible exact ih1 _ _)
   | (with_reducible exact ih2 _ _ _)
   | (with_reducible exact ih3 _ _ _ _)
   | (with_reducible exact ih4 _ _ _ _ _)
   | (with_reducible exact ih5 _ _ _ _ _ _)
   | (with_reducible exact impl_AddRope.mono _ _ _ _ _ _)
   | (with_reducible exact impl_BeatenRopes.mono _ _)
   | (with_reducible exact impl_RopeFor.mono _ _ _ _)
   | (with_reducible exact impl_RopeNamed.mono _ _ _)
   | (with_reducible exact laws_a2Has.mono _ _ _)
   | (with_reducible exact laws_a2Rises.mono _ _ _)
   | (with_reducible exact spec_A2Ropes.mono _ _)
   | (with_reducible exact LeO.refl _)
   | (with_reducible exact LeO.none _)
   | (with_reducible refine LeO.ite ?_ ?_)
   | (with_reducible refine LeO.bind ?_ (fun _ => ?_))
   | exact ih0 _ _ _ _ _ _ _
   | exact ih1 _ _
   | exact ih2 _ _ _
   | exact ih3 _ _ _ _
   | exact ih4 _ _ _ _ _
   | exact ih5 _ _ _ _ _ _
   | exact impl_AddRope.mono _ _ _ _ _ _
   | exact impl_BeatenRopes.mono _ _
   | exact impl_RopeFor.mono _ _ _ _
   | exact impl_RopeNamed.mono _ _ _
   | exact laws_a2Has.mono _ _ _
   | exact laws_a2Rises.mono _ _ _
   | exact spec_A2Ropes.mono _ _
   | exact LeO.none _
   | refine LeO.ite ?_ ?_
   | refine LeO.bind ?_ (fun _ => ?_)
  ·
   intro y0 y1 y2 y3
   unfold laws_FnRopeLists.l1
   repeat' first
   | (with_reducible exact ih0 _ _ _ _ _ _ _)
   | (with_reducible exact ih1 _ _)
   | (with_reducible exact ih2 _ _ _)
   | (with_reducible exact ih3 _ _ _ _)
   | (with_reducible exact ih4 _ _ _ _ _)
   | (with_reducible exact ih5 _ _ _ _ _ _)
   | (with_reducible exact impl_AddRope.mono _ _ _ _ _ _)
   | (with_reducible exact impl_BeatenRopes.mono _ _)
   | (with_reducible exact impl_RopeFor.mono _ _ _ _)
   | (with_reducible exact impl_RopeNamed.mono _ _ _)
   | (with_reducible exact laws_a2Has.mono _ _ _)
   | (with_reducible exact laws_a2Rises.mono _ _ _)
   | (with_reducible exact spec_A2Ropes.mono _ _)
   | (with_reducible exact LeO.refl _)
   | (with_reducible exact LeO.none _)
   | (with_reducible refine LeO.ite ?_ ?_)
   | (with_reducible refine LeO.bind ?_ (fun _ => ?_))
   | exact ih0 _ _ _ _ _ _ _
   | exact ih1 _ _
   | exact ih2 _ _ _
   | exact ih3 _ _ _ _
   | exact ih4 _ _ _ _ _
   | exact ih5 _ _ _ _ _ _
   | exact impl_AddRope.mono _ _ _ _ _ _
   | exact impl_BeatenRopes.mono _ _
   | exact impl_RopeFor.mono _ _ _ _
   | exact impl_RopeNamed.mono _ _ _
   | exact laws_a2Has.mono _ _ _
   | exact laws_a2Rises.mono _ _ _
   | exact spec_A2Ropes.mono _ _
   | exact LeO.none _
   | refine LeO.ite ?_ ?_
   | refine LeO.bind ?_ (fun _ => ?_)
  ·
   intro y0 y1 y2 y3 y4
   unfold laws_FnRopeLists.j4
   repeat' first
   | (with_reducible exact ih0 _ _ _ _ _ _ _)
   | (with_reducible exact ih1 _ _)
   | (with_reducible exact ih2 _ _ _)
   | (with_reducible exact ih3 _ _ _ _)
   | (with_reducible exact ih4 _ _ _ _ _)
   | (with_reducible exact ih5 _ _ _ _ _ _)
   | (with_reducible exact impl_AddRope.mono _ _ _ _ _ _)
   | (with_reducible exact impl_BeatenRopes.mono _ _)
   | (with_reducible exact impl_RopeFor.mono _ _ _ _)
   | (with_reducible exact impl_RopeNamed.mono _ _ _)
   | (with_reducible exact laws_a2Has.mono _ _ _)
   | (with_reducible exact laws_a2Rises.mono _ _ _)
   | (with_reducible exact spec_A2Ropes.mono _ _)
   | (with_reducible exact LeO.refl _)
   | (with_reducible exact LeO.none _)
   | (with_reducible refine LeO.ite ?_ ?_)
   | (with_reducible refine LeO.bind ?_ (fun _ => ?_))
   | exact ih0 _ _ _ _ _ _ _
   | exact ih1 _ _
   | exact ih2 _ _ _
   | exact ih3 _ _ _ _
   | exact ih4 _ _ _ _ _
   | exact ih5 _ _ _ _ _ _
   | exact impl_AddRope.mono _ _ _ _ _ _
   | exact impl_BeatenRopes.mono _ _
   | exact impl_RopeFor.mono _ _ _ _
   | exact impl_RopeNamed.mono _ _ _
   | exact laws_a2Has.mono _ _ _
   | exact laws_a2Rises.mono _ _ _
   | exact spec_A2Ropes.mono _ _
   | exact LeO.none _
   | refine LeO.ite ?_ ?_
   | refine LeO.bind ?_ (fun _ => ?_)
  ·
   intro y0 y1 y2 y3 y4 y5
   unfold laws_FnRopeLists.l2
   repeat' first
   | (with_reducible exact ih0 _ _ _ _ _ _ _)
   | (with_reducible exact ih1 _ _)
   | (with_reducible exact ih2 _ _ _)
   | (with_reducible exact ih3 _ _ _ _)
   | (with_reducible exact ih4 _ _ _ _ _)
   | (with_reducible exact ih5 _ _ _ _ _ _)
   | (with_reducible exact impl_AddRope.mono _ _ _ _ _ _)
   | (with_reducible exact impl_BeatenRopes.mono _ _)
   | (with_reducible exact impl_RopeFor.mono _ _ _ _)
   | (with_reducible exact impl_RopeNamed.mono _ _ _)
   | (with_reducible exact laws_a2Has.mono _ _ _)
   | (with_reducible exact laws_a2Rises.mono _ _ _)
   | (with_reducible exact spec_A2Ropes.mono _ _)
   | (with_reducible exact LeO.refl _)
   | (with_reducible exact LeO.none _)
   | (with_reducible refine LeO.ite ?_ ?_)
   | (with_reducible refine LeO.bind ?_ (fun _ => ?_))
   | exact ih0 _ _ _ _ _ _ _
   | exact ih1 _ _
   | exact ih2 _ _ _
   | exact ih3 _ _ _ _
   | exact ih4 _ _ _ _ _
   | exact ih5 _ _ _ _ _ _
   | exact impl_AddRope.mono _ _ _ _ _ _
   | exact impl_BeatenRopes.mono _ _
   | exact impl_RopeFor.mono _ _ _ _
   | exact impl_RopeNamed.mono _ _ _
   | exact laws_a2Has.mono _ _ _
   | exact laws_a2Rises.mono _ _ _
   | exact spec_A2Ropes.mono _ _
   | exact LeO.none _
   | refine LeO.ite ?_ ?_
   | refine LeO.bind ?_ (fun _ => ?_)
theorem laws_FnRopeLists.mono : ∀ a0 a1 k, LeO (laws_FnRopeLists.f k a0 a1) (laws_FnRopeLists.f (k + 1) a0 a1) := by
 intro a0 a1 k
 obtain ⟨ih0, ih1, ih2, ih3, ih4, ih5⟩ := laws_FnRopeLists.mono_l k
 unfold laws_FnRopeLists.f
 repeat' first
   | (with_reducible exact ih0 _ _ _ _ _ _ _)
   | (with_reducible exact ih1 _ _)
   | (with_reducible exact ih2 _ _ _)
   | (with_reducible exact ih3 _ _ _ _)
   | (with_reducible exact ih4 _ _ _ _ _)
   | (with_reducible exact ih5 _ _ _ _ _ _)
   | (with_reducible exact impl_AddRope.mono _ _ _ _ _ _)
   | (with_reducible exact impl_BeatenRopes.mono _ _)
   | (with_reducible exact impl_RopeFor.mono _ _ _ _)
   | (with_reducible exact impl_RopeNamed.mono _ _ _)
   | (with_reducible exact laws_a2Has.mono _ _ _)
   | (with_reducible exact laws_a2Rises.mono _ _ _)
   | (with_reducible exact spec_A2Ropes.mono _ _)
   | (with_reducible exact LeO.refl _)
   | (with_reducible exact LeO.none _)
   | (with_reducible refine LeO.ite ?_ ?_)
   | (with_reducible refine LeO.bind ?_ (fun _ => ?_))
   | exact ih0 _ _ _ _ _ _ _
   | exact ih1 _ _
   | exact ih2 _ _ _
   | exact ih3 _ _ _ _
   | exact ih4 _ _ _ _ _
   | exact ih5 _ _ _ _ _ _
   | exact impl_AddRope.mono _ _ _ _ _ _
   | exact impl_BeatenRopes.mono _ _
   | exact impl_RopeFor.mono _ _ _ _
   | exact impl_RopeNamed.mono _ _ _
   | exact laws_a2Has.mono _ _ _
   | exact laws_a2Rises.mono _ _ _
   | exact spec_A2Ropes.mono _ _
   | exact LeO.none _
   | refine LeO.ite ?_ ?_
   | refine LeO.bind ?_ (fun _ => ?_)
def laws_FnRopeLists.bF (n k : Nat) : Array Bool := ((List.range n).map fun i => k.testBit i).toArray
set_option maxHeartbeats 8000000 in
set_option maxRecDepth 100000 in
theorem laws_FnRopeLists.calls (k : Nat) (A0 : Option Addr) (c0 : Nat) (l0 : List Int) (A1 : Option Addr) (c1 : Nat) (l1 : List Int) (r : Bool) (w : World) (hr0 : Kd.C (Kd.int .u8) w A0 l0.length l0) (hc0 : l0.length ≤ c0) (hr1 : Kd.C (Kd.int .u8) w A1 l1.length l1) (hc1 : l1.length ≤ c1) (h : laws_FnRopeLists.f k l0 l1 = some r) :
  Calls Try.prog 5 #[.slice A0 l0.length c0, .slice A1 l1.length c1] w fun e w' => e = .returned (.bool r) ∧ Below w.heap.size w w' := by
 have hu68 := Try.underlying68
 have HR0 := aS hr0
 have HC0 := aS hc0
 clear hr0 hc0
 have HR1 := aS hr1
 have HC1 := aS hc1
 clear hr1 hc1
 have HB := aS (Below.refl w.heap.size w)
 have H : ((laws_a2Long.f l0 l1).bind fun t224 => (if t224 = true then (some true) else ((spec_A2Ropes.f k l0).bind fun t225 => ((laws_a2At.f l1 0 60).bind fun t228 => ((laws_a2At.f l1 1 6).bind fun t229 => ((impl_RopeFor.f k t225 (wrap64 (100 * (wrap64 (1 + t228)))) (wrap64 (1 + t229))).bind fun bt230 => (laws_FnRopeLists.l0 k t225 (wrap64 (100 * (wrap64 (1 + t228)))) (wrap64 (1 + t229)) bt230.1 bt230.2 true 0))))))) = some r := h
 clear h
 replace H := Option.bind_eq_some_iff.mp H
 obtain ⟨t224, A30, H⟩ := H
 replace H : (if t224 = true then (some true) else ((spec_A2Ropes.f k l0).bind fun t225 => ((laws_a2At.f l1 0 60).bind fun t228 => ((laws_a2At.f l1 1 6).bind fun t229 => ((impl_RopeFor.f k t225 (wrap64 (100 * (wrap64 (1 + t228)))) (wrap64 (1 + t229))).bind fun bt230 => (laws_FnRopeLists.l0 k t225 (wrap64 (100 * (wrap64 (1 + t228)))) (wrap64 (1 + t229)) bt230.1 bt230.2 true 0)))))) = some r := H
 have A3 := aS A30
 clear A30
 have HC4 := aS H
 clear H
 go_enter Try.func5, Try.ntmps5
 go_upto_if 28 with (first | (go_at_call 31; (with_reducible refine (laws_a2Long.calls _ _ l0 _ _ l1 t224 _ ?side1 ?side2 ?side3 ?side4 A3.out).mono ?_); (case side1 => exact sC HR0.out); (case side2 => exact HC0.out); (case side3 => exact sC HR1.out); (case side4 => exact HC1.out); rintro e w' ⟨rfl, ⟨nd, rfl⟩⟩; (try first | exact ⟨rfl, _, World.drewN_drewN _ _ _⟩ | exact ⟨rfl, _, Eq.trans (World.drewN_drewN _ _ _) (congrArg (World.drewN _) (Nat.add_assoc _ _ _))⟩)))
 repeat (go_quiet (first | (go_at_call 31; (with_reducible refine (laws_a2Long.calls _ _ l0 _ _ l1 t224 _ ?side1 ?side2 ?side3 ?side4 A3.out).mono ?_); (case side1 => exact sC HR0.out); (case side2 => exact HC0.out); (case side3 => exact sC HR1.out); (case side4 => exact HC1.out); rintro e w' ⟨rfl, ⟨nd, rfl⟩⟩; (try first | exact ⟨rfl, _, World.drewN_drewN _ _ _⟩ | exact ⟨rfl, _, Eq.trans (World.drewN_drewN _ _ _) (congrArg (World.drewN _) (Nat.add_assoc _ _ _))⟩))); go_upto_if 28 with (first | (go_at_call 31; (with_reducible refine (laws_a2Long.calls _ _ l0 _ _ l1 t224 _ ?side1 ?side2 ?side3 ?side4 A3.out).mono ?_); (case side1 => exact sC HR0.out); (case side2 => exact HC0.out); (case side3 => exact sC HR1.out); (case side4 => exact HC1.out); rintro e w' ⟨rfl, ⟨nd, rfl⟩⟩; (try first | exact ⟨rfl, _, World.drewN_drewN _ _ _⟩ | exact ⟨rfl, _, Eq.trans (World.drewN_drewN _ _ _) (congrArg (World.drewN _) (Nat.add_assoc _ _ _))⟩))))
 (try simp only [Act.put, List.setIfInBounds_toArray, List.set_cons_zero, List.set_cons_succ])
 have H := HC4.out
 clear HC4
 by_cases c5 : t224 = true
 ·
  subst c5
  have H1 : (some true) = some r := by rw [if_pos rfl] at H; exact H
  clear H
  have H := H1
  clear H1
  obtain rfl := Option.some.inj H
  go_wp2
  repeat (go_quiet (fail); try go_wp2)
  go_ret
  exact ⟨by first | rfl | (simp [errW_none, errW_some, i64_w]; done) | (simp [errW_none, errW_some] <;> rfl) | (simp [*, errW_none, errW_some] <;> rfl), by repeat (first | (with_reducible first | exact HB.out | apply below_alloc | apply pw_below_drewN | apply below_drew1) | exact HB.out)⟩
 ·
  replace c5 := Bool.eq_false_iff.mpr c5
  subst c5
  have H1 : ((spec_A2Ropes.f k l0).bind fun t225 => ((laws_a2At.f l1 0 60).bind fun t228 => ((laws_a2At.f l1 1 6).bind fun t229 => ((impl_RopeFor.f k t225 (wrap64 (100 * (wrap64 (1 + t228)))) (wrap64 (1 + t229))).bind fun bt230 => (laws_FnRopeLists.l0 k t225 (wrap64 (100 * (wrap64 (1 + t228)))) (wrap64 (1 + t229)) bt230.1 bt230.2 true 0))))) = some r := by rw [if_neg (show ¬ (false = true) by decide)] at H; exact H
  clear H
  have H := H1
  clear H1
  replace H := Option.bind_eq_some_iff.mp H
  obtain ⟨t225, A60, H⟩ := H
  replace H : ((laws_a2At.f l1 0 60).bind fun t228 => ((laws_a2At.f l1 1 6).bind fun t229 => ((impl_RopeFor.f k t225 (wrap64 (100 * (wrap64 (1 + t228)))) (wrap64 (1 + t229))).bind fun bt230 => (laws_FnRopeLists.l0 k t225 (wrap64 (100 * (wrap64 (1 + t228)))) (wrap64 (1 + t229)) bt230.1 bt230.2 true 0)))) = some r := H
  have A6 := aS A60
  clear A60
  replace H := Option.bind_eq_some_iff.mp H
  obtain ⟨t228, A70, H⟩ := H
  replace H : ((laws_a2At.f l1 1 6).bind fun t229 => ((impl_RopeFor.f k t225 (wrap64 (100 * (wrap64 (1 + t228)))) (wrap64 (1 + t229))).bind fun bt230 => (laws_FnRopeLists.l0 k t225 (wrap64 (100 * (wrap64 (1 + t228)))) (wrap64 (1 + t229)) bt230.1 bt230.2 true 0))) = some r := H
  have A7 := aS A70
  clear A70
  replace H := Option.bind_eq_some_iff.mp H
  obtain ⟨t229, A80, H⟩ := H
  replace H : ((impl_RopeFor.f k t225 (wrap64 (100 * (wrap64 (1 + t228)))) (wrap64 (1 + t229))).bind fun bt230 => (laws_FnRopeLists.l0 k t225 (wrap64 (100 * (wrap64 (1 + t228)))) (wrap64 (1 + t229)) bt230.1 bt230.2 true 0)) = some r := H
  have A8 := aS A80
  clear A80
  replace H := Option.bind_eq_some_iff.mp H
  obtain ⟨⟨t230, t231⟩, A90, H⟩ := H
  replace H : (laws_FnRopeLists.l0 k t225 (wrap64 (100 * (wrap64 (1 + t228)))) (wrap64 (1 + t229)) t230 t231 true 0) = some r := H
  have A9 := aS A90
  clear A90
  have H' := aS H
  clear H
  go_wp2_with (first | (go_at_call 32; (with_reducible refine (spec_A2Ropes.calls k _ _ l0 t225 _ ?side1 ?side2 A6.out).mono ?_); (case side1 => exact sC (Kd.C_below HR0.out HB.out)); (case side2 => exact HC0.out); rintro e w10 ⟨v226, rfl, ho0, hb⟩; have n0_ := aS (Kd.R_lower ho0 (below_size (sW HB.out))); have n1_ := aS (below_step (sW HB.out) hb); clear HB; have HO227 := n0_; have HB := n1_; clear n0_ n1_; (try clear hb); (try clear hb2); (try clear hk); (try clear hi); (try clear ho0)) | (go_at_call 33; (with_reducible refine (laws_a2At.calls _ _ l1 0 60 t228 _ ?side1 ?side2 A7.out).mono ?_); (case side1 => exact sC (Kd.C_below HR1.out HB.out)); (case side2 => exact HC1.out); rintro e w' ⟨rfl, ⟨nd, rfl⟩⟩; (try first | exact ⟨rfl, _, World.drewN_drewN _ _ _⟩ | exact ⟨rfl, _, Eq.trans (World.drewN_drewN _ _ _) (congrArg (World.drewN _) (Nat.add_assoc _ _ _))⟩)) | (go_at_call 33; (with_reducible refine (laws_a2At.calls _ _ l1 1 6 t229 _ ?side1 ?side2 A8.out).mono ?_); (case side1 => exact sC (Kd.C_below HR1.out (sW HB.out))); (case side2 => exact HC1.out); rintro e w' ⟨rfl, ⟨nd, rfl⟩⟩; (try first | exact ⟨rfl, _, World.drewN_drewN _ _ _⟩ | exact ⟨rfl, _, Eq.trans (World.drewN_drewN _ _ _) (congrArg (World.drewN _) (Nat.add_assoc _ _ _))⟩); obtain ⟨Ao11, co11, eo11⟩ := Kd.R_slice HO227.out; subst eo11) | (go_at_call 34; (with_reducible refine (impl_RopeFor.calls k _ _ t225 (wrap64 (100 * (wrap64 (1 + t228)))) (wrap64 (1 + t229)) t230 t231 _ ?side1 ?side2 A9.out).mono ?_); (case side1 => exact sC (Kd.R_reads' HO227.out).2.2); (case side2 => exact (Kd.R_reads' HO227.out).2.1); rintro e w12 ⟨rfl, hb⟩; have n0_ := aS (Kd.R_below (sR HO227.out) hb); have n1_ := aS (below_step (sW HB.out) hb); clear HO227 HB; have HO227 := n0_; have HB := n1_; clear n0_ n1_; (try clear hb); (try clear hb2); (try clear hk); (try clear hi)))
  repeat (go_quiet (first | (go_at_call 32; (with_reducible refine (spec_A2Ropes.calls k _ _ l0 t225 _ ?side1 ?side2 A6.out).mono ?_); (case side1 => exact sC (Kd.C_below HR0.out HB.out)); (case side2 => exact HC0.out); rintro e w10 ⟨v226, rfl, ho0, hb⟩; have n0_ := aS (Kd.R_lower ho0 (below_size (sW HB.out))); have n1_ := aS (below_step (sW HB.out) hb); clear HB; have HO227 := n0_; have HB := n1_; clear n0_ n1_; (try clear hb); (try clear hb2); (try clear hk); (try clear hi); (try clear ho0)) | (go_at_call 33; (with_reducible refine (laws_a2At.calls _ _ l1 0 60 t228 _ ?side1 ?side2 A7.out).mono ?_); (case side1 => exact sC (Kd.C_below HR1.out HB.out)); (case side2 => exact HC1.out); rintro e w' ⟨rfl, ⟨nd, rfl⟩⟩; (try first | exact ⟨rfl, _, World.drewN_drewN _ _ _⟩ | exact ⟨rfl, _, Eq.trans (World.drewN_drewN _ _ _) (congrArg (World.drewN _) (Nat.add_assoc _ _ _))⟩)) | (go_at_call 33; (with_reducible refine (laws_a2At.calls _ _ l1 1 6 t229 _ ?side1 ?side2 A8.out).mono ?_); (case side1 => exact sC (Kd.C_below HR1.out (sW HB.out))); (case side2 => exact HC1.out); rintro e w' ⟨rfl, ⟨nd, rfl⟩⟩; (try first | exact ⟨rfl, _, World.drewN_drewN _ _ _⟩ | exact ⟨rfl, _, Eq.trans (World.drewN_drewN _ _ _) (congrArg (World.drewN _) (Nat.add_assoc _ _ _))⟩); obtain ⟨Ao11, co11, eo11⟩ := Kd.R_slice HO227.out; subst eo11) | (go_at_call 34; (with_reducible refine (impl_RopeFor.calls k _ _ t225 (wrap64 (100 * (wrap64 (1 + t228)))) (wrap64 (1 + t229)) t230 t231 _ ?side1 ?side2 A9.out).mono ?_); (case side1 => exact sC (Kd.R_reads' HO227.out).2.2); (case side2 => exact (Kd.R_reads' HO227.out).2.1); rintro e w12 ⟨rfl, hb⟩; have n0_ := aS (Kd.R_below (sR HO227.out) hb); have n1_ := aS (below_step (sW HB.out) hb); clear HO227 HB; have HO227 := n0_; have HB := n1_; clear n0_ n1_; (try clear hb); (try clear hb2); (try clear hk); (try clear hi))); try go_wp2_with (first | (go_at_call 32; (with_reducible refine (spec_A2Ropes.calls k _ _ l0 t225 _ ?side1 ?side2 A6.out).mono ?_); (case side1 => exact sC (Kd.C_below HR0.out HB.out)); (case side2 => exact HC0.out); rintro e w10 ⟨v226, rfl, ho0, hb⟩; have n0_ := aS (Kd.R_lower ho0 (below_size (sW HB.out))); have n1_ := aS (below_step (sW HB.out) hb); clear HB; have HO227 := n0_; have HB := n1_; clear n0_ n1_; (try clear hb); (try clear hb2); (try clear hk); (try clear hi); (try clear ho0)) | (go_at_call 33; (with_reducible refine (laws_a2At.calls _ _ l1 0 60 t228 _ ?side1 ?side2 A7.out).mono ?_); (case side1 => exact sC (Kd.C_below HR1.out HB.out)); (case side2 => exact HC1.out); rintro e w' ⟨rfl, ⟨nd, rfl⟩⟩; (try first | exact ⟨rfl, _, World.drewN_drewN _ _ _⟩ | exact ⟨rfl, _, Eq.trans (World.drewN_drewN _ _ _) (congrArg (World.drewN _) (Nat.add_assoc _ _ _))⟩)) | (go_at_call 33; (with_reducible refine (laws_a2At.calls _ _ l1 1 6 t229 _ ?side1 ?side2 A8.out).mono ?_); (case side1 => exact sC (Kd.C_below HR1.out (sW HB.out))); (case side2 => exact HC1.out); rintro e w' ⟨rfl, ⟨nd, rfl⟩⟩; (try first | exact ⟨rfl, _, World.drewN_drewN _ _ _⟩ | exact ⟨rfl, _, Eq.trans (World.drewN_drewN _ _ _) (congrArg (World.drewN _) (Nat.add_assoc _ _ _))⟩); obtain ⟨Ao11, co11, eo11⟩ := Kd.R_slice HO227.out; subst eo11) | (go_at_call 34; (with_reducible refine (impl_RopeFor.calls k _ _ t225 (wrap64 (100 * (wrap64 (1 + t228)))) (wrap64 (1 + t229)) t230 t231 _ ?side1 ?side2 A9.out).mono ?_); (case side1 => exact sC (Kd.R_reads' HO227.out).2.2); (case side2 => exact (Kd.R_reads' HO227.out).2.1); rintro e w12 ⟨rfl, hb⟩; have n0_ := aS (Kd.R_below (sR HO227.out) hb); have n1_ := aS (below_step (sW HB.out) hb); clear HO227 HB; have HO227 := n0_; have HB := n1_; clear n0_ n1_; (try clear hb); (try clear hb2); (try clear hk); (try clear hi))))
  go_loopg [10, 11] k (fun kq v10 v11 w' => ∃ (x10_1 : Bool) (x11_1 : Int), v10 = .bool x10_1 ∧ v11 = .int .i64 x11_1 ∧ Aside0 (laws_FnRopeLists.l0 kq t225 (wrap64 (100 * (wrap64 (1 + t228)))) (wrap64 (1 + t229)) t230 t231 x10_1 x11_1 = some r) ∧ Aside0 (kq ≤ k) ∧ Aside0 (Kd.R k68 68 w' w.heap.size (fun _ => True) (.slice Ao11 t225.length co11) t225) ∧ Aside0 (Below w.heap.size w w'))
  case atStart => exact ⟨(true), (0), (by first | rfl | (simp; done) | (simp [*]; done) | (simp only [i64_w]; done) | (simp [i64_w]; done)), (by first | rfl | (simp; done) | (simp [*]; done) | (simp only [i64_w]; done) | (simp [i64_w]; done)), H', ⟨Nat.le_refl _⟩, ⟨by (with_reducible repeat (first | apply Kd.R_alloc | apply Kd.R_drewN | apply Kd.R_drew)); exact HO227.out⟩, ⟨by repeat (first | (with_reducible first | exact HB.out | apply below_alloc | apply pw_below_drewN | apply below_drew1) | exact HB.out)⟩⟩
  case round =>
   as_aux_lemma =>
    clear H'
    (try clear c1); (try clear p2); (try clear c5); (try clear p6)
    obtain ⟨x10_1, x11_1, rfl, rfl, HA, HK1, HO_5, HB⟩ := hrel
    cases gk with
    | zero => exact absurd HA.out (by simp [laws_FnRopeLists.l0])
    | succ k1 =>
     have H := HA.out
     clear HA
     simp only [laws_FnRopeLists.l0] at H
     by_cases c13 : x11_1 < (t225.length : Int)
     ·
      rw [if_pos c13] at H
      have c13b0 : decide (x11_1 < (t225.length : Int)) = true := decide_eq_true c13
      clear c13
      (first | rw [c13b0] | (simp only [i64_w, i32_w]; rw [c13b0]) | (rw [c13b2]; simp only [Bool.not_false, Bool.not_true]) | skip)
      by_cases c14 : 0 ≤ x11_1
      rotate_left
      ·
       rw [if_neg c14] at H
       exact absurd H (by simp)
      rw [if_pos c14] at H
      have c14b0 : decide (0 ≤ x11_1) = true := decide_eq_true c14
      clear c14
      by_cases c15 : ((rd_T68 t225 x11_1).f2) < (wrap64 ((wrap64 (100 * (wrap64 (1 + t228)))) * (wrap64 (1 + t229))))
      ·
       rw [if_pos c15] at H
       have c15b0 : decide (((rd_T68 t225 x11_1).f2) < (wrap64 ((wrap64 (100 * (wrap64 (1 + t228)))) * (wrap64 (1 + t229))))) = true := decide_eq_true c15
       clear c15
       have H' := aS H
       clear H
       have p232 : 0 ≤ (x11_1 : Int) := of_decide_eq_true (by first | (with_reducible assumption) | assumption)
       have q232 : x11_1 < (t225.length : Int) := of_decide_eq_true (by first | (with_reducible assumption) | assumption)
       obtain ⟨ad232, e232, hx232_0, hx232_1, hx232_2, hx232_3⟩ := at_T68 (Kd.R_reads' HO_5.out).2.2 x11_1 p232 q232
       cases e232
       replace p232 := eq_true p232
       replace q232 := eq_true q232
       go_wp2
       repeat (go_quiet (fail); try go_wp2)
       go_roundg k1
       case measure => have := HK1.out; omega
       case rel => exact ⟨(x10_1), (wrap64 (x11_1 + 1)), (by first | rfl | (simp; done) | (simp [*]; done) | (simp only [i64_w]; done) | (simp [i64_w]; done)), (by first | rfl | (simp; done) | (simp [*]; done) | (simp only [i64_w]; done) | (simp [i64_w]; done)), H', ⟨by have := HK1.out; omega⟩, ⟨by (with_reducible repeat (first | apply Kd.R_alloc | apply Kd.R_drewN | apply Kd.R_drew)); exact HO_5.out⟩, ⟨by repeat (first | (with_reducible first | exact HB.out | apply below_alloc | apply pw_below_drewN | apply below_drew1) | exact HB.out)⟩⟩
      rw [if_neg c15] at H
      have c15b0 : decide (((rd_T68 t225 x11_1).f2) < (wrap64 ((wrap64 (100 * (wrap64 (1 + t228)))) * (wrap64 (1 + t229))))) = false := decide_eq_false c15
      clear c15
      by_cases c16 : t231 = 0
      rotate_left
      ·
       rw [if_neg c16] at H
       have c16b0 : (t231 == 0) = false := beq_eq_false_iff_ne.mpr c16
       have c16b1 : (t231 != 0) = true := bne_iff_ne.mpr c16
       obtain rfl := Option.some.inj H
       have p232 : 0 ≤ (x11_1 : Int) := of_decide_eq_true (by first | (with_reducible assumption) | assumption)
       have q232 : x11_1 < (t225.length : Int) := of_decide_eq_true (by first | (with_reducible assumption) | assumption)
       obtain ⟨ad232, e232, hx232_0, hx232_1, hx232_2, hx232_3⟩ := at_T68 (Kd.R_reads' HO_5.out).2.2 x11_1 p232 q232
       cases e232
       replace p232 := eq_true p232
       replace q232 := eq_true q232
       go_wp2
       repeat (go_quiet (fail); try go_wp2)
       go_ret
       exact ⟨by first | rfl | (simp [errW_none, errW_some, i64_w]; done) | (simp [errW_none, errW_some] <;> rfl) | (simp [*, errW_none, errW_some] <;> rfl), by repeat (first | (with_reducible first | exact HB.out | apply below_alloc | apply pw_below_drewN | apply below_drew1) | exact HB.out)⟩
      rw [if_pos c16] at H
      have c16b0 : (t231 == 0) = true := beq_iff_eq.mpr c16
      have c16b1 : (t231 != 0) = false := bne_eq_false_iff_eq.mpr c16
      clear c16
      by_cases c17 : t230 < 0
      ·
       rw [if_pos c17] at H
       have c17b0 : decide (t230 < 0) = true := decide_eq_true c17
       clear c17
       obtain rfl := Option.some.inj H
       have p232 : 0 ≤ (x11_1 : Int) := of_decide_eq_true (by first | (with_reducible assumption) | assumption)
       have q232 : x11_1 < (t225.length : Int) := of_decide_eq_true (by first | (with_reducible assumption) | assumption)
       obtain ⟨ad232, e232, hx232_0, hx232_1, hx232_2, hx232_3⟩ := at_T68 (Kd.R_reads' HO_5.out).2.2 x11_1 p232 q232
       cases e232
       replace p232 := eq_true p232
       replace q232 := eq_true q232
       go_wp2
       repeat (go_quiet (fail); try go_wp2)
       go_ret
       exact ⟨by first | rfl | (simp [errW_none, errW_some, i64_w]; done) | (simp [errW_none, errW_some] <;> rfl) | (simp [*, errW_none, errW_some] <;> rfl), by repeat (first | (with_reducible first | exact HB.out | apply below_alloc | apply pw_below_drewN | apply below_drew1) | exact HB.out)⟩
      rw [if_neg c17] at H
      have c17b0 : decide (t230 < 0) = false := decide_eq_false c17
      clear c17
      by_cases c18 : t230 ≥ (t225.length : Int)
      ·
       rw [if_pos c18] at H
       have c18b0 : decide ((t225.length : Int) ≤ t230) = true := decide_eq_true c18
       clear c18
       obtain rfl := Option.some.inj H
       have p232 : 0 ≤ (x11_1 : Int) := of_decide_eq_true (by first | (with_reducible assumption) | assumption)
       have q232 : x11_1 < (t225.length : Int) := of_decide_eq_true (by first | (with_reducible assumption) | assumption)
       obtain ⟨ad232, e232, hx232_0, hx232_1, hx232_2, hx232_3⟩ := at_T68 (Kd.R_reads' HO_5.out).2.2 x11_1 p232 q232
       cases e232
       replace p232 := eq_true p232
       replace q232 := eq_true q232
       go_wp2
       repeat (go_quiet (fail); try go_wp2)
       go_ret
       exact ⟨by first | rfl | (simp [errW_none, errW_some, i64_w]; done) | (simp [errW_none, errW_some] <;> rfl) | (simp [*, errW_none, errW_some] <;> rfl), by repeat (first | (with_reducible first | exact HB.out | apply below_alloc | apply pw_below_drewN | apply below_drew1) | exact HB.out)⟩
      rw [if_neg c18] at H
      have c18b0 : decide ((t225.length : Int) ≤ t230) = false := decide_eq_false c18
      clear c18
      by_cases c19 : 0 ≤ t230
      rotate_left
      ·
       rw [if_neg c19] at H
       exact absurd H (by simp)
      rw [if_pos c19] at H
      have c19b0 : decide (0 ≤ t230) = true := decide_eq_true c19
      clear c19
      by_cases c20 : t230 < (t225.length : Int)
      rotate_left
      ·
       rw [if_neg c20] at H
       exact absurd H (by simp)
      rw [if_pos c20] at H
      have c20b0 : decide (t230 < (t225.length : Int)) = true := decide_eq_true c20
      clear c20
      by_cases c21 : ((rd_T68 t225 x11_1).f3) < ((rd_T68 t225 t230).f3)
      ·
       rw [if_pos c21] at H
       have c21b0 : decide (((rd_T68 t225 x11_1).f3) < ((rd_T68 t225 t230).f3)) = true := decide_eq_true c21
       clear c21
       obtain rfl := Option.some.inj H
       have p232 : 0 ≤ (x11_1 : Int) := of_decide_eq_true (by first | (with_reducible assumption) | assumption)
       have q232 : x11_1 < (t225.length : Int) := of_decide_eq_true (by first | (with_reducible assumption) | assumption)
       obtain ⟨ad232, e232, hx232_0, hx232_1, hx232_2, hx232_3⟩ := at_T68 (Kd.R_reads' HO_5.out).2.2 x11_1 p232 q232
       cases e232
       replace p232 := eq_true p232
       replace q232 := eq_true q232
       have p233 : 0 ≤ (x11_1 : Int) := of_decide_eq_true (by first | (with_reducible assumption) | assumption)
       have q233 : x11_1 < (t225.length : Int) := of_decide_eq_true (by first | (with_reducible assumption) | assumption)
       obtain ⟨ad233, e233, hx233_0, hx233_1, hx233_2, hx233_3⟩ := at_T68 (Kd.R_reads' HO_5.out).2.2 x11_1 p233 q233
       obtain rfl : ad232 = ad233 := (by injection e233)
       replace p233 := eq_true p233
       replace q233 := eq_true q233
       have p234 : 0 ≤ (t230 : Int) := of_decide_eq_true (by first | (with_reducible assumption) | assumption)
       have q234 : t230 < (t225.length : Int) := of_decide_eq_true (by first | (with_reducible assumption) | assumption)
       obtain ⟨ad234, e234, hx234_0, hx234_1, hx234_2, hx234_3⟩ := at_T68 (Kd.R_reads' HO_5.out).2.2 t230 p234 q234
       obtain rfl : ad232 = ad234 := (by injection e234)
       replace p234 := eq_true p234
       replace q234 := eq_true q234
       go_wp2
       repeat (go_quiet (fail); try go_wp2)
       go_ret
       exact ⟨by first | rfl | (simp [errW_none, errW_some, i64_w]; done) | (simp [errW_none, errW_some] <;> rfl) | (simp [*, errW_none, errW_some] <;> rfl), by repeat (first | (with_reducible first | exact HB.out | apply below_alloc | apply pw_below_drewN | apply below_drew1) | exact HB.out)⟩
      rw [if_neg c21] at H
      have c21b0 : decide (((rd_T68 t225 x11_1).f3) < ((rd_T68 t225 t230).f3)) = false := decide_eq_false c21
      clear c21
      by_cases c22 : ((rd_T68 t225 x11_1).f3) = ((rd_T68 t225 t230).f3)
      rotate_left
      ·
       rw [if_neg c22] at H
       have c22b0 : (((rd_T68 t225 x11_1).f3) == ((rd_T68 t225 t230).f3)) = false := beq_eq_false_iff_ne.mpr c22
       have c22b1 : (((rd_T68 t225 x11_1).f3) != ((rd_T68 t225 t230).f3)) = true := bne_iff_ne.mpr c22
       have H' := aS H
       clear H
       have p232 : 0 ≤ (x11_1 : Int) := of_decide_eq_true (by first | (with_reducible assumption) | assumption)
       have q232 : x11_1 < (t225.length : Int) := of_decide_eq_true (by first | (with_reducible assumption) | assumption)
       obtain ⟨ad232, e232, hx232_0, hx232_1, hx232_2, hx232_3⟩ := at_T68 (Kd.R_reads' HO_5.out).2.2 x11_1 p232 q232
       cases e232
       replace p232 := eq_true p232
       replace q232 := eq_true q232
       have p233 : 0 ≤ (x11_1 : Int) := of_decide_eq_true (by first | (with_reducible assumption) | assumption)
       have q233 : x11_1 < (t225.length : Int) := of_decide_eq_true (by first | (with_reducible assumption) | assumption)
       obtain ⟨ad233, e233, hx233_0, hx233_1, hx233_2, hx233_3⟩ := at_T68 (Kd.R_reads' HO_5.out).2.2 x11_1 p233 q233
       obtain rfl : ad232 = ad233 := (by injection e233)
       replace p233 := eq_true p233
       replace q233 := eq_true q233
       have p234 : 0 ≤ (t230 : Int) := of_decide_eq_true (by first | (with_reducible assumption) | assumption)
       have q234 : t230 < (t225.length : Int) := of_decide_eq_true (by first | (with_reducible assumption) | assumption)
       obtain ⟨ad234, e234, hx234_0, hx234_1, hx234_2, hx234_3⟩ := at_T68 (Kd.R_reads' HO_5.out).2.2 t230 p234 q234
       obtain rfl : ad232 = ad234 := (by injection e234)
       replace p234 := eq_true p234
       replace q234 := eq_true q234
       have p235 : 0 ≤ (x11_1 : Int) := of_decide_eq_true (by first | (with_reducible assumption) | assumption)
       have q235 : x11_1 < (t225.length : Int) := of_decide_eq_true (by first | (with_reducible assumption) | assumption)
       obtain ⟨ad235, e235, hx235_0, hx235_1, hx235_2, hx235_3⟩ := at_T68 (Kd.R_reads' HO_5.out).2.2 x11_1 p235 q235
       obtain rfl : ad232 = ad235 := (by injection e235)
       replace p235 := eq_true p235
       replace q235 := eq_true q235
       have p236 : 0 ≤ (t230 : Int) := of_decide_eq_true (by first | (with_reducible assumption) | assumption)
       have q236 : t230 < (t225.length : Int) := of_decide_eq_true (by first | (with_reducible assumption) | assumption)
       obtain ⟨ad236, e236, hx236_0, hx236_1, hx236_2, hx236_3⟩ := at_T68 (Kd.R_reads' HO_5.out).2.2 t230 p236 q236
       obtain rfl : ad232 = ad236 := (by injection e236)
       replace p236 := eq_true p236
       replace q236 := eq_true q236
       go_wp2
       repeat (go_quiet (fail); try go_wp2)
       go_roundg k1
       case measure => have := HK1.out; omega
       case rel => exact ⟨(false), (wrap64 (x11_1 + 1)), (by first | rfl | (simp; done) | (simp [*]; done) | (simp only [i64_w]; done) | (simp [i64_w]; done)), (by first | rfl | (simp; done) | (simp [*]; done) | (simp only [i64_w]; done) | (simp [i64_w]; done)), H', ⟨by have := HK1.out; omega⟩, ⟨by (with_reducible repeat (first | apply Kd.R_alloc | apply Kd.R_drewN | apply Kd.R_drew)); exact HO_5.out⟩, ⟨by repeat (first | (with_reducible first | exact HB.out | apply below_alloc | apply pw_below_drewN | apply below_drew1) | exact HB.out)⟩⟩
      rw [if_pos c22] at H
      have c22b0 : (((rd_T68 t225 x11_1).f3) == ((rd_T68 t225 t230).f3)) = true := beq_iff_eq.mpr c22
      have c22b1 : (((rd_T68 t225 x11_1).f3) != ((rd_T68 t225 t230).f3)) = false := bne_eq_false_iff_eq.mpr c22
      clear c22
      by_cases c23 : x11_1 < t230
      ·
       rw [if_pos c23] at H
       have c23b0 : decide (x11_1 < t230) = true := decide_eq_true c23
       clear c23
       obtain rfl := Option.some.inj H
       have p232 : 0 ≤ (x11_1 : Int) := of_decide_eq_true (by first | (with_reducible assumption) | assumption)
       have q232 : x11_1 < (t225.length : Int) := of_decide_eq_true (by first | (with_reducible assumption) | assumption)
       obtain ⟨ad232, e232, hx232_0, hx232_1, hx232_2, hx232_3⟩ := at_T68 (Kd.R_reads' HO_5.out).2.2 x11_1 p232 q232
       cases e232
       replace p232 := eq_true p232
       replace q232 := eq_true q232
       have p233 : 0 ≤ (x11_1 : Int) := of_decide_eq_true (by first | (with_reducible assumption) | assumption)
       have q233 : x11_1 < (t225.length : Int) := of_decide_eq_true (by first | (with_reducible assumption) | assumption)
       obtain ⟨ad233, e233, hx233_0, hx233_1, hx233_2, hx233_3⟩ := at_T68 (Kd.R_reads' HO_5.out).2.2 x11_1 p233 q233
       obtain rfl : ad232 = ad233 := (by injection e233)
       replace p233 := eq_true p233
       replace q233 := eq_true q233
       have p234 : 0 ≤ (t230 : Int) := of_decide_eq_true (by first | (with_reducible assumption) | assumption)
       have q234 : t230 < (t225.length : Int) := of_decide_eq_true (by first | (with_reducible assumption) | assumption)
       obtain ⟨ad234, e234, hx234_0, hx234_1, hx234_2, hx234_3⟩ := at_T68 (Kd.R_reads' HO_5.out).2.2 t230 p234 q234
       obtain rfl : ad232 = ad234 := (by injection e234)
       replace p234 := eq_true p234
       replace q234 := eq_true q234
       have p235 : 0 ≤ (x11_1 : Int) := of_decide_eq_true (by first | (with_reducible assumption) | assumption)
       have q235 : x11_1 < (t225.length : Int) := of_decide_eq_true (by first | (with_reducible assumption) | assumption)
       obtain ⟨ad235, e235, hx235_0, hx235_1, hx235_2, hx235_3⟩ := at_T68 (Kd.R_reads' HO_5.out).2.2 x11_1 p235 q235
       obtain rfl : ad232 = ad235 := (by injection e235)
       replace p235 := eq_true p235
       replace q235 := eq_true q235
       have p236 : 0 ≤ (t230 : Int) := of_decide_eq_true (by first | (with_reducible assumption) | assumption)
       have q236 : t230 < (t225.length : Int) := of_decide_eq_true (by first | (with_reducible assumption) | assumption)
       obtain ⟨ad236, e236, hx236_0, hx236_1, hx236_2, hx236_3⟩ := at_T68 (Kd.R_reads' HO_5.out).2.2 t230 p236 q236
       obtain rfl : ad232 = ad236 := (by injection e236)
       replace p236 := eq_true p236
       replace q236 := eq_true q236
       go_wp2
       repeat (go_quiet (fail); try go_wp2)
       go_ret
       exact ⟨by first | rfl | (simp [errW_none, errW_some, i64_w]; done) | (simp [errW_none, errW_some] <;> rfl) | (simp [*, errW_none, errW_some] <;> rfl), by repeat (first | (with_reducible first | exact HB.out | apply below_alloc | apply pw_below_drewN | apply below_drew1) | exact HB.out)⟩
      rw [if_neg c23] at H
      have c23b0 : decide (x11_1 < t230) = false := decide_eq_false c23
      clear c23
      have H' := aS H
      clear H
      have p232 : 0 ≤ (x11_1 : Int) := of_decide_eq_true (by first | (with_reducible assumption) | assumption)
      have q232 : x11_1 < (t225.length : Int) := of_decide_eq_true (by first | (with_reducible assumption) | assumption)
      obtain ⟨ad232, e232, hx232_0, hx232_1, hx232_2, hx232_3⟩ := at_T68 (Kd.R_reads' HO_5.out).2.2 x11_1 p232 q232
      cases e232
      replace p232 := eq_true p232
      replace q232 := eq_true q232
      have p233 : 0 ≤ (x11_1 : Int) := of_decide_eq_true (by first | (with_reducible assumption) | assumption)
      have q233 : x11_1 < (t225.length : Int) := of_decide_eq_true (by first | (with_reducible assumption) | assumption)
      obtain ⟨ad233, e233, hx233_0, hx233_1, hx233_2, hx233_3⟩ := at_T68 (Kd.R_reads' HO_5.out).2.2 x11_1 p233 q233
      obtain rfl : ad232 = ad233 := (by injection e233)
      replace p233 := eq_true p233
      replace q233 := eq_true q233
      have p234 : 0 ≤ (t230 : Int) := of_decide_eq_true (by first | (with_reducible assumption) | assumption)
      have q234 : t230 < (t225.length : Int) := of_decide_eq_true (by first | (with_reducible assumption) | assumption)
      obtain ⟨ad234, e234, hx234_0, hx234_1, hx234_2, hx234_3⟩ := at_T68 (Kd.R_reads' HO_5.out).2.2 t230 p234 q234
      obtain rfl : ad232 = ad234 := (by injection e234)
      replace p234 := eq_true p234
      replace q234 := eq_true q234
      have p235 : 0 ≤ (x11_1 : Int) := of_decide_eq_true (by first | (with_reducible assumption) | assumption)
      have q235 : x11_1 < (t225.length : Int) := of_decide_eq_true (by first | (with_reducible assumption) | assumption)
      obtain ⟨ad235, e235, hx235_0, hx235_1, hx235_2, hx235_3⟩ := at_T68 (Kd.R_reads' HO_5.out).2.2 x11_1 p235 q235
      obtain rfl : ad232 = ad235 := (by injection e235)
      replace p235 := eq_true p235
      replace q235 := eq_true q235
      have p236 : 0 ≤ (t230 : Int) := of_decide_eq_true (by first | (with_reducible assumption) | assumption)
      have q236 : t230 < (t225.length : Int) := of_decide_eq_true (by first | (with_reducible assumption) | assumption)
      obtain ⟨ad236, e236, hx236_0, hx236_1, hx236_2, hx236_3⟩ := at_T68 (Kd.R_reads' HO_5.out).2.2 t230 p236 q236
      obtain rfl : ad232 = ad236 := (by injection e236)
      replace p236 := eq_true p236
      replace q236 := eq_true q236
      go_wp2
      repeat (go_quiet (fail); try go_wp2)
      go_roundg k1
      case measure => have := HK1.out; omega
      case rel => exact ⟨(false), (wrap64 (x11_1 + 1)), (by first | rfl | (simp; done) | (simp [*]; done) | (simp only [i64_w]; done) | (simp [i64_w]; done)), (by first | rfl | (simp; done) | (simp [*]; done) | (simp only [i64_w]; done) | (simp [i64_w]; done)), H', ⟨by have := HK1.out; omega⟩, ⟨by (with_reducible repeat (first | apply Kd.R_alloc | apply Kd.R_drewN | apply Kd.R_drew)); exact HO_5.out⟩, ⟨by repeat (first | (with_reducible first | exact HB.out | apply below_alloc | apply pw_below_drewN | apply below_drew1) | exact HB.out)⟩⟩
     ·
      rw [if_neg c13] at H
      have c13b0 : decide (x11_1 < (t225.length : Int)) = false := decide_eq_false c13
      clear c13
      (first | rw [c13b0] | (simp only [i64_w, i32_w]; rw [c13b0]) | (rw [c13b2]; simp only [Bool.not_false, Bool.not_true]) | skip)
      have HC24 := aS H
      clear H
      go_upto_region 15 with (fail)
      repeat (go_quiet (fail); go_upto_region 15 with (fail))
      go_cut [121] (fun v121 wc => ∃ (kq : Nat) (x121_23 : Bool), v121 = .bool x121_23 ∧ Aside0 (laws_FnRopeLists.j1 kq t225 x121_23 = some r) ∧ Aside0 (kq ≤ k1) ∧ Aside0 (Kd.R k68 68 wc w.heap.size (fun _ => True) (.slice Ao11 t225.length co11) t225) ∧ Aside0 (Below w.heap.size w wc))
      case first =>
       as_aux_lemma =>
        have H := HC24.out
        clear HC24
        by_cases c25 : (x10_1 != (t231 == 3)) = true
        ·
         rw [if_pos c25] at H
         have c25b0 : (x10_1 != (t231 == 3)) = true := c25
         (try (have c25b1 : decide (x10_1 = (t231 == 3)) = false := by simpa using c25))
         (try (have c25b2 : (x10_1 == (t231 == 3)) = false := by simpa using c25))
         (try (have c25b3 : ¬ (x10_1 = (t231 == 3)) := by simpa using c25))
         clear c25
         (first | rw [c25b0] | (simp only [i64_w, i32_w]; rw [c25b0]) | (rw [c25b2]; simp only [Bool.not_false, Bool.not_true]) | skip)
         have H' := aS H
         clear H
         go_wp2
         repeat (go_quiet (fail); try go_wp2)
         go_meet
         case rel => exact ⟨_, (true), (by first | rfl | (simp; done) | (simp [*]; done) | (simp only [i64_w]; done) | (simp [i64_w]; done)), H', ⟨by have := HK1.out; first | omega | exact Nat.le_refl _⟩, ⟨by (with_reducible repeat (first | apply Kd.R_alloc | apply Kd.R_drewN | apply Kd.R_drew)); exact HO_5.out⟩, ⟨by repeat (first | (with_reducible first | exact HB.out | apply below_alloc | apply pw_below_drewN | apply below_drew1) | exact HB.out)⟩⟩
        rw [if_neg c25] at H
        have c25b0 : (x10_1 != (t231 == 3)) = false := by simpa using c25
        (try (have c25b1 : decide (x10_1 = (t231 == 3)) = true := by simpa using c25))
        (try (have c25b2 : (x10_1 == (t231 == 3)) = true := by simpa using c25))
        clear c25
        (first | rw [c25b0] | (simp only [i64_w, i32_w]; rw [c25b0]) | (rw [c25b2]; simp only [Bool.not_false, Bool.not_true]) | skip)
        by_cases c26 : x10_1 = true
        ·
         subst c26
         have H1 : (laws_FnRopeLists.j1 k1 t225 false) = some r := by rw [if_pos rfl] at H; exact H
         clear H
         have H := H1
         clear H1
         have H' := aS H
         clear H
         go_wp2
         repeat (go_quiet (fail); try go_wp2)
         go_meet
         case rel => exact ⟨_, (false), (by first | rfl | (simp; done) | (simp [*]; done) | (simp only [i64_w]; done) | (simp [i64_w]; done)), H', ⟨by have := HK1.out; first | omega | exact Nat.le_refl _⟩, ⟨by (with_reducible repeat (first | apply Kd.R_alloc | apply Kd.R_drewN | apply Kd.R_drew)); exact HO_5.out⟩, ⟨by repeat (first | (with_reducible first | exact HB.out | apply below_alloc | apply pw_below_drewN | apply below_drew1) | exact HB.out)⟩⟩
        replace c26 := Bool.eq_false_iff.mpr c26
        subst c26
        have H1 : (if 0 ≤ t230 then (if t230 < (t225.length : Int) then (laws_FnRopeLists.j1 k1 t225 (decide (((rd_T68 t225 t230).f2) < (wrap64 ((wrap64 (100 * (wrap64 (1 + t228)))) * (wrap64 (1 + t229))))))) else (none)) else (none)) = some r := by rw [if_neg (show ¬ (false = true) by decide)] at H; exact H
        clear H
        have H := H1
        clear H1
        by_cases c27 : 0 ≤ t230
        rotate_left
        ·
         rw [if_neg c27] at H
         exact absurd H (by simp)
        rw [if_pos c27] at H
        have c27b0 : decide (0 ≤ t230) = true := decide_eq_true c27
        clear c27
        by_cases c28 : t230 < (t225.length : Int)
        rotate_left
        ·
         rw [if_neg c28] at H
         exact absurd H (by simp)
        rw [if_pos c28] at H
        have c28b0 : decide (t230 < (t225.length : Int)) = true := decide_eq_true c28
        clear c28
        have H' := aS H
        clear H
        have p237 : 0 ≤ (t230 : Int) := of_decide_eq_true (by first | (with_reducible assumption) | assumption)
        have q237 : t230 < (t225.length : Int) := of_decide_eq_true (by first | (with_reducible assumption) | assumption)
        obtain ⟨ad237, e237, hx237_0, hx237_1, hx237_2, hx237_3⟩ := at_T68 (Kd.R_reads' HO_5.out).2.2 t230 p237 q237
        cases e237
        replace p237 := eq_true p237
        replace q237 := eq_true q237
        go_wp2
        repeat (go_quiet (fail); try go_wp2)
        go_meet
        case rel => exact ⟨_, (decide (((rd_T68 t225 t230).f2) < (wrap64 ((wrap64 (100 * (wrap64 (1 + t228)))) * (wrap64 (1 + t229)))))), (by first | rfl | (simp; done) | (simp [*]; done) | (simp only [i64_w]; done) | (simp [i64_w]; done)), H', ⟨by have := HK1.out; first | omega | exact Nat.le_refl _⟩, ⟨by (with_reducible repeat (first | apply Kd.R_alloc | apply Kd.R_drewN | apply Kd.R_drew)); exact HO_5.out⟩, ⟨by repeat (first | (with_reducible first | exact HB.out | apply below_alloc | apply pw_below_drewN | apply below_drew1) | exact HB.out)⟩⟩
      case rest =>
       as_aux_lemma =>
        clear HC24
        (try clear c1); (try clear c2); (try clear p2); (try clear q2); (try clear hx2); (try clear c5); (try clear p6); (try clear c13); (try clear c13b0); (try clear c13b2); (try clear c14); (try clear c14b0); (try clear c15); (try clear c15b0); (try clear c16); (try clear c16b0); (try clear c16b1); (try clear c17); (try clear c17b0); (try clear c18); (try clear c18b0); (try clear c19); (try clear c19b0); (try clear c20); (try clear c20b0); (try clear c21); (try clear c21b0); (try clear c22); (try clear c22b0); (try clear c22b1); (try clear c23); (try clear c23b0); (try clear p23); (try clear q23); (try clear hx23); (try clear c25); (try clear c25b0); (try clear c25b1); (try clear c25b2); (try clear c26); (try clear c27); (try clear c27b0); (try clear c28); (try clear c28b0); (try clear hx232_0); (try clear hx232_1); (try clear hx232_2); (try clear hx232_3); (try clear hx233_0); (try clear hx233_1); (try clear hx233_2); (try clear hx233_3); (try clear hx234_0); (try clear hx234_1); (try clear hx234_2); (try clear hx234_3); (try clear hx235_0); (try clear hx235_1); (try clear hx235_2); (try clear hx235_3); (try clear hx236_0); (try clear hx236_1); (try clear hx236_2); (try clear hx236_3); (try clear hx237_0); (try clear hx237_1); (try clear hx237_2); (try clear hx237_3); (try clear p2); (try clear p232); (try clear p233); (try clear p234); (try clear p235); (try clear p236); (try clear p237); (try clear p6); (try clear q232); (try clear q233); (try clear q234); (try clear q235); (try clear q236); (try clear q237)
        obtain ⟨kq, x121_23, rfl, HA, HJ23, HO_5, HB⟩ := hcut
        cases kq with
        | zero => exact absurd HA.out (by simp [laws_FnRopeLists.j1])
        | succ kj23 =>
         have H := HA.out
         clear HA
         simp only [laws_FnRopeLists.j1] at H
         by_cases c29 : x121_23 = true
         ·
          subst c29
          have H1 : (some false) = some r := by rw [if_pos rfl] at H; exact H
          clear H
          have H := H1
          clear H1
          obtain rfl := Option.some.inj H
          go_wp2
          repeat (go_quiet (fail); try go_wp2)
          go_ret
          exact ⟨by first | rfl | (simp [errW_none, errW_some, i64_w]; done) | (simp [errW_none, errW_some] <;> rfl) | (simp [*, errW_none, errW_some] <;> rfl), by repeat (first | (with_reducible first | exact HB.out | apply below_alloc | apply pw_below_drewN | apply below_drew1) | exact HB.out)⟩
         ·
          replace c29 := Bool.eq_false_iff.mpr c29
          subst c29
          have H1 : ((impl_BeatenRopes.f kj23 t225).bind fun bt238 => (if bt238.2 = 0 then ((laws_a2Rises.f kj23 bt238.1 (t225.length : Int)).bind fun t242 => (if t242 = true then (if (t225.length : Int) > 0 then (laws_FnRopeLists.j2 kj23 t225 bt238.1 ((bt238.1.length : Int) == (t225.length : Int))) else (laws_FnRopeLists.j2 kj23 t225 bt238.1 false)) else (laws_FnRopeLists.j2 kj23 t225 bt238.1 true))) else (laws_FnRopeLists.j2 kj23 t225 bt238.1 true))) = some r := by rw [if_neg (show ¬ (false = true) by decide)] at H; exact H
          clear H
          have H := H1
          clear H1
          replace H := Option.bind_eq_some_iff.mp H
          obtain ⟨⟨t238, t239⟩, A300, H⟩ := H
          replace H : (if t239 = 0 then ((laws_a2Rises.f kj23 t238 (t225.length : Int)).bind fun t242 => (if t242 = true then (if (t225.length : Int) > 0 then (laws_FnRopeLists.j2 kj23 t225 t238 ((t238.length : Int) == (t225.length : Int))) else (laws_FnRopeLists.j2 kj23 t225 t238 false)) else (laws_FnRopeLists.j2 kj23 t225 t238 true))) else (laws_FnRopeLists.j2 kj23 t225 t238 true)) = some r := H
          have A30 := aS A300
          clear A300
          have HC31 := aS H
          clear H
          go_upto_region 18 with (first | (go_at_call 35; (with_reducible refine (impl_BeatenRopes.calls kj23 _ _ t225 t238 t239 _ ?side1 ?side2 A30.out).mono ?_); (case side1 => exact sC (Kd.R_reads' HO_5.out).2.2); (case side2 => exact (Kd.R_reads' HO_5.out).2.1); rintro e w32 ⟨v240, rfl, ho0, hb⟩; have n0_ := aS (Kd.R_below (sR HO_5.out) hb); have n1_ := aS (Kd.R_lower ho0 (below_size (sW HB.out))); have n2_ := aS (below_step (sW HB.out) hb); clear HO_5 HB; have HO_5 := n0_; have HO241 := n1_; have HB := n2_; clear n0_ n1_ n2_; (try clear hb); (try clear hb2); (try clear hk); (try clear hi); (try clear ho0)))
          repeat (go_quiet (first | (go_at_call 35; (with_reducible refine (impl_BeatenRopes.calls kj23 _ _ t225 t238 t239 _ ?side1 ?side2 A30.out).mono ?_); (case side1 => exact sC (Kd.R_reads' HO_5.out).2.2); (case side2 => exact (Kd.R_reads' HO_5.out).2.1); rintro e w32 ⟨v240, rfl, ho0, hb⟩; have n0_ := aS (Kd.R_below (sR HO_5.out) hb); have n1_ := aS (Kd.R_lower ho0 (below_size (sW HB.out))); have n2_ := aS (below_step (sW HB.out) hb); clear HO_5 HB; have HO_5 := n0_; have HO241 := n1_; have HB := n2_; clear n0_ n1_ n2_; (try clear hb); (try clear hb2); (try clear hk); (try clear hi); (try clear ho0))); go_upto_region 18 with (first | (go_at_call 35; (with_reducible refine (impl_BeatenRopes.calls kj23 _ _ t225 t238 t239 _ ?side1 ?side2 A30.out).mono ?_); (case side1 => exact sC (Kd.R_reads' HO_5.out).2.2); (case side2 => exact (Kd.R_reads' HO_5.out).2.1); rintro e w32 ⟨v240, rfl, ho0, hb⟩; have n0_ := aS (Kd.R_below (sR HO_5.out) hb); have n1_ := aS (Kd.R_lower ho0 (below_size (sW HB.out))); have n2_ := aS (below_step (sW HB.out) hb); clear HO_5 HB; have HO_5 := n0_; have HO241 := n1_; have HB := n2_; clear n0_ n1_ n2_; (try clear hb); (try clear hb2); (try clear hk); (try clear hi); (try clear ho0))))
          (try simp only [Act.put, List.setIfInBounds_toArray, List.set_cons_zero, List.set_cons_succ])
          go_cut [147] (fun v147 wc => ∃ (kq : Nat) (x147_30 : Bool), v147 = .bool x147_30 ∧ Aside0 (laws_FnRopeLists.j2 kq t225 t238 x147_30 = some r) ∧ Aside0 (kq ≤ kj23) ∧ Aside0 (Kd.R k68 68 wc w.heap.size (fun _ => True) (.slice Ao11 t225.length co11) t225) ∧ Aside0 (Kd.R (Kd.int .i64) 2 wc w.heap.size (fun _ => True) v240 t238) ∧ Aside0 (Below w.heap.size w wc))
          case first =>
           as_aux_lemma =>
            have H := HC31.out
            clear HC31
            by_cases c33 : t239 = 0
            rotate_left
            ·
             rw [if_neg c33] at H
             have c33b0 : (t239 == 0) = false := beq_eq_false_iff_ne.mpr c33
             have c33b1 : (t239 != 0) = true := bne_iff_ne.mpr c33
             (first | rw [c33b0] | (simp only [i64_w, i32_w]; rw [c33b0]) | (rw [c33b2]; simp only [Bool.not_false, Bool.not_true]) | skip)
             have H' := aS H
             clear H
             go_wp2
             repeat (go_quiet (fail); try go_wp2)
             go_meet
             case rel => exact ⟨_, (true), (by first | rfl | (simp; done) | (simp [*]; done) | (simp only [i64_w]; done) | (simp [i64_w]; done)), H', ⟨by have := HK1.out; have := HJ23.out; first | omega | exact Nat.le_refl _⟩, ⟨by (with_reducible repeat (first | apply Kd.R_alloc | apply Kd.R_drewN | apply Kd.R_drew)); exact HO_5.out⟩, ⟨by (with_reducible repeat (first | apply Kd.R_alloc | apply Kd.R_drewN | apply Kd.R_drew)); exact HO241.out⟩, ⟨by repeat (first | (with_reducible first | exact HB.out | apply below_alloc | apply pw_below_drewN | apply below_drew1) | exact HB.out)⟩⟩
            rw [if_pos c33] at H
            have c33b0 : (t239 == 0) = true := beq_iff_eq.mpr c33
            have c33b1 : (t239 != 0) = false := bne_eq_false_iff_eq.mpr c33
            clear c33
            (first | rw [c33b0] | (simp only [i64_w, i32_w]; rw [c33b0]) | (rw [c33b2]; simp only [Bool.not_false, Bool.not_true]) | skip)
            replace H := Option.bind_eq_some_iff.mp H
            obtain ⟨t242, A340, H⟩ := H
            replace H : (if t242 = true then (if (t225.length : Int) > 0 then (laws_FnRopeLists.j2 kj23 t225 t238 ((t238.length : Int) == (t225.length : Int))) else (laws_FnRopeLists.j2 kj23 t225 t238 false)) else (laws_FnRopeLists.j2 kj23 t225 t238 true)) = some r := H
            have A34 := aS A340
            clear A340
            by_cases c35 : t242 = true
            rotate_left
            ·
             replace c35 := Bool.eq_false_iff.mpr c35
             subst c35
             have H1 : (laws_FnRopeLists.j2 kj23 t225 t238 true) = some r := by rw [if_neg (show ¬ (false = true) by decide)] at H; exact H
             clear H
             have H := H1
             clear H1
             have H' := aS H
             clear H
             obtain ⟨Ao39, co39, eo39⟩ := Kd.R_slice HO241.out
             subst eo39
             go_wp2_with (first | (go_at_call 36; (with_reducible refine (laws_a2Rises.calls kj23 _ _ t238 (t225.length : Int) false _ ?side1 ?side2 A34.out).mono ?_); (case side1 => exact sC (Kd.R_reads' HO241.out).2.2); (case side2 => exact (Kd.R_reads' HO241.out).2.1); rintro e w' ⟨rfl, ⟨nd, rfl⟩⟩; (try first | exact ⟨rfl, _, World.drewN_drewN _ _ _⟩ | exact ⟨rfl, _, Eq.trans (World.drewN_drewN _ _ _) (congrArg (World.drewN _) (Nat.add_assoc _ _ _))⟩)))
             repeat (go_quiet (first | (go_at_call 36; (with_reducible refine (laws_a2Rises.calls kj23 _ _ t238 (t225.length : Int) false _ ?side1 ?side2 A34.out).mono ?_); (case side1 => exact sC (Kd.R_reads' HO241.out).2.2); (case side2 => exact (Kd.R_reads' HO241.out).2.1); rintro e w' ⟨rfl, ⟨nd, rfl⟩⟩; (try first | exact ⟨rfl, _, World.drewN_drewN _ _ _⟩ | exact ⟨rfl, _, Eq.trans (World.drewN_drewN _ _ _) (congrArg (World.drewN _) (Nat.add_assoc _ _ _))⟩))); try go_wp2_with (first | (go_at_call 36; (with_reducible refine (laws_a2Rises.calls kj23 _ _ t238 (t225.length : Int) false _ ?side1 ?side2 A34.out).mono ?_); (case side1 => exact sC (Kd.R_reads' HO241.out).2.2); (case side2 => exact (Kd.R_reads' HO241.out).2.1); rintro e w' ⟨rfl, ⟨nd, rfl⟩⟩; (try first | exact ⟨rfl, _, World.drewN_drewN _ _ _⟩ | exact ⟨rfl, _, Eq.trans (World.drewN_drewN _ _ _) (congrArg (World.drewN _) (Nat.add_assoc _ _ _))⟩))))
             go_meet
             case rel => exact ⟨_, (true), (by first | rfl | (simp; done) | (simp [*]; done) | (simp only [i64_w]; done) | (simp [i64_w]; done)), H', ⟨by have := HK1.out; have := HJ23.out; first | omega | exact Nat.le_refl _⟩, ⟨by (with_reducible repeat (first | apply Kd.R_alloc | apply Kd.R_drewN | apply Kd.R_drew)); exact HO_5.out⟩, ⟨by (with_reducible repeat (first | apply Kd.R_alloc | apply Kd.R_drewN | apply Kd.R_drew)); exact HO241.out⟩, ⟨by repeat (first | (with_reducible first | exact HB.out | apply below_alloc | apply pw_below_drewN | apply below_drew1) | exact HB.out)⟩⟩
            subst c35
            have H1 : (if (t225.length : Int) > 0 then (laws_FnRopeLists.j2 kj23 t225 t238 ((t238.length : Int) == (t225.length : Int))) else (laws_FnRopeLists.j2 kj23 t225 t238 false)) = some r := by rw [if_pos rfl] at H; exact H
            clear H
            have H := H1
            clear H1
            by_cases c36 : (t225.length : Int) > 0
            rotate_left
            ·
             rw [if_neg c36] at H
             have c36b0 : decide (0 < (t225.length : Int)) = false := decide_eq_false c36
             have c36b1 : decide (0 < t225.length) = false := decide_eq_false (by omega)
             clear c36
             have H' := aS H
             clear H
             obtain ⟨Ao38, co38, eo38⟩ := Kd.R_slice HO241.out
             subst eo38
             go_wp2_with (first | (go_at_call 36; (with_reducible refine (laws_a2Rises.calls kj23 _ _ t238 (t225.length : Int) true _ ?side1 ?side2 A34.out).mono ?_); (case side1 => exact sC (Kd.R_reads' HO241.out).2.2); (case side2 => exact (Kd.R_reads' HO241.out).2.1); rintro e w' ⟨rfl, ⟨nd, rfl⟩⟩; (try first | exact ⟨rfl, _, World.drewN_drewN _ _ _⟩ | exact ⟨rfl, _, Eq.trans (World.drewN_drewN _ _ _) (congrArg (World.drewN _) (Nat.add_assoc _ _ _))⟩)))
             repeat (go_quiet (first | (go_at_call 36; (with_reducible refine (laws_a2Rises.calls kj23 _ _ t238 (t225.length : Int) true _ ?side1 ?side2 A34.out).mono ?_); (case side1 => exact sC (Kd.R_reads' HO241.out).2.2); (case side2 => exact (Kd.R_reads' HO241.out).2.1); rintro e w' ⟨rfl, ⟨nd, rfl⟩⟩; (try first | exact ⟨rfl, _, World.drewN_drewN _ _ _⟩ | exact ⟨rfl, _, Eq.trans (World.drewN_drewN _ _ _) (congrArg (World.drewN _) (Nat.add_assoc _ _ _))⟩))); try go_wp2_with (first | (go_at_call 36; (with_reducible refine (laws_a2Rises.calls kj23 _ _ t238 (t225.length : Int) true _ ?side1 ?side2 A34.out).mono ?_); (case side1 => exact sC (Kd.R_reads' HO241.out).2.2); (case side2 => exact (Kd.R_reads' HO241.out).2.1); rintro e w' ⟨rfl, ⟨nd, rfl⟩⟩; (try first | exact ⟨rfl, _, World.drewN_drewN _ _ _⟩ | exact ⟨rfl, _, Eq.trans (World.drewN_drewN _ _ _) (congrArg (World.drewN _) (Nat.add_assoc _ _ _))⟩))))
             go_meet
             case rel => exact ⟨_, (false), (by first | rfl | (simp; done) | (simp [*]; done) | (simp only [i64_w]; done) | (simp [i64_w]; done)), H', ⟨by have := HK1.out; have := HJ23.out; first | omega | exact Nat.le_refl _⟩, ⟨by (with_reducible repeat (first | apply Kd.R_alloc | apply Kd.R_drewN | apply Kd.R_drew)); exact HO_5.out⟩, ⟨by (with_reducible repeat (first | apply Kd.R_alloc | apply Kd.R_drewN | apply Kd.R_drew)); exact HO241.out⟩, ⟨by repeat (first | (with_reducible first | exact HB.out | apply below_alloc | apply pw_below_drewN | apply below_drew1) | exact HB.out)⟩⟩
            rw [if_pos c36] at H
            have c36b0 : decide (0 < (t225.length : Int)) = true := decide_eq_true c36
            have c36b1 : decide (0 < t225.length) = true := decide_eq_true (by omega)
            clear c36
            have H' := aS H
            clear H
            obtain ⟨Ao37, co37, eo37⟩ := Kd.R_slice HO241.out
            subst eo37
            go_wp2_with (first | (go_at_call 36; (with_reducible refine (laws_a2Rises.calls kj23 _ _ t238 (t225.length : Int) true _ ?side1 ?side2 A34.out).mono ?_); (case side1 => exact sC (Kd.R_reads' HO241.out).2.2); (case side2 => exact (Kd.R_reads' HO241.out).2.1); rintro e w' ⟨rfl, ⟨nd, rfl⟩⟩; (try first | exact ⟨rfl, _, World.drewN_drewN _ _ _⟩ | exact ⟨rfl, _, Eq.trans (World.drewN_drewN _ _ _) (congrArg (World.drewN _) (Nat.add_assoc _ _ _))⟩)))
            repeat (go_quiet (first | (go_at_call 36; (with_reducible refine (laws_a2Rises.calls kj23 _ _ t238 (t225.length : Int) true _ ?side1 ?side2 A34.out).mono ?_); (case side1 => exact sC (Kd.R_reads' HO241.out).2.2); (case side2 => exact (Kd.R_reads' HO241.out).2.1); rintro e w' ⟨rfl, ⟨nd, rfl⟩⟩; (try first | exact ⟨rfl, _, World.drewN_drewN _ _ _⟩ | exact ⟨rfl, _, Eq.trans (World.drewN_drewN _ _ _) (congrArg (World.drewN _) (Nat.add_assoc _ _ _))⟩))); try go_wp2_with (first | (go_at_call 36; (with_reducible refine (laws_a2Rises.calls kj23 _ _ t238 (t225.length : Int) true _ ?side1 ?side2 A34.out).mono ?_); (case side1 => exact sC (Kd.R_reads' HO241.out).2.2); (case side2 => exact (Kd.R_reads' HO241.out).2.1); rintro e w' ⟨rfl, ⟨nd, rfl⟩⟩; (try first | exact ⟨rfl, _, World.drewN_drewN _ _ _⟩ | exact ⟨rfl, _, Eq.trans (World.drewN_drewN _ _ _) (congrArg (World.drewN _) (Nat.add_assoc _ _ _))⟩))))
            go_meet
            case rel => exact ⟨_, (((t238.length : Int) == (t225.length : Int))), (by first | rfl | (simp; done) | (simp [*]; done) | (simp only [i64_w]; done) | (simp [i64_w]; done)), H', ⟨by have := HK1.out; have := HJ23.out; first | omega | exact Nat.le_refl _⟩, ⟨by (with_reducible repeat (first | apply Kd.R_alloc | apply Kd.R_drewN | apply Kd.R_drew)); exact HO_5.out⟩, ⟨by (with_reducible repeat (first | apply Kd.R_alloc | apply Kd.R_drewN | apply Kd.R_drew)); exact HO241.out⟩, ⟨by repeat (first | (with_reducible first | exact HB.out | apply below_alloc | apply pw_below_drewN | apply below_drew1) | exact HB.out)⟩⟩
          case rest =>
           as_aux_lemma =>
            clear HC31
            (try clear c1); (try clear c2); (try clear p2); (try clear q2); (try clear hx2); (try clear c3); (try clear c5); (try clear p6); (try clear c13); (try clear c13b0); (try clear c13b2); (try clear c14); (try clear c14b0); (try clear c15); (try clear c15b0); (try clear c16); (try clear c16b0); (try clear c16b1); (try clear c17); (try clear c17b0); (try clear c18); (try clear c18b0); (try clear c19); (try clear c19b0); (try clear c20); (try clear c20b0); (try clear c21); (try clear c21b0); (try clear c22); (try clear c22b0); (try clear c22b1); (try clear c23); (try clear c23b0); (try clear p23); (try clear q23); (try clear hx23); (try clear c25); (try clear c25b0); (try clear c25b1); (try clear c25b2); (try clear c26); (try clear c27); (try clear c27b0); (try clear c28); (try clear c28b0); (try clear c29); (try clear c33); (try clear c33b0); (try clear c33b1); (try clear c33b2); (try clear c35); (try clear c36); (try clear c36b0); (try clear c36b1); (try clear hx232_0); (try clear hx232_1); (try clear hx232_2); (try clear hx232_3); (try clear hx233_0); (try clear hx233_1); (try clear hx233_2); (try clear hx233_3); (try clear hx234_0); (try clear hx234_1); (try clear hx234_2); (try clear hx234_3); (try clear hx235_0); (try clear hx235_1); (try clear hx235_2); (try clear hx235_3); (try clear hx236_0); (try clear hx236_1); (try clear hx236_2); (try clear hx236_3); (try clear hx237_0); (try clear hx237_1); (try clear hx237_2); (try clear hx237_3); (try clear p2); (try clear p23); (try clear p232); (try clear p233); (try clear p234); (try clear p235); (try clear p236); (try clear p237); (try clear p6); (try clear q2); (try clear q23); (try clear q232); (try clear q233); (try clear q234); (try clear q235); (try clear q236); (try clear q237)
            obtain ⟨kq, x147_30, rfl, HA, HJ30, HO_5, HO_12, HB⟩ := hcut
            cases kq with
            | zero => exact absurd HA.out (by simp [laws_FnRopeLists.j2])
            | succ kj30 =>
             have H := HA.out
             clear HA
             simp only [laws_FnRopeLists.j2] at H
             by_cases c40 : x147_30 = true
             ·
              subst c40
              have H1 : (some false) = some r := by rw [if_pos rfl] at H; exact H
              clear H
              have H := H1
              clear H1
              obtain rfl := Option.some.inj H
              go_wp2
              repeat (go_quiet (fail); try go_wp2)
              go_ret
              exact ⟨by first | rfl | (simp [errW_none, errW_some, i64_w]; done) | (simp [errW_none, errW_some] <;> rfl) | (simp [*, errW_none, errW_some] <;> rfl), by repeat (first | (with_reducible first | exact HB.out | apply below_alloc | apply pw_below_drewN | apply below_drew1) | exact HB.out)⟩
             ·
              replace c40 := Bool.eq_false_iff.mpr c40
              subst c40
              have H1 : (laws_FnRopeLists.l1 kj30 t225 t238 (([] : List (S68))) 0) = some r := by rw [if_neg (show ¬ (false = true) by decide)] at H; exact H
              clear H
              have H := H1
              clear H1
              obtain ⟨y243, hy243⟩ : ∃ y_ : List (S68), y_ = (([] : List (S68))) := ⟨_, rfl⟩
              replace H : (laws_FnRopeLists.l1 kj30 t225 t238 y243 0) = some r := by first | (rw [hy243]; with_reducible exact H) | (have H2_ := (Option.bind_some _ _).symm.trans H; rw [hy243]; with_reducible exact H2_) | (have H2_ := (Option.bind_some _ _).symm.trans H; with_reducible exact H2_) | with_reducible exact H | (rw [hy243]; exact H) | exact H
              have Ny243 := aS hy243
              clear hy243
              have H' := aS H
              clear H
              go_wp2_with (first | ((with_reducible refine gate_dst (N := 148) rfl ?_); (try (refine gate_guard (by rfl) ?_; dsimp only)); refine Kd.R_lit k68 _ 68 ?hg (N := 148) ?hd (xs := ([] : List (S68))) (inner := []) (ok := fun _ => True) (okp := fun _ => True) ?hr ?hp (fun _ hk => hk) trivial (Below.refl _ _) (Nat.le_refl _) (by simp) ?_; (case hd => rfl); (case hg => rfl); (case hr => first | (go_simp; done) | (go_simp; rfl)); (case hp => exact (Reps.none _ _)); intro v244 w41 ho42 hb hg_ hnew_; clear hg_ hnew_; (first | rw [← Ny243.out] at ho42 | (simp only [Int.reduceToNat] at ho42; rw [← Ny243.out] at ho42)); have n0_ := aS (Kd.R_elder' (sR HO_5.out) (Kd.R_base ho42) hb); have n1_ := aS (Kd.R_below (sR HO_12.out) hb); have n2_ := aS (Kd.R_lower (Kd.R_new' ho42 (Kd.R_lt (sR HO_5.out))) (below_size (sW HB.out))); have n3_ := aS (below_step (sW HB.out) hb); clear HO_5 HO_12 HB; have HO_5 := n0_; have HO_12 := n1_; have HO245 := n2_; have HB := n3_; clear n0_ n1_ n2_ n3_; clear hb ho42))
              repeat (go_quiet (first | ((with_reducible refine gate_dst (N := 148) rfl ?_); (try (refine gate_guard (by rfl) ?_; dsimp only)); refine Kd.R_lit k68 _ 68 ?hg (N := 148) ?hd (xs := ([] : List (S68))) (inner := []) (ok := fun _ => True) (okp := fun _ => True) ?hr ?hp (fun _ hk => hk) trivial (Below.refl _ _) (Nat.le_refl _) (by simp) ?_; (case hd => rfl); (case hg => rfl); (case hr => first | (go_simp; done) | (go_simp; rfl)); (case hp => exact (Reps.none _ _)); intro v244 w41 ho42 hb hg_ hnew_; clear hg_ hnew_; (first | rw [← Ny243.out] at ho42 | (simp only [Int.reduceToNat] at ho42; rw [← Ny243.out] at ho42)); have n0_ := aS (Kd.R_elder' (sR HO_5.out) (Kd.R_base ho42) hb); have n1_ := aS (Kd.R_below (sR HO_12.out) hb); have n2_ := aS (Kd.R_lower (Kd.R_new' ho42 (Kd.R_lt (sR HO_5.out))) (below_size (sW HB.out))); have n3_ := aS (below_step (sW HB.out) hb); clear HO_5 HO_12 HB; have HO_5 := n0_; have HO_12 := n1_; have HO245 := n2_; have HB := n3_; clear n0_ n1_ n2_ n3_; clear hb ho42)); try go_wp2_with (first | ((with_reducible refine gate_dst (N := 148) rfl ?_); (try (refine gate_guard (by rfl) ?_; dsimp only)); refine Kd.R_lit k68 _ 68 ?hg (N := 148) ?hd (xs := ([] : List (S68))) (inner := []) (ok := fun _ => True) (okp := fun _ => True) ?hr ?hp (fun _ hk => hk) trivial (Below.refl _ _) (Nat.le_refl _) (by simp) ?_; (case hd => rfl); (case hg => rfl); (case hr => first | (go_simp; done) | (go_simp; rfl)); (case hp => exact (Reps.none _ _)); intro v244 w41 ho42 hb hg_ hnew_; clear hg_ hnew_; (first | rw [← Ny243.out] at ho42 | (simp only [Int.reduceToNat] at ho42; rw [← Ny243.out] at ho42)); have n0_ := aS (Kd.R_elder' (sR HO_5.out) (Kd.R_base ho42) hb); have n1_ := aS (Kd.R_below (sR HO_12.out) hb); have n2_ := aS (Kd.R_lower (Kd.R_new' ho42 (Kd.R_lt (sR HO_5.out))) (below_size (sW HB.out))); have n3_ := aS (below_step (sW HB.out) hb); clear HO_5 HO_12 HB; have HO_5 := n0_; have HO_12 := n1_; have HO245 := n2_; have HB := n3_; clear n0_ n1_ n2_ n3_; clear hb ho42)))
              go_loopg [14, 15] kj30 (fun kq v14 v15 w' => ∃ (x14_4 : List (S68)) (x15_4 : Int), v15 = .int .i64 x15_4 ∧ Aside0 (laws_FnRopeLists.l1 kq t225 t238 x14_4 x15_4 = some r) ∧ Aside0 (kq ≤ kj30) ∧ Aside0 (Kd.R k68 68 w' w.heap.size (fun k_ => some k_ ≠ (v14 : Value).ownBlock) (.slice Ao11 t225.length co11) t225) ∧ Aside0 (Kd.R (Kd.int .i64) 2 w' w.heap.size (fun _ => True) v240 t238) ∧ Aside0 (Kd.R k68 68 w' w.heap.size (fun k_ => some k_ ≠ ((.slice Ao11 t225.length co11) : Value).ownBlock) v14 x14_4) ∧ Aside0 (Below w.heap.size w w'))
              case atStart => exact ⟨(y243), (0), (by first | rfl | (simp; done) | (simp [*]; done) | (simp only [i64_w]; done) | (simp [i64_w]; done)), H', ⟨Nat.le_refl _⟩, ⟨by (with_reducible repeat (first | apply Kd.R_alloc | apply Kd.R_drewN | apply Kd.R_drew)); exact Kd.R_mono HO_5.out (fun _ hk => hk.2)⟩, ⟨by (with_reducible repeat (first | apply Kd.R_alloc | apply Kd.R_drewN | apply Kd.R_drew)); exact HO_12.out⟩, ⟨by (with_reducible repeat (first | apply Kd.R_alloc | apply Kd.R_drewN | apply Kd.R_drew)); exact Kd.R_mono HO245.out (fun _ hk => hk.2)⟩, ⟨by repeat (first | (with_reducible first | exact HB.out | apply below_alloc | apply pw_below_drewN | apply below_drew1) | exact HB.out)⟩⟩
              case round =>
               as_aux_lemma =>
                clear H'
                (try clear c1); (try clear c2); (try clear p2); (try clear q2); (try clear hx2); (try clear c3); (try clear c4); (try clear c5); (try clear p6); (try clear c13); (try clear c13b0); (try clear c13b2); (try clear c14); (try clear c14b0); (try clear c15); (try clear c15b0); (try clear c16); (try clear c16b0); (try clear c16b1); (try clear c17); (try clear c17b0); (try clear c18); (try clear c18b0); (try clear c19); (try clear c19b0); (try clear c20); (try clear c20b0); (try clear c21); (try clear c21b0); (try clear c22); (try clear c22b0); (try clear c22b1); (try clear c23); (try clear c23b0); (try clear p23); (try clear q23); (try clear hx23); (try clear c25); (try clear c25b0); (try clear c25b1); (try clear c25b2); (try clear c26); (try clear c27); (try clear c27b0); (try clear c28); (try clear c28b0); (try clear c29); (try clear c33); (try clear c33b0); (try clear c33b1); (try clear c33b2); (try clear c35); (try clear c36); (try clear c36b0); (try clear c36b1); (try clear c40); (try clear hx232_0); (try clear hx232_1); (try clear hx232_2); (try clear hx232_3); (try clear hx233_0); (try clear hx233_1); (try clear hx233_2); (try clear hx233_3); (try clear hx234_0); (try clear hx234_1); (try clear hx234_2); (try clear hx234_3); (try clear hx235_0); (try clear hx235_1); (try clear hx235_2); (try clear hx235_3); (try clear hx236_0); (try clear hx236_1); (try clear hx236_2); (try clear hx236_3); (try clear hx237_0); (try clear hx237_1); (try clear hx237_2); (try clear hx237_3); (try clear p2); (try clear p23); (try clear p232); (try clear p233); (try clear p234); (try clear p235); (try clear p236); (try clear p237); (try clear p6); (try clear q2); (try clear q23); (try clear q232); (try clear q233); (try clear q234); (try clear q235); (try clear q236); (try clear q237)
                obtain ⟨x14_4, x15_4, rfl, HA, HK4, HO_5, HO_12, HO_14, HB⟩ := hrel
                cases gk with
                | zero => exact absurd HA.out (by simp [laws_FnRopeLists.l1])
                | succ k4 =>
                 have H := HA.out
                 clear HA
                 simp only [laws_FnRopeLists.l1] at H
                 by_cases c43 : x15_4 < (t225.length : Int)
                 ·
                  rw [if_pos c43] at H
                  have c43b0 : decide (x15_4 < (t225.length : Int)) = true := decide_eq_true c43
                  clear c43
                  by_cases c44 : 0 ≤ x15_4
                  rotate_left
                  ·
                   rw [if_neg c44] at H
                   exact absurd H (by simp)
                  rw [if_pos c44] at H
                  have c44b0 : decide (0 ≤ x15_4) = true := decide_eq_true c44
                  clear c44
                  replace H := Option.bind_eq_some_iff.mp H
                  obtain ⟨⟨t247, t250⟩, A450, H⟩ := H
                  replace H : ((impl_RopeNamed.f k4 t225 ((rd_T68 t225 x15_4).f0)).bind fun bt252 => ((impl_AddRope.f k4 t225 ((rd_T68 t225 x15_4).f0) ((rd_T68 t225 x15_4).f1) ((rd_T68 t225 x15_4).f2) ((rd_T68 t225 x15_4).f3)).bind fun bt255 => (if t250 = 0 then (if (t247.length : Int) = (wrap64 (x15_4 + 1)) then (if x15_4 < (t247.length : Int) then (if (!((((rd_T68 t247 x15_4).f0).toList) == (((rd_T68 t225 x15_4).f0).toList)) || (!(((rd_T68 t247 x15_4).f1) == ((rd_T68 t225 x15_4).f1)) || (!(((rd_T68 t247 x15_4).f2) == ((rd_T68 t225 x15_4).f2)) || (!(((rd_T68 t247 x15_4).f3) == ((rd_T68 t225 x15_4).f3)))))) = true then (laws_FnRopeLists.j4 k4 t225 t238 x15_4 t247 true) else (if bt252.2 = 0 then (if bt252.1 = x15_4 then (laws_FnRopeLists.j4 k4 t225 t238 x15_4 t247 (bt255.2 != 4)) else (laws_FnRopeLists.j4 k4 t225 t238 x15_4 t247 true)) else (laws_FnRopeLists.j4 k4 t225 t238 x15_4 t247 true))) else (none)) else (laws_FnRopeLists.j4 k4 t225 t238 x15_4 t247 true)) else (laws_FnRopeLists.j4 k4 t225 t238 x15_4 t247 true)))) = some r := H
                  have A45 := aS A450
                  clear A450
                  replace H := Option.bind_eq_some_iff.mp H
                  obtain ⟨⟨t252, t253⟩, A460, H⟩ := H
                  replace H : ((impl_AddRope.f k4 t225 ((rd_T68 t225 x15_4).f0) ((rd_T68 t225 x15_4).f1) ((rd_T68 t225 x15_4).f2) ((rd_T68 t225 x15_4).f3)).bind fun bt255 => (if t250 = 0 then (if (t247.length : Int) = (wrap64 (x15_4 + 1)) then (if x15_4 < (t247.length : Int) then (if (!((((rd_T68 t247 x15_4).f0).toList) == (((rd_T68 t225 x15_4).f0).toList)) || (!(((rd_T68 t247 x15_4).f1) == ((rd_T68 t225 x15_4).f1)) || (!(((rd_T68 t247 x15_4).f2) == ((rd_T68 t225 x15_4).f2)) || (!(((rd_T68 t247 x15_4).f3) == ((rd_T68 t225 x15_4).f3)))))) = true then (laws_FnRopeLists.j4 k4 t225 t238 x15_4 t247 true) else (if t253 = 0 then (if t252 = x15_4 then (laws_FnRopeLists.j4 k4 t225 t238 x15_4 t247 (bt255.2 != 4)) else (laws_FnRopeLists.j4 k4 t225 t238 x15_4 t247 true)) else (laws_FnRopeLists.j4 k4 t225 t238 x15_4 t247 true))) else (none)) else (laws_FnRopeLists.j4 k4 t225 t238 x15_4 t247 true)) else (laws_FnRopeLists.j4 k4 t225 t238 x15_4 t247 true))) = some r := H
                  have A46 := aS A460
                  clear A460
                  replace H := Option.bind_eq_some_iff.mp H
                  obtain ⟨⟨t255, t258⟩, A470, H⟩ := H
                  replace H : (if t250 = 0 then (if (t247.length : Int) = (wrap64 (x15_4 + 1)) then (if x15_4 < (t247.length : Int) then (if (!((((rd_T68 t247 x15_4).f0).toList) == (((rd_T68 t225 x15_4).f0).toList)) || (!(((rd_T68 t247 x15_4).f1) == ((rd_T68 t225 x15_4).f1)) || (!(((rd_T68 t247 x15_4).f2) == ((rd_T68 t225 x15_4).f2)) || (!(((rd_T68 t247 x15_4).f3) == ((rd_T68 t225 x15_4).f3)))))) = true then (laws_FnRopeLists.j4 k4 t225 t238 x15_4 t247 true) else (if t253 = 0 then (if t252 = x15_4 then (laws_FnRopeLists.j4 k4 t225 t238 x15_4 t247 (t258 != 4)) else (laws_FnRopeLists.j4 k4 t225 t238 x15_4 t247 true)) else (laws_FnRopeLists.j4 k4 t225 t238 x15_4 t247 true))) else (none)) else (laws_FnRopeLists.j4 k4 t225 t238 x15_4 t247 true)) else (laws_FnRopeLists.j4 k4 t225 t238 x15_4 t247 true)) = some r := H
                  have A47 := aS A470
                  clear A470
                  have HC48 := aS H
                  clear H
                  have p246 : 0 ≤ (x15_4 : Int) := of_decide_eq_true (by first | (with_reducible assumption) | assumption)
                  have q246 : x15_4 < (t225.length : Int) := of_decide_eq_true (by first | (with_reducible assumption) | assumption)
                  obtain ⟨ad246, e246, hx246_0, hx246_1, hx246_2, hx246_3⟩ := at_T68 (Kd.R_reads' HO_5.out).2.2 x15_4 p246 q246
                  cases e246
                  replace p246 := eq_true p246
                  replace q246 := eq_true q246
                  obtain ⟨Ao49, co49, eo49⟩ := Kd.R_slice HO_14.out
                  subst eo49
                  go_upto_region 27 with (first | (go_at_call 37; (with_reducible refine (impl_AddRope.calls k4 _ _ x14_4 ((rd_T68 t225 x15_4).f0) ((rd_T68 t225 x15_4).f1) ((rd_T68 t225 x15_4).f2) ((rd_T68 t225 x15_4).f3) t247 t250 _ ?side1 ?side2 A45.out).mono ?_); (case side1 => exact sC (Kd.R_reads' HO_14.out).2.2); (case side2 => exact (Kd.R_reads' HO_14.out).2.1); rintro e w50 ⟨v248, rfl, ho0, hb⟩; have n0_ := aS (Kd.R_elder' (sR HO_5.out) (Kd.R_base ho0) hb); have n1_ := aS (Kd.R_below (sR HO_12.out) hb); have n2_ := aS (Kd.R_elder' (sR HO_14.out) (Kd.R_base ho0) hb); have n3_ := aS (Kd.R_lower (Kd.R_new' (Kd.R_new' ho0 (Kd.R_lt (sR HO_5.out))) (Kd.R_lt (sR HO_14.out))) (below_size (sW HB.out))); have n4_ := aS (below_step (sW HB.out) hb); clear HO_5 HO_12 HO_14 HB; have HO_5 := n0_; have HO_12 := n1_; have HO_14 := n2_; have HO249 := n3_; have HB := n4_; clear n0_ n1_ n2_ n3_ n4_; (try clear hb); (try clear hb2); (try clear hk); (try clear hi); (try clear ho0); have p251 : 0 ≤ (x15_4 : Int) := of_decide_eq_true (by first | (with_reducible assumption) | assumption); have q251 : x15_4 < (t225.length : Int) := of_decide_eq_true (by first | (with_reducible assumption) | assumption); obtain ⟨ad251, e251, hx251_0, hx251_1, hx251_2, hx251_3⟩ := at_T68 (Kd.R_reads' HO_5.out).2.2 x15_4 p251 q251; obtain rfl : ad246 = ad251 := (by injection e251); replace p251 := eq_true p251; replace q251 := eq_true q251) | (go_at_call 38; (with_reducible refine (impl_RopeNamed.calls k4 _ _ t225 ((rd_T68 t225 x15_4).f0) t252 t253 _ ?side1 ?side2 A46.out).mono ?_); (case side1 => exact sC (Kd.R_reads' HO_5.out).2.2); (case side2 => exact (Kd.R_reads' HO_5.out).2.1); rintro e w51 ⟨rfl, hb⟩; have n0_ := aS (Kd.R_below (sR HO_5.out) hb); have n1_ := aS (Kd.R_below (sR HO_12.out) hb); have n2_ := aS (Kd.R_below (sR HO_14.out) hb); have n3_ := aS (Kd.R_below (sR HO249.out) hb); have n4_ := aS (below_step (sW HB.out) hb); clear HO_5 HO_12 HO_14 HO249 HB; have HO_5 := n0_; have HO_12 := n1_; have HO_14 := n2_; have HO249 := n3_; have HB := n4_; clear n0_ n1_ n2_ n3_ n4_; (try clear hb); (try clear hb2); (try clear hk); (try clear hi); have p254 : 0 ≤ (x15_4 : Int) := of_decide_eq_true (by first | (with_reducible assumption) | assumption); have q254 : x15_4 < (t225.length : Int) := of_decide_eq_true (by first | (with_reducible assumption) | assumption); obtain ⟨ad254, e254, hx254_0, hx254_1, hx254_2, hx254_3⟩ := at_T68 (Kd.R_reads' HO_5.out).2.2 x15_4 p254 q254; obtain rfl : ad246 = ad254 := (by injection e254); replace p254 := eq_true p254; replace q254 := eq_true q254) | (go_at_call 37; (with_reducible refine (impl_AddRope.calls k4 _ _ t225 ((rd_T68 t225 x15_4).f0) ((rd_T68 t225 x15_4).f1) ((rd_T68 t225 x15_4).f2) ((rd_T68 t225 x15_4).f3) t255 t258 _ ?side1 ?side2 A47.out).mono ?_); (case side1 => exact sC (Kd.R_reads' HO_5.out).2.2); (case side2 => exact (Kd.R_reads' HO_5.out).2.1); rintro e w52 ⟨v256, rfl, ho0, hb⟩; have n0_ := aS (Kd.R_elder' (sR HO_5.out) (Kd.R_base ho0) hb); have n1_ := aS (Kd.R_below (sR HO_12.out) hb); have n2_ := aS (Kd.R_elder' (sR HO_14.out) (Kd.R_base ho0) hb); have n3_ := aS (Kd.R_elder' (sR HO249.out) (Kd.R_base ho0) hb); have n4_ := aS (Kd.R_lower (Kd.R_new' (Kd.R_new' (Kd.R_new' ho0 (Kd.R_lt (sR HO_5.out))) (Kd.R_lt (sR HO_14.out))) (Kd.R_lt (sR HO249.out))) (below_size (sW HB.out))); have n5_ := aS (below_step (sW HB.out) hb); clear HO_5 HO_12 HO_14 HO249 HB; have HO_5 := n0_; have HO_12 := n1_; have HO_14 := n2_; have HO249 := n3_; have HO257 := n4_; have HB := n5_; clear n0_ n1_ n2_ n3_ n4_ n5_; (try clear hb); (try clear hb2); (try clear hk); (try clear hi); (try clear ho0)))
                  repeat (go_quiet (first | (go_at_call 37; (with_reducible refine (impl_AddRope.calls k4 _ _ x14_4 ((rd_T68 t225 x15_4).f0) ((rd_T68 t225 x15_4).f1) ((rd_T68 t225 x15_4).f2) ((rd_T68 t225 x15_4).f3) t247 t250 _ ?side1 ?side2 A45.out).mono ?_); (case side1 => exact sC (Kd.R_reads' HO_14.out).2.2); (case side2 => exact (Kd.R_reads' HO_14.out).2.1); rintro e w50 ⟨v248, rfl, ho0, hb⟩; have n0_ := aS (Kd.R_elder' (sR HO_5.out) (Kd.R_base ho0) hb); have n1_ := aS (Kd.R_below (sR HO_12.out) hb); have n2_ := aS (Kd.R_elder' (sR HO_14.out) (Kd.R_base ho0) hb); have n3_ := aS (Kd.R_lower (Kd.R_new' (Kd.R_new' ho0 (Kd.R_lt (sR HO_5.out))) (Kd.R_lt (sR HO_14.out))) (below_size (sW HB.out))); have n4_ := aS (below_step (sW HB.out) hb); clear HO_5 HO_12 HO_14 HB; have HO_5 := n0_; have HO_12 := n1_; have HO_14 := n2_; have HO249 := n3_; have HB := n4_; clear n0_ n1_ n2_ n3_ n4_; (try clear hb); (try clear hb2); (try clear hk); (try clear hi); (try clear ho0); have p251 : 0 ≤ (x15_4 : Int) := of_decide_eq_true (by first | (with_reducible assumption) | assumption); have q251 : x15_4 < (t225.length : Int) := of_decide_eq_true (by first | (with_reducible assumption) | assumption); obtain ⟨ad251, e251, hx251_0, hx251_1, hx251_2, hx251_3⟩ := at_T68 (Kd.R_reads' HO_5.out).2.2 x15_4 p251 q251; obtain rfl : ad246 = ad251 := (by injection e251); replace p251 := eq_true p251; replace q251 := eq_true q251) | (go_at_call 38; (with_reducible refine (impl_RopeNamed.calls k4 _ _ t225 ((rd_T68 t225 x15_4).f0) t252 t253 _ ?side1 ?side2 A46.out).mono ?_); (case side1 => exact sC (Kd.R_reads' HO_5.out).2.2); (case side2 => exact (Kd.R_reads' HO_5.out).2.1); rintro e w51 ⟨rfl, hb⟩; have n0_ := aS (Kd.R_below (sR HO_5.out) hb); have n1_ := aS (Kd.R_below (sR HO_12.out) hb); have n2_ := aS (Kd.R_below (sR HO_14.out) hb); have n3_ := aS (Kd.R_below (sR HO249.out) hb); have n4_ := aS (below_step (sW HB.out) hb); clear HO_5 HO_12 HO_14 HO249 HB; have HO_5 := n0_; have HO_12 := n1_; have HO_14 := n2_; have HO249 := n3_; have HB := n4_; clear n0_ n1_ n2_ n3_ n4_; (try clear hb); (try clear hb2); (try clear hk); (try clear hi); have p254 : 0 ≤ (x15_4 : Int) := of_decide_eq_true (by first | (with_reducible assumption) | assumption); have q254 : x15_4 < (t225.length : Int) := of_decide_eq_true (by first | (with_reducible assumption) | assumption); obtain ⟨ad254, e254, hx254_0, hx254_1, hx254_2, hx254_3⟩ := at_T68 (Kd.R_reads' HO_5.out).2.2 x15_4 p254 q254; obtain rfl : ad246 = ad254 := (by injection e254); replace p254 := eq_true p254; replace q254 := eq_true q254) | (go_at_call 37; (with_reducible refine (impl_AddRope.calls k4 _ _ t225 ((rd_T68 t225 x15_4).f0) ((rd_T68 t225 x15_4).f1) ((rd_T68 t225 x15_4).f2) ((rd_T68 t225 x15_4).f3) t255 t258 _ ?side1 ?side2 A47.out).mono ?_); (case side1 => exact sC (Kd.R_reads' HO_5.out).2.2); (case side2 => exact (Kd.R_reads' HO_5.out).2.1); rintro e w52 ⟨v256, rfl, ho0, hb⟩; have n0_ := aS (Kd.R_elder' (sR HO_5.out) (Kd.R_base ho0) hb); have n1_ := aS (Kd.R_below (sR HO_12.out) hb); have n2_ := aS (Kd.R_elder' (sR HO_14.out) (Kd.R_base ho0) hb); have n3_ := aS (Kd.R_elder' (sR HO249.out) (Kd.R_base ho0) hb); have n4_ := aS (Kd.R_lower (Kd.R_new' (Kd.R_new' (Kd.R_new' ho0 (Kd.R_lt (sR HO_5.out))) (Kd.R_lt (sR HO_14.out))) (Kd.R_lt (sR HO249.out))) (below_size (sW HB.out))); have n5_ := aS (below_step (sW HB.out) hb); clear HO_5 HO_12 HO_14 HO249 HB; have HO_5 := n0_; have HO_12 := n1_; have HO_14 := n2_; have HO249 := n3_; have HO257 := n4_; have HB := n5_; clear n0_ n1_ n2_ n3_ n4_ n5_; (try clear hb); (try clear hb2); (try clear hk); (try clear hi); (try clear ho0))); go_upto_region 27 with (first | (go_at_call 37; (with_reducible refine (impl_AddRope.calls k4 _ _ x14_4 ((rd_T68 t225 x15_4).f0) ((rd_T68 t225 x15_4).f1) ((rd_T68 t225 x15_4).f2) ((rd_T68 t225 x15_4).f3) t247 t250 _ ?side1 ?side2 A45.out).mono ?_); (case side1 => exact sC (Kd.R_reads' HO_14.out).2.2); (case side2 => exact (Kd.R_reads' HO_14.out).2.1); rintro e w50 ⟨v248, rfl, ho0, hb⟩; have n0_ := aS (Kd.R_elder' (sR HO_5.out) (Kd.R_base ho0) hb); have n1_ := aS (Kd.R_below (sR HO_12.out) hb); have n2_ := aS (Kd.R_elder' (sR HO_14.out) (Kd.R_base ho0) hb); have n3_ := aS (Kd.R_lower (Kd.R_new' (Kd.R_new' ho0 (Kd.R_lt (sR HO_5.out))) (Kd.R_lt (sR HO_14.out))) (below_size (sW HB.out))); have n4_ := aS (below_step (sW HB.out) hb); clear HO_5 HO_12 HO_14 HB; have HO_5 := n0_; have HO_12 := n1_; have HO_14 := n2_; have HO249 := n3_; have HB := n4_; clear n0_ n1_ n2_ n3_ n4_; (try clear hb); (try clear hb2); (try clear hk); (try clear hi); (try clear ho0); have p251 : 0 ≤ (x15_4 : Int) := of_decide_eq_true (by first | (with_reducible assumption) | assumption); have q251 : x15_4 < (t225.length : Int) := of_decide_eq_true (by first | (with_reducible assumption) | assumption); obtain ⟨ad251, e251, hx251_0, hx251_1, hx251_2, hx251_3⟩ := at_T68 (Kd.R_reads' HO_5.out).2.2 x15_4 p251 q251; obtain rfl : ad246 = ad251 := (by injection e251); replace p251 := eq_true p251; replace q251 := eq_true q251) | (go_at_call 38; (with_reducible refine (impl_RopeNamed.calls k4 _ _ t225 ((rd_T68 t225 x15_4).f0) t252 t253 _ ?side1 ?side2 A46.out).mono ?_); (case side1 => exact sC (Kd.R_reads' HO_5.out).2.2); (case side2 => exact (Kd.R_reads' HO_5.out).2.1); rintro e w51 ⟨rfl, hb⟩; have n0_ := aS (Kd.R_below (sR HO_5.out) hb); have n1_ := aS (Kd.R_below (sR HO_12.out) hb); have n2_ := aS (Kd.R_below (sR HO_14.out) hb); have n3_ := aS (Kd.R_below (sR HO249.out) hb); have n4_ := aS (below_step (sW HB.out) hb); clear HO_5 HO_12 HO_14 HO249 HB; have HO_5 := n0_; have HO_12 := n1_; have HO_14 := n2_; have HO249 := n3_; have HB := n4_; clear n0_ n1_ n2_ n3_ n4_; (try clear hb); (try clear hb2); (try clear hk); (try clear hi); have p254 : 0 ≤ (x15_4 : Int) := of_decide_eq_true (by first | (with_reducible assumption) | assumption); have q254 : x15_4 < (t225.length : Int) := of_decide_eq_true (by first | (with_reducible assumption) | assumption); obtain ⟨ad254, e254, hx254_0, hx254_1, hx254_2, hx254_3⟩ := at_T68 (Kd.R_reads' HO_5.out).2.2 x15_4 p254 q254; obtain rfl : ad246 = ad254 := (by injection e254); replace p254 := eq_true p254; replace q254 := eq_true q254) | (go_at_call 37; (with_reducible refine (impl_AddRope.calls k4 _ _ t225 ((rd_T68 t225 x15_4).f0) ((rd_T68 t225 x15_4).f1) ((rd_T68 t225 x15_4).f2) ((rd_T68 t225 x15_4).f3) t255 t258 _ ?side1 ?side2 A47.out).mono ?_); (case side1 => exact sC (Kd.R_reads' HO_5.out).2.2); (case side2 => exact (Kd.R_reads' HO_5.out).2.1); rintro e w52 ⟨v256, rfl, ho0, hb⟩; have n0_ := aS (Kd.R_elder' (sR HO_5.out) (Kd.R_base ho0) hb); have n1_ := aS (Kd.R_below (sR HO_12.out) hb); have n2_ := aS (Kd.R_elder' (sR HO_14.out) (Kd.R_base ho0) hb); have n3_ := aS (Kd.R_elder' (sR HO249.out) (Kd.R_base ho0) hb); have n4_ := aS (Kd.R_lower (Kd.R_new' (Kd.R_new' (Kd.R_new' ho0 (Kd.R_lt (sR HO_5.out))) (Kd.R_lt (sR HO_14.out))) (Kd.R_lt (sR HO249.out))) (below_size (sW HB.out))); have n5_ := aS (below_step (sW HB.out) hb); clear HO_5 HO_12 HO_14 HO249 HB; have HO_5 := n0_; have HO_12 := n1_; have HO_14 := n2_; have HO249 := n3_; have HO257 := n4_; have HB := n5_; clear n0_ n1_ n2_ n3_ n4_ n5_; (try clear hb); (try clear hb2); (try clear hk); (try clear hi); (try clear ho0))))
                  (try simp only [Act.put, List.setIfInBounds_toArray, List.set_cons_zero, List.set_cons_succ])
                  go_cut [215] (fun v215 wc => ∃ (kq : Nat) (x215_47 : Bool), v215 = .bool x215_47 ∧ Aside0 (laws_FnRopeLists.j4 kq t225 t238 x15_4 t247 x215_47 = some r) ∧ Aside0 (kq ≤ k4) ∧ Aside0 (Kd.R k68 68 wc w.heap.size (fun k_ => some k_ ≠ (v248 : Value).ownBlock) (.slice (some ad246) t225.length co11) t225) ∧ Aside0 (Kd.R (Kd.int .i64) 2 wc w.heap.size (fun _ => True) v240 t238) ∧ Aside0 (Kd.R k68 68 wc w.heap.size (fun k_ => some k_ ≠ ((.slice (some ad246) t225.length co11) : Value).ownBlock) v248 t247) ∧ Aside0 (Below w.heap.size w wc))
                  case first =>
                   as_aux_lemma =>
                    have H := HC48.out
                    clear HC48
                    by_cases c53 : t250 = 0
                    rotate_left
                    ·
                     rw [if_neg c53] at H
                     have c53b0 : (t250 == 0) = false := beq_eq_false_iff_ne.mpr c53
                     have c53b1 : (t250 != 0) = true := bne_iff_ne.mpr c53
                     (first | rw [c53b0] | (simp only [i64_w, i32_w]; rw [c53b0]) | (rw [c53b2]; simp only [Bool.not_false, Bool.not_true]) | skip)
                     have H' := aS H
                     clear H
                     go_wp2
                     repeat (go_quiet (fail); try go_wp2)
                     go_meet
                     case rel => exact ⟨_, (true), (by first | rfl | (simp; done) | (simp [*]; done) | (simp only [i64_w]; done) | (simp [i64_w]; done)), H', ⟨by have := HK1.out; have := HJ23.out; have := HJ30.out; have := HK4.out; first | omega | exact Nat.le_refl _⟩, ⟨by (with_reducible repeat (first | apply Kd.R_alloc | apply Kd.R_drewN | apply Kd.R_drew)); exact Kd.R_mono HO_5.out (fun _ hk => hk.1.2)⟩, ⟨by (with_reducible repeat (first | apply Kd.R_alloc | apply Kd.R_drewN | apply Kd.R_drew)); exact HO_12.out⟩, ⟨by (with_reducible repeat (first | apply Kd.R_alloc | apply Kd.R_drewN | apply Kd.R_drew)); exact Kd.R_mono HO249.out (fun _ hk => hk.1.1.2)⟩, ⟨by repeat (first | (with_reducible first | exact HB.out | apply below_alloc | apply pw_below_drewN | apply below_drew1) | exact HB.out)⟩⟩
                    rw [if_pos c53] at H
                    have c53b0 : (t250 == 0) = true := beq_iff_eq.mpr c53
                    have c53b1 : (t250 != 0) = false := bne_eq_false_iff_eq.mpr c53
                    clear c53
                    (first | rw [c53b0] | (simp only [i64_w, i32_w]; rw [c53b0]) | (rw [c53b2]; simp only [Bool.not_false, Bool.not_true]) | skip)
                    by_cases c54 : (t247.length : Int) = (wrap64 (x15_4 + 1))
                    rotate_left
                    ·
                     rw [if_neg c54] at H
                     have c54b0 : ((t247.length : Int) == (wrap64 (x15_4 + 1))) = false := beq_eq_false_iff_ne.mpr c54
                     have c54b1 : ((t247.length : Int) != (wrap64 (x15_4 + 1))) = true := bne_iff_ne.mpr c54
                     have H' := aS H
                     clear H
                     obtain ⟨Ao63, co63, eo63⟩ := Kd.R_slice HO249.out
                     subst eo63
                     go_wp2
                     repeat (go_quiet (fail); try go_wp2)
                     go_meet
                     case rel => exact ⟨_, (true), (by first | rfl | (simp; done) | (simp [*]; done) | (simp only [i64_w]; done) | (simp [i64_w]; done)), H', ⟨by have := HK1.out; have := HJ23.out; have := HJ30.out; have := HK4.out; first | omega | exact Nat.le_refl _⟩, ⟨by (with_reducible repeat (first | apply Kd.R_alloc | apply Kd.R_drewN | apply Kd.R_drew)); exact Kd.R_mono HO_5.out (fun _ hk => hk.1.2)⟩, ⟨by (with_reducible repeat (first | apply Kd.R_alloc | apply Kd.R_drewN | apply Kd.R_drew)); exact HO_12.out⟩, ⟨by (with_reducible repeat (first | apply Kd.R_alloc | apply Kd.R_drewN | apply Kd.R_drew)); exact Kd.R_mono HO249.out (fun _ hk => hk.1.1.2)⟩, ⟨by repeat (first | (with_reducible first | exact HB.out | apply below_alloc | apply pw_below_drewN | apply below_drew1) | exact HB.out)⟩⟩
                    rw [if_pos c54] at H
                    have c54b0 : ((t247.length : Int) == (wrap64 (x15_4 + 1))) = true := beq_iff_eq.mpr c54
                    have c54b1 : ((t247.length : Int) != (wrap64 (x15_4 + 1))) = false := bne_eq_false_iff_eq.mpr c54
                    clear c54
                    by_cases c55 : x15_4 < (t247.length : Int)
                    rotate_left
                    ·
                     rw [if_neg c55] at H
                     exact absurd H (by simp)
                    rw [if_pos c55] at H
                    have c55b0 : decide (x15_4 < (t247.length : Int)) = true := decide_eq_true c55
                    clear c55
                    by_cases c56 : (!((((rd_T68 t247 x15_4).f0).toList) == (((rd_T68 t225 x15_4).f0).toList)) || (!(((rd_T68 t247 x15_4).f1) == ((rd_T68 t225 x15_4).f1)) || (!(((rd_T68 t247 x15_4).f2) == ((rd_T68 t225 x15_4).f2)) || (!(((rd_T68 t247 x15_4).f3) == ((rd_T68 t225 x15_4).f3)))))) = true
                    ·
                     rw [if_pos c56] at H
                     have c56b0 : (!((((rd_T68 t247 x15_4).f0).toList) == (((rd_T68 t225 x15_4).f0).toList)) || (!(((rd_T68 t247 x15_4).f1) == ((rd_T68 t225 x15_4).f1)) || (!(((rd_T68 t247 x15_4).f2) == ((rd_T68 t225 x15_4).f2)) || (!(((rd_T68 t247 x15_4).f3) == ((rd_T68 t225 x15_4).f3)))))) = true := c56
                     clear c56
                     have H' := aS H
                     clear H
                     obtain ⟨Ao57, co57, eo57⟩ := Kd.R_slice HO249.out
                     subst eo57
                     have p259 : 0 ≤ (x15_4 : Int) := of_decide_eq_true (by first | (with_reducible assumption) | assumption)
                     have q259 : x15_4 < (t247.length : Int) := of_decide_eq_true (by first | (with_reducible assumption) | assumption)
                     obtain ⟨ad259, e259, hx259_0, hx259_1, hx259_2, hx259_3⟩ := at_T68 (Kd.R_reads' HO249.out).2.2 x15_4 p259 q259
                     cases e259
                     replace p259 := eq_true p259
                     replace q259 := eq_true q259
                     have p260 : 0 ≤ (x15_4 : Int) := of_decide_eq_true (by first | (with_reducible assumption) | assumption)
                     have q260 : x15_4 < (t225.length : Int) := of_decide_eq_true (by first | (with_reducible assumption) | assumption)
                     obtain ⟨ad260, e260, hx260_0, hx260_1, hx260_2, hx260_3⟩ := at_T68 (Kd.R_reads' HO_5.out).2.2 x15_4 p260 q260
                     obtain rfl : ad246 = ad260 := (by injection e260)
                     replace p260 := eq_true p260
                     replace q260 := eq_true q260
                     go_wp2
                     repeat (go_quiet (fail); try go_wp2)
                     go_meet
                     case rel => exact ⟨_, (true), (by first | rfl | (simp; done) | (simp [*]; done) | (simp only [i64_w]; done) | (simp [i64_w]; done)), H', ⟨by have := HK1.out; have := HJ23.out; have := HJ30.out; have := HK4.out; first | omega | exact Nat.le_refl _⟩, ⟨by (with_reducible repeat (first | apply Kd.R_alloc | apply Kd.R_drewN | apply Kd.R_drew)); exact Kd.R_mono HO_5.out (fun _ hk => hk.1.2)⟩, ⟨by (with_reducible repeat (first | apply Kd.R_alloc | apply Kd.R_drewN | apply Kd.R_drew)); exact HO_12.out⟩, ⟨by (with_reducible repeat (first | apply Kd.R_alloc | apply Kd.R_drewN | apply Kd.R_drew)); exact Kd.R_mono HO249.out (fun _ hk => hk.1.1.2)⟩, ⟨by repeat (first | (with_reducible first | exact HB.out | apply below_alloc | apply pw_below_drewN | apply below_drew1) | exact HB.out)⟩⟩
                    rw [if_neg c56] at H
                    have c56b0 : (!((((rd_T68 t247 x15_4).f0).toList) == (((rd_T68 t225 x15_4).f0).toList)) || (!(((rd_T68 t247 x15_4).f1) == ((rd_T68 t225 x15_4).f1)) || (!(((rd_T68 t247 x15_4).f2) == ((rd_T68 t225 x15_4).f2)) || (!(((rd_T68 t247 x15_4).f3) == ((rd_T68 t225 x15_4).f3)))))) = false := by simpa using c56
                    clear c56
                    by_cases c58 : t253 = 0
                    rotate_left
                    ·
                     rw [if_neg c58] at H
                     have c58b0 : (t253 == 0) = false := beq_eq_false_iff_ne.mpr c58
                     have c58b1 : (t253 != 0) = true := bne_iff_ne.mpr c58
                     have H' := aS H
                     clear H
                     obtain ⟨Ao62, co62, eo62⟩ := Kd.R_slice HO249.out
                     subst eo62
                     have p259 : 0 ≤ (x15_4 : Int) := of_decide_eq_true (by first | (with_reducible assumption) | assumption)
                     have q259 : x15_4 < (t247.length : Int) := of_decide_eq_true (by first | (with_reducible assumption) | assumption)
                     obtain ⟨ad259, e259, hx259_0, hx259_1, hx259_2, hx259_3⟩ := at_T68 (Kd.R_reads' HO249.out).2.2 x15_4 p259 q259
                     cases e259
                     replace p259 := eq_true p259
                     replace q259 := eq_true q259
                     have p260 : 0 ≤ (x15_4 : Int) := of_decide_eq_true (by first | (with_reducible assumption) | assumption)
                     have q260 : x15_4 < (t225.length : Int) := of_decide_eq_true (by first | (with_reducible assumption) | assumption)
                     obtain ⟨ad260, e260, hx260_0, hx260_1, hx260_2, hx260_3⟩ := at_T68 (Kd.R_reads' HO_5.out).2.2 x15_4 p260 q260
                     obtain rfl : ad246 = ad260 := (by injection e260)
                     replace p260 := eq_true p260
                     replace q260 := eq_true q260
                     go_wp2
                     repeat (go_quiet (fail); try go_wp2)
                     go_meet
                     case rel => exact ⟨_, (true), (by first | rfl | (simp; done) | (simp [*]; done) | (simp only [i64_w]; done) | (simp [i64_w]; done)), H', ⟨by have := HK1.out; have := HJ23.out; have := HJ30.out; have := HK4.out; first | omega | exact Nat.le_refl _⟩, ⟨by (with_reducible repeat (first | apply Kd.R_alloc | apply Kd.R_drewN | apply Kd.R_drew)); exact Kd.R_mono HO_5.out (fun _ hk => hk.1.2)⟩, ⟨by (with_reducible repeat (first | apply Kd.R_alloc | apply Kd.R_drewN | apply Kd.R_drew)); exact HO_12.out⟩, ⟨by (with_reducible repeat (first | apply Kd.R_alloc | apply Kd.R_drewN | apply Kd.R_drew)); exact Kd.R_mono HO249.out (fun _ hk => hk.1.1.2)⟩, ⟨by repeat (first | (with_reducible first | exact HB.out | apply below_alloc | apply pw_below_drewN | apply below_drew1) | exact HB.out)⟩⟩
                    rw [if_pos c58] at H
                    have c58b0 : (t253 == 0) = true := beq_iff_eq.mpr c58
                    have c58b1 : (t253 != 0) = false := bne_eq_false_iff_eq.mpr c58
                    clear c58
                    by_cases c59 : t252 = x15_4
                    rotate_left
                    ·
                     rw [if_neg c59] at H
                     have c59b0 : (t252 == x15_4) = false := beq_eq_false_iff_ne.mpr c59
                     have c59b1 : (t252 != x15_4) = true := bne_iff_ne.mpr c59
                     have H' := aS H
                     clear H
                     obtain ⟨Ao61, co61, eo61⟩ := Kd.R_slice HO249.out
                     subst eo61
                     have p259 : 0 ≤ (x15_4 : Int) := of_decide_eq_true (by first | (with_reducible assumption) | assumption)
                     have q259 : x15_4 < (t247.length : Int) := of_decide_eq_true (by first | (with_reducible assumption) | assumption)
                     obtain ⟨ad259, e259, hx259_0, hx259_1, hx259_2, hx259_3⟩ := at_T68 (Kd.R_reads' HO249.out).2.2 x15_4 p259 q259
                     cases e259
                     replace p259 := eq_true p259
                     replace q259 := eq_true q259
                     have p260 : 0 ≤ (x15_4 : Int) := of_decide_eq_true (by first | (with_reducible assumption) | assumption)
                     have q260 : x15_4 < (t225.length : Int) := of_decide_eq_true (by first | (with_reducible assumption) | assumption)
                     obtain ⟨ad260, e260, hx260_0, hx260_1, hx260_2, hx260_3⟩ := at_T68 (Kd.R_reads' HO_5.out).2.2 x15_4 p260 q260
                     obtain rfl : ad246 = ad260 := (by injection e260)
                     replace p260 := eq_true p260
                     replace q260 := eq_true q260
                     go_wp2
                     repeat (go_quiet (fail); try go_wp2)
                     go_meet
                     case rel => exact ⟨_, (true), (by first | rfl | (simp; done) | (simp [*]; done) | (simp only [i64_w]; done) | (simp [i64_w]; done)), H', ⟨by have := HK1.out; have := HJ23.out; have := HJ30.out; have := HK4.out; first | omega | exact Nat.le_refl _⟩, ⟨by (with_reducible repeat (first | apply Kd.R_alloc | apply Kd.R_drewN | apply Kd.R_drew)); exact Kd.R_mono HO_5.out (fun _ hk => hk.1.2)⟩, ⟨by (with_reducible repeat (first | apply Kd.R_alloc | apply Kd.R_drewN | apply Kd.R_drew)); exact HO_12.out⟩, ⟨by (with_reducible repeat (first | apply Kd.R_alloc | apply Kd.R_drewN | apply Kd.R_drew)); exact Kd.R_mono HO249.out (fun _ hk => hk.1.1.2)⟩, ⟨by repeat (first | (with_reducible first | exact HB.out | apply below_alloc | apply pw_below_drewN | apply below_drew1) | exact HB.out)⟩⟩
                    rw [if_pos c59] at H
                    have c59b0 : (t252 == x15_4) = true := beq_iff_eq.mpr c59
                    have c59b1 : (t252 != x15_4) = false := bne_eq_false_iff_eq.mpr c59
                    clear c59
                    have H' := aS H
                    clear H
                    obtain ⟨Ao60, co60, eo60⟩ := Kd.R_slice HO249.out
                    subst eo60
                    have p259 : 0 ≤ (x15_4 : Int) := of_decide_eq_true (by first | (with_reducible assumption) | assumption)
                    have q259 : x15_4 < (t247.length : Int) := of_decide_eq_true (by first | (with_reducible assumption) | assumption)
                    obtain ⟨ad259, e259, hx259_0, hx259_1, hx259_2, hx259_3⟩ := at_T68 (Kd.R_reads' HO249.out).2.2 x15_4 p259 q259
                    cases e259
                    replace p259 := eq_true p259
                    replace q259 := eq_true q259
                    have p260 : 0 ≤ (x15_4 : Int) := of_decide_eq_true (by first | (with_reducible assumption) | assumption)
                    have q260 : x15_4 < (t225.length : Int) := of_decide_eq_true (by first | (with_reducible assumption) | assumption)
                    obtain ⟨ad260, e260, hx260_0, hx260_1, hx260_2, hx260_3⟩ := at_T68 (Kd.R_reads' HO_5.out).2.2 x15_4 p260 q260
                    obtain rfl : ad246 = ad260 := (by injection e260)
                    replace p260 := eq_true p260
                    replace q260 := eq_true q260
                    go_wp2
                    repeat (go_quiet (fail); try go_wp2)
                    go_meet
                    case rel => exact ⟨_, ((t258 != 4)), (by first | rfl | (simp; done) | (simp [*]; done) | (simp only [i64_w]; done) | (simp [i64_w]; done)), H', ⟨by have := HK1.out; have := HJ23.out; have := HJ30.out; have := HK4.out; first | omega | exact Nat.le_refl _⟩, ⟨by (with_reducible repeat (first | apply Kd.R_alloc | apply Kd.R_drewN | apply Kd.R_drew)); exact Kd.R_mono HO_5.out (fun _ hk => hk.1.2)⟩, ⟨by (with_reducible repeat (first | apply Kd.R_alloc | apply Kd.R_drewN | apply Kd.R_drew)); exact HO_12.out⟩, ⟨by (with_reducible repeat (first | apply Kd.R_alloc | apply Kd.R_drewN | apply Kd.R_drew)); exact Kd.R_mono HO249.out (fun _ hk => hk.1.1.2)⟩, ⟨by repeat (first | (with_reducible first | exact HB.out | apply below_alloc | apply pw_below_drewN | apply below_drew1) | exact HB.out)⟩⟩
                  case rest =>
                   as_aux_lemma =>
                    clear HC48
                    (try clear c1); (try clear c2); (try clear p2); (try clear q2); (try clear hx2); (try clear c3); (try clear c4); (try clear c5); (try clear p6); (try clear c13); (try clear c13b0); (try clear c13b2); (try clear c14); (try clear c14b0); (try clear c15); (try clear c15b0); (try clear c16); (try clear c16b0); (try clear c16b1); (try clear c17); (try clear c17b0); (try clear c18); (try clear c18b0); (try clear c19); (try clear c19b0); (try clear c20); (try clear c20b0); (try clear c21); (try clear c21b0); (try clear c22); (try clear c22b0); (try clear c22b1); (try clear c23); (try clear c23b0); (try clear p23); (try clear q23); (try clear hx23); (try clear p24); (try clear q24); (try clear hx24); (try clear c25); (try clear c25b0); (try clear c25b1); (try clear c25b2); (try clear p25); (try clear q25); (try clear hx25); (try clear c26); (try clear p26); (try clear q26); (try clear hx26); (try clear c27); (try clear c27b0); (try clear c28); (try clear c28b0); (try clear c29); (try clear c33); (try clear c33b0); (try clear c33b1); (try clear c33b2); (try clear c35); (try clear c36); (try clear c36b0); (try clear c36b1); (try clear c40); (try clear c43); (try clear c43b0); (try clear c44); (try clear c44b0); (try clear c53); (try clear c53b0); (try clear c53b1); (try clear c53b2); (try clear c54); (try clear c54b0); (try clear c54b1); (try clear c55); (try clear c55b0); (try clear c56); (try clear c56b0); (try clear c58); (try clear c58b0); (try clear c58b1); (try clear c59); (try clear c59b0); (try clear c59b1); (try clear hx232_0); (try clear hx232_1); (try clear hx232_2); (try clear hx232_3); (try clear hx233_0); (try clear hx233_1); (try clear hx233_2); (try clear hx233_3); (try clear hx234_0); (try clear hx234_1); (try clear hx234_2); (try clear hx234_3); (try clear hx235_0); (try clear hx235_1); (try clear hx235_2); (try clear hx235_3); (try clear hx236_0); (try clear hx236_1); (try clear hx236_2); (try clear hx236_3); (try clear hx237_0); (try clear hx237_1); (try clear hx237_2); (try clear hx237_3); (try clear hx246_0); (try clear hx246_1); (try clear hx246_2); (try clear hx246_3); (try clear hx251_0); (try clear hx251_1); (try clear hx251_2); (try clear hx251_3); (try clear hx254_0); (try clear hx254_1); (try clear hx254_2); (try clear hx254_3); (try clear hx259_0); (try clear hx259_1); (try clear hx259_2); (try clear hx259_3); (try clear hx260_0); (try clear hx260_1); (try clear hx260_2); (try clear hx260_3); (try clear p2); (try clear p23); (try clear p232); (try clear p233); (try clear p234); (try clear p235); (try clear p236); (try clear p237); (try clear p246); (try clear p251); (try clear p254); (try clear p259); (try clear p260); (try clear p6); (try clear q2); (try clear q23); (try clear q232); (try clear q233); (try clear q234); (try clear q235); (try clear q236); (try clear q237); (try clear q246); (try clear q251); (try clear q254); (try clear q259); (try clear q260)
                    obtain ⟨kq, x215_47, rfl, HA, HJ47, HO_5, HO_12, HO_16, HB⟩ := hcut
                    cases kq with
                    | zero => exact absurd HA.out (by simp [laws_FnRopeLists.j4])
                    | succ kj47 =>
                     have H := HA.out
                     clear HA
                     simp only [laws_FnRopeLists.j4] at H
                     by_cases c64 : x215_47 = true
                     ·
                      subst c64
                      have H1 : (some false) = some r := by rw [if_pos rfl] at H; exact H
                      clear H
                      have H := H1
                      clear H1
                      obtain rfl := Option.some.inj H
                      go_wp2
                      repeat (go_quiet (fail); try go_wp2)
                      go_ret
                      exact ⟨by first | rfl | (simp [errW_none, errW_some, i64_w]; done) | (simp [errW_none, errW_some] <;> rfl) | (simp [*, errW_none, errW_some] <;> rfl), by repeat (first | (with_reducible first | exact HB.out | apply below_alloc | apply pw_below_drewN | apply below_drew1) | exact HB.out)⟩
                     replace c64 := Bool.eq_false_iff.mpr c64
                     subst c64
                     have H1 : (laws_FnRopeLists.l2 kj47 t225 t238 t247 x15_4 false 0) = some r := by rw [if_neg (show ¬ (false = true) by decide)] at H; exact H
                     clear H
                     have H := H1
                     clear H1
                     have H' := aS H
                     clear H
                     go_wp2
                     repeat (go_quiet (fail); try go_wp2)
                     go_loopg [22, 23] kj47 (fun kq v22 v23 w' => ∃ (x22_6 : Bool) (x23_6 : Int), v22 = .bool x22_6 ∧ v23 = .int .i64 x23_6 ∧ Aside0 (laws_FnRopeLists.l2 kq t225 t238 t247 x15_4 x22_6 x23_6 = some r) ∧ Aside0 (kq ≤ kj47) ∧ Aside0 (Kd.R k68 68 w' w.heap.size (fun k_ => some k_ ≠ (v248 : Value).ownBlock) (.slice (some ad246) t225.length co11) t225) ∧ Aside0 (Kd.R (Kd.int .i64) 2 w' w.heap.size (fun _ => True) v240 t238) ∧ Aside0 (Kd.R k68 68 w' w.heap.size (fun k_ => some k_ ≠ ((.slice (some ad246) t225.length co11) : Value).ownBlock) v248 t247) ∧ Aside0 (Below w.heap.size w w'))
                     case atStart => exact ⟨(false), (0), (by first | rfl | (simp; done) | (simp [*]; done) | (simp only [i64_w]; done) | (simp [i64_w]; done)), (by first | rfl | (simp; done) | (simp [*]; done) | (simp only [i64_w]; done) | (simp [i64_w]; done)), H', ⟨Nat.le_refl _⟩, ⟨by (with_reducible repeat (first | apply Kd.R_alloc | apply Kd.R_drewN | apply Kd.R_drew)); exact HO_5.out⟩, ⟨by (with_reducible repeat (first | apply Kd.R_alloc | apply Kd.R_drewN | apply Kd.R_drew)); exact HO_12.out⟩, ⟨by (with_reducible repeat (first | apply Kd.R_alloc | apply Kd.R_drewN | apply Kd.R_drew)); exact HO_16.out⟩, ⟨by repeat (first | (with_reducible first | exact HB.out | apply below_alloc | apply pw_below_drewN | apply below_drew1) | exact HB.out)⟩⟩
                     case round =>
                      as_aux_lemma =>
                       clear H'
                       (try clear c1); (try clear c2); (try clear p2); (try clear q2); (try clear hx2); (try clear c3); (try clear c4); (try clear c5); (try clear c6); (try clear p6); (try clear c13); (try clear c13b0); (try clear c13b2); (try clear c14); (try clear c14b0); (try clear c15); (try clear c15b0); (try clear c16); (try clear c16b0); (try clear c16b1); (try clear c17); (try clear c17b0); (try clear c18); (try clear c18b0); (try clear c19); (try clear c19b0); (try clear c20); (try clear c20b0); (try clear c21); (try clear c21b0); (try clear c22); (try clear c22b0); (try clear c22b1); (try clear c23); (try clear c23b0); (try clear p23); (try clear q23); (try clear hx23); (try clear p24); (try clear q24); (try clear hx24); (try clear c25); (try clear c25b0); (try clear c25b1); (try clear c25b2); (try clear p25); (try clear q25); (try clear hx25); (try clear c26); (try clear p26); (try clear q26); (try clear hx26); (try clear c27); (try clear c27b0); (try clear c28); (try clear c28b0); (try clear c29); (try clear c33); (try clear c33b0); (try clear c33b1); (try clear c33b2); (try clear c35); (try clear c36); (try clear c36b0); (try clear c36b1); (try clear c40); (try clear c43); (try clear c43b0); (try clear c44); (try clear c44b0); (try clear c53); (try clear c53b0); (try clear c53b1); (try clear c53b2); (try clear c54); (try clear c54b0); (try clear c54b1); (try clear c55); (try clear c55b0); (try clear c56); (try clear c56b0); (try clear c58); (try clear c58b0); (try clear c58b1); (try clear c59); (try clear c59b0); (try clear c59b1); (try clear c64); (try clear p64); (try clear hx232_0); (try clear hx232_1); (try clear hx232_2); (try clear hx232_3); (try clear hx233_0); (try clear hx233_1); (try clear hx233_2); (try clear hx233_3); (try clear hx234_0); (try clear hx234_1); (try clear hx234_2); (try clear hx234_3); (try clear hx235_0); (try clear hx235_1); (try clear hx235_2); (try clear hx235_3); (try clear hx236_0); (try clear hx236_1); (try clear hx236_2); (try clear hx236_3); (try clear hx237_0); (try clear hx237_1); (try clear hx237_2); (try clear hx237_3); (try clear hx246_0); (try clear hx246_1); (try clear hx246_2); (try clear hx246_3); (try clear hx251_0); (try clear hx251_1); (try clear hx251_2); (try clear hx251_3); (try clear hx254_0); (try clear hx254_1); (try clear hx254_2); (try clear hx254_3); (try clear hx259_0); (try clear hx259_1); (try clear hx259_2); (try clear hx259_3); (try clear hx260_0); (try clear hx260_1); (try clear hx260_2); (try clear hx260_3); (try clear p2); (try clear p23); (try clear p232); (try clear p233); (try clear p234); (try clear p235); (try clear p236); (try clear p237); (try clear p24); (try clear p246); (try clear p25); (try clear p251); (try clear p254); (try clear p259); (try clear p26); (try clear p260); (try clear p6); (try clear q2); (try clear q23); (try clear q232); (try clear q233); (try clear q234); (try clear q235); (try clear q236); (try clear q237); (try clear q24); (try clear q246); (try clear q25); (try clear q251); (try clear q254); (try clear q259); (try clear q26); (try clear q260)
                       obtain ⟨x22_6, x23_6, rfl, rfl, HA, HK6, HO_5, HO_12, HO_14, HB⟩ := hrel
                       cases gk with
                       | zero => exact absurd HA.out (by simp [laws_FnRopeLists.l2])
                       | succ k6 =>
                        have H := HA.out
                        clear HA
                        simp only [laws_FnRopeLists.l2] at H
                        by_cases c65 : x23_6 < (t225.length : Int)
                        rotate_left
                        ·
                         rw [if_neg c65] at H
                         have c65b0 : decide (x23_6 < (t225.length : Int)) = false := decide_eq_false c65
                         clear c65
                         replace H := Option.bind_eq_some_iff.mp H
                         obtain ⟨t265, A990, H⟩ := H
                         replace H : (if (x22_6 != t265) = true then (some false) else (laws_FnRopeLists.l1 k6 t225 t238 t247 (wrap64 (x15_4 + 1)))) = some r := H
                         have A99 := aS A990
                         clear A990
                         have HC100 := aS H
                         clear H
                         obtain ⟨Ao101, co101, eo101⟩ := Kd.R_slice HO_12.out
                         subst eo101
                         go_upto_if 278 with (first | (go_at_call 39; (with_reducible refine (laws_a2Has.calls k6 _ _ t238 x15_4 t265 _ ?side1 ?side2 A99.out).mono ?_); (case side1 => exact sC (Kd.R_reads' HO_12.out).2.2); (case side2 => exact (Kd.R_reads' HO_12.out).2.1); rintro e w' ⟨rfl, ⟨nd, rfl⟩⟩; (try first | exact ⟨rfl, _, World.drewN_drewN _ _ _⟩ | exact ⟨rfl, _, Eq.trans (World.drewN_drewN _ _ _) (congrArg (World.drewN _) (Nat.add_assoc _ _ _))⟩)))
                         repeat (go_quiet (first | (go_at_call 39; (with_reducible refine (laws_a2Has.calls k6 _ _ t238 x15_4 t265 _ ?side1 ?side2 A99.out).mono ?_); (case side1 => exact sC (Kd.R_reads' HO_12.out).2.2); (case side2 => exact (Kd.R_reads' HO_12.out).2.1); rintro e w' ⟨rfl, ⟨nd, rfl⟩⟩; (try first | exact ⟨rfl, _, World.drewN_drewN _ _ _⟩ | exact ⟨rfl, _, Eq.trans (World.drewN_drewN _ _ _) (congrArg (World.drewN _) (Nat.add_assoc _ _ _))⟩))); go_upto_if 278 with (first | (go_at_call 39; (with_reducible refine (laws_a2Has.calls k6 _ _ t238 x15_4 t265 _ ?side1 ?side2 A99.out).mono ?_); (case side1 => exact sC (Kd.R_reads' HO_12.out).2.2); (case side2 => exact (Kd.R_reads' HO_12.out).2.1); rintro e w' ⟨rfl, ⟨nd, rfl⟩⟩; (try first | exact ⟨rfl, _, World.drewN_drewN _ _ _⟩ | exact ⟨rfl, _, Eq.trans (World.drewN_drewN _ _ _) (congrArg (World.drewN _) (Nat.add_assoc _ _ _))⟩))))
                         (try simp only [Act.put, List.setIfInBounds_toArray, List.set_cons_zero, List.set_cons_succ])
                         have H := HC100.out
                         clear HC100
                         by_cases c102 : (x22_6 != t265) = true
                         ·
                          rw [if_pos c102] at H
                          have c102b0 : (x22_6 != t265) = true := c102
                          (try (have c102b1 : decide (x22_6 = t265) = false := by simpa using c102))
                          (try (have c102b2 : (x22_6 == t265) = false := by simpa using c102))
                          (try (have c102b3 : ¬ (x22_6 = t265) := by simpa using c102))
                          clear c102
                          (first | rw [c102b0] | (simp only [i64_w, i32_w]; rw [c102b0]) | (rw [c102b2]; simp only [Bool.not_false, Bool.not_true]) | skip)
                          obtain rfl := Option.some.inj H
                          go_wp2
                          repeat (go_quiet (fail); try go_wp2)
                          go_ret
                          exact ⟨by first | rfl | (simp [errW_none, errW_some, i64_w]; done) | (simp [errW_none, errW_some] <;> rfl) | (simp [*, errW_none, errW_some] <;> rfl), by repeat (first | (with_reducible first | exact HB.out | apply below_alloc | apply pw_below_drewN | apply below_drew1) | exact HB.out)⟩
                         rw [if_neg c102] at H
                         have c102b0 : (x22_6 != t265) = false := by simpa using c102
                         (try (have c102b1 : decide (x22_6 = t265) = true := by simpa using c102))
                         (try (have c102b2 : (x22_6 == t265) = true := by simpa using c102))
                         clear c102
                         (first | rw [c102b0] | (simp only [i64_w, i32_w]; rw [c102b0]) | (rw [c102b2]; simp only [Bool.not_false, Bool.not_true]) | skip)
                         have H' := aS H
                         clear H
                         go_wp2
                         repeat (go_quiet (fail); try go_wp2)
                         go_roundg k6
                         case measure => have := HK1.out; have := HJ23.out; have := HJ30.out; have := HK4.out; have := HJ47.out; have := HK6.out; omega
                         case rel => exact ⟨(t247), (wrap64 (x15_4 + 1)), (by first | rfl | (simp; done) | (simp [*]; done) | (simp only [i64_w]; done) | (simp [i64_w]; done)), H', ⟨by have := HK1.out; have := HJ23.out; have := HJ30.out; have := HK4.out; have := HJ47.out; have := HK6.out; omega⟩, ⟨by (with_reducible repeat (first | apply Kd.R_alloc | apply Kd.R_drewN | apply Kd.R_drew)); exact HO_5.out⟩, ⟨by (with_reducible repeat (first | apply Kd.R_alloc | apply Kd.R_drewN | apply Kd.R_drew)); exact HO_12.out⟩, ⟨by (with_reducible repeat (first | apply Kd.R_alloc | apply Kd.R_drewN | apply Kd.R_drew)); exact HO_14.out⟩, ⟨by repeat (first | (with_reducible first | exact HB.out | apply below_alloc | apply pw_below_drewN | apply below_drew1) | exact HB.out)⟩⟩
                        rw [if_pos c65] at H
                        have c65b0 : decide (x23_6 < (t225.length : Int)) = true := decide_eq_true c65
                        clear c65
                        by_cases c66 : 0 ≤ x23_6
                        rotate_left
                        ·
                         rw [if_neg c66] at H
                         exact absurd H (by simp)
                        rw [if_pos c66] at H
                        have c66b0 : decide (0 ≤ x23_6) = true := decide_eq_true c66
                        clear c66
                        by_cases c67 : 0 ≤ x15_4
                        rotate_left
                        ·
                         rw [if_neg c67] at H
                         exact absurd H (by simp)
                        rw [if_pos c67] at H
                        have c67b0 : decide (0 ≤ x15_4) = true := decide_eq_true c67
                        clear c67
                        by_cases c68 : x15_4 < (t225.length : Int)
                        rotate_left
                        ·
                         rw [if_neg c68] at H
                         exact absurd H (by simp)
                        rw [if_pos c68] at H
                        have c68b0 : decide (x15_4 < (t225.length : Int)) = true := decide_eq_true c68
                        clear c68
                        have HC69 := aS H
                        clear H
                        have p261 : 0 ≤ (x23_6 : Int) := of_decide_eq_true (by first | (with_reducible assumption) | assumption)
                        have q261 : x23_6 < (t225.length : Int) := of_decide_eq_true (by first | (with_reducible assumption) | assumption)
                        obtain ⟨ad261, e261, hx261_0, hx261_1, hx261_2, hx261_3⟩ := at_T68 (Kd.R_reads' HO_5.out).2.2 x23_6 p261 q261
                        obtain rfl : ad246 = ad261 := (by injection e261)
                        replace p261 := eq_true p261
                        replace q261 := eq_true q261
                        go_upto_region 36 with (first | ((with_reducible refine gate_dst (N := 24) rfl ?_); (try (refine gate_guard (by rfl) ?_; dsimp only)); refine box_event ?hg (N := 24) ?hd (cs := #[.string (⟨#[]⟩ : ByteArray), .int .i64 0, .int .i64 0, .int .i64 0]) (t := 68) ?hr ?_; (case hd => rfl); (case hg => rfl); (case hr => first | (go_simp; done) | (go_simp; rfl)); intro gb262 hg w70 hbox hb; have n0_ := aS (Kd.R_below (Kd.R_elderB (sR HO_5.out) gb262 (Nat.le_of_eq hg.symm)) hb); have n1_ := aS (Kd.R_below (sR HO_12.out) hb); have n2_ := aS (Kd.R_below (Kd.R_elderB (sR HO_14.out) gb262 (Nat.le_of_eq hg.symm)) hb); have n3_ := aS (below_step (sW HB.out) hb); have n4_ := aS (hbox); have n5_ := aS ((by rw [hg]; exact (below_size (sW HB.out)) : w.heap.size ≤ gb262)); have n6_ := aS ((by rw [hg]; exact (below_size (sW HB.out)) : w.heap.size ≤ gb262)); clear HO_5 HO_12 HO_14 HB; have HO_5 := n0_; have HO_12 := n1_; have HO_14 := n2_; have HB := n3_; have BK262 := n4_; have GW262 := n5_; have GE262 := n6_; clear n0_ n1_ n2_ n3_ n4_ n5_ n6_; clear hb hbox hg; have hcz71_0 : w70.cell? ⟨gb262, 0, none⟩ = some (.string (⟨#[]⟩ : ByteArray)) := (blk_cell BK262.out 0).trans rfl; have hcz71_1 : w70.cell? ⟨gb262, 1, none⟩ = some (.int .i64 0) := (blk_cell BK262.out 1).trans rfl; have hcz71_2 : w70.cell? ⟨gb262, 2, none⟩ = some (.int .i64 0) := (blk_cell BK262.out 2).trans rfl; have hcz71_3 : w70.cell? ⟨gb262, 3, none⟩ = some (.int .i64 0) := (blk_cell BK262.out 3).trans rfl; have hfz71_0 := blk_frozen BK262.out 0; have hfz71_1 := blk_frozen BK262.out 1; have hfz71_2 := blk_frozen BK262.out 2; have hfz71_3 := blk_frozen BK262.out 3; have p263 : 0 ≤ (x15_4 : Int) := of_decide_eq_true (by first | (with_reducible assumption) | assumption); have q263 : x15_4 < (t225.length : Int) := of_decide_eq_true (by first | (with_reducible assumption) | assumption); obtain ⟨ad263, e263, hx263_0, hx263_1, hx263_2, hx263_3⟩ := at_T68 (Kd.R_reads' HO_5.out).2.2 x15_4 p263 q263; obtain rfl : ad246 = ad263 := (by injection e263); have hn263_0 : ad246.block ≠ gb262 := Kd.own_blk (Kd.R_away HO_5.out (fun k_ hk_ => hk_.2)); have hn263_1 : ad246.block ≠ gb262 := Kd.own_blk (Kd.R_away HO_5.out (fun k_ hk_ => hk_.2)); have hn263_2 : ad246.block ≠ gb262 := Kd.own_blk (Kd.R_away HO_5.out (fun k_ hk_ => hk_.2)); have hn263_3 : ad246.block ≠ gb262 := Kd.own_blk (Kd.R_away HO_5.out (fun k_ hk_ => hk_.2)); replace hx263_0 := (cell_far (p := ⟨gb262, 0, none⟩) (by first | (rw [add_block]; exact hn263_0) | (show (Addr.add _ _).block ≠ _; rw [add_block]; exact hn263_0) | exact hn263_0) (.string ((rd_T68 t225 x23_6).f0))).trans hx263_0; replace hx263_1 := (cell_far (p := ⟨gb262, 0, none⟩) (by first | (rw [add_block]; exact hn263_0) | (show (Addr.add _ _).block ≠ _; rw [add_block]; exact hn263_0) | exact hn263_0) (.string ((rd_T68 t225 x23_6).f0))).trans hx263_1; replace hx263_2 := (cell_far (p := ⟨gb262, 0, none⟩) (by first | (rw [add_block]; exact hn263_0) | (show (Addr.add _ _).block ≠ _; rw [add_block]; exact hn263_0) | exact hn263_0) (.string ((rd_T68 t225 x23_6).f0))).trans hx263_2; replace hx263_3 := (cell_far (p := ⟨gb262, 0, none⟩) (by first | (rw [add_block]; exact hn263_0) | (show (Addr.add _ _).block ≠ _; rw [add_block]; exact hn263_0) | exact hn263_0) (.string ((rd_T68 t225 x23_6).f0))).trans hx263_3; replace hx263_0 := (cell_far (p := ⟨gb262, 1, none⟩) (by first | (rw [add_block]; exact hn263_1) | (show (Addr.add _ _).block ≠ _; rw [add_block]; exact hn263_1) | exact hn263_1) (.int .i64 ((rd_T68 t225 x23_6).f1))).trans hx263_0; replace hx263_1 := (cell_far (p := ⟨gb262, 1, none⟩) (by first | (rw [add_block]; exact hn263_1) | (show (Addr.add _ _).block ≠ _; rw [add_block]; exact hn263_1) | exact hn263_1) (.int .i64 ((rd_T68 t225 x23_6).f1))).trans hx263_1; replace hx263_2 := (cell_far (p := ⟨gb262, 1, none⟩) (by first | (rw [add_block]; exact hn263_1) | (show (Addr.add _ _).block ≠ _; rw [add_block]; exact hn263_1) | exact hn263_1) (.int .i64 ((rd_T68 t225 x23_6).f1))).trans hx263_2; replace hx263_3 := (cell_far (p := ⟨gb262, 1, none⟩) (by first | (rw [add_block]; exact hn263_1) | (show (Addr.add _ _).block ≠ _; rw [add_block]; exact hn263_1) | exact hn263_1) (.int .i64 ((rd_T68 t225 x23_6).f1))).trans hx263_3; replace hx263_0 := (cell_far (p := ⟨gb262, 2, none⟩) (by first | (rw [add_block]; exact hn263_2) | (show (Addr.add _ _).block ≠ _; rw [add_block]; exact hn263_2) | exact hn263_2) (.int .i64 ((rd_T68 t225 x23_6).f2))).trans hx263_0; replace hx263_1 := (cell_far (p := ⟨gb262, 2, none⟩) (by first | (rw [add_block]; exact hn263_2) | (show (Addr.add _ _).block ≠ _; rw [add_block]; exact hn263_2) | exact hn263_2) (.int .i64 ((rd_T68 t225 x23_6).f2))).trans hx263_1; replace hx263_2 := (cell_far (p := ⟨gb262, 2, none⟩) (by first | (rw [add_block]; exact hn263_2) | (show (Addr.add _ _).block ≠ _; rw [add_block]; exact hn263_2) | exact hn263_2) (.int .i64 ((rd_T68 t225 x23_6).f2))).trans hx263_2; replace hx263_3 := (cell_far (p := ⟨gb262, 2, none⟩) (by first | (rw [add_block]; exact hn263_2) | (show (Addr.add _ _).block ≠ _; rw [add_block]; exact hn263_2) | exact hn263_2) (.int .i64 ((rd_T68 t225 x23_6).f2))).trans hx263_3; replace hx263_0 := (cell_far (p := ⟨gb262, 3, none⟩) (by first | (rw [add_block]; exact hn263_3) | (show (Addr.add _ _).block ≠ _; rw [add_block]; exact hn263_3) | exact hn263_3) (.int .i64 ((rd_T68 t225 x23_6).f3))).trans hx263_0; replace hx263_1 := (cell_far (p := ⟨gb262, 3, none⟩) (by first | (rw [add_block]; exact hn263_3) | (show (Addr.add _ _).block ≠ _; rw [add_block]; exact hn263_3) | exact hn263_3) (.int .i64 ((rd_T68 t225 x23_6).f3))).trans hx263_1; replace hx263_2 := (cell_far (p := ⟨gb262, 3, none⟩) (by first | (rw [add_block]; exact hn263_3) | (show (Addr.add _ _).block ≠ _; rw [add_block]; exact hn263_3) | exact hn263_3) (.int .i64 ((rd_T68 t225 x23_6).f3))).trans hx263_2; replace hx263_3 := (cell_far (p := ⟨gb262, 3, none⟩) (by first | (rw [add_block]; exact hn263_3) | (show (Addr.add _ _).block ≠ _; rw [add_block]; exact hn263_3) | exact hn263_3) (.int .i64 ((rd_T68 t225 x23_6).f3))).trans hx263_3; (try have hy263_0 := fun (n_ : Nat) => (show ((((((w70.drewN n_).setCell ⟨gb262, 0, none⟩ (.string ((rd_T68 t225 x23_6).f0))).setCell ⟨gb262, 1, none⟩ (.int .i64 ((rd_T68 t225 x23_6).f1))).setCell ⟨gb262, 2, none⟩ (.int .i64 ((rd_T68 t225 x23_6).f2))).setCell ⟨gb262, 3, none⟩ (.int .i64 ((rd_T68 t225 x23_6).f3)))).cell? _ = some _ from hx263_0)); (try have hy263_1 := fun (n_ : Nat) => (show ((((((w70.drewN n_).setCell ⟨gb262, 0, none⟩ (.string ((rd_T68 t225 x23_6).f0))).setCell ⟨gb262, 1, none⟩ (.int .i64 ((rd_T68 t225 x23_6).f1))).setCell ⟨gb262, 2, none⟩ (.int .i64 ((rd_T68 t225 x23_6).f2))).setCell ⟨gb262, 3, none⟩ (.int .i64 ((rd_T68 t225 x23_6).f3)))).cell? _ = some _ from hx263_1)); (try have hy263_2 := fun (n_ : Nat) => (show ((((((w70.drewN n_).setCell ⟨gb262, 0, none⟩ (.string ((rd_T68 t225 x23_6).f0))).setCell ⟨gb262, 1, none⟩ (.int .i64 ((rd_T68 t225 x23_6).f1))).setCell ⟨gb262, 2, none⟩ (.int .i64 ((rd_T68 t225 x23_6).f2))).setCell ⟨gb262, 3, none⟩ (.int .i64 ((rd_T68 t225 x23_6).f3)))).cell? _ = some _ from hx263_2)); (try have hy263_3 := fun (n_ : Nat) => (show ((((((w70.drewN n_).setCell ⟨gb262, 0, none⟩ (.string ((rd_T68 t225 x23_6).f0))).setCell ⟨gb262, 1, none⟩ (.int .i64 ((rd_T68 t225 x23_6).f1))).setCell ⟨gb262, 2, none⟩ (.int .i64 ((rd_T68 t225 x23_6).f2))).setCell ⟨gb262, 3, none⟩ (.int .i64 ((rd_T68 t225 x23_6).f3)))).cell? _ = some _ from hx263_3)); clear hn263_0 hn263_1 hn263_2 hn263_3; replace p263 := eq_true p263; replace q263 := eq_true q263) | ((with_reducible refine gate_dst (N := 25) rfl ?_); (try (refine gate_guard (by rfl) ?_; dsimp only)); refine box_event ?hg (N := 25) ?hd (cs := #[.string (⟨#[]⟩ : ByteArray), .int .i64 0, .int .i64 0, .int .i64 0]) (t := 68) ?hr ?_; (case hd => rfl); (case hg => rfl); (case hr => first | (go_simp; done) | (go_simp; rfl)); intro gb264 hg w72 hbox hb; have n0_ := aS (Kd.R_below (Kd.R_elderB (sR (Kd.R_mono (Kd.R_far (p := ⟨gb262, 3, none⟩) (Kd.R_far (p := ⟨gb262, 2, none⟩) (Kd.R_far (p := ⟨gb262, 1, none⟩) (Kd.R_far (p := ⟨gb262, 0, none⟩) (Kd.R_mono HO_5.out (fun k_ hk => (⟨hk, hk.2⟩ : _ ∧ k_ ≠ gb262))) (fun _ hk => hk.2) (.string ((rd_T68 t225 x23_6).f0))) (fun _ hk => hk.2) (.int .i64 ((rd_T68 t225 x23_6).f1))) (fun _ hk => hk.2) (.int .i64 ((rd_T68 t225 x23_6).f2))) (fun _ hk => hk.2) (.int .i64 ((rd_T68 t225 x23_6).f3))) (fun _ h_ => h_.1))) gb264 (Nat.le_of_eq hg.symm)) hb); have n1_ := aS (Kd.R_below (sR (Kd.R_mono (Kd.R_far (p := ⟨gb262, 3, none⟩) (Kd.R_far (p := ⟨gb262, 2, none⟩) (Kd.R_far (p := ⟨gb262, 1, none⟩) (Kd.R_far (p := ⟨gb262, 0, none⟩) (Kd.R_types HO_12.out BK262.out (by decide)) (fun _ hk => hk.2) (.string ((rd_T68 t225 x23_6).f0))) (fun _ hk => hk.2) (.int .i64 ((rd_T68 t225 x23_6).f1))) (fun _ hk => hk.2) (.int .i64 ((rd_T68 t225 x23_6).f2))) (fun _ hk => hk.2) (.int .i64 ((rd_T68 t225 x23_6).f3))) (fun _ h_ => h_.1))) hb); have n2_ := aS (Kd.R_below (Kd.R_elderB (sR (Kd.R_mono (Kd.R_far (p := ⟨gb262, 3, none⟩) (Kd.R_far (p := ⟨gb262, 2, none⟩) (Kd.R_far (p := ⟨gb262, 1, none⟩) (Kd.R_far (p := ⟨gb262, 0, none⟩) (Kd.R_mono HO_14.out (fun k_ hk => (⟨hk, hk.2⟩ : _ ∧ k_ ≠ gb262))) (fun _ hk => hk.2) (.string ((rd_T68 t225 x23_6).f0))) (fun _ hk => hk.2) (.int .i64 ((rd_T68 t225 x23_6).f1))) (fun _ hk => hk.2) (.int .i64 ((rd_T68 t225 x23_6).f2))) (fun _ hk => hk.2) (.int .i64 ((rd_T68 t225 x23_6).f3))) (fun _ h_ => h_.1))) gb264 (Nat.le_of_eq hg.symm)) hb); have n3_ := aS (blk_below (g := gb262) (o := .cells #[.string ((rd_T68 t225 x23_6).f0), .int .i64 ((rd_T68 t225 x23_6).f1), .int .i64 ((rd_T68 t225 x23_6).f2), .int .i64 ((rd_T68 t225 x23_6).f3)] 68 (0, 0)) (by (with_reducible repeat (first | refine blk_drewN ?_ _ | refine blk_drew ?_ | refine blk_alloc ?_ _)); refine blk_put (cs := #[.string ((rd_T68 t225 x23_6).f0), .int .i64 ((rd_T68 t225 x23_6).f1), .int .i64 ((rd_T68 t225 x23_6).f2), .int .i64 0]) ?_ 3 _ rfl; (with_reducible repeat (first | refine blk_drewN ?_ _ | refine blk_drew ?_ | refine blk_alloc ?_ _)); refine blk_put (cs := #[.string ((rd_T68 t225 x23_6).f0), .int .i64 ((rd_T68 t225 x23_6).f1), .int .i64 0, .int .i64 0]) ?_ 2 _ rfl; (with_reducible repeat (first | refine blk_drewN ?_ _ | refine blk_drew ?_ | refine blk_alloc ?_ _)); refine blk_put (cs := #[.string ((rd_T68 t225 x23_6).f0), .int .i64 0, .int .i64 0, .int .i64 0]) ?_ 1 _ rfl; (with_reducible repeat (first | refine blk_drewN ?_ _ | refine blk_drew ?_ | refine blk_alloc ?_ _)); refine blk_put (cs := #[.string (⟨#[]⟩ : ByteArray), .int .i64 0, .int .i64 0, .int .i64 0]) ?_ 0 _ rfl; (with_reducible repeat (first | refine blk_drewN ?_ _ | refine blk_drew ?_ | refine blk_alloc ?_ _)); exact BK262.out) hb); have n4_ := aS (below_step (sW HB.out) hb); have n5_ := aS (hbox); have n6_ := aS ((by rw [hg]; exact (below_size (sW HB.out)) : w.heap.size ≤ gb264)); have n7_ := aS ((by rw [hg]; exact (below_size (sW HB.out)) : w.heap.size ≤ gb264)); have n8_ := aS ((by rw [hg]; exact Nat.ne_of_lt (blk_lt (g := gb262) (o := .cells #[.string ((rd_T68 t225 x23_6).f0), .int .i64 ((rd_T68 t225 x23_6).f1), .int .i64 ((rd_T68 t225 x23_6).f2), .int .i64 ((rd_T68 t225 x23_6).f3)] 68 (0, 0)) (by (with_reducible repeat (first | refine blk_drewN ?_ _ | refine blk_drew ?_ | refine blk_alloc ?_ _)); refine blk_put (cs := #[.string ((rd_T68 t225 x23_6).f0), .int .i64 ((rd_T68 t225 x23_6).f1), .int .i64 ((rd_T68 t225 x23_6).f2), .int .i64 0]) ?_ 3 _ rfl; (with_reducible repeat (first | refine blk_drewN ?_ _ | refine blk_drew ?_ | refine blk_alloc ?_ _)); refine blk_put (cs := #[.string ((rd_T68 t225 x23_6).f0), .int .i64 ((rd_T68 t225 x23_6).f1), .int .i64 0, .int .i64 0]) ?_ 2 _ rfl; (with_reducible repeat (first | refine blk_drewN ?_ _ | refine blk_drew ?_ | refine blk_alloc ?_ _)); refine blk_put (cs := #[.string ((rd_T68 t225 x23_6).f0), .int .i64 0, .int .i64 0, .int .i64 0]) ?_ 1 _ rfl; (with_reducible repeat (first | refine blk_drewN ?_ _ | refine blk_drew ?_ | refine blk_alloc ?_ _)); refine blk_put (cs := #[.string (⟨#[]⟩ : ByteArray), .int .i64 0, .int .i64 0, .int .i64 0]) ?_ 0 _ rfl; (with_reducible repeat (first | refine blk_drewN ?_ _ | refine blk_drew ?_ | refine blk_alloc ?_ _)); exact BK262.out)) : gb262 ≠ gb264)); have n9_ := aS ((by rw [hg]; exact Nat.ne_of_gt (blk_lt (g := gb262) (o := .cells #[.string ((rd_T68 t225 x23_6).f0), .int .i64 ((rd_T68 t225 x23_6).f1), .int .i64 ((rd_T68 t225 x23_6).f2), .int .i64 ((rd_T68 t225 x23_6).f3)] 68 (0, 0)) (by (with_reducible repeat (first | refine blk_drewN ?_ _ | refine blk_drew ?_ | refine blk_alloc ?_ _)); refine blk_put (cs := #[.string ((rd_T68 t225 x23_6).f0), .int .i64 ((rd_T68 t225 x23_6).f1), .int .i64 ((rd_T68 t225 x23_6).f2), .int .i64 0]) ?_ 3 _ rfl; (with_reducible repeat (first | refine blk_drewN ?_ _ | refine blk_drew ?_ | refine blk_alloc ?_ _)); refine blk_put (cs := #[.string ((rd_T68 t225 x23_6).f0), .int .i64 ((rd_T68 t225 x23_6).f1), .int .i64 0, .int .i64 0]) ?_ 2 _ rfl; (with_reducible repeat (first | refine blk_drewN ?_ _ | refine blk_drew ?_ | refine blk_alloc ?_ _)); refine blk_put (cs := #[.string ((rd_T68 t225 x23_6).f0), .int .i64 0, .int .i64 0, .int .i64 0]) ?_ 1 _ rfl; (with_reducible repeat (first | refine blk_drewN ?_ _ | refine blk_drew ?_ | refine blk_alloc ?_ _)); refine blk_put (cs := #[.string (⟨#[]⟩ : ByteArray), .int .i64 0, .int .i64 0, .int .i64 0]) ?_ 0 _ rfl; (with_reducible repeat (first | refine blk_drewN ?_ _ | refine blk_drew ?_ | refine blk_alloc ?_ _)); exact BK262.out)) : gb264 ≠ gb262)); clear HO_5 HO_12 HO_14 BK262 HB; have HO_5 := n0_; have HO_12 := n1_; have HO_14 := n2_; have BK262 := n3_; have HB := n4_; have BK264 := n5_; have GW264 := n6_; have GE264 := n7_; have NB262_264 := n8_; have NB264_262 := n9_; clear n0_ n1_ n2_ n3_ n4_ n5_ n6_ n7_ n8_ n9_; clear hb hbox hg; have hnb73 := NB264_262.out; have hnc73 := NB262_264.out; have hcz74_0 : w72.cell? ⟨gb264, 0, none⟩ = some (.string (⟨#[]⟩ : ByteArray)) := (blk_cell BK264.out 0).trans rfl; have hcz74_1 : w72.cell? ⟨gb264, 1, none⟩ = some (.int .i64 0) := (blk_cell BK264.out 1).trans rfl; have hcz74_2 : w72.cell? ⟨gb264, 2, none⟩ = some (.int .i64 0) := (blk_cell BK264.out 2).trans rfl; have hcz74_3 : w72.cell? ⟨gb264, 3, none⟩ = some (.int .i64 0) := (blk_cell BK264.out 3).trans rfl; have hfz74_0 := blk_frozen BK264.out 0; have hfz74_1 := blk_frozen BK264.out 1; have hfz74_2 := blk_frozen BK264.out 2; have hfz74_3 := blk_frozen BK264.out 3))
                        repeat (go_quiet (first | ((with_reducible refine gate_dst (N := 24) rfl ?_); (try (refine gate_guard (by rfl) ?_; dsimp only)); refine box_event ?hg (N := 24) ?hd (cs := #[.string (⟨#[]⟩ : ByteArray), .int .i64 0, .int .i64 0, .int .i64 0]) (t := 68) ?hr ?_; (case hd => rfl); (case hg => rfl); (case hr => first | (go_simp; done) | (go_simp; rfl)); intro gb262 hg w70 hbox hb; have n0_ := aS (Kd.R_below (Kd.R_elderB (sR HO_5.out) gb262 (Nat.le_of_eq hg.symm)) hb); have n1_ := aS (Kd.R_below (sR HO_12.out) hb); have n2_ := aS (Kd.R_below (Kd.R_elderB (sR HO_14.out) gb262 (Nat.le_of_eq hg.symm)) hb); have n3_ := aS (below_step (sW HB.out) hb); have n4_ := aS (hbox); have n5_ := aS ((by rw [hg]; exact (below_size (sW HB.out)) : w.heap.size ≤ gb262)); have n6_ := aS ((by rw [hg]; exact (below_size (sW HB.out)) : w.heap.size ≤ gb262)); clear HO_5 HO_12 HO_14 HB; have HO_5 := n0_; have HO_12 := n1_; have HO_14 := n2_; have HB := n3_; have BK262 := n4_; have GW262 := n5_; have GE262 := n6_; clear n0_ n1_ n2_ n3_ n4_ n5_ n6_; clear hb hbox hg; have hcz71_0 : w70.cell? ⟨gb262, 0, none⟩ = some (.string (⟨#[]⟩ : ByteArray)) := (blk_cell BK262.out 0).trans rfl; have hcz71_1 : w70.cell? ⟨gb262, 1, none⟩ = some (.int .i64 0) := (blk_cell BK262.out 1).trans rfl; have hcz71_2 : w70.cell? ⟨gb262, 2, none⟩ = some (.int .i64 0) := (blk_cell BK262.out 2).trans rfl; have hcz71_3 : w70.cell? ⟨gb262, 3, none⟩ = some (.int .i64 0) := (blk_cell BK262.out 3).trans rfl; have hfz71_0 := blk_frozen BK262.out 0; have hfz71_1 := blk_frozen BK262.out 1; have hfz71_2 := blk_frozen BK262.out 2; have hfz71_3 := blk_frozen BK262.out 3; have p263 : 0 ≤ (x15_4 : Int) := of_decide_eq_true (by first | (with_reducible assumption) | assumption); have q263 : x15_4 < (t225.length : Int) := of_decide_eq_true (by first | (with_reducible assumption) | assumption); obtain ⟨ad263, e263, hx263_0, hx263_1, hx263_2, hx263_3⟩ := at_T68 (Kd.R_reads' HO_5.out).2.2 x15_4 p263 q263; obtain rfl : ad246 = ad263 := (by injection e263); have hn263_0 : ad246.block ≠ gb262 := Kd.own_blk (Kd.R_away HO_5.out (fun k_ hk_ => hk_.2)); have hn263_1 : ad246.block ≠ gb262 := Kd.own_blk (Kd.R_away HO_5.out (fun k_ hk_ => hk_.2)); have hn263_2 : ad246.block ≠ gb262 := Kd.own_blk (Kd.R_away HO_5.out (fun k_ hk_ => hk_.2)); have hn263_3 : ad246.block ≠ gb262 := Kd.own_blk (Kd.R_away HO_5.out (fun k_ hk_ => hk_.2)); replace hx263_0 := (cell_far (p := ⟨gb262, 0, none⟩) (by first | (rw [add_block]; exact hn263_0) | (show (Addr.add _ _).block ≠ _; rw [add_block]; exact hn263_0) | exact hn263_0) (.string ((rd_T68 t225 x23_6).f0))).trans hx263_0; replace hx263_1 := (cell_far (p := ⟨gb262, 0, none⟩) (by first | (rw [add_block]; exact hn263_0) | (show (Addr.add _ _).block ≠ _; rw [add_block]; exact hn263_0) | exact hn263_0) (.string ((rd_T68 t225 x23_6).f0))).trans hx263_1; replace hx263_2 := (cell_far (p := ⟨gb262, 0, none⟩) (by first | (rw [add_block]; exact hn263_0) | (show (Addr.add _ _).block ≠ _; rw [add_block]; exact hn263_0) | exact hn263_0) (.string ((rd_T68 t225 x23_6).f0))).trans hx263_2; replace hx263_3 := (cell_far (p := ⟨gb262, 0, none⟩) (by first | (rw [add_block]; exact hn263_0) | (show (Addr.add _ _).block ≠ _; rw [add_block]; exact hn263_0) | exact hn263_0) (.string ((rd_T68 t225 x23_6).f0))).trans hx263_3; replace hx263_0 := (cell_far (p := ⟨gb262, 1, none⟩) (by first | (rw [add_block]; exact hn263_1) | (show (Addr.add _ _).block ≠ _; rw [add_block]; exact hn263_1) | exact hn263_1) (.int .i64 ((rd_T68 t225 x23_6).f1))).trans hx263_0; replace hx263_1 := (cell_far (p := ⟨gb262, 1, none⟩) (by first | (rw [add_block]; exact hn263_1) | (show (Addr.add _ _).block ≠ _; rw [add_block]; exact hn263_1) | exact hn263_1) (.int .i64 ((rd_T68 t225 x23_6).f1))).trans hx263_1; replace hx263_2 := (cell_far (p := ⟨gb262, 1, none⟩) (by first | (rw [add_block]; exact hn263_1) | (show (Addr.add _ _).block ≠ _; rw [add_block]; exact hn263_1) | exact hn263_1) (.int .i64 ((rd_T68 t225 x23_6).f1))).trans hx263_2; replace hx263_3 := (cell_far (p := ⟨gb262, 1, none⟩) (by first | (rw [add_block]; exact hn263_1) | (show (Addr.add _ _).block ≠ _; rw [add_block]; exact hn263_1) | exact hn263_1) (.int .i64 ((rd_T68 t225 x23_6).f1))).trans hx263_3; replace hx263_0 := (cell_far (p := ⟨gb262, 2, none⟩) (by first | (rw [add_block]; exact hn263_2) | (show (Addr.add _ _).block ≠ _; rw [add_block]; exact hn263_2) | exact hn263_2) (.int .i64 ((rd_T68 t225 x23_6).f2))).trans hx263_0; replace hx263_1 := (cell_far (p := ⟨gb262, 2, none⟩) (by first | (rw [add_block]; exact hn263_2) | (show (Addr.add _ _).block ≠ _; rw [add_block]; exact hn263_2) | exact hn263_2) (.int .i64 ((rd_T68 t225 x23_6).f2))).trans hx263_1; replace hx263_2 := (cell_far (p := ⟨gb262, 2, none⟩) (by first | (rw [add_block]; exact hn263_2) | (show (Addr.add _ _).block ≠ _; rw [add_block]; exact hn263_2) | exact hn263_2) (.int .i64 ((rd_T68 t225 x23_6).f2))).trans hx263_2; replace hx263_3 := (cell_far (p := ⟨gb262, 2, none⟩) (by first | (rw [add_block]; exact hn263_2) | (show (Addr.add _ _).block ≠ _; rw [add_block]; exact hn263_2) | exact hn263_2) (.int .i64 ((rd_T68 t225 x23_6).f2))).trans hx263_3; replace hx263_0 := (cell_far (p := ⟨gb262, 3, none⟩) (by first | (rw [add_block]; exact hn263_3) | (show (Addr.add _ _).block ≠ _; rw [add_block]; exact hn263_3) | exact hn263_3) (.int .i64 ((rd_T68 t225 x23_6).f3))).trans hx263_0; replace hx263_1 := (cell_far (p := ⟨gb262, 3, none⟩) (by first | (rw [add_block]; exact hn263_3) | (show (Addr.add _ _).block ≠ _; rw [add_block]; exact hn263_3) | exact hn263_3) (.int .i64 ((rd_T68 t225 x23_6).f3))).trans hx263_1; replace hx263_2 := (cell_far (p := ⟨gb262, 3, none⟩) (by first | (rw [add_block]; exact hn263_3) | (show (Addr.add _ _).block ≠ _; rw [add_block]; exact hn263_3) | exact hn263_3) (.int .i64 ((rd_T68 t225 x23_6).f3))).trans hx263_2; replace hx263_3 := (cell_far (p := ⟨gb262, 3, none⟩) (by first | (rw [add_block]; exact hn263_3) | (show (Addr.add _ _).block ≠ _; rw [add_block]; exact hn263_3) | exact hn263_3) (.int .i64 ((rd_T68 t225 x23_6).f3))).trans hx263_3; (try have hy263_0 := fun (n_ : Nat) => (show ((((((w70.drewN n_).setCell ⟨gb262, 0, none⟩ (.string ((rd_T68 t225 x23_6).f0))).setCell ⟨gb262, 1, none⟩ (.int .i64 ((rd_T68 t225 x23_6).f1))).setCell ⟨gb262, 2, none⟩ (.int .i64 ((rd_T68 t225 x23_6).f2))).setCell ⟨gb262, 3, none⟩ (.int .i64 ((rd_T68 t225 x23_6).f3)))).cell? _ = some _ from hx263_0)); (try have hy263_1 := fun (n_ : Nat) => (show ((((((w70.drewN n_).setCell ⟨gb262, 0, none⟩ (.string ((rd_T68 t225 x23_6).f0))).setCell ⟨gb262, 1, none⟩ (.int .i64 ((rd_T68 t225 x23_6).f1))).setCell ⟨gb262, 2, none⟩ (.int .i64 ((rd_T68 t225 x23_6).f2))).setCell ⟨gb262, 3, none⟩ (.int .i64 ((rd_T68 t225 x23_6).f3)))).cell? _ = some _ from hx263_1)); (try have hy263_2 := fun (n_ : Nat) => (show ((((((w70.drewN n_).setCell ⟨gb262, 0, none⟩ (.string ((rd_T68 t225 x23_6).f0))).setCell ⟨gb262, 1, none⟩ (.int .i64 ((rd_T68 t225 x23_6).f1))).setCell ⟨gb262, 2, none⟩ (.int .i64 ((rd_T68 t225 x23_6).f2))).setCell ⟨gb262, 3, none⟩ (.int .i64 ((rd_T68 t225 x23_6).f3)))).cell? _ = some _ from hx263_2)); (try have hy263_3 := fun (n_ : Nat) => (show ((((((w70.drewN n_).setCell ⟨gb262, 0, none⟩ (.string ((rd_T68 t225 x23_6).f0))).setCell ⟨gb262, 1, none⟩ (.int .i64 ((rd_T68 t225 x23_6).f1))).setCell ⟨gb262, 2, none⟩ (.int .i64 ((rd_T68 t225 x23_6).f2))).setCell ⟨gb262, 3, none⟩ (.int .i64 ((rd_T68 t225 x23_6).f3)))).cell? _ = some _ from hx263_3)); clear hn263_0 hn263_1 hn263_2 hn263_3; replace p263 := eq_true p263; replace q263 := eq_true q263) | ((with_reducible refine gate_dst (N := 25) rfl ?_); (try (refine gate_guard (by rfl) ?_; dsimp only)); refine box_event ?hg (N := 25) ?hd (cs := #[.string (⟨#[]⟩ : ByteArray), .int .i64 0, .int .i64 0, .int .i64 0]) (t := 68) ?hr ?_; (case hd => rfl); (case hg => rfl); (case hr => first | (go_simp; done) | (go_simp; rfl)); intro gb264 hg w72 hbox hb; have n0_ := aS (Kd.R_below (Kd.R_elderB (sR (Kd.R_mono (Kd.R_far (p := ⟨gb262, 3, none⟩) (Kd.R_far (p := ⟨gb262, 2, none⟩) (Kd.R_far (p := ⟨gb262, 1, none⟩) (Kd.R_far (p := ⟨gb262, 0, none⟩) (Kd.R_mono HO_5.out (fun k_ hk => (⟨hk, hk.2⟩ : _ ∧ k_ ≠ gb262))) (fun _ hk => hk.2) (.string ((rd_T68 t225 x23_6).f0))) (fun _ hk => hk.2) (.int .i64 ((rd_T68 t225 x23_6).f1))) (fun _ hk => hk.2) (.int .i64 ((rd_T68 t225 x23_6).f2))) (fun _ hk => hk.2) (.int .i64 ((rd_T68 t225 x23_6).f3))) (fun _ h_ => h_.1))) gb264 (Nat.le_of_eq hg.symm)) hb); have n1_ := aS (Kd.R_below (sR (Kd.R_mono (Kd.R_far (p := ⟨gb262, 3, none⟩) (Kd.R_far (p := ⟨gb262, 2, none⟩) (Kd.R_far (p := ⟨gb262, 1, none⟩) (Kd.R_far (p := ⟨gb262, 0, none⟩) (Kd.R_types HO_12.out BK262.out (by decide)) (fun _ hk => hk.2) (.string ((rd_T68 t225 x23_6).f0))) (fun _ hk => hk.2) (.int .i64 ((rd_T68 t225 x23_6).f1))) (fun _ hk => hk.2) (.int .i64 ((rd_T68 t225 x23_6).f2))) (fun _ hk => hk.2) (.int .i64 ((rd_T68 t225 x23_6).f3))) (fun _ h_ => h_.1))) hb); have n2_ := aS (Kd.R_below (Kd.R_elderB (sR (Kd.R_mono (Kd.R_far (p := ⟨gb262, 3, none⟩) (Kd.R_far (p := ⟨gb262, 2, none⟩) (Kd.R_far (p := ⟨gb262, 1, none⟩) (Kd.R_far (p := ⟨gb262, 0, none⟩) (Kd.R_mono HO_14.out (fun k_ hk => (⟨hk, hk.2⟩ : _ ∧ k_ ≠ gb262))) (fun _ hk => hk.2) (.string ((rd_T68 t225 x23_6).f0))) (fun _ hk => hk.2) (.int .i64 ((rd_T68 t225 x23_6).f1))) (fun _ hk => hk.2) (.int .i64 ((rd_T68 t225 x23_6).f2))) (fun _ hk => hk.2) (.int .i64 ((rd_T68 t225 x23_6).f3))) (fun _ h_ => h_.1))) gb264 (Nat.le_of_eq hg.symm)) hb); have n3_ := aS (blk_below (g := gb262) (o := .cells #[.string ((rd_T68 t225 x23_6).f0), .int .i64 ((rd_T68 t225 x23_6).f1), .int .i64 ((rd_T68 t225 x23_6).f2), .int .i64 ((rd_T68 t225 x23_6).f3)] 68 (0, 0)) (by (with_reducible repeat (first | refine blk_drewN ?_ _ | refine blk_drew ?_ | refine blk_alloc ?_ _)); refine blk_put (cs := #[.string ((rd_T68 t225 x23_6).f0), .int .i64 ((rd_T68 t225 x23_6).f1), .int .i64 ((rd_T68 t225 x23_6).f2), .int .i64 0]) ?_ 3 _ rfl; (with_reducible repeat (first | refine blk_drewN ?_ _ | refine blk_drew ?_ | refine blk_alloc ?_ _)); refine blk_put (cs := #[.string ((rd_T68 t225 x23_6).f0), .int .i64 ((rd_T68 t225 x23_6).f1), .int .i64 0, .int .i64 0]) ?_ 2 _ rfl; (with_reducible repeat (first | refine blk_drewN ?_ _ | refine blk_drew ?_ | refine blk_alloc ?_ _)); refine blk_put (cs := #[.string ((rd_T68 t225 x23_6).f0), .int .i64 0, .int .i64 0, .int .i64 0]) ?_ 1 _ rfl; (with_reducible repeat (first | refine blk_drewN ?_ _ | refine blk_drew ?_ | refine blk_alloc ?_ _)); refine blk_put (cs := #[.string (⟨#[]⟩ : ByteArray), .int .i64 0, .int .i64 0, .int .i64 0]) ?_ 0 _ rfl; (with_reducible repeat (first | refine blk_drewN ?_ _ | refine blk_drew ?_ | refine blk_alloc ?_ _)); exact BK262.out) hb); have n4_ := aS (below_step (sW HB.out) hb); have n5_ := aS (hbox); have n6_ := aS ((by rw [hg]; exact (below_size (sW HB.out)) : w.heap.size ≤ gb264)); have n7_ := aS ((by rw [hg]; exact (below_size (sW HB.out)) : w.heap.size ≤ gb264)); have n8_ := aS ((by rw [hg]; exact Nat.ne_of_lt (blk_lt (g := gb262) (o := .cells #[.string ((rd_T68 t225 x23_6).f0), .int .i64 ((rd_T68 t225 x23_6).f1), .int .i64 ((rd_T68 t225 x23_6).f2), .int .i64 ((rd_T68 t225 x23_6).f3)] 68 (0, 0)) (by (with_reducible repeat (first | refine blk_drewN ?_ _ | refine blk_drew ?_ | refine blk_alloc ?_ _)); refine blk_put (cs := #[.string ((rd_T68 t225 x23_6).f0), .int .i64 ((rd_T68 t225 x23_6).f1), .int .i64 ((rd_T68 t225 x23_6).f2), .int .i64 0]) ?_ 3 _ rfl; (with_reducible repeat (first | refine blk_drewN ?_ _ | refine blk_drew ?_ | refine blk_alloc ?_ _)); refine blk_put (cs := #[.string ((rd_T68 t225 x23_6).f0), .int .i64 ((rd_T68 t225 x23_6).f1), .int .i64 0, .int .i64 0]) ?_ 2 _ rfl; (with_reducible repeat (first | refine blk_drewN ?_ _ | refine blk_drew ?_ | refine blk_alloc ?_ _)); refine blk_put (cs := #[.string ((rd_T68 t225 x23_6).f0), .int .i64 0, .int .i64 0, .int .i64 0]) ?_ 1 _ rfl; (with_reducible repeat (first | refine blk_drewN ?_ _ | refine blk_drew ?_ | refine blk_alloc ?_ _)); refine blk_put (cs := #[.string (⟨#[]⟩ : ByteArray), .int .i64 0, .int .i64 0, .int .i64 0]) ?_ 0 _ rfl; (with_reducible repeat (first | refine blk_drewN ?_ _ | refine blk_drew ?_ | refine blk_alloc ?_ _)); exact BK262.out)) : gb262 ≠ gb264)); have n9_ := aS ((by rw [hg]; exact Nat.ne_of_gt (blk_lt (g := gb262) (o := .cells #[.string ((rd_T68 t225 x23_6).f0), .int .i64 ((rd_T68 t225 x23_6).f1), .int .i64 ((rd_T68 t225 x23_6).f2), .int .i64 ((rd_T68 t225 x23_6).f3)] 68 (0, 0)) (by (with_reducible repeat (first | refine blk_drewN ?_ _ | refine blk_drew ?_ | refine blk_alloc ?_ _)); refine blk_put (cs := #[.string ((rd_T68 t225 x23_6).f0), .int .i64 ((rd_T68 t225 x23_6).f1), .int .i64 ((rd_T68 t225 x23_6).f2), .int .i64 0]) ?_ 3 _ rfl; (with_reducible repeat (first | refine blk_drewN ?_ _ | refine blk_drew ?_ | refine blk_alloc ?_ _)); refine blk_put (cs := #[.string ((rd_T68 t225 x23_6).f0), .int .i64 ((rd_T68 t225 x23_6).f1), .int .i64 0, .int .i64 0]) ?_ 2 _ rfl; (with_reducible repeat (first | refine blk_drewN ?_ _ | refine blk_drew ?_ | refine blk_alloc ?_ _)); refine blk_put (cs := #[.string ((rd_T68 t225 x23_6).f0), .int .i64 0, .int .i64 0, .int .i64 0]) ?_ 1 _ rfl; (with_reducible repeat (first | refine blk_drewN ?_ _ | refine blk_drew ?_ | refine blk_alloc ?_ _)); refine blk_put (cs := #[.string (⟨#[]⟩ : ByteArray), .int .i64 0, .int .i64 0, .int .i64 0]) ?_ 0 _ rfl; (with_reducible repeat (first | refine blk_drewN ?_ _ | refine blk_drew ?_ | refine blk_alloc ?_ _)); exact BK262.out)) : gb264 ≠ gb262)); clear HO_5 HO_12 HO_14 BK262 HB; have HO_5 := n0_; have HO_12 := n1_; have HO_14 := n2_; have BK262 := n3_; have HB := n4_; have BK264 := n5_; have GW264 := n6_; have GE264 := n7_; have NB262_264 := n8_; have NB264_262 := n9_; clear n0_ n1_ n2_ n3_ n4_ n5_ n6_ n7_ n8_ n9_; clear hb hbox hg; have hnb73 := NB264_262.out; have hnc73 := NB262_264.out; have hcz74_0 : w72.cell? ⟨gb264, 0, none⟩ = some (.string (⟨#[]⟩ : ByteArray)) := (blk_cell BK264.out 0).trans rfl; have hcz74_1 : w72.cell? ⟨gb264, 1, none⟩ = some (.int .i64 0) := (blk_cell BK264.out 1).trans rfl; have hcz74_2 : w72.cell? ⟨gb264, 2, none⟩ = some (.int .i64 0) := (blk_cell BK264.out 2).trans rfl; have hcz74_3 : w72.cell? ⟨gb264, 3, none⟩ = some (.int .i64 0) := (blk_cell BK264.out 3).trans rfl; have hfz74_0 := blk_frozen BK264.out 0; have hfz74_1 := blk_frozen BK264.out 1; have hfz74_2 := blk_frozen BK264.out 2; have hfz74_3 := blk_frozen BK264.out 3)); go_upto_region 36 with (first | ((with_reducible refine gate_dst (N := 24) rfl ?_); (try (refine gate_guard (by rfl) ?_; dsimp only)); refine box_event ?hg (N := 24) ?hd (cs := #[.string (⟨#[]⟩ : ByteArray), .int .i64 0, .int .i64 0, .int .i64 0]) (t := 68) ?hr ?_; (case hd => rfl); (case hg => rfl); (case hr => first | (go_simp; done) | (go_simp; rfl)); intro gb262 hg w70 hbox hb; have n0_ := aS (Kd.R_below (Kd.R_elderB (sR HO_5.out) gb262 (Nat.le_of_eq hg.symm)) hb); have n1_ := aS (Kd.R_below (sR HO_12.out) hb); have n2_ := aS (Kd.R_below (Kd.R_elderB (sR HO_14.out) gb262 (Nat.le_of_eq hg.symm)) hb); have n3_ := aS (below_step (sW HB.out) hb); have n4_ := aS (hbox); have n5_ := aS ((by rw [hg]; exact (below_size (sW HB.out)) : w.heap.size ≤ gb262)); have n6_ := aS ((by rw [hg]; exact (below_size (sW HB.out)) : w.heap.size ≤ gb262)); clear HO_5 HO_12 HO_14 HB; have HO_5 := n0_; have HO_12 := n1_; have HO_14 := n2_; have HB := n3_; have BK262 := n4_; have GW262 := n5_; have GE262 := n6_; clear n0_ n1_ n2_ n3_ n4_ n5_ n6_; clear hb hbox hg; have hcz71_0 : w70.cell? ⟨gb262, 0, none⟩ = some (.string (⟨#[]⟩ : ByteArray)) := (blk_cell BK262.out 0).trans rfl; have hcz71_1 : w70.cell? ⟨gb262, 1, none⟩ = some (.int .i64 0) := (blk_cell BK262.out 1).trans rfl; have hcz71_2 : w70.cell? ⟨gb262, 2, none⟩ = some (.int .i64 0) := (blk_cell BK262.out 2).trans rfl; have hcz71_3 : w70.cell? ⟨gb262, 3, none⟩ = some (.int .i64 0) := (blk_cell BK262.out 3).trans rfl; have hfz71_0 := blk_frozen BK262.out 0; have hfz71_1 := blk_frozen BK262.out 1; have hfz71_2 := blk_frozen BK262.out 2; have hfz71_3 := blk_frozen BK262.out 3; have p263 : 0 ≤ (x15_4 : Int) := of_decide_eq_true (by first | (with_reducible assumption) | assumption); have q263 : x15_4 < (t225.length : Int) := of_decide_eq_true (by first | (with_reducible assumption) | assumption); obtain ⟨ad263, e263, hx263_0, hx263_1, hx263_2, hx263_3⟩ := at_T68 (Kd.R_reads' HO_5.out).2.2 x15_4 p263 q263; obtain rfl : ad246 = ad263 := (by injection e263); have hn263_0 : ad246.block ≠ gb262 := Kd.own_blk (Kd.R_away HO_5.out (fun k_ hk_ => hk_.2)); have hn263_1 : ad246.block ≠ gb262 := Kd.own_blk (Kd.R_away HO_5.out (fun k_ hk_ => hk_.2)); have hn263_2 : ad246.block ≠ gb262 := Kd.own_blk (Kd.R_away HO_5.out (fun k_ hk_ => hk_.2)); have hn263_3 : ad246.block ≠ gb262 := Kd.own_blk (Kd.R_away HO_5.out (fun k_ hk_ => hk_.2)); replace hx263_0 := (cell_far (p := ⟨gb262, 0, none⟩) (by first | (rw [add_block]; exact hn263_0) | (show (Addr.add _ _).block ≠ _; rw [add_block]; exact hn263_0) | exact hn263_0) (.string ((rd_T68 t225 x23_6).f0))).trans hx263_0; replace hx263_1 := (cell_far (p := ⟨gb262, 0, none⟩) (by first | (rw [add_block]; exact hn263_0) | (show (Addr.add _ _).block ≠ _; rw [add_block]; exact hn263_0) | exact hn263_0) (.string ((rd_T68 t225 x23_6).f0))).trans hx263_1; replace hx263_2 := (cell_far (p := ⟨gb262, 0, none⟩) (by first | (rw [add_block]; exact hn263_0) | (show (Addr.add _ _).block ≠ _; rw [add_block]; exact hn263_0) | exact hn263_0) (.string ((rd_T68 t225 x23_6).f0))).trans hx263_2; replace hx263_3 := (cell_far (p := ⟨gb262, 0, none⟩) (by first | (rw [add_block]; exact hn263_0) | (show (Addr.add _ _).block ≠ _; rw [add_block]; exact hn263_0) | exact hn263_0) (.string ((rd_T68 t225 x23_6).f0))).trans hx263_3; replace hx263_0 := (cell_far (p := ⟨gb262, 1, none⟩) (by first | (rw [add_block]; exact hn263_1) | (show (Addr.add _ _).block ≠ _; rw [add_block]; exact hn263_1) | exact hn263_1) (.int .i64 ((rd_T68 t225 x23_6).f1))).trans hx263_0; replace hx263_1 := (cell_far (p := ⟨gb262, 1, none⟩) (by first | (rw [add_block]; exact hn263_1) | (show (Addr.add _ _).block ≠ _; rw [add_block]; exact hn263_1) | exact hn263_1) (.int .i64 ((rd_T68 t225 x23_6).f1))).trans hx263_1; replace hx263_2 := (cell_far (p := ⟨gb262, 1, none⟩) (by first | (rw [add_block]; exact hn263_1) | (show (Addr.add _ _).block ≠ _; rw [add_block]; exact hn263_1) | exact hn263_1) (.int .i64 ((rd_T68 t225 x23_6).f1))).trans hx263_2; replace hx263_3 := (cell_far (p := ⟨gb262, 1, none⟩) (by first | (rw [add_block]; exact hn263_1) | (show (Addr.add _ _).block ≠ _; rw [add_block]; exact hn263_1) | exact hn263_1) (.int .i64 ((rd_T68 t225 x23_6).f1))).trans hx263_3; replace hx263_0 := (cell_far (p := ⟨gb262, 2, none⟩) (by first | (rw [add_block]; exact hn263_2) | (show (Addr.add _ _).block ≠ _; rw [add_block]; exact hn263_2) | exact hn263_2) (.int .i64 ((rd_T68 t225 x23_6).f2))).trans hx263_0; replace hx263_1 := (cell_far (p := ⟨gb262, 2, none⟩) (by first | (rw [add_block]; exact hn263_2) | (show (Addr.add _ _).block ≠ _; rw [add_block]; exact hn263_2) | exact hn263_2) (.int .i64 ((rd_T68 t225 x23_6).f2))).trans hx263_1; replace hx263_2 := (cell_far (p := ⟨gb262, 2, none⟩) (by first | (rw [add_block]; exact hn263_2) | (show (Addr.add _ _).block ≠ _; rw [add_block]; exact hn263_2) | exact hn263_2) (.int .i64 ((rd_T68 t225 x23_6).f2))).trans hx263_2; replace hx263_3 := (cell_far (p := ⟨gb262, 2, none⟩) (by first | (rw [add_block]; exact hn263_2) | (show (Addr.add _ _).block ≠ _; rw [add_block]; exact hn263_2) | exact hn263_2) (.int .i64 ((rd_T68 t225 x23_6).f2))).trans hx263_3; replace hx263_0 := (cell_far (p := ⟨gb262, 3, none⟩) (by first | (rw [add_block]; exact hn263_3) | (show (Addr.add _ _).block ≠ _; rw [add_block]; exact hn263_3) | exact hn263_3) (.int .i64 ((rd_T68 t225 x23_6).f3))).trans hx263_0; replace hx263_1 := (cell_far (p := ⟨gb262, 3, none⟩) (by first | (rw [add_block]; exact hn263_3) | (show (Addr.add _ _).block ≠ _; rw [add_block]; exact hn263_3) | exact hn263_3) (.int .i64 ((rd_T68 t225 x23_6).f3))).trans hx263_1; replace hx263_2 := (cell_far (p := ⟨gb262, 3, none⟩) (by first | (rw [add_block]; exact hn263_3) | (show (Addr.add _ _).block ≠ _; rw [add_block]; exact hn263_3) | exact hn263_3) (.int .i64 ((rd_T68 t225 x23_6).f3))).trans hx263_2; replace hx263_3 := (cell_far (p := ⟨gb262, 3, none⟩) (by first | (rw [add_block]; exact hn263_3) | (show (Addr.add _ _).block ≠ _; rw [add_block]; exact hn263_3) | exact hn263_3) (.int .i64 ((rd_T68 t225 x23_6).f3))).trans hx263_3; (try have hy263_0 := fun (n_ : Nat) => (show ((((((w70.drewN n_).setCell ⟨gb262, 0, none⟩ (.string ((rd_T68 t225 x23_6).f0))).setCell ⟨gb262, 1, none⟩ (.int .i64 ((rd_T68 t225 x23_6).f1))).setCell ⟨gb262, 2, none⟩ (.int .i64 ((rd_T68 t225 x23_6).f2))).setCell ⟨gb262, 3, none⟩ (.int .i64 ((rd_T68 t225 x23_6).f3)))).cell? _ = some _ from hx263_0)); (try have hy263_1 := fun (n_ : Nat) => (show ((((((w70.drewN n_).setCell ⟨gb262, 0, none⟩ (.string ((rd_T68 t225 x23_6).f0))).setCell ⟨gb262, 1, none⟩ (.int .i64 ((rd_T68 t225 x23_6).f1))).setCell ⟨gb262, 2, none⟩ (.int .i64 ((rd_T68 t225 x23_6).f2))).setCell ⟨gb262, 3, none⟩ (.int .i64 ((rd_T68 t225 x23_6).f3)))).cell? _ = some _ from hx263_1)); (try have hy263_2 := fun (n_ : Nat) => (show ((((((w70.drewN n_).setCell ⟨gb262, 0, none⟩ (.string ((rd_T68 t225 x23_6).f0))).setCell ⟨gb262, 1, none⟩ (.int .i64 ((rd_T68 t225 x23_6).f1))).setCell ⟨gb262, 2, none⟩ (.int .i64 ((rd_T68 t225 x23_6).f2))).setCell ⟨gb262, 3, none⟩ (.int .i64 ((rd_T68 t225 x23_6).f3)))).cell? _ = some _ from hx263_2)); (try have hy263_3 := fun (n_ : Nat) => (show ((((((w70.drewN n_).setCell ⟨gb262, 0, none⟩ (.string ((rd_T68 t225 x23_6).f0))).setCell ⟨gb262, 1, none⟩ (.int .i64 ((rd_T68 t225 x23_6).f1))).setCell ⟨gb262, 2, none⟩ (.int .i64 ((rd_T68 t225 x23_6).f2))).setCell ⟨gb262, 3, none⟩ (.int .i64 ((rd_T68 t225 x23_6).f3)))).cell? _ = some _ from hx263_3)); clear hn263_0 hn263_1 hn263_2 hn263_3; replace p263 := eq_true p263; replace q263 := eq_true q263) | ((with_reducible refine gate_dst (N := 25) rfl ?_); (try (refine gate_guard (by rfl) ?_; dsimp only)); refine box_event ?hg (N := 25) ?hd (cs := #[.string (⟨#[]⟩ : ByteArray), .int .i64 0, .int .i64 0, .int .i64 0]) (t := 68) ?hr ?_; (case hd => rfl); (case hg => rfl); (case hr => first | (go_simp; done) | (go_simp; rfl)); intro gb264 hg w72 hbox hb; have n0_ := aS (Kd.R_below (Kd.R_elderB (sR (Kd.R_mono (Kd.R_far (p := ⟨gb262, 3, none⟩) (Kd.R_far (p := ⟨gb262, 2, none⟩) (Kd.R_far (p := ⟨gb262, 1, none⟩) (Kd.R_far (p := ⟨gb262, 0, none⟩) (Kd.R_mono HO_5.out (fun k_ hk => (⟨hk, hk.2⟩ : _ ∧ k_ ≠ gb262))) (fun _ hk => hk.2) (.string ((rd_T68 t225 x23_6).f0))) (fun _ hk => hk.2) (.int .i64 ((rd_T68 t225 x23_6).f1))) (fun _ hk => hk.2) (.int .i64 ((rd_T68 t225 x23_6).f2))) (fun _ hk => hk.2) (.int .i64 ((rd_T68 t225 x23_6).f3))) (fun _ h_ => h_.1))) gb264 (Nat.le_of_eq hg.symm)) hb); have n1_ := aS (Kd.R_below (sR (Kd.R_mono (Kd.R_far (p := ⟨gb262, 3, none⟩) (Kd.R_far (p := ⟨gb262, 2, none⟩) (Kd.R_far (p := ⟨gb262, 1, none⟩) (Kd.R_far (p := ⟨gb262, 0, none⟩) (Kd.R_types HO_12.out BK262.out (by decide)) (fun _ hk => hk.2) (.string ((rd_T68 t225 x23_6).f0))) (fun _ hk => hk.2) (.int .i64 ((rd_T68 t225 x23_6).f1))) (fun _ hk => hk.2) (.int .i64 ((rd_T68 t225 x23_6).f2))) (fun _ hk => hk.2) (.int .i64 ((rd_T68 t225 x23_6).f3))) (fun _ h_ => h_.1))) hb); have n2_ := aS (Kd.R_below (Kd.R_elderB (sR (Kd.R_mono (Kd.R_far (p := ⟨gb262, 3, none⟩) (Kd.R_far (p := ⟨gb262, 2, none⟩) (Kd.R_far (p := ⟨gb262, 1, none⟩) (Kd.R_far (p := ⟨gb262, 0, none⟩) (Kd.R_mono HO_14.out (fun k_ hk => (⟨hk, hk.2⟩ : _ ∧ k_ ≠ gb262))) (fun _ hk => hk.2) (.string ((rd_T68 t225 x23_6).f0))) (fun _ hk => hk.2) (.int .i64 ((rd_T68 t225 x23_6).f1))) (fun _ hk => hk.2) (.int .i64 ((rd_T68 t225 x23_6).f2))) (fun _ hk => hk.2) (.int .i64 ((rd_T68 t225 x23_6).f3))) (fun _ h_ => h_.1))) gb264 (Nat.le_of_eq hg.symm)) hb); have n3_ := aS (blk_below (g := gb262) (o := .cells #[.string ((rd_T68 t225 x23_6).f0), .int .i64 ((rd_T68 t225 x23_6).f1), .int .i64 ((rd_T68 t225 x23_6).f2), .int .i64 ((rd_T68 t225 x23_6).f3)] 68 (0, 0)) (by (with_reducible repeat (first | refine blk_drewN ?_ _ | refine blk_drew ?_ | refine blk_alloc ?_ _)); refine blk_put (cs := #[.string ((rd_T68 t225 x23_6).f0), .int .i64 ((rd_T68 t225 x23_6).f1), .int .i64 ((rd_T68 t225 x23_6).f2), .int .i64 0]) ?_ 3 _ rfl; (with_reducible repeat (first | refine blk_drewN ?_ _ | refine blk_drew ?_ | refine blk_alloc ?_ _)); refine blk_put (cs := #[.string ((rd_T68 t225 x23_6).f0), .int .i64 ((rd_T68 t225 x23_6).f1), .int .i64 0, .int .i64 0]) ?_ 2 _ rfl; (with_reducible repeat (first | refine blk_drewN ?_ _ | refine blk_drew ?_ | refine blk_alloc ?_ _)); refine blk_put (cs := #[.string ((rd_T68 t225 x23_6).f0), .int .i64 0, .int .i64 0, .int .i64 0]) ?_ 1 _ rfl; (with_reducible repeat (first | refine blk_drewN ?_ _ | refine blk_drew ?_ | refine blk_alloc ?_ _)); refine blk_put (cs := #[.string (⟨#[]⟩ : ByteArray), .int .i64 0, .int .i64 0, .int .i64 0]) ?_ 0 _ rfl; (with_reducible repeat (first | refine blk_drewN ?_ _ | refine blk_drew ?_ | refine blk_alloc ?_ _)); exact BK262.out) hb); have n4_ := aS (below_step (sW HB.out) hb); have n5_ := aS (hbox); have n6_ := aS ((by rw [hg]; exact (below_size (sW HB.out)) : w.heap.size ≤ gb264)); have n7_ := aS ((by rw [hg]; exact (below_size (sW HB.out)) : w.heap.size ≤ gb264)); have n8_ := aS ((by rw [hg]; exact Nat.ne_of_lt (blk_lt (g := gb262) (o := .cells #[.string ((rd_T68 t225 x23_6).f0), .int .i64 ((rd_T68 t225 x23_6).f1), .int .i64 ((rd_T68 t225 x23_6).f2), .int .i64 ((rd_T68 t225 x23_6).f3)] 68 (0, 0)) (by (with_reducible repeat (first | refine blk_drewN ?_ _ | refine blk_drew ?_ | refine blk_alloc ?_ _)); refine blk_put (cs := #[.string ((rd_T68 t225 x23_6).f0), .int .i64 ((rd_T68 t225 x23_6).f1), .int .i64 ((rd_T68 t225 x23_6).f2), .int .i64 0]) ?_ 3 _ rfl; (with_reducible repeat (first | refine blk_drewN ?_ _ | refine blk_drew ?_ | refine blk_alloc ?_ _)); refine blk_put (cs := #[.string ((rd_T68 t225 x23_6).f0), .int .i64 ((rd_T68 t225 x23_6).f1), .int .i64 0, .int .i64 0]) ?_ 2 _ rfl; (with_reducible repeat (first | refine blk_drewN ?_ _ | refine blk_drew ?_ | refine blk_alloc ?_ _)); refine blk_put (cs := #[.string ((rd_T68 t225 x23_6).f0), .int .i64 0, .int .i64 0, .int .i64 0]) ?_ 1 _ rfl; (with_reducible repeat (first | refine blk_drewN ?_ _ | refine blk_drew ?_ | refine blk_alloc ?_ _)); refine blk_put (cs := #[.string (⟨#[]⟩ : ByteArray), .int .i64 0, .int .i64 0, .int .i64 0]) ?_ 0 _ rfl; (with_reducible repeat (first | refine blk_drewN ?_ _ | refine blk_drew ?_ | refine blk_alloc ?_ _)); exact BK262.out)) : gb262 ≠ gb264)); have n9_ := aS ((by rw [hg]; exact Nat.ne_of_gt (blk_lt (g := gb262) (o := .cells #[.string ((rd_T68 t225 x23_6).f0), .int .i64 ((rd_T68 t225 x23_6).f1), .int .i64 ((rd_T68 t225 x23_6).f2), .int .i64 ((rd_T68 t225 x23_6).f3)] 68 (0, 0)) (by (with_reducible repeat (first | refine blk_drewN ?_ _ | refine blk_drew ?_ | refine blk_alloc ?_ _)); refine blk_put (cs := #[.string ((rd_T68 t225 x23_6).f0), .int .i64 ((rd_T68 t225 x23_6).f1), .int .i64 ((rd_T68 t225 x23_6).f2), .int .i64 0]) ?_ 3 _ rfl; (with_reducible repeat (first | refine blk_drewN ?_ _ | refine blk_drew ?_ | refine blk_alloc ?_ _)); refine blk_put (cs := #[.string ((rd_T68 t225 x23_6).f0), .int .i64 ((rd_T68 t225 x23_6).f1), .int .i64 0, .int .i64 0]) ?_ 2 _ rfl; (with_reducible repeat (first | refine blk_drewN ?_ _ | refine blk_drew ?_ | refine blk_alloc ?_ _)); refine blk_put (cs := #[.string ((rd_T68 t225 x23_6).f0), .int .i64 0, .int .i64 0, .int .i64 0]) ?_ 1 _ rfl; (with_reducible repeat (first | refine blk_drewN ?_ _ | refine blk_drew ?_ | refine blk_alloc ?_ _)); refine blk_put (cs := #[.string (⟨#[]⟩ : ByteArray), .int .i64 0, .int .i64 0, .int .i64 0]) ?_ 0 _ rfl; (with_reducible repeat (first | refine blk_drewN ?_ _ | refine blk_drew ?_ | refine blk_alloc ?_ _)); exact BK262.out)) : gb264 ≠ gb262)); clear HO_5 HO_12 HO_14 BK262 HB; have HO_5 := n0_; have HO_12 := n1_; have HO_14 := n2_; have BK262 := n3_; have HB := n4_; have BK264 := n5_; have GW264 := n6_; have GE264 := n7_; have NB262_264 := n8_; have NB264_262 := n9_; clear n0_ n1_ n2_ n3_ n4_ n5_ n6_ n7_ n8_ n9_; clear hb hbox hg; have hnb73 := NB264_262.out; have hnc73 := NB262_264.out; have hcz74_0 : w72.cell? ⟨gb264, 0, none⟩ = some (.string (⟨#[]⟩ : ByteArray)) := (blk_cell BK264.out 0).trans rfl; have hcz74_1 : w72.cell? ⟨gb264, 1, none⟩ = some (.int .i64 0) := (blk_cell BK264.out 1).trans rfl; have hcz74_2 : w72.cell? ⟨gb264, 2, none⟩ = some (.int .i64 0) := (blk_cell BK264.out 2).trans rfl; have hcz74_3 : w72.cell? ⟨gb264, 3, none⟩ = some (.int .i64 0) := (blk_cell BK264.out 3).trans rfl; have hfz74_0 := blk_frozen BK264.out 0; have hfz74_1 := blk_frozen BK264.out 1; have hfz74_2 := blk_frozen BK264.out 2; have hfz74_3 := blk_frozen BK264.out 3)))
                        (try simp only [Act.put, List.setIfInBounds_toArray, List.set_cons_zero, List.set_cons_succ])
                        have H := HC69.out
                        clear HC69
                        by_cases c75 : x22_6 = true
                        ·
                         subst c75
                         have H1 : (laws_FnRopeLists.l2 k6 t225 t238 t247 x15_4 true (wrap64 (x23_6 + 1))) = some r := by rw [if_pos rfl] at H; exact H
                         clear H
                         have H := H1
                         clear H1
                         have H' := aS H
                         clear H
                         go_wp2
                         repeat (go_quiet (fail); try go_wp2)
                         go_roundg k6
                         case measure => have := HK1.out; have := HJ23.out; have := HJ30.out; have := HK4.out; have := HJ47.out; have := HK6.out; omega
                         case rel => exact ⟨(true), (wrap64 (x23_6 + 1)), (by first | rfl | (simp; done) | (simp [*]; done) | (simp only [i64_w]; done) | (simp [i64_w]; done)), (by first | rfl | (simp; done) | (simp [*]; done) | (simp only [i64_w]; done) | (simp [i64_w]; done)), H', ⟨by have := HK1.out; have := HJ23.out; have := HJ30.out; have := HK4.out; have := HJ47.out; have := HK6.out; omega⟩, ⟨by (with_reducible repeat (first | apply Kd.R_alloc | apply Kd.R_drewN | apply Kd.R_drew)); exact Kd.R_mono (Kd.R_far (p := ⟨gb264, 3, none⟩) (Kd.R_far (p := ⟨gb264, 2, none⟩) (Kd.R_far (p := ⟨gb264, 1, none⟩) (Kd.R_far (p := ⟨gb264, 0, none⟩) (Kd.R_mono HO_5.out (fun k_ hk => (⟨hk, hk.2⟩ : _ ∧ k_ ≠ gb264))) (fun _ hk => hk.2) (.string ((rd_T68 t225 x15_4).f0))) (fun _ hk => hk.2) (.int .i64 ((rd_T68 t225 x15_4).f1))) (fun _ hk => hk.2) (.int .i64 ((rd_T68 t225 x15_4).f2))) (fun _ hk => hk.2) (.int .i64 ((rd_T68 t225 x15_4).f3))) (fun _ hk => hk.1.1.1)⟩, ⟨by (with_reducible repeat (first | apply Kd.R_alloc | apply Kd.R_drewN | apply Kd.R_drew)); exact Kd.R_mono (Kd.R_far (p := ⟨gb264, 3, none⟩) (Kd.R_far (p := ⟨gb264, 2, none⟩) (Kd.R_far (p := ⟨gb264, 1, none⟩) (Kd.R_far (p := ⟨gb264, 0, none⟩) (Kd.R_types HO_12.out BK264.out (by decide)) (fun _ hk => hk.2) (.string ((rd_T68 t225 x15_4).f0))) (fun _ hk => hk.2) (.int .i64 ((rd_T68 t225 x15_4).f1))) (fun _ hk => hk.2) (.int .i64 ((rd_T68 t225 x15_4).f2))) (fun _ hk => hk.2) (.int .i64 ((rd_T68 t225 x15_4).f3))) (fun _ hk => trivial)⟩, ⟨by (with_reducible repeat (first | apply Kd.R_alloc | apply Kd.R_drewN | apply Kd.R_drew)); exact Kd.R_mono (Kd.R_far (p := ⟨gb264, 3, none⟩) (Kd.R_far (p := ⟨gb264, 2, none⟩) (Kd.R_far (p := ⟨gb264, 1, none⟩) (Kd.R_far (p := ⟨gb264, 0, none⟩) (Kd.R_mono HO_14.out (fun k_ hk => (⟨hk, hk.2⟩ : _ ∧ k_ ≠ gb264))) (fun _ hk => hk.2) (.string ((rd_T68 t225 x15_4).f0))) (fun _ hk => hk.2) (.int .i64 ((rd_T68 t225 x15_4).f1))) (fun _ hk => hk.2) (.int .i64 ((rd_T68 t225 x15_4).f2))) (fun _ hk => hk.2) (.int .i64 ((rd_T68 t225 x15_4).f3))) (fun _ hk => hk.1.1.1)⟩, ⟨by repeat (first | (with_reducible first | exact HB.out | apply below_alloc | apply pw_below_drewN | apply below_drew1 | refine below_set ?_ GE262.out | refine below_set ?_ GE264.out) | exact HB.out)⟩⟩
                        replace c75 := Bool.eq_false_iff.mpr c75
                        subst c75
                        have H1 : (if ((rd_T68 t225 x23_6).f2) ≥ ((rd_T68 t225 x15_4).f2) then (if ((rd_T68 t225 x23_6).f3) ≤ ((rd_T68 t225 x15_4).f3) then (if ((rd_T68 t225 x23_6).f1) ≤ ((rd_T68 t225 x15_4).f1) then (if ((rd_T68 t225 x23_6).f2) > ((rd_T68 t225 x15_4).f2) then (laws_FnRopeLists.l2 k6 t225 t238 t247 x15_4 true (wrap64 (x23_6 + 1))) else (if ((rd_T68 t225 x23_6).f3) < ((rd_T68 t225 x15_4).f3) then (laws_FnRopeLists.l2 k6 t225 t238 t247 x15_4 true (wrap64 (x23_6 + 1))) else (laws_FnRopeLists.l2 k6 t225 t238 t247 x15_4 (decide (((rd_T68 t225 x23_6).f1) < ((rd_T68 t225 x15_4).f1))) (wrap64 (x23_6 + 1))))) else (laws_FnRopeLists.l2 k6 t225 t238 t247 x15_4 false (wrap64 (x23_6 + 1)))) else (laws_FnRopeLists.l2 k6 t225 t238 t247 x15_4 false (wrap64 (x23_6 + 1)))) else (laws_FnRopeLists.l2 k6 t225 t238 t247 x15_4 false (wrap64 (x23_6 + 1)))) = some r := by rw [if_neg (show ¬ (false = true) by decide)] at H; exact H
                        clear H
                        have H := H1
                        clear H1
                        by_cases c76 : ((rd_T68 t225 x23_6).f2) ≥ ((rd_T68 t225 x15_4).f2)
                        rotate_left
                        ·
                         rw [if_neg c76] at H
                         have c76b0 : decide (((rd_T68 t225 x15_4).f2) ≤ ((rd_T68 t225 x23_6).f2)) = false := decide_eq_false c76
                         clear c76
                         (first | rw [c76b0] | (simp only [i64_w, i32_w]; rw [c76b0]) | (rw [c76b2]; simp only [Bool.not_false, Bool.not_true]) | skip)
                         have H' := aS H
                         clear H
                         have hnb96 := NB262_264.out
                         have hnc96 := NB264_262.out
                         have hcz97_0 : w72.cell? ⟨gb262, 0, none⟩ = some (.string ((rd_T68 t225 x23_6).f0)) := (blk_cell BK262.out 0).trans rfl
                         have hcz97_1 : w72.cell? ⟨gb262, 1, none⟩ = some (.int .i64 ((rd_T68 t225 x23_6).f1)) := (blk_cell BK262.out 1).trans rfl
                         have hcz97_2 : w72.cell? ⟨gb262, 2, none⟩ = some (.int .i64 ((rd_T68 t225 x23_6).f2)) := (blk_cell BK262.out 2).trans rfl
                         have hcz97_3 : w72.cell? ⟨gb262, 3, none⟩ = some (.int .i64 ((rd_T68 t225 x23_6).f3)) := (blk_cell BK262.out 3).trans rfl
                         have hfz97_0 := blk_frozen BK262.out 0
                         have hfz97_1 := blk_frozen BK262.out 1
                         have hfz97_2 := blk_frozen BK262.out 2
                         have hfz97_3 := blk_frozen BK262.out 3
                         have hcz98_0 : w72.cell? ⟨gb264, 0, none⟩ = some (.string (⟨#[]⟩ : ByteArray)) := (blk_cell BK264.out 0).trans rfl
                         have hcz98_1 : w72.cell? ⟨gb264, 1, none⟩ = some (.int .i64 0) := (blk_cell BK264.out 1).trans rfl
                         have hcz98_2 : w72.cell? ⟨gb264, 2, none⟩ = some (.int .i64 0) := (blk_cell BK264.out 2).trans rfl
                         have hcz98_3 : w72.cell? ⟨gb264, 3, none⟩ = some (.int .i64 0) := (blk_cell BK264.out 3).trans rfl
                         have hfz98_0 := blk_frozen BK264.out 0
                         have hfz98_1 := blk_frozen BK264.out 1
                         have hfz98_2 := blk_frozen BK264.out 2
                         have hfz98_3 := blk_frozen BK264.out 3
                         go_wp2
                         repeat (go_quiet (fail); try go_wp2)
                         go_roundg k6
                         case measure => have := HK1.out; have := HJ23.out; have := HJ30.out; have := HK4.out; have := HJ47.out; have := HK6.out; omega
                         case rel => exact ⟨(false), (wrap64 (x23_6 + 1)), (by first | rfl | (simp; done) | (simp [*]; done) | (simp only [i64_w]; done) | (simp [i64_w]; done)), (by first | rfl | (simp; done) | (simp [*]; done) | (simp only [i64_w]; done) | (simp [i64_w]; done)), H', ⟨by have := HK1.out; have := HJ23.out; have := HJ30.out; have := HK4.out; have := HJ47.out; have := HK6.out; omega⟩, ⟨by (with_reducible repeat (first | apply Kd.R_alloc | apply Kd.R_drewN | apply Kd.R_drew)); exact Kd.R_mono (Kd.R_far (p := ⟨gb264, 3, none⟩) (Kd.R_far (p := ⟨gb264, 2, none⟩) (Kd.R_far (p := ⟨gb264, 1, none⟩) (Kd.R_far (p := ⟨gb264, 0, none⟩) (Kd.R_mono HO_5.out (fun k_ hk => (⟨hk, hk.2⟩ : _ ∧ k_ ≠ gb264))) (fun _ hk => hk.2) (.string ((rd_T68 t225 x15_4).f0))) (fun _ hk => hk.2) (.int .i64 ((rd_T68 t225 x15_4).f1))) (fun _ hk => hk.2) (.int .i64 ((rd_T68 t225 x15_4).f2))) (fun _ hk => hk.2) (.int .i64 ((rd_T68 t225 x15_4).f3))) (fun _ hk => hk.1.1.1)⟩, ⟨by (with_reducible repeat (first | apply Kd.R_alloc | apply Kd.R_drewN | apply Kd.R_drew)); exact Kd.R_mono (Kd.R_far (p := ⟨gb264, 3, none⟩) (Kd.R_far (p := ⟨gb264, 2, none⟩) (Kd.R_far (p := ⟨gb264, 1, none⟩) (Kd.R_far (p := ⟨gb264, 0, none⟩) (Kd.R_types HO_12.out BK264.out (by decide)) (fun _ hk => hk.2) (.string ((rd_T68 t225 x15_4).f0))) (fun _ hk => hk.2) (.int .i64 ((rd_T68 t225 x15_4).f1))) (fun _ hk => hk.2) (.int .i64 ((rd_T68 t225 x15_4).f2))) (fun _ hk => hk.2) (.int .i64 ((rd_T68 t225 x15_4).f3))) (fun _ hk => trivial)⟩, ⟨by (with_reducible repeat (first | apply Kd.R_alloc | apply Kd.R_drewN | apply Kd.R_drew)); exact Kd.R_mono (Kd.R_far (p := ⟨gb264, 3, none⟩) (Kd.R_far (p := ⟨gb264, 2, none⟩) (Kd.R_far (p := ⟨gb264, 1, none⟩) (Kd.R_far (p := ⟨gb264, 0, none⟩) (Kd.R_mono HO_14.out (fun k_ hk => (⟨hk, hk.2⟩ : _ ∧ k_ ≠ gb264))) (fun _ hk => hk.2) (.string ((rd_T68 t225 x15_4).f0))) (fun _ hk => hk.2) (.int .i64 ((rd_T68 t225 x15_4).f1))) (fun _ hk => hk.2) (.int .i64 ((rd_T68 t225 x15_4).f2))) (fun _ hk => hk.2) (.int .i64 ((rd_T68 t225 x15_4).f3))) (fun _ hk => hk.1.1.1)⟩, ⟨by repeat (first | (with_reducible first | exact HB.out | apply below_alloc | apply pw_below_drewN | apply below_drew1 | refine below_set ?_ GE262.out | refine below_set ?_ GE264.out) | exact HB.out)⟩⟩
                        rw [if_pos c76] at H
                        have c76b0 : decide (((rd_T68 t225 x15_4).f2) ≤ ((rd_T68 t225 x23_6).f2)) = true := decide_eq_true c76
                        clear c76
                        (first | rw [c76b0] | (simp only [i64_w, i32_w]; rw [c76b0]) | (rw [c76b2]; simp only [Bool.not_false, Bool.not_true]) | skip)
                        by_cases c77 : ((rd_T68 t225 x23_6).f3) ≤ ((rd_T68 t225 x15_4).f3)
                        rotate_left
                        ·
                         rw [if_neg c77] at H
                         have c77b0 : decide (((rd_T68 t225 x23_6).f3) ≤ ((rd_T68 t225 x15_4).f3)) = false := decide_eq_false c77
                         clear c77
                         have H' := aS H
                         clear H
                         have hnb93 := NB262_264.out
                         have hnc93 := NB264_262.out
                         have hcz94_0 : w72.cell? ⟨gb262, 0, none⟩ = some (.string ((rd_T68 t225 x23_6).f0)) := (blk_cell BK262.out 0).trans rfl
                         have hcz94_1 : w72.cell? ⟨gb262, 1, none⟩ = some (.int .i64 ((rd_T68 t225 x23_6).f1)) := (blk_cell BK262.out 1).trans rfl
                         have hcz94_2 : w72.cell? ⟨gb262, 2, none⟩ = some (.int .i64 ((rd_T68 t225 x23_6).f2)) := (blk_cell BK262.out 2).trans rfl
                         have hcz94_3 : w72.cell? ⟨gb262, 3, none⟩ = some (.int .i64 ((rd_T68 t225 x23_6).f3)) := (blk_cell BK262.out 3).trans rfl
                         have hfz94_0 := blk_frozen BK262.out 0
                         have hfz94_1 := blk_frozen BK262.out 1
                         have hfz94_2 := blk_frozen BK262.out 2
                         have hfz94_3 := blk_frozen BK262.out 3
                         have hcz95_0 : w72.cell? ⟨gb264, 0, none⟩ = some (.string (⟨#[]⟩ : ByteArray)) := (blk_cell BK264.out 0).trans rfl
                         have hcz95_1 : w72.cell? ⟨gb264, 1, none⟩ = some (.int .i64 0) := (blk_cell BK264.out 1).trans rfl
                         have hcz95_2 : w72.cell? ⟨gb264, 2, none⟩ = some (.int .i64 0) := (blk_cell BK264.out 2).trans rfl
                         have hcz95_3 : w72.cell? ⟨gb264, 3, none⟩ = some (.int .i64 0) := (blk_cell BK264.out 3).trans rfl
                         have hfz95_0 := blk_frozen BK264.out 0
                         have hfz95_1 := blk_frozen BK264.out 1
                         have hfz95_2 := blk_frozen BK264.out 2
                         have hfz95_3 := blk_frozen BK264.out 3
                         go_wp2
                         repeat (go_quiet (fail); try go_wp2)
                         go_roundg k6
                         case measure => have := HK1.out; have := HJ23.out; have := HJ30.out; have := HK4.out; have := HJ47.out; have := HK6.out; omega
                         case rel => exact ⟨(false), (wrap64 (x23_6 + 1)), (by first | rfl | (simp; done) | (simp [*]; done) | (simp only [i64_w]; done) | (simp [i64_w]; done)), (by first | rfl | (simp; done) | (simp [*]; done) | (simp only [i64_w]; done) | (simp [i64_w]; done)), H', ⟨by have := HK1.out; have := HJ23.out; have := HJ30.out; have := HK4.out; have := HJ47.out; have := HK6.out; omega⟩, ⟨by (with_reducible repeat (first | apply Kd.R_alloc | apply Kd.R_drewN | apply Kd.R_drew)); exact Kd.R_mono (Kd.R_far (p := ⟨gb264, 3, none⟩) (Kd.R_far (p := ⟨gb264, 2, none⟩) (Kd.R_far (p := ⟨gb264, 1, none⟩) (Kd.R_far (p := ⟨gb264, 0, none⟩) (Kd.R_mono HO_5.out (fun k_ hk => (⟨hk, hk.2⟩ : _ ∧ k_ ≠ gb264))) (fun _ hk => hk.2) (.string ((rd_T68 t225 x15_4).f0))) (fun _ hk => hk.2) (.int .i64 ((rd_T68 t225 x15_4).f1))) (fun _ hk => hk.2) (.int .i64 ((rd_T68 t225 x15_4).f2))) (fun _ hk => hk.2) (.int .i64 ((rd_T68 t225 x15_4).f3))) (fun _ hk => hk.1.1.1)⟩, ⟨by (with_reducible repeat (first | apply Kd.R_alloc | apply Kd.R_drewN | apply Kd.R_drew)); exact Kd.R_mono (Kd.R_far (p := ⟨gb264, 3, none⟩) (Kd.R_far (p := ⟨gb264, 2, none⟩) (Kd.R_far (p := ⟨gb264, 1, none⟩) (Kd.R_far (p := ⟨gb264, 0, none⟩) (Kd.R_types HO_12.out BK264.out (by decide)) (fun _ hk => hk.2) (.string ((rd_T68 t225 x15_4).f0))) (fun _ hk => hk.2) (.int .i64 ((rd_T68 t225 x15_4).f1))) (fun _ hk => hk.2) (.int .i64 ((rd_T68 t225 x15_4).f2))) (fun _ hk => hk.2) (.int .i64 ((rd_T68 t225 x15_4).f3))) (fun _ hk => trivial)⟩, ⟨by (with_reducible repeat (first | apply Kd.R_alloc | apply Kd.R_drewN | apply Kd.R_drew)); exact Kd.R_mono (Kd.R_far (p := ⟨gb264, 3, none⟩) (Kd.R_far (p := ⟨gb264, 2, none⟩) (Kd.R_far (p := ⟨gb264, 1, none⟩) (Kd.R_far (p := ⟨gb264, 0, none⟩) (Kd.R_mono HO_14.out (fun k_ hk => (⟨hk, hk.2⟩ : _ ∧ k_ ≠ gb264))) (fun _ hk => hk.2) (.string ((rd_T68 t225 x15_4).f0))) (fun _ hk => hk.2) (.int .i64 ((rd_T68 t225 x15_4).f1))) (fun _ hk => hk.2) (.int .i64 ((rd_T68 t225 x15_4).f2))) (fun _ hk => hk.2) (.int .i64 ((rd_T68 t225 x15_4).f3))) (fun _ hk => hk.1.1.1)⟩, ⟨by repeat (first | (with_reducible first | exact HB.out | apply below_alloc | apply pw_below_drewN | apply below_drew1 | refine below_set ?_ GE262.out | refine below_set ?_ GE264.out) | exact HB.out)⟩⟩
                        rw [if_pos c77] at H
                        have c77b0 : decide (((rd_T68 t225 x23_6).f3) ≤ ((rd_T68 t225 x15_4).f3)) = true := decide_eq_true c77
                        clear c77
                        by_cases c78 : ((rd_T68 t225 x23_6).f1) ≤ ((rd_T68 t225 x15_4).f1)
                        rotate_left
                        ·
                         rw [if_neg c78] at H
                         have c78b0 : decide (((rd_T68 t225 x23_6).f1) ≤ ((rd_T68 t225 x15_4).f1)) = false := decide_eq_false c78
                         clear c78
                         have H' := aS H
                         clear H
                         have hnb90 := NB262_264.out
                         have hnc90 := NB264_262.out
                         have hcz91_0 : w72.cell? ⟨gb262, 0, none⟩ = some (.string ((rd_T68 t225 x23_6).f0)) := (blk_cell BK262.out 0).trans rfl
                         have hcz91_1 : w72.cell? ⟨gb262, 1, none⟩ = some (.int .i64 ((rd_T68 t225 x23_6).f1)) := (blk_cell BK262.out 1).trans rfl
                         have hcz91_2 : w72.cell? ⟨gb262, 2, none⟩ = some (.int .i64 ((rd_T68 t225 x23_6).f2)) := (blk_cell BK262.out 2).trans rfl
                         have hcz91_3 : w72.cell? ⟨gb262, 3, none⟩ = some (.int .i64 ((rd_T68 t225 x23_6).f3)) := (blk_cell BK262.out 3).trans rfl
                         have hfz91_0 := blk_frozen BK262.out 0
                         have hfz91_1 := blk_frozen BK262.out 1
                         have hfz91_2 := blk_frozen BK262.out 2
                         have hfz91_3 := blk_frozen BK262.out 3
                         have hcz92_0 : w72.cell? ⟨gb264, 0, none⟩ = some (.string (⟨#[]⟩ : ByteArray)) := (blk_cell BK264.out 0).trans rfl
                         have hcz92_1 : w72.cell? ⟨gb264, 1, none⟩ = some (.int .i64 0) := (blk_cell BK264.out 1).trans rfl
                         have hcz92_2 : w72.cell? ⟨gb264, 2, none⟩ = some (.int .i64 0) := (blk_cell BK264.out 2).trans rfl
                         have hcz92_3 : w72.cell? ⟨gb264, 3, none⟩ = some (.int .i64 0) := (blk_cell BK264.out 3).trans rfl
                         have hfz92_0 := blk_frozen BK264.out 0
                         have hfz92_1 := blk_frozen BK264.out 1
                         have hfz92_2 := blk_frozen BK264.out 2
                         have hfz92_3 := blk_frozen BK264.out 3
                         go_wp2
                         repeat (go_quiet (fail); try go_wp2)
                         go_roundg k6
                         case measure => have := HK1.out; have := HJ23.out; have := HJ30.out; have := HK4.out; have := HJ47.out; have := HK6.out; omega
                         case rel => exact ⟨(false), (wrap64 (x23_6 + 1)), (by first | rfl | (simp; done) | (simp [*]; done) | (simp only [i64_w]; done) | (simp [i64_w]; done)), (by first | rfl | (simp; done) | (simp [*]; done) | (simp only [i64_w]; done) | (simp [i64_w]; done)), H', ⟨by have := HK1.out; have := HJ23.out; have := HJ30.out; have := HK4.out; have := HJ47.out; have := HK6.out; omega⟩, ⟨by (with_reducible repeat (first | apply Kd.R_alloc | apply Kd.R_drewN | apply Kd.R_drew)); exact Kd.R_mono (Kd.R_far (p := ⟨gb264, 3, none⟩) (Kd.R_far (p := ⟨gb264, 2, none⟩) (Kd.R_far (p := ⟨gb264, 1, none⟩) (Kd.R_far (p := ⟨gb264, 0, none⟩) (Kd.R_mono HO_5.out (fun k_ hk => (⟨hk, hk.2⟩ : _ ∧ k_ ≠ gb264))) (fun _ hk => hk.2) (.string ((rd_T68 t225 x15_4).f0))) (fun _ hk => hk.2) (.int .i64 ((rd_T68 t225 x15_4).f1))) (fun _ hk => hk.2) (.int .i64 ((rd_T68 t225 x15_4).f2))) (fun _ hk => hk.2) (.int .i64 ((rd_T68 t225 x15_4).f3))) (fun _ hk => hk.1.1.1)⟩, ⟨by (with_reducible repeat (first | apply Kd.R_alloc | apply Kd.R_drewN | apply Kd.R_drew)); exact Kd.R_mono (Kd.R_far (p := ⟨gb264, 3, none⟩) (Kd.R_far (p := ⟨gb264, 2, none⟩) (Kd.R_far (p := ⟨gb264, 1, none⟩) (Kd.R_far (p := ⟨gb264, 0, none⟩) (Kd.R_types HO_12.out BK264.out (by decide)) (fun _ hk => hk.2) (.string ((rd_T68 t225 x15_4).f0))) (fun _ hk => hk.2) (.int .i64 ((rd_T68 t225 x15_4).f1))) (fun _ hk => hk.2) (.int .i64 ((rd_T68 t225 x15_4).f2))) (fun _ hk => hk.2) (.int .i64 ((rd_T68 t225 x15_4).f3))) (fun _ hk => trivial)⟩, ⟨by (with_reducible repeat (first | apply Kd.R_alloc | apply Kd.R_drewN | apply Kd.R_drew)); exact Kd.R_mono (Kd.R_far (p := ⟨gb264, 3, none⟩) (Kd.R_far (p := ⟨gb264, 2, none⟩) (Kd.R_far (p := ⟨gb264, 1, none⟩) (Kd.R_far (p := ⟨gb264, 0, none⟩) (Kd.R_mono HO_14.out (fun k_ hk => (⟨hk, hk.2⟩ : _ ∧ k_ ≠ gb264))) (fun _ hk => hk.2) (.string ((rd_T68 t225 x15_4).f0))) (fun _ hk => hk.2) (.int .i64 ((rd_T68 t225 x15_4).f1))) (fun _ hk => hk.2) (.int .i64 ((rd_T68 t225 x15_4).f2))) (fun _ hk => hk.2) (.int .i64 ((rd_T68 t225 x15_4).f3))) (fun _ hk => hk.1.1.1)⟩, ⟨by repeat (first | (with_reducible first | exact HB.out | apply below_alloc | apply pw_below_drewN | apply below_drew1 | refine below_set ?_ GE262.out | refine below_set ?_ GE264.out) | exact HB.out)⟩⟩
                        rw [if_pos c78] at H
                        have c78b0 : decide (((rd_T68 t225 x23_6).f1) ≤ ((rd_T68 t225 x15_4).f1)) = true := decide_eq_true c78
                        clear c78
                        by_cases c79 : ((rd_T68 t225 x23_6).f2) > ((rd_T68 t225 x15_4).f2)
                        ·
                         rw [if_pos c79] at H
                         have c79b0 : decide (((rd_T68 t225 x15_4).f2) < ((rd_T68 t225 x23_6).f2)) = true := decide_eq_true c79
                         clear c79
                         have H' := aS H
                         clear H
                         have hnb80 := NB262_264.out
                         have hnc80 := NB264_262.out
                         have hcz81_0 : w72.cell? ⟨gb262, 0, none⟩ = some (.string ((rd_T68 t225 x23_6).f0)) := (blk_cell BK262.out 0).trans rfl
                         have hcz81_1 : w72.cell? ⟨gb262, 1, none⟩ = some (.int .i64 ((rd_T68 t225 x23_6).f1)) := (blk_cell BK262.out 1).trans rfl
                         have hcz81_2 : w72.cell? ⟨gb262, 2, none⟩ = some (.int .i64 ((rd_T68 t225 x23_6).f2)) := (blk_cell BK262.out 2).trans rfl
                         have hcz81_3 : w72.cell? ⟨gb262, 3, none⟩ = some (.int .i64 ((rd_T68 t225 x23_6).f3)) := (blk_cell BK262.out 3).trans rfl
                         have hfz81_0 := blk_frozen BK262.out 0
                         have hfz81_1 := blk_frozen BK262.out 1
                         have hfz81_2 := blk_frozen BK262.out 2
                         have hfz81_3 := blk_frozen BK262.out 3
                         have hcz82_0 : w72.cell? ⟨gb264, 0, none⟩ = some (.string (⟨#[]⟩ : ByteArray)) := (blk_cell BK264.out 0).trans rfl
                         have hcz82_1 : w72.cell? ⟨gb264, 1, none⟩ = some (.int .i64 0) := (blk_cell BK264.out 1).trans rfl
                         have hcz82_2 : w72.cell? ⟨gb264, 2, none⟩ = some (.int .i64 0) := (blk_cell BK264.out 2).trans rfl
                         have hcz82_3 : w72.cell? ⟨gb264, 3, none⟩ = some (.int .i64 0) := (blk_cell BK264.out 3).trans rfl
                         have hfz82_0 := blk_frozen BK264.out 0
                         have hfz82_1 := blk_frozen BK264.out 1
                         have hfz82_2 := blk_frozen BK264.out 2
                         have hfz82_3 := blk_frozen BK264.out 3
                         go_wp2
                         repeat (go_quiet (fail); try go_wp2)
                         go_roundg k6
                         case measure => have := HK1.out; have := HJ23.out; have := HJ30.out; have := HK4.out; have := HJ47.out; have := HK6.out; omega
                         case rel => exact ⟨(true), (wrap64 (x23_6 + 1)), (by first | rfl | (simp; done) | (simp [*]; done) | (simp only [i64_w]; done) | (simp [i64_w]; done)), (by first | rfl | (simp; done) | (simp [*]; done) | (simp only [i64_w]; done) | (simp [i64_w]; done)), H', ⟨by have := HK1.out; have := HJ23.out; have := HJ30.out; have := HK4.out; have := HJ47.out; have := HK6.out; omega⟩, ⟨by (with_reducible repeat (first | apply Kd.R_alloc | apply Kd.R_drewN | apply Kd.R_drew)); exact Kd.R_mono (Kd.R_far (p := ⟨gb264, 3, none⟩) (Kd.R_far (p := ⟨gb264, 2, none⟩) (Kd.R_far (p := ⟨gb264, 1, none⟩) (Kd.R_far (p := ⟨gb264, 0, none⟩) (Kd.R_mono HO_5.out (fun k_ hk => (⟨hk, hk.2⟩ : _ ∧ k_ ≠ gb264))) (fun _ hk => hk.2) (.string ((rd_T68 t225 x15_4).f0))) (fun _ hk => hk.2) (.int .i64 ((rd_T68 t225 x15_4).f1))) (fun _ hk => hk.2) (.int .i64 ((rd_T68 t225 x15_4).f2))) (fun _ hk => hk.2) (.int .i64 ((rd_T68 t225 x15_4).f3))) (fun _ hk => hk.1.1.1)⟩, ⟨by (with_reducible repeat (first | apply Kd.R_alloc | apply Kd.R_drewN | apply Kd.R_drew)); exact Kd.R_mono (Kd.R_far (p := ⟨gb264, 3, none⟩) (Kd.R_far (p := ⟨gb264, 2, none⟩) (Kd.R_far (p := ⟨gb264, 1, none⟩) (Kd.R_far (p := ⟨gb264, 0, none⟩) (Kd.R_types HO_12.out BK264.out (by decide)) (fun _ hk => hk.2) (.string ((rd_T68 t225 x15_4).f0))) (fun _ hk => hk.2) (.int .i64 ((rd_T68 t225 x15_4).f1))) (fun _ hk => hk.2) (.int .i64 ((rd_T68 t225 x15_4).f2))) (fun _ hk => hk.2) (.int .i64 ((rd_T68 t225 x15_4).f3))) (fun _ hk => trivial)⟩, ⟨by (with_reducible repeat (first | apply Kd.R_alloc | apply Kd.R_drewN | apply Kd.R_drew)); exact Kd.R_mono (Kd.R_far (p := ⟨gb264, 3, none⟩) (Kd.R_far (p := ⟨gb264, 2, none⟩) (Kd.R_far (p := ⟨gb264, 1, none⟩) (Kd.R_far (p := ⟨gb264, 0, none⟩) (Kd.R_mono HO_14.out (fun k_ hk => (⟨hk, hk.2⟩ : _ ∧ k_ ≠ gb264))) (fun _ hk => hk.2) (.string ((rd_T68 t225 x15_4).f0))) (fun _ hk => hk.2) (.int .i64 ((rd_T68 t225 x15_4).f1))) (fun _ hk => hk.2) (.int .i64 ((rd_T68 t225 x15_4).f2))) (fun _ hk => hk.2) (.int .i64 ((rd_T68 t225 x15_4).f3))) (fun _ hk => hk.1.1.1)⟩, ⟨by repeat (first | (with_reducible first | exact HB.out | apply below_alloc | apply pw_below_drewN | apply below_drew1 | refine below_set ?_ GE262.out | refine below_set ?_ GE264.out) | exact HB.out)⟩⟩
                        rw [if_neg c79] at H
                        have c79b0 : decide (((rd_T68 t225 x15_4).f2) < ((rd_T68 t225 x23_6).f2)) = false := decide_eq_false c79
                        clear c79
                        by_cases c83 : ((rd_T68 t225 x23_6).f3) < ((rd_T68 t225 x15_4).f3)
                        ·
                         rw [if_pos c83] at H
                         have c83b0 : decide (((rd_T68 t225 x23_6).f3) < ((rd_T68 t225 x15_4).f3)) = true := decide_eq_true c83
                         clear c83
                         have H' := aS H
                         clear H
                         have hnb84 := NB262_264.out
                         have hnc84 := NB264_262.out
                         have hcz85_0 : w72.cell? ⟨gb262, 0, none⟩ = some (.string ((rd_T68 t225 x23_6).f0)) := (blk_cell BK262.out 0).trans rfl
                         have hcz85_1 : w72.cell? ⟨gb262, 1, none⟩ = some (.int .i64 ((rd_T68 t225 x23_6).f1)) := (blk_cell BK262.out 1).trans rfl
                         have hcz85_2 : w72.cell? ⟨gb262, 2, none⟩ = some (.int .i64 ((rd_T68 t225 x23_6).f2)) := (blk_cell BK262.out 2).trans rfl
                         have hcz85_3 : w72.cell? ⟨gb262, 3, none⟩ = some (.int .i64 ((rd_T68 t225 x23_6).f3)) := (blk_cell BK262.out 3).trans rfl
                         have hfz85_0 := blk_frozen BK262.out 0
                         have hfz85_1 := blk_frozen BK262.out 1
                         have hfz85_2 := blk_frozen BK262.out 2
                         have hfz85_3 := blk_frozen BK262.out 3
                         have hcz86_0 : w72.cell? ⟨gb264, 0, none⟩ = some (.string (⟨#[]⟩ : ByteArray)) := (blk_cell BK264.out 0).trans rfl
                         have hcz86_1 : w72.cell? ⟨gb264, 1, none⟩ = some (.int .i64 0) := (blk_cell BK264.out 1).trans rfl
                         have hcz86_2 : w72.cell? ⟨gb264, 2, none⟩ = some (.int .i64 0) := (blk_cell BK264.out 2).trans rfl
                         have hcz86_3 : w72.cell? ⟨gb264, 3, none⟩ = some (.int .i64 0) := (blk_cell BK264.out 3).trans rfl
                         have hfz86_0 := blk_frozen BK264.out 0
                         have hfz86_1 := blk_frozen BK264.out 1
                         have hfz86_2 := blk_frozen BK264.out 2
                         have hfz86_3 := blk_frozen BK264.out 3
                         go_wp2
                         repeat (go_quiet (fail); try go_wp2)
                         go_roundg k6
                         case measure => have := HK1.out; have := HJ23.out; have := HJ30.out; have := HK4.out; have := HJ47.out; have := HK6.out; omega
                         case rel => exact ⟨(true), (wrap64 (x23_6 + 1)), (by first | rfl | (simp; done) | (simp [*]; done) | (simp only [i64_w]; done) | (simp [i64_w]; done)), (by first | rfl | (simp; done) | (simp [*]; done) | (simp only [i64_w]; done) | (simp [i64_w]; done)), H', ⟨by have := HK1.out; have := HJ23.out; have := HJ30.out; have := HK4.out; have := HJ47.out; have := HK6.out; omega⟩, ⟨by (with_reducible repeat (first | apply Kd.R_alloc | apply Kd.R_drewN | apply Kd.R_drew)); exact Kd.R_mono (Kd.R_far (p := ⟨gb264, 3, none⟩) (Kd.R_far (p := ⟨gb264, 2, none⟩) (Kd.R_far (p := ⟨gb264, 1, none⟩) (Kd.R_far (p := ⟨gb264, 0, none⟩) (Kd.R_mono HO_5.out (fun k_ hk => (⟨hk, hk.2⟩ : _ ∧ k_ ≠ gb264))) (fun _ hk => hk.2) (.string ((rd_T68 t225 x15_4).f0))) (fun _ hk => hk.2) (.int .i64 ((rd_T68 t225 x15_4).f1))) (fun _ hk => hk.2) (.int .i64 ((rd_T68 t225 x15_4).f2))) (fun _ hk => hk.2) (.int .i64 ((rd_T68 t225 x15_4).f3))) (fun _ hk => hk.1.1.1)⟩, ⟨by (with_reducible repeat (first | apply Kd.R_alloc | apply Kd.R_drewN | apply Kd.R_drew)); exact Kd.R_mono (Kd.R_far (p := ⟨gb264, 3, none⟩) (Kd.R_far (p := ⟨gb264, 2, none⟩) (Kd.R_far (p := ⟨gb264, 1, none⟩) (Kd.R_far (p := ⟨gb264, 0, none⟩) (Kd.R_types HO_12.out BK264.out (by decide)) (fun _ hk => hk.2) (.string ((rd_T68 t225 x15_4).f0))) (fun _ hk => hk.2) (.int .i64 ((rd_T68 t225 x15_4).f1))) (fun _ hk => hk.2) (.int .i64 ((rd_T68 t225 x15_4).f2))) (fun _ hk => hk.2) (.int .i64 ((rd_T68 t225 x15_4).f3))) (fun _ hk => trivial)⟩, ⟨by (with_reducible repeat (first | apply Kd.R_alloc | apply Kd.R_drewN | apply Kd.R_drew)); exact Kd.R_mono (Kd.R_far (p := ⟨gb264, 3, none⟩) (Kd.R_far (p := ⟨gb264, 2, none⟩) (Kd.R_far (p := ⟨gb264, 1, none⟩) (Kd.R_far (p := ⟨gb264, 0, none⟩) (Kd.R_mono HO_14.out (fun k_ hk => (⟨hk, hk.2⟩ : _ ∧ k_ ≠ gb264))) (fun _ hk => hk.2) (.string ((rd_T68 t225 x15_4).f0))) (fun _ hk => hk.2) (.int .i64 ((rd_T68 t225 x15_4).f1))) (fun _ hk => hk.2) (.int .i64 ((rd_T68 t225 x15_4).f2))) (fun _ hk => hk.2) (.int .i64 ((rd_T68 t225 x15_4).f3))) (fun _ hk => hk.1.1.1)⟩, ⟨by repeat (first | (with_reducible first | exact HB.out | apply below_alloc | apply pw_below_drewN | apply below_drew1 | refine below_set ?_ GE262.out | refine below_set ?_ GE264.out) | exact HB.out)⟩⟩
                        rw [if_neg c83] at H
                        have c83b0 : decide (((rd_T68 t225 x23_6).f3) < ((rd_T68 t225 x15_4).f3)) = false := decide_eq_false c83
                        clear c83
                        have H' := aS H
                        clear H
                        have hnb87 := NB262_264.out
                        have hnc87 := NB264_262.out
                        have hcz88_0 : w72.cell? ⟨gb262, 0, none⟩ = some (.string ((rd_T68 t225 x23_6).f0)) := (blk_cell BK262.out 0).trans rfl
                        have hcz88_1 : w72.cell? ⟨gb262, 1, none⟩ = some (.int .i64 ((rd_T68 t225 x23_6).f1)) := (blk_cell BK262.out 1).trans rfl
                        have hcz88_2 : w72.cell? ⟨gb262, 2, none⟩ = some (.int .i64 ((rd_T68 t225 x23_6).f2)) := (blk_cell BK262.out 2).trans rfl
                        have hcz88_3 : w72.cell? ⟨gb262, 3, none⟩ = some (.int .i64 ((rd_T68 t225 x23_6).f3)) := (blk_cell BK262.out 3).trans rfl
                        have hfz88_0 := blk_frozen BK262.out 0
                        have hfz88_1 := blk_frozen BK262.out 1
                        have hfz88_2 := blk_frozen BK262.out 2
                        have hfz88_3 := blk_frozen BK262.out 3
                        have hcz89_0 : w72.cell? ⟨gb264, 0, none⟩ = some (.string (⟨#[]⟩ : ByteArray)) := (blk_cell BK264.out 0).trans rfl
                        have hcz89_1 : w72.cell? ⟨gb264, 1, none⟩ = some (.int .i64 0) := (blk_cell BK264.out 1).trans rfl
                        have hcz89_2 : w72.cell? ⟨gb264, 2, none⟩ = some (.int .i64 0) := (blk_cell BK264.out 2).trans rfl
                        have hcz89_3 : w72.cell? ⟨gb264, 3, none⟩ = some (.int .i64 0) := (blk_cell BK264.out 3).trans rfl
                        have hfz89_0 := blk_frozen BK264.out 0
                        have hfz89_1 := blk_frozen BK264.out 1
                        have hfz89_2 := blk_frozen BK264.out 2
                        have hfz89_3 := blk_frozen BK264.out 3
                        go_wp2
                        repeat (go_quiet (fail); try go_wp2)
                        go_roundg k6
                        case measure => have := HK1.out; have := HJ23.out; have := HJ30.out; have := HK4.out; have := HJ47.out; have := HK6.out; omega
                        case rel => exact ⟨(decide (((rd_T68 t225 x23_6).f1) < ((rd_T68 t225 x15_4).f1))), (wrap64 (x23_6 + 1)), (by first | rfl | (simp; done) | (simp [*]; done) | (simp only [i64_w]; done) | (simp [i64_w]; done)), (by first | rfl | (simp; done) | (simp [*]; done) | (simp only [i64_w]; done) | (simp [i64_w]; done)), H', ⟨by have := HK1.out; have := HJ23.out; have := HJ30.out; have := HK4.out; have := HJ47.out; have := HK6.out; omega⟩, ⟨by (with_reducible repeat (first | apply Kd.R_alloc | apply Kd.R_drewN | apply Kd.R_drew)); exact Kd.R_mono (Kd.R_far (p := ⟨gb264, 3, none⟩) (Kd.R_far (p := ⟨gb264, 2, none⟩) (Kd.R_far (p := ⟨gb264, 1, none⟩) (Kd.R_far (p := ⟨gb264, 0, none⟩) (Kd.R_mono HO_5.out (fun k_ hk => (⟨hk, hk.2⟩ : _ ∧ k_ ≠ gb264))) (fun _ hk => hk.2) (.string ((rd_T68 t225 x15_4).f0))) (fun _ hk => hk.2) (.int .i64 ((rd_T68 t225 x15_4).f1))) (fun _ hk => hk.2) (.int .i64 ((rd_T68 t225 x15_4).f2))) (fun _ hk => hk.2) (.int .i64 ((rd_T68 t225 x15_4).f3))) (fun _ hk => hk.1.1.1)⟩, ⟨by (with_reducible repeat (first | apply Kd.R_alloc | apply Kd.R_drewN | apply Kd.R_drew)); exact Kd.R_mono (Kd.R_far (p := ⟨gb264, 3, none⟩) (Kd.R_far (p := ⟨gb264, 2, none⟩) (Kd.R_far (p := ⟨gb264, 1, none⟩) (Kd.R_far (p := ⟨gb264, 0, none⟩) (Kd.R_types HO_12.out BK264.out (by decide)) (fun _ hk => hk.2) (.string ((rd_T68 t225 x15_4).f0))) (fun _ hk => hk.2) (.int .i64 ((rd_T68 t225 x15_4).f1))) (fun _ hk => hk.2) (.int .i64 ((rd_T68 t225 x15_4).f2))) (fun _ hk => hk.2) (.int .i64 ((rd_T68 t225 x15_4).f3))) (fun _ hk => trivial)⟩, ⟨by (with_reducible repeat (first | apply Kd.R_alloc | apply Kd.R_drewN | apply Kd.R_drew)); exact Kd.R_mono (Kd.R_far (p := ⟨gb264, 3, none⟩) (Kd.R_far (p := ⟨gb264, 2, none⟩) (Kd.R_far (p := ⟨gb264, 1, none⟩) (Kd.R_far (p := ⟨gb264, 0, none⟩) (Kd.R_mono HO_14.out (fun k_ hk => (⟨hk, hk.2⟩ : _ ∧ k_ ≠ gb264))) (fun _ hk => hk.2) (.string ((rd_T68 t225 x15_4).f0))) (fun _ hk => hk.2) (.int .i64 ((rd_T68 t225 x15_4).f1))) (fun _ hk => hk.2) (.int .i64 ((rd_T68 t225 x15_4).f2))) (fun _ hk => hk.2) (.int .i64 ((rd_T68 t225 x15_4).f3))) (fun _ hk => hk.1.1.1)⟩, ⟨by repeat (first | (with_reducible first | exact HB.out | apply below_alloc | apply pw_below_drewN | apply below_drew1 | refine below_set ?_ GE262.out | refine below_set ?_ GE264.out) | exact HB.out)⟩⟩
                 ·
                  rw [if_neg c43] at H
                  have c43b0 : decide (x15_4 < (t225.length : Int)) = false := decide_eq_false c43
                  clear c43
                  obtain rfl := Option.some.inj H
                  go_wp2
                  repeat (go_quiet (fail); try go_wp2)
                  go_ret
                  exact ⟨by first | rfl | (simp [errW_none, errW_some, i64_w]; done) | (simp [errW_none, errW_some] <;> rfl) | (simp [*, errW_none, errW_some] <;> rfl), by repeat (first | (with_reducible first | exact HB.out | apply below_alloc | apply pw_below_drewN | apply below_drew1) | exact HB.out)⟩
    
/-- THE ONE PURE STATEMENT of laws_FnRopeLists. -/
def laws_FnRopeLists.Pure : Prop := ∀ (l0 : List Int) (l1 : List Int), (l0.length * 1 ≤ 140737488351232 ∧ l0.length ≤ maxLen ∧ (∀ y0 ∈ l0, (Lit.int .u8 y0).wf = true)) → (l1.length * 1 ≤ 140737488351232 ∧ l1.length ≤ maxLen ∧ (∀ y0 ∈ l1, (Lit.int .u8 y0).wf = true)) → ∃ k, laws_FnRopeLists.f k l0 l1 = some true
theorem laws_FnRopeLists.walk : True := trivial

end Go.Proofs.Ytginmioklkcgbaa.QFnRopeLists

/- What the Go functions of this law compute, each as a Lean function, and that each call comes to that answer; written by a program of this session. No condition. -/
import Derived.Test.YtginmioklkcgbaaVQFnExactLongestLinex0
import Derived.Test.YtginmioklkcgbaaVQFnExactLongestLinex2
import Derived.Test.YtginmioklkcgbaaVQFnExactLongestLinex3
namespace Go.Proofs.Ytginmioklkcgbaa.QFnExactLongestLine
open Go.RowKit Go.Proofs.YtginmioklkcgbaaW.PrintWords Go.Proofs.YtginmioklkcgbaaW.PrintLast Go.Proofs.YtginmioklkcgbaaW.PrintMore
attribute [local go_sem] max2_int min2_int max_two min_two max_three min_three max_four min_four   -- for this text's walks alone
set_option linter.unusedVariables false
set_option linter.unusedSimpArgs false

/-! ### spec_LongestLine: function 9 -/
mutual
def spec_LongestLine.l0 : Nat → List (S61) → List (S45) → Int → Int → Option ((List (S45)) × List Int × Int)
 | 0, _, _, _, _ => none
 | k + 1, x0, x1, x2, x8 => if x8 < (x1.length : Int) then (if 0 ≤ x8 then ((spec_l03Piece.f ((rd_T45 x1 x8).f0) ((rd_T45 x1 x8).f1)).bind fun t144 => (if t144 = true then (spec_LongestLine.l0 k x0 x1 x2 (wrap64 (x8 + 1))) else (some (([] : List (S45)), ([] : List Int), 1)))) else (none)) else (if (x1.length : Int) > 12 then (spec_LongestLine.j1 k x0 x1 x2 true) else ((spec_l03Need.f x2).bind fun t145 => (spec_LongestLine.j1 k x0 x1 x2 (!t145))))
def spec_LongestLine.j1 : Nat → List (S61) → List (S45) → Int → Bool → Option ((List (S45)) × List Int × Int)
 | 0, _, _, _, _ => none
 | k + 1, x0, x1, x2, x42 => if x42 = true then (some (([] : List (S45)), ([] : List Int), 2)) else (spec_LongestLine.l1 k x0 x1 x2 (([] : List (S45))) 0)
def spec_LongestLine.l1 : Nat → List (S61) → List (S45) → Int → List (S45) → Int → Option ((List (S45)) × List Int × Int)
 | 0, _, _, _, _, _ => none
 | k + 1, x0, x1, x2, x9, x10 => if x10 < (x1.length : Int) then (if 0 ≤ x10 then (if ((rd_T45 x1 x10).f0) < x2 then (spec_LongestLine.l1 k x0 x1 x2 x9 (wrap64 (x10 + 1))) else (spec_LongestLine.l2 k x0 x1 x2 x9 x10 (x9.length : Int))) else (none)) else (if (x9.length : Int) = 0 then (some (([] : List (S45)), ([] : List Int), 3)) else (if 0 < (x9.length : Int) then (spec_LongestLine.l3 k x0 x2 x9 1 (([(⟨(rd_T45 x9 0).f0, (rd_T45 x9 0).f1⟩ : S45)] : List (S45))) (([] : List Int))) else (none)))
def spec_LongestLine.l2 : Nat → List (S61) → List (S45) → Int → List (S45) → Int → Int → Option ((List (S45)) × List Int × Int)
 | 0, _, _, _, _, _, _ => none
 | k + 1, x0, x1, x2, x9, x10, x11 => if x11 > 0 then (if 0 ≤ (wrap64 (x11 - 1)) then (if (wrap64 (x11 - 1)) < (x9.length : Int) then (if 0 ≤ x10 then (if x10 < (x1.length : Int) then (if ((rd_T45 x9 (wrap64 (x11 - 1))).f0) < ((rd_T45 x1 x10).f0) then (spec_LongestLine.j4 k x0 x1 x2 x9 x10 x11 true) else (if ((rd_T45 x9 (wrap64 (x11 - 1))).f0) = ((rd_T45 x1 x10).f0) then (spec_LongestLine.j4 k x0 x1 x2 x9 x10 x11 (decide (((rd_T45 x9 (wrap64 (x11 - 1))).f1) < ((rd_T45 x1 x10).f1)))) else (spec_LongestLine.j4 k x0 x1 x2 x9 x10 x11 false))) else (none)) else (none)) else (none)) else (none)) else (spec_LongestLine.j4 k x0 x1 x2 x9 x10 x11 false)
def spec_LongestLine.j4 : Nat → List (S61) → List (S45) → Int → List (S45) → Int → Int → Bool → Option ((List (S45)) × List Int × Int)
 | 0, _, _, _, _, _, _, _ => none
 | k + 1, x0, x1, x2, x9, x10, x11, x103 => if x103 = true then (spec_LongestLine.l2 k x0 x1 x2 x9 x10 (wrap64 (x11 - 1))) else ((some (([] : List (S45)) : List (S45))).bind fun y156 => (if 0 ≤ x11 then (if x11 ≤ (x9.length : Int) then ((some (x9.take (x11 : Int).toNat : List (S45))).bind fun y159 => (if y156.length + y159.length < 8796093022208 then ((some (y156 ++ y159 : List (S45))).bind fun y163 => (if 0 ≤ x10 then (if x10 < (x1.length : Int) then (if y163.length < 8796093022208 then ((some (y163 ++ [(⟨(rd_T45 x1 x10).f0, (rd_T45 x1 x10).f1⟩ : S45)] : List (S45))).bind fun y167 => ((some (x9.drop (x11 : Int).toNat : List (S45))).bind fun y170 => (if y167.length + y170.length < 8796093022208 then (spec_LongestLine.l1 k x0 x1 x2 (y167 ++ y170) (wrap64 (x10 + 1))) else (none)))) else (none)) else (none)) else (none))) else (none))) else (none)) else (none)))
def spec_LongestLine.l3 : Nat → List (S61) → Int → List (S45) → Int → List (S45) → List Int → Option ((List (S45)) × List Int × Int)
 | 0, _, _, _, _, _, _ => none
 | k + 1, x0, x2, x9, x14, x185000, x185001 => if x14 < (x9.length : Int) then (if 0 ≤ (wrap64 ((x185000.length : Int) - 1)) then (if (wrap64 ((x185000.length : Int) - 1)) < (x185000.length : Int) then (if 0 ≤ x14 then ((spec_BestJoin.f k x0 ((rd_T45 x185000 (wrap64 ((x185000.length : Int) - 1))).f0) ((rd_T45 x185000 (wrap64 ((x185000.length : Int) - 1))).f1) ((rd_T45 x9 x14).f0) ((rd_T45 x9 x14).f1) x2).bind fun bt188 => (if bt188.2 = 0 then (if 0 ≤ bt188.1 then (if bt188.1 < (x0.length : Int) then (if ((rd_T61 x0 bt188.1).f2) < ((rd_T45 x9 x14).f1) then (if x185000.length < 8796093022208 then (if x185001.length < 17592186044416 then (spec_LongestLine.l3 k x0 x2 x9 (wrap64 (x14 + 1)) (x185000 ++ [(⟨(rd_T45 x9 x14).f0, (rd_T45 x9 x14).f1⟩ : S45)]) (x185001 ++ [bt188.1])) else (none)) else (none)) else (spec_LongestLine.l3 k x0 x2 x9 (wrap64 (x14 + 1)) x185000 x185001)) else (none)) else (none)) else (spec_LongestLine.l3 k x0 x2 x9 (wrap64 (x14 + 1)) x185000 x185001))) else (none)) else (none)) else (none)) else (some (x185000, x185001, 0))
end
def spec_LongestLine.f (k : Nat) (l0 : List (S61)) (l1 : List (S45)) (a2 : Int) : Option ((List (S45)) × List Int × Int) := (spec_l03Ok.f k l0).bind fun t142 => (if t142 = true then (spec_LongestLine.l0 k l0 l1 a2 0) else (some (([] : List (S45)), ([] : List Int), 1)))
theorem spec_LongestLine.mono_l : ∀ k, (∀ y0 y1 y2 y3, LeO (spec_LongestLine.l0 k y0 y1 y2 y3) (spec_LongestLine.l0 (k + 1) y0 y1 y2 y3)) ∧ (∀ y0 y1 y2 y3, LeO (spec_LongestLine.j1 k y0 y1 y2 y3) (spec_LongestLine.j1 (k + 1) y0 y1 y2 y3)) ∧ (∀ y0 y1 y2 y3 y4, LeO (spec_LongestLine.l1 k y0 y1 y2 y3 y4) (spec_LongestLine.l1 (k + 1) y0 y1 y2 y3 y4)) ∧ (∀ y0 y1 y2 y3 y4 y5, LeO (spec_LongestLine.l2 k y0 y1 y2 y3 y4 y5) (spec_LongestLine.l2 (k + 1) y0 y1 y2 y3 y4 y5)) ∧ (∀ y0 y1 y2 y3 y4 y5 y6, LeO (spec_LongestLine.j4 k y0 y1 y2 y3 y4 y5 y6) (spec_LongestLine.j4 (k + 1) y0 y1 y2 y3 y4 y5 y6)) ∧ (∀ y0 y1 y2 y3 y4 y5, LeO (spec_LongestLine.l3 k y0 y1 y2 y3 y4 y5) (spec_LongestLine.l3 (k + 1) y0 y1 y2 y3 y4 y5))
 | 0 => ⟨fun _ _ _ _ r h => by simp [spec_LongestLine.l0] at h, fun _ _ _ _ r h => by simp [spec_LongestLine.j1] at h, fun _ _ _ _ _ r h => by simp [spec_LongestLine.l1] at h, fun _ _ _ _ _ _ r h => by simp [spec_LongestLine.l2] at h, fun _ _ _ _ _ _ _ r h => by simp [spec_LongestLine.j4] at h, fun _ _ _ _ _ _ r h => by simp [spec_LongestLine.l3] at h⟩
 | k + 1 => by
  obtain ⟨ih0, ih1, ih2, ih3, ih4, ih5⟩ := spec_LongestLine.mono_l k
  refine ⟨?_, ?_, ?_, ?_, ?_, ?_⟩
  ·
   intro y0 y1 y2 y3
   unfold spec_LongestLine.l0
   repeat' first
   | (with_reducible exact ih0 _ _ _ _)
   | (with_reducible exact ih1 _ _ _ _)
   | (with_reducible exact ih2 _ _ _ _ _)
   | (with_reducible exact ih3 _ _ _ _ _ _)
   | (with_reducible exact ih4 _ _ _ _ _ _ _)
   | (with_reducible exact ih5 _ _ _ _ _ _)
   | (with_reducible exact spec_BestJoin.mono _ _ _ _ _ _ _)
   | (with_reducible exact spec_l03Ok.mono _ _)
   | (with_reducible exact LeO.refl _)
   | (with_reducible exact LeO.none _)
   | (with_reducible refine LeO.ite ?_ ?_)
   | (with_reducible refine LeO.bind ?_ (fun _ => ?_))
   | exact ih0 _ _ _ _
   | exact ih1 _ _ _ _
   | exact ih2 _ _ _ _ _
   | exact ih3 _ _ _ _ _ _
   | exact ih4 _ _ _ _ _ _ _
   | exact ih5 _ _ _ _ _ _
   | exact spec_BestJoin.mono _ _ _ _ _ _ _
   | exact spec_l03Ok.mono _ _
   | exact LeO.none _
   | refine LeO.ite ?_ ?_
   | refine LeO.bind ?_ (fun _ => ?_)
  ·
   intro y0 y1 y2 y3
   unfold spec_LongestLine.j1
   repeat' first
   | (with_reducible exact ih0 _ _ _ _)
   | (with_reducible exact ih1 _ _ _ _)
   | (with_reducible exact ih2 _ _ _ _ _)
   | (with_reducible exact ih3 _ _ _ _ _ _)
   | (with_reducible exact ih4 _ _ _ _ _ _ _)
   | (with_reducible exact ih5 _ _ _ _ _ _)
   | (with_reducible exact spec_BestJoin.mono _ _ _ _ _ _ _)
   | (with_reducible exact spec_l03Ok.mono _ _)
   | (with_reducible exact LeO.refl _)
   | (with_reducible exact LeO.none _)
   | (with_reducible refine LeO.ite ?_ ?_)
   | (with_reducible refine LeO.bind ?_ (fun _ => ?_))
   | exact ih0 _ _ _ _
   | exact ih1 _ _ _ _
   | exact ih2 _ _ _ _ _
   | exact ih3 _ _ _ _ _ _
   | exact ih4 _ _ _ _ _ _ _
   | exact ih5 _ _ _ _ _ _
   | exact spec_BestJoin.mono _ _ _ _ _ _ _
   | exact spec_l03Ok.mono _ _
   | exact LeO.none _
   | refine LeO.ite ?_ ?_
   | refine LeO.bind ?_ (fun _ => ?_)
  ·
   intro y0 y1 y2 y3 y4
   unfold spec_LongestLine.l1
   repeat' first
   | (with_reducible exact ih0 _ _ _ _)
   | (with_reducible exact ih1 _ _ _ _)
   | (with_reducible exact ih2 _ _ _ _ _)
   | (with_reducible exact ih3 _ _ _ _ _ _)
   | (with_reducible exact ih4 _ _ _ _ _ _ _)
   | (with_reducible exact ih5 _ _ _ _ _ _)
   | (with_reducible exact spec_BestJoin.mono _ _ _ _ _ _ _)
   | (with_reducible exact spec_l03Ok.mono _ _)
   | (with_reducible exact LeO.refl _)
   | (with_reducible exact LeO.none _)
   | (with_reducible refine LeO.ite ?_ ?_)
   | (with_reducible refine LeO.bind ?_ (fun _ => ?_))
   | exact ih0 _ _ _ _
   | exact ih1 _ _ _ _
   | exact ih2 _ _ _ _ _
   | exact ih3 _ _ _ _ _ _
   | exact ih4 _ _ _ _ _ _ _
   | exact ih5 _ _ _ _ _ _
   | exact spec_BestJoin.mono _ _ _ _ _ _ _
   | exact spec_l03Ok.mono _ _
   | exact LeO.none _
   | refine LeO.ite ?_ ?_
   | refine LeO.bind ?_ (fun _ => ?_)
  ·
   intro y0 y1 y2 y3 y4 y5
   unfold spec_LongestLine.l2
   repeat' first
   | (with_reducible exact ih0 _ _ _ _)
   | (with_reducible exact ih1 _ _ _ _)
   | (with_reducible exact ih2 _ _ _ _ _)
   | (with_reducible exact ih3 _ _ _ _ _ _)
   | (with_reducible exact ih4 _ _ _ _ _ _ _)
   | (with_reducible exact ih5 _ _ _ _ _ _)
   | (with_reducible exact spec_BestJoin.mono _ _ _ _ _ _ _)
   | (with_reducible exact spec_l03Ok.mono _ _)
   | (with_reducible exact LeO.refl _)
   | (with_reducible exact LeO.none _)
   | (with_reducible refine LeO.ite ?_ ?_)
   | (with_reducible refine LeO.bind ?_ (fun _ => ?_))
   | exact ih0 _ _ _ _
   | exact ih1 _ _ _ _
   | exact ih2 _ _ _ _ _
   | exact ih3 _ _ _ _ _ _
   | exact ih4 _ _ _ _ _ _ _
   | exact ih5 _ _ _ _ _ _
   | exact spec_BestJoin.mono _ _ _ _ _ _ _
   | exact spec_l03Ok.mono _ _
   | exact LeO.none _
   | refine LeO.ite ?_ ?_
   | refine LeO.bind ?_ (fun _ => ?_)
  ·
   intro y0 y1 y2 y3 y4 y5 y6
   unfold spec_LongestLine.j4
   repeat' first
   | (with_reducible exact ih0 _ _ _ _)
   | (with_reducible exact ih1 _ _ _ _)
   | (with_reducible exact ih2 _ _ _ _ _)
   | (with_reducible exact ih3 _ _ _ _ _ _)
   | (with_reducible exact ih4 _ _ _ _ _ _ _)
   | (with_reducible exact ih5 _ _ _ _ _ _)
   | (with_reducible exact spec_BestJoin.mono _ _ _ _ _ _ _)
   | (with_reducible exact spec_l03Ok.mono _ _)
   | (with_reducible exact LeO.refl _)
   | (with_reducible exact LeO.none _)
   | (with_reducible refine LeO.ite ?_ ?_)
   | (with_reducible refine LeO.bind ?_ (fun _ => ?_))
   | exact ih0 _ _ _ _
   | exact ih1 _ _ _ _
   | exact ih2 _ _ _ _ _
   | exact ih3 _ _ _ _ _ _
   | exact ih4 _ _ _ _ _ _ _
   | exact ih5 _ _ _ _ _ _
   | exact spec_BestJoin.mono _ _ _ _ _ _ _
   | exact spec_l03Ok.mono _ _
   | exact LeO.none _
   | refine LeO.ite ?_ ?_
   | refine LeO.bind ?_ (fun _ => ?_)
  ·
   intro y0 y1 y2 y3 y4 y5
   unfold spec_LongestLine.l3
   repeat' first
   | (with_reducible exact ih0 _ _ _ _)
   | (with_reducible exact ih1 _ _ _ _)
   | (with_reducible exact ih2 _ _ _ _ _)
   | (with_reducible exact ih3 _ _ _ _ _ _)
   | (with_reducible exact ih4 _ _ _ _ _ _ _)
   | (with_reducible exact ih5 _ _ _ _ _ _)
   | (with_reducible exact spec_BestJoin.mono _ _ _ _ _ _ _)
   | (with_reducible exact spec_l03Ok.mono _ _)
   | (with_reducible exact LeO.refl _)
   | (with_reducible exact LeO.none _)
   | (with_reducible refine LeO.ite ?_ ?_)
   | (with_reducible refine LeO.bind ?_ (fun _ => ?_))
   | exact ih0 _ _ _ _
   | exact ih1 _ _ _ _
   | exact ih2 _ _ _ _ _
   | exact ih3 _ _ _ _ _ _
   | exact ih4 _ _ _ _ _ _ _
   | exact ih5 _ _ _ _ _ _
   | exact spec_BestJoin.mono _ _ _ _ _ _ _
   | exact spec_l03Ok.mono _ _
   | exact LeO.none _
   | refine LeO.ite ?_ ?_
   | refine LeO.bind ?_ (fun _ => ?_)
theorem spec_LongestLine.mono : ∀ a0 a1 a2 k, LeO (spec_LongestLine.f k a0 a1 a2) (spec_LongestLine.f (k + 1) a0 a1 a2) := by
 intro a0 a1 a2 k
 obtain ⟨ih0, ih1, ih2, ih3, ih4, ih5⟩ := spec_LongestLine.mono_l k
 unfold spec_LongestLine.f
 repeat' first
   | (with_reducible exact ih0 _ _ _ _)
   | (with_reducible exact ih1 _ _ _ _)
   | (with_reducible exact ih2 _ _ _ _ _)
   | (with_reducible exact ih3 _ _ _ _ _ _)
   | (with_reducible exact ih4 _ _ _ _ _ _ _)
   | (with_reducible exact ih5 _ _ _ _ _ _)
   | (with_reducible exact spec_BestJoin.mono _ _ _ _ _ _ _)
   | (with_reducible exact spec_l03Ok.mono _ _)
   | (with_reducible exact LeO.refl _)
   | (with_reducible exact LeO.none _)
   | (with_reducible refine LeO.ite ?_ ?_)
   | (with_reducible refine LeO.bind ?_ (fun _ => ?_))
   | exact ih0 _ _ _ _
   | exact ih1 _ _ _ _
   | exact ih2 _ _ _ _ _
   | exact ih3 _ _ _ _ _ _
   | exact ih4 _ _ _ _ _ _ _
   | exact ih5 _ _ _ _ _ _
   | exact spec_BestJoin.mono _ _ _ _ _ _ _
   | exact spec_l03Ok.mono _ _
   | exact LeO.none _
   | refine LeO.ite ?_ ?_
   | refine LeO.bind ?_ (fun _ => ?_)
def spec_LongestLine.T16 : Bool × List (List Nat × List Nat) := (true, [([], []), ([0], [0]), ([1], [1]), ([2], [2]), ([2], [2]), ([4, 2], [2, 4]), ([3, 5, 2], [2, 3, 5]), ([6, 2], [2, 6]), ([7, 2], [2, 7]), ([2], [2]), ([2], [2]), ([9, 10, 2], [2, 9, 10]), ([11, 2], [2, 11]), ([12, 2], [2, 12]), ([8, 13, 2], [2, 8, 13]), ([14, 2, 2], [2, 14]), ([15], [15]), ([15], [15]), ([17, 15], [15, 17]), ([16, 18, 15], [15, 16, 18]), ([19, 15], [15, 19]), ([20, 15], [15, 20]), ([15], [15]), ([15], [15]), ([22, 23, 15], [15, 22, 23]), ([24, 15], [15, 24]), ([25, 15], [15, 25]), ([21, 26, 15], [15, 21, 26]), ([27, 15, 15], [15, 27]), ([28], [28]), ([28], [28]), ([30, 28], [28, 30]), ([29, 31, 28], [28, 29, 31]), ([32, 28], [28, 32]), ([33, 28], [28, 33]), ([28], [28]), ([28], [28]), ([35, 36, 28], [28, 35, 36]), ([37, 28], [28, 37]), ([38, 28], [28, 38]), ([34, 39, 28], [28, 34, 39]), ([28, 40, 15], [15, 28, 40]), ([15, 41, 2], [2, 15, 41]), ([2, 42], [2, 42])])
def spec_LongestLine.B16 : List Nat := [0, 1, 3, 7, 7, 23, 63, 127, 255, 7, 7, 1543, 3591, 7687, 16383, 32767, 65535, 65535, 196607, 524287, 1048575, 2097151, 65535, 65535, 12648447, 29425663, 62980095, 134217727, 268435455, 536870911, 536870911, 1610612735, 4294967295, 8589934591, 17179869183, 536870911, 536870911, 103616086015, 241055039487, 515932946431, 1099511627775, 2199023255551, 4398046511103, 8796093022207]
theorem spec_LongestLine.tab16 : rtab .any (opsOf Try.f9 16) = spec_LongestLine.T16 := by kernel_rfl
theorem spec_LongestLine.bits16 : waitsOk spec_LongestLine.T16.2 spec_LongestLine.B16 = true := by kernel_rfl
def spec_LongestLine.T28 : Bool × List (List Nat × List Nat) := (true, [([], []), ([], []), ([], []), ([], []), ([2, 3], [2, 3]), ([4], [4]), ([], []), ([0, 1, 5, 6], [0, 1, 5, 6]), ([7], [7]), ([8], [8]), ([8], [8]), ([9, 7, 0, 1, 2, 3, 4, 5, 6, 7, 8, 9], [9]), ([10, 11, 0, 1, 2, 3, 4, 5, 6, 7, 8, 9, 10, 11], [10])])
def spec_LongestLine.B28 : List Nat := [0, 0, 0, 0, 12, 28, 0, 127, 255, 511, 511, 1023, 4095]
theorem spec_LongestLine.tab28 : rtab .any (opsOf Try.f9 28) = spec_LongestLine.T28 := by kernel_rfl
theorem spec_LongestLine.bits28 : waitsOk spec_LongestLine.T28.2 spec_LongestLine.B28 = true := by kernel_rfl
def spec_LongestLine.T29 : Bool × List (List Nat × List Nat) := (true, [([], []), ([0], [0]), ([1], [1]), ([2], [2]), ([2], [2]), ([3, 4, 2], [2, 3, 4]), ([5, 2], [2, 5]), ([6, 2], [2, 6]), ([2], [2]), ([2], [2]), ([8, 9, 2], [2, 8, 9]), ([10, 2], [2, 10]), ([11, 2], [2, 11]), ([7, 12, 2], [2, 7, 12]), ([2, 13], [2, 13])])
def spec_LongestLine.B29 : List Nat := [0, 1, 3, 7, 7, 31, 63, 127, 7, 7, 775, 1799, 3847, 8191, 16383]
theorem spec_LongestLine.tab29 : rtab .any (opsOf Try.f9 29) = spec_LongestLine.T29 := by kernel_rfl
theorem spec_LongestLine.bits29 : waitsOk spec_LongestLine.T29.2 spec_LongestLine.B29 = true := by kernel_rfl
def spec_LongestLine.T30 : Bool × List (List Nat × List Nat) := (true, [([], []), ([0], [0]), ([], []), ([], []), ([2, 3], [2, 3]), ([4], [4]), ([5], [5]), ([1, 6], [1, 6]), ([0, 1, 2, 3, 4, 5, 6, 7], []), ([8, 7, 7, 0, 1, 2, 3, 4, 5, 6, 7], [7, 8])])
def spec_LongestLine.B30 : List Nat := [0, 1, 0, 0, 12, 28, 60, 127, 255, 511]
theorem spec_LongestLine.tab30 : rtab .any (opsOf Try.f9 30) = spec_LongestLine.T30 := by kernel_rfl
theorem spec_LongestLine.bits30 : waitsOk spec_LongestLine.T30.2 spec_LongestLine.B30 = true := by kernel_rfl
def spec_LongestLine.bF (n k : Nat) : Array Bool := ((List.range n).map fun i => k.testBit i).toArray
set_option maxHeartbeats 8000000 in
set_option maxRecDepth 100000 in
theorem spec_LongestLine.calls (k : Nat) (A0 : Option Addr) (c0 : Nat) (l0 : List (S61)) (A1 : Option Addr) (c1 : Nat) (l1 : List (S45)) (a2 : Int) (r1 : List (S45)) (r2 : List Int) (r3 : Int) (w : World) (hr0 : Kd.C k61 w A0 l0.length l0) (hc0 : l0.length ≤ c0) (hr1 : Kd.C k45 w A1 l1.length l1) (hc1 : l1.length ≤ c1) (h : spec_LongestLine.f k l0 l1 a2 = some (r1, r2, r3)) :
  Calls Try.prog 9 #[.slice A0 l0.length c0, .slice A1 l1.length c1, .int .i64 a2] w fun e w' => ∃ v0_ v1_ : Value, e = .returned (.tuple #[.agg #[v0_, v1_], .int .i64 r3]) ∧ Kd.R k45 45 w' w.heap.size (fun _ => True) v0_ r1 ∧ Kd.R (Kd.int .i64) 2 w' w.heap.size (fun _ => True) v1_ r2 ∧ Below w.heap.size w w' := by
 have hu29 := Try.underlying29
 have hu45 := Try.underlying45
 have HR0 := aS hr0
 have HC0 := aS hc0
 clear hr0 hc0
 have HR1 := aS hr1
 have HC1 := aS hc1
 clear hr1 hc1
 have HB := aS (Below.refl w.heap.size w)
 have H : ((spec_l03Ok.f k l0).bind fun t142 => (if t142 = true then (spec_LongestLine.l0 k l0 l1 a2 0) else (some (([] : List (S45)), ([] : List Int), 1)))) = some (r1, r2, r3) := h
 clear h
 replace H := Option.bind_eq_some_iff.mp H
 obtain ⟨t142, A40, H⟩ := H
 replace H : (if t142 = true then (spec_LongestLine.l0 k l0 l1 a2 0) else (some (([] : List (S45)), ([] : List Int), 1))) = some (r1, r2, r3) := H
 have A4 := aS A40
 clear A40
 have HC5 := aS H
 clear H
 go_enter Try.func9, Try.ntmps9
 go_upto_if 20 with (first | ((with_reducible refine gate_dst (N := 6) rfl ?_); refine box_event ?hg (N := 6) ?hd (cs := #[.slice none 0 0, .slice none 0 0]) (t := 29) ?hr ?_; (case hd => rfl); (case hg => rfl); (case hr => first | (go_simp; done) | (go_simp; rfl)); intro gb141 hg w6 hbox hb; have n0_ := aS (below_step (sW HB.out) hb); have n1_ := aS (hbox); have n2_ := aS ((by rw [hg]; exact (below_size (sW HB.out)) : w.heap.size ≤ gb141)); have n3_ := aS ((by rw [hg]; exact (below_size (sW HB.out)) : w.heap.size ≤ gb141)); clear HB; have HB := n0_; have BK141 := n1_; have GW141 := n2_; have GE141 := n3_; clear n0_ n1_ n2_ n3_; clear hb hbox hg) | ((with_reducible refine gate_callee (f := 43) rfl ?_); refine goesL_ (some 19) rfl rfl Try.func43 (by kernel_rfl) rfl #[.slice A0 l0.length c0] rfl sG ?_; (with_reducible refine (spec_l03Ok.calls k _ _ l0 t142 _ ?side1 ?side2 A4.out).mono ?_); (case side1 => exact sC (Kd.C_below HR0.out HB.out)); (case side2 => exact HC0.out); rintro e w7 ⟨rfl, hb⟩; refine ⟨_, rfl, ?_⟩; have n0_ := aS (blk_below (g := gb141) (o := .cells #[.slice none 0 0, .slice none 0 0] 29 (0, 0)) (sB BK141.out) hb); have n1_ := aS (below_step (sW HB.out) hb); clear BK141 HB; have BK141 := n0_; have HB := n1_; clear n0_ n1_; (try clear hb); (try clear hb2); (try clear hk); (try clear hi)))
 (try simp only [Act.put, List.setIfInBounds_toArray, List.set_cons_zero, List.set_cons_succ])
 have H := HC5.out
 clear HC5
 by_cases c8 : t142 = true
 ·
  subst c8
  have H1 : (spec_LongestLine.l0 k l0 l1 a2 0) = some (r1, r2, r3) := by rw [if_pos rfl] at H; exact H
  clear H
  have H := H1
  clear H1
  have H' := aS H
  clear H
  go_wp2
  go_loopg [8] k (fun kq v8 w' => ∃ (x8_1 : Int), v8 = .int .i64 x8_1 ∧ Aside0 (spec_LongestLine.l0 kq l0 l1 a2 x8_1 = some (r1, r2, r3)) ∧ Aside0 (kq ≤ k) ∧ Aside0 (w'.heap[gb141]? = some (.cells #[(.slice none 0 0), (.slice none 0 0)] 29 (0, 0))) ∧ Aside0 (Below w.heap.size w w'))
  case atStart => exact ⟨(0), (by first | rfl | (simp; done) | (simp [*]; done) | (simp only [i64_w]; done) | (simp [i64_w]; done)), H', ⟨Nat.le_refl _⟩, ⟨by (with_reducible repeat (first | refine blk_drewN ?_ _ | refine blk_drew ?_ | refine blk_alloc ?_ _)); exact BK141.out⟩, ⟨by repeat (first | (with_reducible first | exact HB.out | apply below_alloc | apply pw_below_drewN | apply below_drew1 | refine below_set ?_ GE141.out) | exact HB.out)⟩⟩
  case round =>
   clear H'
   (try clear c1); (try clear p2); (try clear c4); (try clear c8)
   obtain ⟨x8_1, rfl, HA, HK1, BK141, HB⟩ := hrel
   cases gk with
   | zero => exact absurd HA.out (by simp [spec_LongestLine.l0])
   | succ k1 =>
    have H := HA.out
    clear HA
    simp only [spec_LongestLine.l0] at H
    by_cases c9 : x8_1 < (l1.length : Int)
    ·
     rw [if_pos c9] at H
     have c9b0 : decide (x8_1 < (l1.length : Int)) = true := decide_eq_true c9
     clear c9
     (first | rw [c9b0] | (simp only [i64_w, i32_w]; rw [c9b0]) | (rw [c9b2]; simp only [Bool.not_false, Bool.not_true]) | skip)
     by_cases c10 : 0 ≤ x8_1
     rotate_left
     ·
      rw [if_neg c10] at H
      exact absurd H (by simp)
     rw [if_pos c10] at H
     have c10b0 : decide (0 ≤ x8_1) = true := decide_eq_true c10
     clear c10
     replace H := Option.bind_eq_some_iff.mp H
     obtain ⟨t144, A110, H⟩ := H
     replace H : (if t144 = true then (spec_LongestLine.l0 k1 l0 l1 a2 (wrap64 (x8_1 + 1))) else (some (([] : List (S45)), ([] : List Int), 1))) = some (r1, r2, r3) := H
     have A11 := aS A110
     clear A110
     have HC12 := aS H
     clear H
     have p143 : 0 ≤ (x8_1 : Int) := of_decide_eq_true (by first | (with_reducible assumption) | assumption)
     have q143 : x8_1 < (l1.length : Int) := of_decide_eq_true (by first | (with_reducible assumption) | assumption)
     obtain ⟨ad143, e143, hx143_0, hx143_1⟩ := at_T45 HR1.out x8_1 p143 q143
     cases e143
     replace hx143_0 := (HB.out.cell (World.block_lt_of_cell? w _ hx143_0)).trans hx143_0
     replace hx143_1 := (HB.out.cell (World.block_lt_of_cell? w _ hx143_1)).trans hx143_1
     replace p143 := eq_true p143
     replace q143 := eq_true q143
     go_upto_if 33 with (first | ((with_reducible refine gate_callee (f := 44) rfl ?_); refine goesL_ (some 32) rfl rfl Try.func44 (by kernel_rfl) rfl #[.agg #[.int .i64 ((rd_T45 l1 x8_1).f0), .int .i64 ((rd_T45 l1 x8_1).f1)]] rfl sG ?_; (with_reducible refine (spec_l03Piece.calls ((rd_T45 l1 x8_1).f0) ((rd_T45 l1 x8_1).f1) t144 _ A11.out).mono ?_); rintro e w13 ⟨rfl, hb⟩; refine ⟨_, rfl, ?_⟩; have n0_ := aS (blk_below (g := gb141) (o := .cells #[.slice none 0 0, .slice none 0 0] 29 (0, 0)) (sB BK141.out) hb); have n1_ := aS (below_step (sW HB.out) hb); clear BK141 HB; have BK141 := n0_; have HB := n1_; clear n0_ n1_; (try clear hb); (try clear hb2); (try clear hk); (try clear hi)))
     (try simp only [Act.put, List.setIfInBounds_toArray, List.set_cons_zero, List.set_cons_succ])
     have H := HC12.out
     clear HC12
     by_cases c14 : t144 = true
     ·
      subst c14
      have H1 : (spec_LongestLine.l0 k1 l0 l1 a2 (wrap64 (x8_1 + 1))) = some (r1, r2, r3) := by rw [if_pos rfl] at H; exact H
      clear H
      have H := H1
      clear H1
      have H' := aS H
      clear H
      go_wp2
      go_roundg k1
      case measure => have := HK1.out; omega
      case rel => exact ⟨(wrap64 (x8_1 + 1)), (by first | rfl | (simp; done) | (simp [*]; done) | (simp only [i64_w]; done) | (simp [i64_w]; done)), H', ⟨by have := HK1.out; omega⟩, ⟨by (with_reducible repeat (first | refine blk_drewN ?_ _ | refine blk_drew ?_ | refine blk_alloc ?_ _)); exact BK141.out⟩, ⟨by repeat (first | (with_reducible first | exact HB.out | apply below_alloc | apply pw_below_drewN | apply below_drew1 | refine below_set ?_ GE141.out) | exact HB.out)⟩⟩
     replace c14 := Bool.eq_false_iff.mpr c14
     subst c14
     have H1 : (some (([] : List (S45)), ([] : List Int), 1)) = some (r1, r2, r3) := by rw [if_neg (show ¬ (false = true) by decide)] at H; exact H
     clear H
     have H := H1
     clear H1
     simp only [Option.some.injEq, Prod.mk.injEq] at H
     obtain ⟨rfl, rfl, rfl⟩ := H
     have hcz15_0 : w13.cell? ⟨gb141, 0, none⟩ = some (.slice none 0 0) := (blk_cell BK141.out 0).trans rfl
     have hcz15_1 : w13.cell? ⟨gb141, 1, none⟩ = some (.slice none 0 0) := (blk_cell BK141.out 1).trans rfl
     have hfz15_0 := blk_frozen BK141.out 0
     have hfz15_1 := blk_frozen BK141.out 1
     go_wp2
     refine bodyPost_ret (results_ct rfl _ _ gb141 29 #[.slice none 0 0, .slice none 0 0] (0, 0) _ rfl (by (with_reducible repeat (first | refine blk_drewN ?_ _ | refine blk_drew ?_ | refine blk_alloc ?_ _)); refine blk_put (cs := #[.slice none 0 0, .slice none 0 0]) ?_ 1 _ rfl; (with_reducible repeat (first | refine blk_drewN ?_ _ | refine blk_drew ?_ | refine blk_alloc ?_ _)); refine blk_put (cs := #[.slice none 0 0, .slice none 0 0]) ?_ 0 _ rfl; (with_reducible repeat (first | refine blk_drewN ?_ _ | refine blk_drew ?_ | refine blk_alloc ?_ _)); exact BK141.out) Try.underlying29 rfl (by kernel_rfl)) rfl ?_
     exact ⟨_, _, by first | rfl | (simp [errW_none, errW_some, i64_w]; done) | (simp [errW_none, errW_some] <;> rfl) | (simp [*, errW_none, errW_some] <;> rfl), by first | exact Kd.R_nil _ _ _ _ _ | exact Kd.N_nil _ _ _ _ _ | exact Kd.V_nil _ _ _ _ _ | exact Kd.Q_nil _ _ _ _ _ | exact Kd.S_nil _ _ _ _ _, by first | exact Kd.R_nil _ _ _ _ _ | exact Kd.N_nil _ _ _ _ _ | exact Kd.V_nil _ _ _ _ _ | exact Kd.Q_nil _ _ _ _ _ | exact Kd.S_nil _ _ _ _ _, by repeat (first | (with_reducible first | exact HB.out | apply below_alloc | apply pw_below_drewN | apply below_drew1 | refine below_set ?_ GE141.out) | exact HB.out)⟩
    rw [if_neg c9] at H
    have c9b0 : decide (x8_1 < (l1.length : Int)) = false := decide_eq_false c9
    clear c9
    (first | rw [c9b0] | (simp only [i64_w, i32_w]; rw [c9b0]) | (rw [c9b2]; simp only [Bool.not_false, Bool.not_true]) | skip)
    have HC16 := aS H
    clear H
    go_upto_region 8 with (fail)
    go_cut [42] (fun v42 wc => ∃ (kq : Nat) (x42_15 : Bool), v42 = .bool x42_15 ∧ Aside0 (spec_LongestLine.j1 kq l0 l1 a2 x42_15 = some (r1, r2, r3)) ∧ Aside0 (kq ≤ k1) ∧ Aside0 (wc.heap[gb141]? = some (.cells #[(.slice none 0 0), (.slice none 0 0)] 29 (0, 0))) ∧ Aside0 (Below w.heap.size w wc))
    case first =>
     have H := HC16.out
     clear HC16
     by_cases c17 : (l1.length : Int) > 12
     ·
      rw [if_pos c17] at H
      have c17b0 : decide (12 < (l1.length : Int)) = true := decide_eq_true c17
      have c17b1 : decide (12 < l1.length) = true := decide_eq_true (by omega)
      clear c17
      (first | rw [c17b0] | (simp only [i64_w, i32_w]; rw [c17b0]) | (rw [c17b2]; simp only [Bool.not_false, Bool.not_true]) | skip)
      have H' := aS H
      clear H
      go_wp2
      go_meet
      case rel => exact ⟨_, (true), (by first | rfl | (simp; done) | (simp [*]; done) | (simp only [i64_w]; done) | (simp [i64_w]; done)), H', ⟨by have := HK1.out; first | omega | exact Nat.le_refl _⟩, ⟨by (with_reducible repeat (first | refine blk_drewN ?_ _ | refine blk_drew ?_ | refine blk_alloc ?_ _)); exact BK141.out⟩, ⟨by repeat (first | (with_reducible first | exact HB.out | apply below_alloc | apply pw_below_drewN | apply below_drew1 | refine below_set ?_ GE141.out) | exact HB.out)⟩⟩
     rw [if_neg c17] at H
     have c17b0 : decide (12 < (l1.length : Int)) = false := decide_eq_false c17
     have c17b1 : decide (12 < l1.length) = false := decide_eq_false (by omega)
     clear c17
     (first | rw [c17b0] | (simp only [i64_w, i32_w]; rw [c17b0]) | (rw [c17b2]; simp only [Bool.not_false, Bool.not_true]) | skip)
     replace H := Option.bind_eq_some_iff.mp H
     obtain ⟨t145, A180, H⟩ := H
     replace H : (spec_LongestLine.j1 k1 l0 l1 a2 (!t145)) = some (r1, r2, r3) := H
     have A18 := aS A180
     clear A180
     have H' := aS H
     clear H
     go_wp2_with (first | (go_at_call 45; (with_reducible refine (spec_l03Need.calls a2 t145 _ A18.out).mono ?_); rintro e w' ⟨rfl, ⟨nd, rfl⟩⟩))
     go_meet
     case rel => exact ⟨_, (!t145), (by first | rfl | (simp; done) | (simp [*]; done) | (simp only [i64_w]; done) | (simp [i64_w]; done)), H', ⟨by have := HK1.out; first | omega | exact Nat.le_refl _⟩, ⟨by (with_reducible repeat (first | refine blk_drewN ?_ _ | refine blk_drew ?_ | refine blk_alloc ?_ _)); exact BK141.out⟩, ⟨by repeat (first | (with_reducible first | exact HB.out | apply below_alloc | apply pw_below_drewN | apply below_drew1 | refine below_set ?_ GE141.out) | exact HB.out)⟩⟩
    case rest =>
     clear HC16
     (try clear c1); (try clear p1); (try clear q1); (try clear hx1); (try clear p2); (try clear c4); (try clear p6); (try clear c8); (try clear c9); (try clear c9b0); (try clear c9b2); (try clear c10); (try clear c10b0); (try clear c14); (try clear p14); (try clear q14); (try clear hx14); (try clear c17); (try clear c17b0); (try clear c17b1); (try clear c17b2); (try clear hcz15_0); (try clear hcz15_1); (try clear hfz15_0); (try clear hfz15_1); (try clear hx143_0); (try clear hx143_1); (try clear p143); (try clear p2); (try clear q143)
     obtain ⟨kq, x42_15, rfl, HA, HJ15, BK141, HB⟩ := hcut
     cases kq with
     | zero => exact absurd HA.out (by simp [spec_LongestLine.j1])
     | succ kj15 =>
      have H := HA.out
      clear HA
      simp only [spec_LongestLine.j1] at H
      by_cases c19 : x42_15 = true
      ·
       subst c19
       have H1 : (some (([] : List (S45)), ([] : List Int), 2)) = some (r1, r2, r3) := by rw [if_pos rfl] at H; exact H
       clear H
       have H := H1
       clear H1
       simp only [Option.some.injEq, Prod.mk.injEq] at H
       obtain ⟨rfl, rfl, rfl⟩ := H
       have hcz20_0 : wc.cell? ⟨gb141, 0, none⟩ = some (.slice none 0 0) := (blk_cell BK141.out 0).trans rfl
       have hcz20_1 : wc.cell? ⟨gb141, 1, none⟩ = some (.slice none 0 0) := (blk_cell BK141.out 1).trans rfl
       have hfz20_0 := blk_frozen BK141.out 0
       have hfz20_1 := blk_frozen BK141.out 1
       go_wp2
       refine bodyPost_ret (results_ct rfl _ _ gb141 29 #[.slice none 0 0, .slice none 0 0] (0, 0) _ rfl (by (with_reducible repeat (first | refine blk_drewN ?_ _ | refine blk_drew ?_ | refine blk_alloc ?_ _)); refine blk_put (cs := #[.slice none 0 0, .slice none 0 0]) ?_ 1 _ rfl; (with_reducible repeat (first | refine blk_drewN ?_ _ | refine blk_drew ?_ | refine blk_alloc ?_ _)); refine blk_put (cs := #[.slice none 0 0, .slice none 0 0]) ?_ 0 _ rfl; (with_reducible repeat (first | refine blk_drewN ?_ _ | refine blk_drew ?_ | refine blk_alloc ?_ _)); exact BK141.out) Try.underlying29 rfl (by kernel_rfl)) rfl ?_
       exact ⟨_, _, by first | rfl | (simp [errW_none, errW_some, i64_w]; done) | (simp [errW_none, errW_some] <;> rfl) | (simp [*, errW_none, errW_some] <;> rfl), by first | exact Kd.R_nil _ _ _ _ _ | exact Kd.N_nil _ _ _ _ _ | exact Kd.V_nil _ _ _ _ _ | exact Kd.Q_nil _ _ _ _ _ | exact Kd.S_nil _ _ _ _ _, by first | exact Kd.R_nil _ _ _ _ _ | exact Kd.N_nil _ _ _ _ _ | exact Kd.V_nil _ _ _ _ _ | exact Kd.Q_nil _ _ _ _ _ | exact Kd.S_nil _ _ _ _ _, by repeat (first | (with_reducible first | exact HB.out | apply below_alloc | apply pw_below_drewN | apply below_drew1 | refine below_set ?_ GE141.out) | exact HB.out)⟩
      replace c19 := Bool.eq_false_iff.mpr c19
      subst c19
      have H1 : (spec_LongestLine.l1 kj15 l0 l1 a2 (([] : List (S45))) 0) = some (r1, r2, r3) := by rw [if_neg (show ¬ (false = true) by decide)] at H; exact H
      clear H
      have H := H1
      clear H1
      obtain ⟨y146, hy146⟩ : ∃ y_ : List (S45), y_ = (([] : List (S45))) := ⟨_, rfl⟩
      replace H : (spec_LongestLine.l1 kj15 l0 l1 a2 y146 0) = some (r1, r2, r3) := by first | (rw [hy146]; with_reducible exact H) | (have H2_ := (Option.bind_some _ _).symm.trans H; rw [hy146]; with_reducible exact H2_) | (have H2_ := (Option.bind_some _ _).symm.trans H; with_reducible exact H2_) | with_reducible exact H | (rw [hy146]; exact H) | exact H
      have Ny146 := aS hy146
      clear hy146
      have H' := aS H
      clear H
      go_wp2_with (first | ((with_reducible refine gate_dst (N := 44) rfl ?_); refine Kd.R_lit k45 _ 45 ?hg (N := 44) ?hd (xs := ([] : List (S45))) (inner := []) (ok := fun _ => True) (okp := fun _ => True) ?hr ?hp (fun _ hk => hk) trivial (Below.refl _ _) (Nat.le_refl _) (by simp) ?_; (case hd => rfl); (case hg => rfl); (case hr => first | (go_simp; done) | (go_simp; rfl)); (case hp => exact (Reps.none _ _)); intro v147 w21 ho22 hb hg_ hnew_; clear hg_ hnew_; (first | rw [← Ny146.out] at ho22 | (simp only [Int.reduceToNat] at ho22; rw [← Ny146.out] at ho22)); have n0_ := aS (Kd.R_lower ho22 (below_size (sW HB.out))); have n1_ := aS (blk_below (g := gb141) (o := .cells #[.slice none 0 0, .slice none 0 0] 29 (0, 0)) (sB BK141.out) hb); have n2_ := aS (below_step (sW HB.out) hb); clear BK141 HB; have HO148 := n0_; have BK141 := n1_; have HB := n2_; clear n0_ n1_ n2_; clear hb ho22))
      go_loopg [9, 10] kj15 (fun kq v9 v10 w' => ∃ (x9_3 : List (S45)) (x10_3 : Int), v10 = .int .i64 x10_3 ∧ Aside0 (spec_LongestLine.l1 kq l0 l1 a2 x9_3 x10_3 = some (r1, r2, r3)) ∧ Aside0 (kq ≤ kj15) ∧ Aside0 (Kd.R k45 45 w' w.heap.size (fun _ => True) v9 x9_3) ∧ Aside0 (w'.heap[gb141]? = some (.cells #[(.slice none 0 0), (.slice none 0 0)] 29 (0, 0))) ∧ Aside0 (Below w.heap.size w w'))
      case atStart => exact ⟨(y146), (0), (by first | rfl | (simp; done) | (simp [*]; done) | (simp only [i64_w]; done) | (simp [i64_w]; done)), H', ⟨Nat.le_refl _⟩, ⟨by (with_reducible repeat (first | apply Kd.R_alloc | apply Kd.R_drewN | apply Kd.R_drew)); exact HO148.out⟩, ⟨by (with_reducible repeat (first | refine blk_drewN ?_ _ | refine blk_drew ?_ | refine blk_alloc ?_ _)); exact BK141.out⟩, ⟨by repeat (first | (with_reducible first | exact HB.out | apply below_alloc | apply pw_below_drewN | apply below_drew1 | refine below_set ?_ GE141.out) | exact HB.out)⟩⟩
      case round =>
       clear H'
       (try clear c1); (try clear p1); (try clear q1); (try clear hx1); (try clear p2); (try clear c4); (try clear p6); (try clear c8); (try clear c9); (try clear c9b0); (try clear c9b2); (try clear c10); (try clear c10b0); (try clear c14); (try clear p14); (try clear q14); (try clear hx14); (try clear c17); (try clear c17b0); (try clear c17b1); (try clear c17b2); (try clear c19); (try clear hcz15_0); (try clear hcz15_1); (try clear hcz20_0); (try clear hcz20_1); (try clear hfz15_0); (try clear hfz15_1); (try clear hfz20_0); (try clear hfz20_1); (try clear hx143_0); (try clear hx143_1); (try clear p1); (try clear p14); (try clear p143); (try clear p2); (try clear p6); (try clear q1); (try clear q14); (try clear q143)
       obtain ⟨x9_3, x10_3, rfl, HA, HK3, HO_9, BK141, HB⟩ := hrel
       cases gk with
       | zero => exact absurd HA.out (by simp [spec_LongestLine.l1])
       | succ k3 =>
        have H := HA.out
        clear HA
        simp only [spec_LongestLine.l1] at H
        by_cases c23 : x10_3 < (l1.length : Int)
        rotate_left
        ·
         rw [if_neg c23] at H
         have c23b0 : decide (x10_3 < (l1.length : Int)) = false := decide_eq_false c23
         clear c23
         by_cases c57 : (x9_3.length : Int) = 0
         ·
          rw [if_pos c57] at H
          have c57b0 : ((x9_3.length : Int) == 0) = true := beq_iff_eq.mpr c57
          have c57b1 : ((x9_3.length : Int) != 0) = false := bne_eq_false_iff_eq.mpr c57
          clear c57
          simp only [Option.some.injEq, Prod.mk.injEq] at H
          obtain ⟨rfl, rfl, rfl⟩ := H
          obtain ⟨Ao58, co58, eo58⟩ := Kd.R_slice HO_9.out
          subst eo58
          have hcz59_0 : wr.cell? ⟨gb141, 0, none⟩ = some (.slice none 0 0) := (blk_cell BK141.out 0).trans rfl
          have hcz59_1 : wr.cell? ⟨gb141, 1, none⟩ = some (.slice none 0 0) := (blk_cell BK141.out 1).trans rfl
          have hfz59_0 := blk_frozen BK141.out 0
          have hfz59_1 := blk_frozen BK141.out 1
          go_wp2
          refine bodyPost_ret (results_ct rfl _ _ gb141 29 #[.slice none 0 0, .slice none 0 0] (0, 0) _ rfl (by (with_reducible repeat (first | refine blk_drewN ?_ _ | refine blk_drew ?_ | refine blk_alloc ?_ _)); refine blk_put (cs := #[.slice none 0 0, .slice none 0 0]) ?_ 1 _ rfl; (with_reducible repeat (first | refine blk_drewN ?_ _ | refine blk_drew ?_ | refine blk_alloc ?_ _)); refine blk_put (cs := #[.slice none 0 0, .slice none 0 0]) ?_ 0 _ rfl; (with_reducible repeat (first | refine blk_drewN ?_ _ | refine blk_drew ?_ | refine blk_alloc ?_ _)); exact BK141.out) Try.underlying29 rfl (by kernel_rfl)) rfl ?_
          exact ⟨_, _, by first | rfl | (simp [errW_none, errW_some, i64_w]; done) | (simp [errW_none, errW_some] <;> rfl) | (simp [*, errW_none, errW_some] <;> rfl), by first | exact Kd.R_nil _ _ _ _ _ | exact Kd.N_nil _ _ _ _ _ | exact Kd.V_nil _ _ _ _ _ | exact Kd.Q_nil _ _ _ _ _ | exact Kd.S_nil _ _ _ _ _, by first | exact Kd.R_nil _ _ _ _ _ | exact Kd.N_nil _ _ _ _ _ | exact Kd.V_nil _ _ _ _ _ | exact Kd.Q_nil _ _ _ _ _ | exact Kd.S_nil _ _ _ _ _, by repeat (first | (with_reducible first | exact HB.out | apply below_alloc | apply pw_below_drewN | apply below_drew1 | refine below_set ?_ GE141.out) | exact HB.out)⟩
         rw [if_neg c57] at H
         have c57b0 : ((x9_3.length : Int) == 0) = false := beq_eq_false_iff_ne.mpr c57
         have c57b1 : ((x9_3.length : Int) != 0) = true := bne_iff_ne.mpr c57
         have c57b2 : ¬ (x9_3 = []) := fun h_ => c57 (by rw [h_]; rfl)
         by_cases c60 : 0 < (x9_3.length : Int)
         rotate_left
         ·
          rw [if_neg c60] at H
          exact absurd H (by simp)
         rw [if_pos c60] at H
         have c60b0 : decide (0 < (x9_3.length : Int)) = true := decide_eq_true c60
         have c60b1 : decide (0 < x9_3.length) = true := decide_eq_true (by omega)
         clear c60
         obtain ⟨y178, hy178⟩ : ∃ y_ : List (S45), y_ = (([(⟨(rd_T45 x9_3 0).f0, (rd_T45 x9_3 0).f1⟩ : S45)] : List (S45))) := ⟨_, rfl⟩
         replace H : (spec_LongestLine.l3 k3 l0 a2 x9_3 1 y178 (([] : List Int))) = some (r1, r2, r3) := by first | (rw [hy178]; with_reducible exact H) | (have H2_ := (Option.bind_some _ _).symm.trans H; rw [hy178]; with_reducible exact H2_) | (have H2_ := (Option.bind_some _ _).symm.trans H; with_reducible exact H2_) | with_reducible exact H | (rw [hy178]; exact H) | exact H
         have Ny178 := aS hy178
         clear hy178
         obtain ⟨y181, hy181⟩ : ∃ y_ : List Int, y_ = (([] : List Int)) := ⟨_, rfl⟩
         replace H : (spec_LongestLine.l3 k3 l0 a2 x9_3 1 y178 y181) = some (r1, r2, r3) := by first | (rw [hy181]; with_reducible exact H) | (have H2_ := (Option.bind_some _ _).symm.trans H; rw [hy181]; with_reducible exact H2_) | (have H2_ := (Option.bind_some _ _).symm.trans H; with_reducible exact H2_) | with_reducible exact H | (rw [hy181]; exact H) | exact H
         have Ny181 := aS hy181
         clear hy181
         have H' := aS H
         clear H
         obtain ⟨Ao61, co61, eo61⟩ := Kd.R_slice HO_9.out
         subst eo61
         have p177 : 0 ≤ (0 : Int) := (by omega)
         have q177 : 0 < (x9_3.length : Int) := of_decide_eq_true (by first | (with_reducible assumption) | assumption)
         obtain ⟨ad177, e177, hx177_0, hx177_1⟩ := at_T45 (Kd.R_reads' HO_9.out).2.2 0 p177 q177
         cases e177
         have qi177 : (0 < x9_3.length) = True := eq_true (by omega)
         (try rw [show ((0 : Int)).toNat = 0 from rfl] at hx177_0)
         (try rw [show 0 * 2 = 0 from rfl] at hx177_0)
         (try rw [Addr.add_zero'] at hx177_0)
         (try rw [show ((0 : Int)).toNat = 0 from rfl] at hx177_1)
         (try rw [show 0 * 2 = 0 from rfl] at hx177_1)
         (try rw [Addr.add_zero'] at hx177_1)
         replace p177 := eq_true p177
         replace q177 := eq_true q177
         go_wp2_with (first | ((with_reducible refine gate_dst (N := 130) rfl ?_); refine Kd.R_lit k45 _ 45 ?hg (N := 130) ?hd (xs := ([(⟨(rd_T45 x9_3 0).f0, (rd_T45 x9_3 0).f1⟩ : S45)] : List (S45))) (inner := [.int .i64 ((rd_T45 x9_3 0).f0), .int .i64 ((rd_T45 x9_3 0).f1)]) (ok := fun _ => True) (okp := fun _ => True) ?hr ?hp (fun _ hk => hk) trivial (Below.refl _ _) (Nat.le_refl _) (by simp) ?_; (case hd => rfl); (case hg => rfl); (case hr => first | (go_simp; done) | (go_simp; rfl)); (case hp => exact (Reps.c2 (show Kd.M k45 _ _ _ (⟨(rd_T45 x9_3 0).f0, (rd_T45 x9_3 0).f1⟩ : S45) [.int .i64 ((rd_T45 x9_3 0).f0), .int .i64 ((rd_T45 x9_3 0).f1)] from (k45_mkM _ _ _ (⟨(rd_T45 x9_3 0).f0, (rd_T45 x9_3 0).f1⟩ : S45) )) (Reps.none _ _))); intro v179 w62 ho63 hb hg_ hnew_; clear hg_ hnew_; (first | rw [← Ny178.out] at ho63 | (simp only [Int.reduceToNat] at ho63; rw [← Ny178.out] at ho63)); have n0_ := aS (Kd.R_elder' (sR HO_9.out) (Kd.R_base ho63) hb); have n1_ := aS (Kd.R_lower (Kd.R_new' ho63 (Kd.R_lt (sR HO_9.out))) (below_size (sW HB.out))); have n2_ := aS (blk_below (g := gb141) (o := .cells #[.slice none 0 0, .slice none 0 0] 29 (0, 0)) (sB BK141.out) hb); have n3_ := aS (below_step (sW HB.out) hb); clear HO_9 BK141 HB; have HO_9 := n0_; have HO180 := n1_; have BK141 := n2_; have HB := n3_; clear n0_ n1_ n2_ n3_; clear hb ho63) | ((with_reducible refine gate_dst (N := 131) rfl ?_); refine Kd.R_lit (Kd.int .i64) _ 2 ?hg (N := 131) ?hd (xs := ([] : List Int)) (inner := []) (ok := fun _ => True) (okp := fun _ => True) ?hr ?hp (fun _ hk => hk) trivial (Below.refl _ _) (Nat.le_refl _) (by simp) ?_; (case hd => rfl); (case hg => rfl); (case hr => first | (go_simp; done) | (go_simp; rfl)); (case hp => exact (Reps.none _ _)); intro v182 w64 ho65 hb hg_ hnew_; clear hg_ hnew_; (first | rw [← Ny181.out] at ho65 | (simp only [Int.reduceToNat] at ho65; rw [← Ny181.out] at ho65)); have n0_ := aS (Kd.R_below (sR HO_9.out) hb); have n1_ := aS (Kd.R_below (sR HO180.out) hb); have n2_ := aS (Kd.R_lower ho65 (below_size (sW HB.out))); have n3_ := aS (blk_below (g := gb141) (o := .cells #[.slice none 0 0, .slice none 0 0] 29 (0, 0)) (sB BK141.out) hb); have n4_ := aS (below_step (sW HB.out) hb); clear HO_9 HO180 BK141 HB; have HO_9 := n0_; have HO180 := n1_; have HO183 := n2_; have BK141 := n3_; have HB := n4_; clear n0_ n1_ n2_ n3_ n4_; clear hb ho65; obtain ⟨Ao66, co66, eo66⟩ := Kd.R_slice HO183.out; subst eo66; obtain ⟨Ao67, co67, eo67⟩ := Kd.R_slice HO180.out; subst eo67) | ((with_reducible refine gate_dst (N := 13) rfl ?_); refine box_event ?hg (N := 13) ?hd (cs := #[.slice none 0 0, .slice none 0 0]) (t := 29) ?hr ?_; (case hd => rfl); (case hg => rfl); (case hr => first | (go_simp; done) | (go_simp; rfl)); intro gb184 hg w68 hbox hb; have n0_ := aS (Kd.R_below (sR HO_9.out) hb); have n1_ := aS (Kd.R_below (sR HO180.out) hb); have n2_ := aS (Kd.R_below (sR HO183.out) hb); have n3_ := aS (blk_below (g := gb141) (o := .cells #[.slice none 0 0, .slice none 0 0] 29 (0, 0)) (sB BK141.out) hb); have n4_ := aS (below_step (sW HB.out) hb); have n5_ := aS (hbox); have n6_ := aS ((by rw [hg]; exact (below_size (sW HB.out)) : w.heap.size ≤ gb184)); have n7_ := aS ((by rw [hg]; exact (below_size (sW HB.out)) : w.heap.size ≤ gb184)); have n8_ := aS ((by rw [hg]; exact Nat.ne_of_lt (blk_lt (g := gb141) (o := .cells #[.slice none 0 0, .slice none 0 0] 29 (0, 0)) (sB BK141.out)) : gb141 ≠ gb184)); have n9_ := aS ((by rw [hg]; exact Nat.ne_of_gt (blk_lt (g := gb141) (o := .cells #[.slice none 0 0, .slice none 0 0] 29 (0, 0)) (sB BK141.out)) : gb184 ≠ gb141)); clear HO_9 HO180 HO183 BK141 HB; have HO_9 := n0_; have HO180 := n1_; have HO183 := n2_; have BK141 := n3_; have HB := n4_; have BK184 := n5_; have GW184 := n6_; have GE184 := n7_; have NB141_184 := n8_; have NB184_141 := n9_; clear n0_ n1_ n2_ n3_ n4_ n5_ n6_ n7_ n8_ n9_; clear hb hbox hg; have hnb69 := NB184_141.out; have hnc69 := NB141_184.out; have hcz70_0 : w68.cell? ⟨gb184, 0, none⟩ = some (.slice none 0 0) := (blk_cell BK184.out 0).trans rfl; have hcz70_1 : w68.cell? ⟨gb184, 1, none⟩ = some (.slice none 0 0) := (blk_cell BK184.out 1).trans rfl; have hfz70_0 := blk_frozen BK184.out 0; have hfz70_1 := blk_frozen BK184.out 1))
         go_loopg [14] k3 (fun kq v14 w' => ∃ (x14_4 : Int) (x185000_4 : List (S45)) (x185001_4 : List Int) (u185000 : Value) (u185001 : Value), v14 = .int .i64 x14_4 ∧ Aside0 (spec_LongestLine.l3 kq l0 a2 x9_3 x14_4 x185000_4 x185001_4 = some (r1, r2, r3)) ∧ Aside0 (kq ≤ k3) ∧ Aside0 (Kd.R k45 45 w' w.heap.size (fun k_ => some k_ ≠ (u185000 : Value).ownBlock) (.slice (some ad177) x9_3.length co61) x9_3) ∧ Aside0 (Kd.R k45 45 w' w.heap.size (fun k_ => some k_ ≠ ((.slice (some ad177) x9_3.length co61) : Value).ownBlock) u185000 x185000_4) ∧ Aside0 (Kd.R (Kd.int .i64) 2 w' w.heap.size (fun _ => True) u185001 x185001_4) ∧ Aside0 (w'.heap[gb141]? = some (.cells #[(.slice none 0 0), (.slice none 0 0)] 29 (0, 0))) ∧ Aside0 (w'.heap[gb184]? = some (.cells #[u185000, u185001] 29 (0, 0))) ∧ Aside0 (Below w.heap.size w w'))
         case atStart => exact ⟨(1), (y178), (y181), (.slice Ao67 y178.length co67), (.slice Ao66 y181.length co66), (by first | rfl | (simp; done) | (simp [*]; done) | (simp only [i64_w]; done) | (simp [i64_w]; done)), H', ⟨Nat.le_refl _⟩, ⟨by (with_reducible repeat (first | apply Kd.R_alloc | apply Kd.R_drewN | apply Kd.R_drew)); exact Kd.R_mono (Kd.R_far (p := ⟨gb184, 1, none⟩) (Kd.R_far (p := ⟨gb184, 0, none⟩) (Kd.R_types HO_9.out BK184.out (by decide)) (fun _ hk => hk.2) (.slice Ao67 y178.length co67)) (fun _ hk => hk.2) (.slice Ao66 y181.length co66)) (fun _ hk => hk.1.2)⟩, ⟨by (with_reducible repeat (first | apply Kd.R_alloc | apply Kd.R_drewN | apply Kd.R_drew)); exact Kd.R_mono (Kd.R_far (p := ⟨gb184, 1, none⟩) (Kd.R_far (p := ⟨gb184, 0, none⟩) (Kd.R_types HO180.out BK184.out (by decide)) (fun _ hk => hk.2) (.slice Ao67 y178.length co67)) (fun _ hk => hk.2) (.slice Ao66 y181.length co66)) (fun _ hk => hk.1.2)⟩, ⟨by (with_reducible repeat (first | apply Kd.R_alloc | apply Kd.R_drewN | apply Kd.R_drew)); exact Kd.R_mono (Kd.R_far (p := ⟨gb184, 1, none⟩) (Kd.R_far (p := ⟨gb184, 0, none⟩) (Kd.R_types HO183.out BK184.out (by decide)) (fun _ hk => hk.2) (.slice Ao67 y178.length co67)) (fun _ hk => hk.2) (.slice Ao66 y181.length co66)) (fun _ hk => trivial)⟩, ⟨by (with_reducible repeat (first | refine blk_drewN ?_ _ | refine blk_drew ?_ | refine blk_alloc ?_ _)); refine blk_far ?_ NB141_184.out _; (with_reducible repeat (first | refine blk_drewN ?_ _ | refine blk_drew ?_ | refine blk_alloc ?_ _)); refine blk_far ?_ NB141_184.out _; (with_reducible repeat (first | refine blk_drewN ?_ _ | refine blk_drew ?_ | refine blk_alloc ?_ _)); exact BK141.out⟩, ⟨by (with_reducible repeat (first | refine blk_drewN ?_ _ | refine blk_drew ?_ | refine blk_alloc ?_ _)); refine blk_put (cs := #[.slice Ao67 y178.length co67, .slice none 0 0]) ?_ 1 _ rfl; (with_reducible repeat (first | refine blk_drewN ?_ _ | refine blk_drew ?_ | refine blk_alloc ?_ _)); refine blk_put (cs := #[.slice none 0 0, .slice none 0 0]) ?_ 0 _ rfl; (with_reducible repeat (first | refine blk_drewN ?_ _ | refine blk_drew ?_ | refine blk_alloc ?_ _)); exact BK184.out⟩, ⟨by repeat (first | (with_reducible first | exact HB.out | apply below_alloc | apply pw_below_drewN | apply below_drew1 | refine below_set ?_ GE141.out | refine below_set ?_ GE184.out) | exact HB.out)⟩⟩
         case round =>
          clear H'
          (try clear c1); (try clear p1); (try clear q1); (try clear hx1); (try clear qi1); (try clear c2); (try clear p2); (try clear c3); (try clear c4); (try clear c5); (try clear q5); (try clear c6); (try clear p6); (try clear p15); (try clear q15); (try clear hx15); (try clear p16); (try clear q16); (try clear hx16); (try clear p17); (try clear q17); (try clear hx17); (try clear qi17); (try clear c23); (try clear c23b0); (try clear c24); (try clear c28); (try clear c28b0); (try clear c28b2); (try clear c30); (try clear c31); (try clear c32); (try clear c33); (try clear c36); (try clear c36b0); (try clear c36b1); (try clear c40); (try clear c41); (try clear c41b0); (try clear c41b1); (try clear c42); (try clear c42b0); (try clear c42b1); (try clear c43); (try clear c44); (try clear c44b0); (try clear c45); (try clear c45b0); (try clear c46); (try clear c47); (try clear c47b0); (try clear c48); (try clear c48b0); (try clear c49); (try clear q52); (try clear c55); (try clear q55); (try clear c57); (try clear c57b0); (try clear c57b1); (try clear c57b2); (try clear c60); (try clear c60b0); (try clear c60b1); (try clear p64); (try clear c69); (try clear hcz59_0); (try clear hcz59_1); (try clear hcz70_0); (try clear hcz70_1); (try clear hfz59_0); (try clear hfz59_1); (try clear hfz70_0); (try clear hfz70_1); (try clear hx150_0); (try clear hx150_1); (try clear hx151_0); (try clear hx151_1); (try clear hx152_0); (try clear hx152_1); (try clear hx153_0); (try clear hx153_1); (try clear hx166_0); (try clear hx166_1); (try clear hx177_0); (try clear hx177_1); (try clear p1); (try clear p15); (try clear p150); (try clear p151); (try clear p152); (try clear p153); (try clear p166); (try clear p177); (try clear p2); (try clear q055); (try clear q1); (try clear q15); (try clear q150); (try clear q151); (try clear q152); (try clear q153); (try clear q166); (try clear q177); (try clear q52); (try clear q55)
          obtain ⟨x14_4, x185000_4, x185001_4, u185000, u185001, rfl, HA, HK4, HO_9, HO_185000, HO_185001, BK141, BK184, HB⟩ := hrel
          cases gk with
          | zero => exact absurd HA.out (by simp [spec_LongestLine.l3])
          | succ k4 =>
           have H := HA.out
           clear HA
           simp only [spec_LongestLine.l3] at H
           by_cases c71 : x14_4 < (x9_3.length : Int)
           rotate_left
           ·
            rw [if_neg c71] at H
            have c71b0 : decide (x14_4 < (x9_3.length : Int)) = false := decide_eq_false c71
            clear c71
            simp only [Option.some.injEq, Prod.mk.injEq] at H
            obtain ⟨rfl, rfl, rfl⟩ := H
            have hnb116 := NB184_141.out
            have hnc116 := NB141_184.out
            have hcz117_0 : wr.cell? ⟨gb184, 0, none⟩ = some (u185000) := (blk_cell BK184.out 0).trans rfl
            have hcz117_1 : wr.cell? ⟨gb184, 1, none⟩ = some (u185001) := (blk_cell BK184.out 1).trans rfl
            have hfz117_0 := blk_frozen BK184.out 0
            have hfz117_1 := blk_frozen BK184.out 1
            obtain ⟨Ao118, co118, eo118⟩ := Kd.R_slice HO_185000.out
            subst eo118
            have hcz119_0 : wr.cell? ⟨gb141, 0, none⟩ = some (.slice none 0 0) := (blk_cell BK141.out 0).trans rfl
            have hcz119_1 : wr.cell? ⟨gb141, 1, none⟩ = some (.slice none 0 0) := (blk_cell BK141.out 1).trans rfl
            have hfz119_0 := blk_frozen BK141.out 0
            have hfz119_1 := blk_frozen BK141.out 1
            obtain ⟨Ao120, co120, eo120⟩ := Kd.R_slice HO_185001.out
            subst eo120
            go_wp2
            refine bodyPost_ret (results_ct rfl _ _ gb141 29 #[.slice Ao118 x185000_4.length co118, .slice Ao120 x185001_4.length co120] (0, 0) _ rfl (by (with_reducible repeat (first | refine blk_drewN ?_ _ | refine blk_drew ?_ | refine blk_alloc ?_ _)); refine blk_put (cs := #[.slice Ao118 x185000_4.length co118, .slice none 0 0]) ?_ 1 _ rfl; (with_reducible repeat (first | refine blk_drewN ?_ _ | refine blk_drew ?_ | refine blk_alloc ?_ _)); refine blk_put (cs := #[.slice none 0 0, .slice none 0 0]) ?_ 0 _ rfl; (with_reducible repeat (first | refine blk_drewN ?_ _ | refine blk_drew ?_ | refine blk_alloc ?_ _)); exact BK141.out) Try.underlying29 rfl (by kernel_rfl)) rfl ?_
            exact ⟨_, _, by first | rfl | (simp [errW_none, errW_some, i64_w]; done) | (simp [errW_none, errW_some] <;> rfl) | (simp [*, errW_none, errW_some] <;> rfl), by (with_reducible repeat (first | apply Kd.R_alloc | apply Kd.R_drewN | apply Kd.R_drew)); exact Kd.R_mono (Kd.R_far (p := ⟨gb141, 1, none⟩) (Kd.R_far (p := ⟨gb141, 0, none⟩) (Kd.R_types HO_185000.out BK141.out (by decide)) (fun _ hk => hk.2) (.slice Ao118 x185000_4.length co118)) (fun _ hk => hk.2) (.slice Ao120 x185001_4.length co120)) (fun _ hk => trivial), by (with_reducible repeat (first | apply Kd.R_alloc | apply Kd.R_drewN | apply Kd.R_drew)); exact Kd.R_mono (Kd.R_far (p := ⟨gb141, 1, none⟩) (Kd.R_far (p := ⟨gb141, 0, none⟩) (Kd.R_types HO_185001.out BK141.out (by decide)) (fun _ hk => hk.2) (.slice Ao118 x185000_4.length co118)) (fun _ hk => hk.2) (.slice Ao120 x185001_4.length co120)) (fun _ hk => trivial), by repeat (first | (with_reducible first | exact HB.out | apply below_alloc | apply pw_below_drewN | apply below_drew1 | refine below_set ?_ GE141.out | refine below_set ?_ GE184.out) | exact HB.out)⟩
           rw [if_pos c71] at H
           have c71b0 : decide (x14_4 < (x9_3.length : Int)) = true := decide_eq_true c71
           clear c71
           obtain ⟨ji72, hji72⟩ : ∃ j_ : Int, (wrap64 ((x185000_4.length : Int) - 1)) = j_ := ⟨_, rfl⟩
           replace H : (if 0 ≤ (ji72) then (if (ji72) < (x185000_4.length : Int) then (if 0 ≤ x14_4 then ((spec_BestJoin.f k4 l0 ((rd_T45 x185000_4 (ji72)).f0) ((rd_T45 x185000_4 (ji72)).f1) ((rd_T45 x9_3 x14_4).f0) ((rd_T45 x9_3 x14_4).f1) a2).bind fun bt188 => (if bt188.2 = 0 then (if 0 ≤ bt188.1 then (if bt188.1 < (l0.length : Int) then (if ((rd_T61 l0 bt188.1).f2) < ((rd_T45 x9_3 x14_4).f1) then (if x185000_4.length < 8796093022208 then (if x185001_4.length < 17592186044416 then (spec_LongestLine.l3 k4 l0 a2 x9_3 (wrap64 (x14_4 + 1)) (x185000_4 ++ [(⟨(rd_T45 x9_3 x14_4).f0, (rd_T45 x9_3 x14_4).f1⟩ : S45)]) (x185001_4 ++ [bt188.1])) else (none)) else (none)) else (spec_LongestLine.l3 k4 l0 a2 x9_3 (wrap64 (x14_4 + 1)) x185000_4 x185001_4)) else (none)) else (none)) else (spec_LongestLine.l3 k4 l0 a2 x9_3 (wrap64 (x14_4 + 1)) x185000_4 x185001_4))) else (none)) else (none)) else (none)) = some (r1, r2, r3) := by first | (rw [hji72] at H; exact H) | (simp only [hji72] at H ⊢; exact H)
           have hji72w : (IntKind.i64.wrap ((x185000_4.length : Int) - 1)) = ji72 := (i64_w _).trans hji72
           by_cases c73 : 0 ≤ (ji72)
           rotate_left
           ·
            rw [if_neg c73] at H
            exact absurd H (by simp)
           rw [if_pos c73] at H
           have c73b0 : decide (0 ≤ (ji72)) = true := decide_eq_true c73
           clear c73
           by_cases c74 : (ji72) < (x185000_4.length : Int)
           rotate_left
           ·
            rw [if_neg c74] at H
            exact absurd H (by simp)
           rw [if_pos c74] at H
           have c74b0 : decide ((ji72) < (x185000_4.length : Int)) = true := decide_eq_true c74
           clear c74
           by_cases c75 : 0 ≤ x14_4
           rotate_left
           ·
            rw [if_neg c75] at H
            exact absurd H (by simp)
           rw [if_pos c75] at H
           have c75b0 : decide (0 ≤ x14_4) = true := decide_eq_true c75
           clear c75
           replace H := Option.bind_eq_some_iff.mp H
           obtain ⟨⟨t188, t189⟩, A760, H⟩ := H
           replace H : (if t189 = 0 then (if 0 ≤ t188 then (if t188 < (l0.length : Int) then (if ((rd_T61 l0 t188).f2) < ((rd_T45 x9_3 x14_4).f1) then (if x185000_4.length < 8796093022208 then (if x185001_4.length < 17592186044416 then (spec_LongestLine.l3 k4 l0 a2 x9_3 (wrap64 (x14_4 + 1)) (x185000_4 ++ [(⟨(rd_T45 x9_3 x14_4).f0, (rd_T45 x9_3 x14_4).f1⟩ : S45)]) (x185001_4 ++ [t188])) else (none)) else (none)) else (spec_LongestLine.l3 k4 l0 a2 x9_3 (wrap64 (x14_4 + 1)) x185000_4 x185001_4)) else (none)) else (none)) else (spec_LongestLine.l3 k4 l0 a2 x9_3 (wrap64 (x14_4 + 1)) x185000_4 x185001_4)) = some (r1, r2, r3) := H
           have A76 := aS A760
           clear A760
           by_cases c77 : t189 = 0
           rotate_left
           ·
            rw [if_neg c77] at H
            have c77b0 : (t189 == 0) = false := beq_eq_false_iff_ne.mpr c77
            have c77b1 : (t189 != 0) = true := bne_iff_ne.mpr c77
            have H' := aS H
            clear H
            have hnb105 := NB184_141.out
            have hnc105 := NB141_184.out
            have hcz106_0 : wr.cell? ⟨gb184, 0, none⟩ = some (u185000) := (blk_cell BK184.out 0).trans rfl
            have hcz106_1 : wr.cell? ⟨gb184, 1, none⟩ = some (u185001) := (blk_cell BK184.out 1).trans rfl
            have hfz106_0 := blk_frozen BK184.out 0
            have hfz106_1 := blk_frozen BK184.out 1
            obtain ⟨Ao107, co107, eo107⟩ := Kd.R_slice HO_185000.out
            subst eo107
            have p185 : 0 ≤ ((ji72) : Int) := of_decide_eq_true (by first | (with_reducible assumption) | assumption)
            have q185 : (ji72) < (x185000_4.length : Int) := of_decide_eq_true (by first | (with_reducible assumption) | assumption)
            obtain ⟨ad185, e185, hx185_0, hx185_1⟩ := at_T45 (Kd.R_reads' HO_185000.out).2.2 (ji72) p185 q185
            cases e185
            replace p185 := eq_true p185
            replace q185 := eq_true q185
            try go_wp2_with (first | ((with_reducible refine gate_dst (N := 15) rfl ?_); refine box_event ?hg (N := 15) ?hd (cs := #[.int .i64 0, .int .i64 0]) (t := 45) ?hr ?_; (case hd => rfl); (case hg => rfl); (case hr => first | (go_simp; done) | (go_simp; rfl)); intro gb186 hg w108 hbox hb; have n0_ := aS (Kd.R_below (Kd.R_elderB (sR HO_9.out) gb186 (Nat.le_of_eq hg.symm)) hb); have n1_ := aS (Kd.R_below (Kd.R_elderB (sR HO_185000.out) gb186 (Nat.le_of_eq hg.symm)) hb); have n2_ := aS (Kd.R_below (sR HO_185001.out) hb); have n3_ := aS (blk_below (g := gb141) (o := .cells #[.slice none 0 0, .slice none 0 0] 29 (0, 0)) (sB BK141.out) hb); have n4_ := aS (blk_below (g := gb184) (o := .cells #[.slice (some ad185) x185000_4.length co107, u185001] 29 (0, 0)) (sB BK184.out) hb); have n5_ := aS (below_step (sW HB.out) hb); have n6_ := aS (hbox); have n7_ := aS ((by rw [hg]; exact (below_size (sW HB.out)) : w.heap.size ≤ gb186)); have n8_ := aS ((by rw [hg]; exact (below_size (sW HB.out)) : w.heap.size ≤ gb186)); have n9_ := aS ((by rw [hg]; exact Nat.ne_of_lt (blk_lt (g := gb141) (o := .cells #[.slice none 0 0, .slice none 0 0] 29 (0, 0)) (sB BK141.out)) : gb141 ≠ gb186)); have n10_ := aS ((by rw [hg]; exact Nat.ne_of_gt (blk_lt (g := gb141) (o := .cells #[.slice none 0 0, .slice none 0 0] 29 (0, 0)) (sB BK141.out)) : gb186 ≠ gb141)); have n11_ := aS ((by rw [hg]; exact Nat.ne_of_lt (blk_lt (g := gb184) (o := .cells #[.slice (some ad185) x185000_4.length co107, u185001] 29 (0, 0)) (sB BK184.out)) : gb184 ≠ gb186)); have n12_ := aS ((by rw [hg]; exact Nat.ne_of_gt (blk_lt (g := gb184) (o := .cells #[.slice (some ad185) x185000_4.length co107, u185001] 29 (0, 0)) (sB BK184.out)) : gb186 ≠ gb184)); clear HO_9 HO_185000 HO_185001 BK141 BK184 HB; have HO_9 := n0_; have HO_185000 := n1_; have HO_185001 := n2_; have BK141 := n3_; have BK184 := n4_; have HB := n5_; have BK186 := n6_; have GW186 := n7_; have GE186 := n8_; have NB141_186 := n9_; have NB186_141 := n10_; have NB184_186 := n11_; have NB186_184 := n12_; clear n0_ n1_ n2_ n3_ n4_ n5_ n6_ n7_ n8_ n9_ n10_ n11_ n12_; clear hb hbox hg; have hnb109 := NB186_141.out; have hnc109 := NB141_186.out; have hnb110 := NB186_184.out; have hnc110 := NB184_186.out; have hcz111_0 : w108.cell? ⟨gb186, 0, none⟩ = some (.int .i64 0) := (blk_cell BK186.out 0).trans rfl; have hcz111_1 : w108.cell? ⟨gb186, 1, none⟩ = some (.int .i64 0) := (blk_cell BK186.out 1).trans rfl; have hfz111_0 := blk_frozen BK186.out 0; have hfz111_1 := blk_frozen BK186.out 1))
            have n0_ : Aside0 (Kd.R k45 45 ((w108.setCell ⟨gb186, 0, none⟩ (.int .i64 ((rd_T45 x185000_4 (ji72)).f0))).setCell ⟨gb186, 1, none⟩ (.int .i64 ((rd_T45 x185000_4 (ji72)).f1))) w.heap.size (fun k_ => some k_ ≠ (.slice (some ad185) x185000_4.length co107 : Value).ownBlock ∧ k_ ≠ gb186) (.slice (some ad177) x9_3.length co61) x9_3) := ⟨by (with_reducible repeat (first | apply Kd.R_alloc | apply Kd.R_drewN | apply Kd.R_drew)); exact Kd.R_mono (Kd.R_far (p := ⟨gb186, 1, none⟩) (Kd.R_far (p := ⟨gb186, 0, none⟩) (Kd.R_mono HO_9.out (fun k_ hk => (⟨hk, hk.2⟩ : _ ∧ k_ ≠ gb186))) (fun _ hk => hk.2) (.int .i64 ((rd_T45 x185000_4 (ji72)).f0))) (fun _ hk => hk.2) (.int .i64 ((rd_T45 x185000_4 (ji72)).f1))) (fun _ hk => ⟨hk.1.1, hk.1.2⟩)⟩
            have n1_ : Aside0 (Kd.R k45 45 ((w108.setCell ⟨gb186, 0, none⟩ (.int .i64 ((rd_T45 x185000_4 (ji72)).f0))).setCell ⟨gb186, 1, none⟩ (.int .i64 ((rd_T45 x185000_4 (ji72)).f1))) w.heap.size (fun k_ => some k_ ≠ (.slice (some ad177) x9_3.length co61 : Value).ownBlock ∧ k_ ≠ gb186) (.slice (some ad185) x185000_4.length co107) x185000_4) := ⟨by (with_reducible repeat (first | apply Kd.R_alloc | apply Kd.R_drewN | apply Kd.R_drew)); exact Kd.R_mono (Kd.R_far (p := ⟨gb186, 1, none⟩) (Kd.R_far (p := ⟨gb186, 0, none⟩) (Kd.R_mono HO_185000.out (fun k_ hk => (⟨hk, hk.2⟩ : _ ∧ k_ ≠ gb186))) (fun _ hk => hk.2) (.int .i64 ((rd_T45 x185000_4 (ji72)).f0))) (fun _ hk => hk.2) (.int .i64 ((rd_T45 x185000_4 (ji72)).f1))) (fun _ hk => ⟨hk.1.1, hk.1.2⟩)⟩
            have n2_ : Aside0 (Kd.R (Kd.int .i64) 2 ((w108.setCell ⟨gb186, 0, none⟩ (.int .i64 ((rd_T45 x185000_4 (ji72)).f0))).setCell ⟨gb186, 1, none⟩ (.int .i64 ((rd_T45 x185000_4 (ji72)).f1))) w.heap.size (fun _ => True) u185001 x185001_4) := ⟨by (with_reducible repeat (first | apply Kd.R_alloc | apply Kd.R_drewN | apply Kd.R_drew)); exact Kd.R_mono (Kd.R_far (p := ⟨gb186, 1, none⟩) (Kd.R_far (p := ⟨gb186, 0, none⟩) (Kd.R_types HO_185001.out BK186.out (by decide)) (fun _ hk => hk.2) (.int .i64 ((rd_T45 x185000_4 (ji72)).f0))) (fun _ hk => hk.2) (.int .i64 ((rd_T45 x185000_4 (ji72)).f1))) (fun _ hk => trivial)⟩
            have n3_ : Aside0 (((w108.setCell ⟨gb186, 0, none⟩ (.int .i64 ((rd_T45 x185000_4 (ji72)).f0))).setCell ⟨gb186, 1, none⟩ (.int .i64 ((rd_T45 x185000_4 (ji72)).f1))).heap[gb141]? = some (.cells #[.slice none 0 0, .slice none 0 0] 29 (0, 0))) := ⟨by (with_reducible repeat (first | refine blk_drewN ?_ _ | refine blk_drew ?_ | refine blk_alloc ?_ _)); refine blk_far ?_ NB141_186.out _; (with_reducible repeat (first | refine blk_drewN ?_ _ | refine blk_drew ?_ | refine blk_alloc ?_ _)); refine blk_far ?_ NB141_186.out _; (with_reducible repeat (first | refine blk_drewN ?_ _ | refine blk_drew ?_ | refine blk_alloc ?_ _)); exact BK141.out⟩
            have n4_ : Aside0 (((w108.setCell ⟨gb186, 0, none⟩ (.int .i64 ((rd_T45 x185000_4 (ji72)).f0))).setCell ⟨gb186, 1, none⟩ (.int .i64 ((rd_T45 x185000_4 (ji72)).f1))).heap[gb184]? = some (.cells #[.slice (some ad185) x185000_4.length co107, u185001] 29 (0, 0))) := ⟨by (with_reducible repeat (first | refine blk_drewN ?_ _ | refine blk_drew ?_ | refine blk_alloc ?_ _)); refine blk_far ?_ NB184_186.out _; (with_reducible repeat (first | refine blk_drewN ?_ _ | refine blk_drew ?_ | refine blk_alloc ?_ _)); refine blk_far ?_ NB184_186.out _; (with_reducible repeat (first | refine blk_drewN ?_ _ | refine blk_drew ?_ | refine blk_alloc ?_ _)); exact BK184.out⟩
            have n5_ : Aside0 (((w108.setCell ⟨gb186, 0, none⟩ (.int .i64 ((rd_T45 x185000_4 (ji72)).f0))).setCell ⟨gb186, 1, none⟩ (.int .i64 ((rd_T45 x185000_4 (ji72)).f1))).heap[gb186]? = some (.cells #[.int .i64 ((rd_T45 x185000_4 (ji72)).f0), .int .i64 ((rd_T45 x185000_4 (ji72)).f1)] 45 (0, 0))) := ⟨by (with_reducible repeat (first | refine blk_drewN ?_ _ | refine blk_drew ?_ | refine blk_alloc ?_ _)); refine blk_put (cs := #[.int .i64 ((rd_T45 x185000_4 (ji72)).f0), .int .i64 0]) ?_ 1 _ rfl; (with_reducible repeat (first | refine blk_drewN ?_ _ | refine blk_drew ?_ | refine blk_alloc ?_ _)); refine blk_put (cs := #[.int .i64 0, .int .i64 0]) ?_ 0 _ rfl; (with_reducible repeat (first | refine blk_drewN ?_ _ | refine blk_drew ?_ | refine blk_alloc ?_ _)); exact BK186.out⟩
            have n6_ : Aside0 (Below w.heap.size w ((w108.setCell ⟨gb186, 0, none⟩ (.int .i64 ((rd_T45 x185000_4 (ji72)).f0))).setCell ⟨gb186, 1, none⟩ (.int .i64 ((rd_T45 x185000_4 (ji72)).f1)))) := ⟨by repeat (first | (with_reducible first | exact HB.out | apply below_alloc | apply pw_below_drewN | apply below_drew1 | refine below_set ?_ GE141.out | refine below_set ?_ GE184.out | refine below_set ?_ GE186.out) | exact HB.out)⟩
            (try clear HO_9); (try clear HO_185000); (try clear HO_185001); (try clear BK141); (try clear BK184); (try clear BK186); (try clear HB)
            generalize ((w108.setCell ⟨gb186, 0, none⟩ (.int .i64 ((rd_T45 x185000_4 (ji72)).f0))).setCell ⟨gb186, 1, none⟩ (.int .i64 ((rd_T45 x185000_4 (ji72)).f1))) = w112 at n0_ n1_ n2_ n3_ n4_ n5_ n6_ ⊢
            have HO_9 := n0_; have HO_185000 := n1_; have HO_185001 := n2_; have BK141 := n3_; have BK184 := n4_; have BK186 := n5_; have HB := n6_
            clear n0_ n1_ n2_ n3_ n4_ n5_ n6_
            have n0_ := aS (Kd.R_drew HO_9.out)
            have n1_ := aS (Kd.R_drew HO_185000.out)
            have n2_ := aS (Kd.R_drew HO_185001.out)
            have n3_ := aS (blk_drew BK141.out)
            have n4_ := aS (blk_drew BK184.out)
            have n5_ := aS (blk_drew BK186.out)
            have n6_ := aS (below_drew1 HB.out)
            clear HO_9 HO_185000 HO_185001 BK141 BK184 BK186 HB
            have HO_9 := n0_; have HO_185000 := n1_; have HO_185001 := n2_; have BK141 := n3_; have BK184 := n4_; have BK186 := n5_; have HB := n6_
            clear n0_ n1_ n2_ n3_ n4_ n5_ n6_
            have p187 : 0 ≤ (x14_4 : Int) := of_decide_eq_true (by first | (with_reducible assumption) | assumption)
            have q187 : x14_4 < (x9_3.length : Int) := of_decide_eq_true (by first | (with_reducible assumption) | assumption)
            obtain ⟨ad187, e187, hx187_0, hx187_1⟩ := at_T45 (Kd.R_reads' HO_9.out).2.2 x14_4 p187 q187
            obtain rfl : ad177 = ad187 := (by injection e187)
            replace p187 := eq_true p187
            replace q187 := eq_true q187
            refine start_ (n := 13) (S := fun w' => w'.cell? ⟨gb186, 0, none⟩ = some (.int .i64 ((rd_T45 x185000_4 (ji72)).f0)) ∧ w'.cell? ⟨gb186, 1, none⟩ = some (.int .i64 ((rd_T45 x185000_4 (ji72)).f1)) ∧ w'.cell? (ad177.add ((x14_4).toNat * 2)) = some (.int .i64 ((rd_T45 x9_3 x14_4).f0)) ∧ w'.cell? ⟨(ad177.add ((x14_4).toNat * 2)).block, (ad177.add ((x14_4).toNat * 2)).off + 1, none⟩ = some (.int .i64 ((rd_T45 x9_3 x14_4).f1))) (ds := []) #[false, false, false, false, false, false, false, false, false, false, false, false, false] (by kernel_rfl) rfl rfl ⟨(blk_cell BK186.out 0).trans rfl, (blk_cell BK186.out 1).trans rfl, hx187_0, hx187_1⟩ (fun hHeld => ?_); refine with_tabW spec_LongestLine.tab28 spec_LongestLine.bits28 (fun HT_ HW_ => ?_)
            generalize w112.drew = w113 at HO_9 HO_185000 HO_185001 BK141 BK184 BK186 HB hx187_0 hx187_1 hHeld ⊢
            refine pure_ (i := 0) (N := some 148) (v := ?_) (a' := ?_) (spec_LongestLine.bF 13 1) rfl rfl (any_of HT_.out (by kernel_rfl)) (fun _ _ _ h => h) (Or.inl ⟨by rfl, ?_⟩) ?_ ?_
            rotate_left
            ·
             intro w'
             go_simp
             with_reducible rfl
            rotate_left
            ·
             exact sP
            refine pure_ (i := 2) (N := some 150) (v := ?_) (a' := ?_) (spec_LongestLine.bF 13 5) rfl rfl (any_of HT_.out (by kernel_rfl)) (fun _ _ _ h => h) (Or.inl ⟨by rfl, ?_⟩) ?_ ?_
            rotate_left
            ·
             intro w'
             go_simp
             with_reducible rfl
            rotate_left
            ·
             exact sP
            refine pure_ (i := 3) (N := some 151) (v := ?_) (a' := ?_) (spec_LongestLine.bF 13 13) rfl rfl (any_of HT_.out (by kernel_rfl)) (fun _ _ _ h => h) (Or.inl ⟨by rfl, ?_⟩) ?_ ?_
            rotate_left
            ·
             intro w'
             go_simp
             with_reducible rfl
            rotate_left
            ·
             exact sP
            refine pure_ (i := 4) (N := some 152) (v := ?_) (a' := ?_) (spec_LongestLine.bF 13 29) rfl rfl (any_of HT_.out (by kernel_rfl)) (fun _ _ _ h => h) (Or.inl ⟨by rfl, ?_⟩) ?_ ?_
            rotate_left
            ·
             intro w'
             go_simp
             with_reducible rfl
            rotate_left
            ·
             exact sP
            refine pure_ (i := 6) (N := some 154) (v := ?_) (a' := ?_) (spec_LongestLine.bF 13 93) rfl rfl (any_of HT_.out (by kernel_rfl)) (fun _ _ _ h => h) (Or.inl ⟨by rfl, ?_⟩) ?_ ?_
            rotate_left
            ·
             intro w'
             go_simp
             with_reducible rfl
            rotate_left
            ·
             exact sP
            refine take_ (i := 1) (N := some 149) (v := ?_) (a' := ?_) (spec_LongestLine.bF 13 95) rfl rfl (take_ofW HT_.out HW_.out (by kernel_rfl)) (fun _ _ _ h => h) (Or.inl ⟨by rfl, ?_⟩) hHeld ?_ ?_
            rotate_left
            ·
             rintro w' ⟨s0, s1, s2, s3⟩
             go_simp
             with_reducible rfl
            rotate_left
            ·
             exact sP
            refine take_ (i := 5) (N := some 153) (v := ?_) (a' := ?_) (spec_LongestLine.bF 13 127) rfl rfl (take_ofW HT_.out HW_.out (by kernel_rfl)) (fun _ _ _ h => h) (Or.inl ⟨by rfl, ?_⟩) hHeld ?_ ?_
            rotate_left
            ·
             rintro w' ⟨s0, s1, s2, s3⟩
             go_simp
             with_reducible rfl
            rotate_left
            ·
             exact sP
            refine one_ (i := 7) (N := some 155) #[true, true, true, true, true, true, true, true, false, false, false, false, false] rfl rfl (one_of HT_.out (by kernel_rfl)) (by decide) (fun K hK => ?_)
            refine goes_ Try.func23 (by kernel_rfl) rfl #[.slice A0 l0.length c0, .agg #[.int .i64 ((rd_T45 x185000_4 (ji72)).f0), .int .i64 ((rd_T45 x185000_4 (ji72)).f1)], .agg #[.int .i64 ((rd_T45 x9_3 x14_4).f0), .int .i64 ((rd_T45 x9_3 x14_4).f1)], .int .i64 a2] (by rfl) rfl rfl (by (try simp only [List.map_toArray, List.map_cons, List.map_nil]); first | done | (simp only [hji72]; rfl) | rfl | (simp only [List.length_drop, List.length_take]; rfl)) ?_
            with_reducible refine (spec_BestJoin.calls k4 _ _ l0 ((rd_T45 x185000_4 (ji72)).f0) ((rd_T45 x185000_4 (ji72)).f1) ((rd_T45 x9_3 x14_4).f0) ((rd_T45 x9_3 x14_4).f1) a2 t188 t189 _ ?side1 ?side2 A76.out).mono ?_
            (case side1 => exact sC (Kd.C_below HR0.out HB.out))
            (case side2 => exact HC0.out)
            rintro e w114 ⟨rfl, hb⟩
            have HS2_ := (hb.cell (World.block_lt_of_cell? _ _ (hHeld.2.2.1))).trans (hHeld.2.2.1)
            have HS3_ := (hb.cell (World.block_lt_of_cell? _ _ (hHeld.2.2.2))).trans (hHeld.2.2.2)
            refine ⟨_, rfl, ?_⟩
            have n0_ := aS (Kd.R_below (sR HO_9.out) hb)
            have n1_ := aS (Kd.R_below (sR HO_185000.out) hb)
            have n2_ := aS (Kd.R_below (sR HO_185001.out) hb)
            have n3_ := aS (blk_below (g := gb141) (o := .cells #[.slice none 0 0, .slice none 0 0] 29 (0, 0)) (sB BK141.out) hb)
            have n4_ := aS (blk_below (g := gb184) (o := .cells #[.slice (some ad185) x185000_4.length co107, u185001] 29 (0, 0)) (sB BK184.out) hb)
            have n5_ := aS (blk_below (g := gb186) (o := .cells #[.int .i64 ((rd_T45 x185000_4 (ji72)).f0), .int .i64 ((rd_T45 x185000_4 (ji72)).f1)] 45 (0, 0)) (sB BK186.out) hb)
            have n6_ := aS (below_step (sW HB.out) hb)
            clear HO_9 HO_185000 HO_185001 BK141 BK184 BK186 HB
            have HO_9 := n0_; have HO_185000 := n1_; have HO_185001 := n2_; have BK141 := n3_; have BK184 := n4_; have BK186 := n5_; have HB := n6_
            clear n0_ n1_ n2_ n3_ n4_ n5_ n6_
            (try clear hb); (try clear hb2); (try clear hk); (try clear hi)
            refine hK.out _ _ ⟨(blk_cell BK186.out 0).trans rfl, (blk_cell BK186.out 1).trans rfl, HS2_, HS3_⟩ (fun hHeld => ?_)
            clear hK K
            refine norm_ (a' := ?_) ?_ ?_
            rotate_left
            ·
             show Act.put _ (some 155) _ = _
             exact sP
            refine pure_ (i := 8) (N := some 147) (v := ?_) (a' := ?_) (spec_LongestLine.bF 13 511) rfl rfl (any_of HT_.out (by kernel_rfl)) (fun _ _ _ h => h) (Or.inl ⟨by rfl, ?_⟩) ?_ ?_
            rotate_left
            ·
             intro w'
             go_simp
             with_reducible rfl
            rotate_left
            ·
             exact sP
            refine pure_ (i := 9) (N := some 156) (v := ?_) (a' := ?_) (spec_LongestLine.bF 13 1023) rfl rfl (any_of HT_.out (by kernel_rfl)) (fun _ _ _ h => h) (Or.inl ⟨by rfl, ?_⟩) ?_ ?_
            rotate_left
            ·
             intro w'
             go_simp
             with_reducible rfl
            rotate_left
            ·
             exact sP
            refine pure_ (i := 10) (N := some 157) (v := ?_) (a' := ?_) (spec_LongestLine.bF 13 2047) rfl rfl (any_of HT_.out (by kernel_rfl)) (fun _ _ _ h => h) (Or.inl ⟨by rfl, ?_⟩) ?_ ?_
            rotate_left
            ·
             intro w'
             go_simp
             with_reducible rfl
            rotate_left
            ·
             exact sP
            refine pure_ (i := 11) (N := some 16) (v := ?_) (a' := ?_) (spec_LongestLine.bF 13 4095) rfl rfl (any_of HT_.out (by kernel_rfl)) (fun _ _ _ h => h) (Or.inl ⟨by rfl, ?_⟩) ?_ ?_
            rotate_left
            ·
             intro w'
             go_simp
             with_reducible rfl
            rotate_left
            ·
             exact sP
            refine pure_ (i := 12) (N := some 17) (v := ?_) (a' := ?_) (spec_LongestLine.bF 13 8191) rfl rfl (any_of HT_.out (by kernel_rfl)) (fun _ _ _ h => h) (Or.inl ⟨by rfl, ?_⟩) ?_ ?_
            rotate_left
            ·
             intro w'
             go_simp
             with_reducible rfl
            rotate_left
            ·
             exact sP
            refine done_ (done_of HT_.out (by kernel_rfl)) ?_
            try go_wp2
            have n0_ := aS (Kd.R_drew HO_9.out)
            have n1_ := aS (Kd.R_drew HO_185000.out)
            have n2_ := aS (Kd.R_drew HO_185001.out)
            have n3_ := aS (blk_drew BK141.out)
            have n4_ := aS (blk_drew BK184.out)
            have n5_ := aS (blk_drew BK186.out)
            have n6_ := aS (below_drew1 HB.out)
            clear HO_9 HO_185000 HO_185001 BK141 BK184 BK186 HB
            have HO_9 := n0_; have HO_185000 := n1_; have HO_185001 := n2_; have BK141 := n3_; have BK184 := n4_; have BK186 := n5_; have HB := n6_
            clear n0_ n1_ n2_ n3_ n4_ n5_ n6_
            refine start_ (n := 15) (S := fun w' => True) (ds := []) #[false, false, false, false, false, false, false, false, false, false, false, false, false, false, false] (by kernel_rfl) rfl rfl trivial (fun hHeld => ?_); refine with_tabW spec_LongestLine.tab29 spec_LongestLine.bits29 (fun HT_ HW_ => ?_)
            generalize w114.drew = w115 at HO_9 HO_185000 HO_185001 BK141 BK184 BK186 HB hHeld ⊢
            refine pure_ (i := 0) (N := some 158) (v := ?_) (a' := ?_) (spec_LongestLine.bF 15 1) rfl rfl (any_of HT_.out (by kernel_rfl)) (fun _ _ _ h => h) (Or.inl ⟨by rfl, ?_⟩) ?_ ?_
            rotate_left
            ·
             intro w'
             go_simp
             with_reducible rfl
            rotate_left
            ·
             exact sP
            refine pure_ (i := 1) (N := some 159) (v := ?_) (a' := ?_) (spec_LongestLine.bF 15 3) rfl rfl (any_of HT_.out (by kernel_rfl)) (fun _ _ _ h => h) (Or.inl ⟨by rfl, ?_⟩) ?_ ?_
            rotate_left
            ·
             intro w'
             go_simp
             with_reducible rfl
            rotate_left
            ·
             exact sP
            refine pure_ (i := 2) (N := some 160) (v := ?_) (a' := ?_) (spec_LongestLine.bF 15 7) rfl rfl (any_of HT_.out (by kernel_rfl)) (fun _ _ _ h => h) (Or.inl ⟨by rfl, ?_⟩) ?_ ?_
            rotate_left
            ·
             intro w'
             go_simp
             with_reducible rfl
            rotate_left
            ·
             exact sP
            refine pure_ (i := 3) (N := some 161) (v := undef) (a' := ?_) (spec_LongestLine.bF 15 15) rfl rfl (any_of HT_.out (by kernel_rfl)) (fun _ _ _ h => h) (Or.inr ⟨by rfl, rfl⟩) ?_ ?_
            rotate_left
            ·
             exact sP
            refine pure_ (i := 4) (N := some 162) (v := undef) (a' := ?_) (spec_LongestLine.bF 15 31) rfl rfl (any_of HT_.out (by kernel_rfl)) (fun _ _ _ h => h) (Or.inr ⟨by rfl, rfl⟩) ?_ ?_
            rotate_left
            ·
             exact sP
            refine pure_ (i := 5) (N := some 163) (v := undef) (a' := ?_) (spec_LongestLine.bF 15 63) rfl rfl (any_of HT_.out (by kernel_rfl)) (fun _ _ _ h => h) (Or.inr ⟨by rfl, rfl⟩) ?_ ?_
            rotate_left
            ·
             exact sP
            refine pure_ (i := 6) (N := some 164) (v := undef) (a' := ?_) (spec_LongestLine.bF 15 127) rfl rfl (any_of HT_.out (by kernel_rfl)) (fun _ _ _ h => h) (Or.inr ⟨by rfl, rfl⟩) ?_ ?_
            rotate_left
            ·
             exact sP
            refine pure_ (i := 7) (N := some 165) (v := undef) (a' := ?_) (spec_LongestLine.bF 15 255) rfl rfl (any_of HT_.out (by kernel_rfl)) (fun _ _ _ h => h) (Or.inr ⟨by rfl, rfl⟩) ?_ ?_
            rotate_left
            ·
             exact sP
            refine pure_ (i := 8) (N := some 166) (v := undef) (a' := ?_) (spec_LongestLine.bF 15 511) rfl rfl (any_of HT_.out (by kernel_rfl)) (fun _ _ _ h => h) (Or.inr ⟨by rfl, rfl⟩) ?_ ?_
            rotate_left
            ·
             exact sP
            refine pure_ (i := 9) (N := some 167) (v := undef) (a' := ?_) (spec_LongestLine.bF 15 1023) rfl rfl (any_of HT_.out (by kernel_rfl)) (fun _ _ _ h => h) (Or.inr ⟨by rfl, rfl⟩) ?_ ?_
            rotate_left
            ·
             exact sP
            refine pure_ (i := 10) (N := some 168) (v := undef) (a' := ?_) (spec_LongestLine.bF 15 2047) rfl rfl (any_of HT_.out (by kernel_rfl)) (fun _ _ _ h => h) (Or.inr ⟨by rfl, rfl⟩) ?_ ?_
            rotate_left
            ·
             exact sP
            refine pure_ (i := 11) (N := some 169) (v := undef) (a' := ?_) (spec_LongestLine.bF 15 4095) rfl rfl (any_of HT_.out (by kernel_rfl)) (fun _ _ _ h => h) (Or.inr ⟨by rfl, rfl⟩) ?_ ?_
            rotate_left
            ·
             exact sP
            refine pure_ (i := 12) (N := some 170) (v := undef) (a' := ?_) (spec_LongestLine.bF 15 8191) rfl rfl (any_of HT_.out (by kernel_rfl)) (fun _ _ _ h => h) (Or.inr ⟨by rfl, rfl⟩) ?_ ?_
            rotate_left
            ·
             exact sP
            refine pure_ (i := 13) (N := some 171) (v := undef) (a' := ?_) (spec_LongestLine.bF 15 16383) rfl rfl (any_of HT_.out (by kernel_rfl)) (fun _ _ _ h => h) (Or.inr ⟨by rfl, rfl⟩) ?_ ?_
            rotate_left
            ·
             exact sP
            refine pure_ (i := 14) (N := some 172) (v := ?_) (a' := ?_) (spec_LongestLine.bF 15 32767) rfl rfl (any_of HT_.out (by kernel_rfl)) (fun _ _ _ h => h) (Or.inl ⟨by rfl, ?_⟩) ?_ ?_
            rotate_left
            ·
             intro w'
             go_simp
             with_reducible rfl
            rotate_left
            ·
             exact sP
            refine done_ (done_of HT_.out (by kernel_rfl)) ?_
            try go_wp2
            go_roundg k4
            case measure => have := HK1.out; have := HJ15.out; have := HK3.out; have := HK4.out; omega
            case rel => exact ⟨(wrap64 (x14_4 + 1)), (x185000_4), (x185001_4), (.slice (some ad185) x185000_4.length co107), (u185001), (by first | rfl | (simp; done) | (simp [*]; done) | (simp only [i64_w]; done) | (simp [i64_w]; done)), H', ⟨by have := HK1.out; have := HJ15.out; have := HK3.out; have := HK4.out; omega⟩, ⟨by (with_reducible repeat (first | apply Kd.R_alloc | apply Kd.R_drewN | apply Kd.R_drew)); exact Kd.R_mono HO_9.out (fun _ hk => hk.1)⟩, ⟨by (with_reducible repeat (first | apply Kd.R_alloc | apply Kd.R_drewN | apply Kd.R_drew)); exact Kd.R_mono HO_185000.out (fun _ hk => hk.1)⟩, ⟨by (with_reducible repeat (first | apply Kd.R_alloc | apply Kd.R_drewN | apply Kd.R_drew)); exact HO_185001.out⟩, ⟨by (with_reducible repeat (first | refine blk_drewN ?_ _ | refine blk_drew ?_ | refine blk_alloc ?_ _)); exact BK141.out⟩, ⟨by (with_reducible repeat (first | refine blk_drewN ?_ _ | refine blk_drew ?_ | refine blk_alloc ?_ _)); exact BK184.out⟩, ⟨by repeat (first | (with_reducible first | exact HB.out | apply below_alloc | apply pw_below_drewN | apply below_drew1 | refine below_set ?_ GE141.out | refine below_set ?_ GE184.out | refine below_set ?_ GE186.out) | exact HB.out)⟩⟩
           rw [if_pos c77] at H
           have c77b0 : (t189 == 0) = true := beq_iff_eq.mpr c77
           have c77b1 : (t189 != 0) = false := bne_eq_false_iff_eq.mpr c77
           clear c77
           by_cases c78 : 0 ≤ t188
           rotate_left
           ·
            rw [if_neg c78] at H
            exact absurd H (by simp)
           rw [if_pos c78] at H
           have c78b0 : decide (0 ≤ t188) = true := decide_eq_true c78
           clear c78
           by_cases c79 : t188 < (l0.length : Int)
           rotate_left
           ·
            rw [if_neg c79] at H
            exact absurd H (by simp)
           rw [if_pos c79] at H
           have c79b0 : decide (t188 < (l0.length : Int)) = true := decide_eq_true c79
           clear c79
           have HC80 := aS H
           clear H
           have hnb81 := NB184_141.out
           have hnc81 := NB141_184.out
           have hcz82_0 : wr.cell? ⟨gb184, 0, none⟩ = some (u185000) := (blk_cell BK184.out 0).trans rfl
           have hcz82_1 : wr.cell? ⟨gb184, 1, none⟩ = some (u185001) := (blk_cell BK184.out 1).trans rfl
           have hfz82_0 := blk_frozen BK184.out 0
           have hfz82_1 := blk_frozen BK184.out 1
           obtain ⟨Ao83, co83, eo83⟩ := Kd.R_slice HO_185000.out
           subst eo83
           have p185 : 0 ≤ ((ji72) : Int) := of_decide_eq_true (by first | (with_reducible assumption) | assumption)
           have q185 : (ji72) < (x185000_4.length : Int) := of_decide_eq_true (by first | (with_reducible assumption) | assumption)
           obtain ⟨ad185, e185, hx185_0, hx185_1⟩ := at_T45 (Kd.R_reads' HO_185000.out).2.2 (ji72) p185 q185
           cases e185
           replace p185 := eq_true p185
           replace q185 := eq_true q185
           try go_wp2_with (first | ((with_reducible refine gate_dst (N := 15) rfl ?_); refine box_event ?hg (N := 15) ?hd (cs := #[.int .i64 0, .int .i64 0]) (t := 45) ?hr ?_; (case hd => rfl); (case hg => rfl); (case hr => first | (go_simp; done) | (go_simp; rfl)); intro gb186 hg w84 hbox hb; have n0_ := aS (Kd.R_below (Kd.R_elderB (sR HO_9.out) gb186 (Nat.le_of_eq hg.symm)) hb); have n1_ := aS (Kd.R_below (Kd.R_elderB (sR HO_185000.out) gb186 (Nat.le_of_eq hg.symm)) hb); have n2_ := aS (Kd.R_below (sR HO_185001.out) hb); have n3_ := aS (blk_below (g := gb141) (o := .cells #[.slice none 0 0, .slice none 0 0] 29 (0, 0)) (sB BK141.out) hb); have n4_ := aS (blk_below (g := gb184) (o := .cells #[.slice (some ad185) x185000_4.length co83, u185001] 29 (0, 0)) (sB BK184.out) hb); have n5_ := aS (below_step (sW HB.out) hb); have n6_ := aS (hbox); have n7_ := aS ((by rw [hg]; exact (below_size (sW HB.out)) : w.heap.size ≤ gb186)); have n8_ := aS ((by rw [hg]; exact (below_size (sW HB.out)) : w.heap.size ≤ gb186)); have n9_ := aS ((by rw [hg]; exact Nat.ne_of_lt (blk_lt (g := gb141) (o := .cells #[.slice none 0 0, .slice none 0 0] 29 (0, 0)) (sB BK141.out)) : gb141 ≠ gb186)); have n10_ := aS ((by rw [hg]; exact Nat.ne_of_gt (blk_lt (g := gb141) (o := .cells #[.slice none 0 0, .slice none 0 0] 29 (0, 0)) (sB BK141.out)) : gb186 ≠ gb141)); have n11_ := aS ((by rw [hg]; exact Nat.ne_of_lt (blk_lt (g := gb184) (o := .cells #[.slice (some ad185) x185000_4.length co83, u185001] 29 (0, 0)) (sB BK184.out)) : gb184 ≠ gb186)); have n12_ := aS ((by rw [hg]; exact Nat.ne_of_gt (blk_lt (g := gb184) (o := .cells #[.slice (some ad185) x185000_4.length co83, u185001] 29 (0, 0)) (sB BK184.out)) : gb186 ≠ gb184)); clear HO_9 HO_185000 HO_185001 BK141 BK184 HB; have HO_9 := n0_; have HO_185000 := n1_; have HO_185001 := n2_; have BK141 := n3_; have BK184 := n4_; have HB := n5_; have BK186 := n6_; have GW186 := n7_; have GE186 := n8_; have NB141_186 := n9_; have NB186_141 := n10_; have NB184_186 := n11_; have NB186_184 := n12_; clear n0_ n1_ n2_ n3_ n4_ n5_ n6_ n7_ n8_ n9_ n10_ n11_ n12_; clear hb hbox hg; have hnb85 := NB186_141.out; have hnc85 := NB141_186.out; have hnb86 := NB186_184.out; have hnc86 := NB184_186.out; have hcz87_0 : w84.cell? ⟨gb186, 0, none⟩ = some (.int .i64 0) := (blk_cell BK186.out 0).trans rfl; have hcz87_1 : w84.cell? ⟨gb186, 1, none⟩ = some (.int .i64 0) := (blk_cell BK186.out 1).trans rfl; have hfz87_0 := blk_frozen BK186.out 0; have hfz87_1 := blk_frozen BK186.out 1))
           have n0_ : Aside0 (Kd.R k45 45 ((w84.setCell ⟨gb186, 0, none⟩ (.int .i64 ((rd_T45 x185000_4 (ji72)).f0))).setCell ⟨gb186, 1, none⟩ (.int .i64 ((rd_T45 x185000_4 (ji72)).f1))) w.heap.size (fun k_ => some k_ ≠ (.slice (some ad185) x185000_4.length co83 : Value).ownBlock ∧ k_ ≠ gb186) (.slice (some ad177) x9_3.length co61) x9_3) := ⟨by (with_reducible repeat (first | apply Kd.R_alloc | apply Kd.R_drewN | apply Kd.R_drew)); exact Kd.R_mono (Kd.R_far (p := ⟨gb186, 1, none⟩) (Kd.R_far (p := ⟨gb186, 0, none⟩) (Kd.R_mono HO_9.out (fun k_ hk => (⟨hk, hk.2⟩ : _ ∧ k_ ≠ gb186))) (fun _ hk => hk.2) (.int .i64 ((rd_T45 x185000_4 (ji72)).f0))) (fun _ hk => hk.2) (.int .i64 ((rd_T45 x185000_4 (ji72)).f1))) (fun _ hk => ⟨hk.1.1, hk.1.2⟩)⟩
           have n1_ : Aside0 (Kd.R k45 45 ((w84.setCell ⟨gb186, 0, none⟩ (.int .i64 ((rd_T45 x185000_4 (ji72)).f0))).setCell ⟨gb186, 1, none⟩ (.int .i64 ((rd_T45 x185000_4 (ji72)).f1))) w.heap.size (fun k_ => some k_ ≠ (.slice (some ad177) x9_3.length co61 : Value).ownBlock ∧ k_ ≠ gb186) (.slice (some ad185) x185000_4.length co83) x185000_4) := ⟨by (with_reducible repeat (first | apply Kd.R_alloc | apply Kd.R_drewN | apply Kd.R_drew)); exact Kd.R_mono (Kd.R_far (p := ⟨gb186, 1, none⟩) (Kd.R_far (p := ⟨gb186, 0, none⟩) (Kd.R_mono HO_185000.out (fun k_ hk => (⟨hk, hk.2⟩ : _ ∧ k_ ≠ gb186))) (fun _ hk => hk.2) (.int .i64 ((rd_T45 x185000_4 (ji72)).f0))) (fun _ hk => hk.2) (.int .i64 ((rd_T45 x185000_4 (ji72)).f1))) (fun _ hk => ⟨hk.1.1, hk.1.2⟩)⟩
           have n2_ : Aside0 (Kd.R (Kd.int .i64) 2 ((w84.setCell ⟨gb186, 0, none⟩ (.int .i64 ((rd_T45 x185000_4 (ji72)).f0))).setCell ⟨gb186, 1, none⟩ (.int .i64 ((rd_T45 x185000_4 (ji72)).f1))) w.heap.size (fun _ => True) u185001 x185001_4) := ⟨by (with_reducible repeat (first | apply Kd.R_alloc | apply Kd.R_drewN | apply Kd.R_drew)); exact Kd.R_mono (Kd.R_far (p := ⟨gb186, 1, none⟩) (Kd.R_far (p := ⟨gb186, 0, none⟩) (Kd.R_types HO_185001.out BK186.out (by decide)) (fun _ hk => hk.2) (.int .i64 ((rd_T45 x185000_4 (ji72)).f0))) (fun _ hk => hk.2) (.int .i64 ((rd_T45 x185000_4 (ji72)).f1))) (fun _ hk => trivial)⟩
           have n3_ : Aside0 (((w84.setCell ⟨gb186, 0, none⟩ (.int .i64 ((rd_T45 x185000_4 (ji72)).f0))).setCell ⟨gb186, 1, none⟩ (.int .i64 ((rd_T45 x185000_4 (ji72)).f1))).heap[gb141]? = some (.cells #[.slice none 0 0, .slice none 0 0] 29 (0, 0))) := ⟨by (with_reducible repeat (first | refine blk_drewN ?_ _ | refine blk_drew ?_ | refine blk_alloc ?_ _)); refine blk_far ?_ NB141_186.out _; (with_reducible repeat (first | refine blk_drewN ?_ _ | refine blk_drew ?_ | refine blk_alloc ?_ _)); refine blk_far ?_ NB141_186.out _; (with_reducible repeat (first | refine blk_drewN ?_ _ | refine blk_drew ?_ | refine blk_alloc ?_ _)); exact BK141.out⟩
           have n4_ : Aside0 (((w84.setCell ⟨gb186, 0, none⟩ (.int .i64 ((rd_T45 x185000_4 (ji72)).f0))).setCell ⟨gb186, 1, none⟩ (.int .i64 ((rd_T45 x185000_4 (ji72)).f1))).heap[gb184]? = some (.cells #[.slice (some ad185) x185000_4.length co83, u185001] 29 (0, 0))) := ⟨by (with_reducible repeat (first | refine blk_drewN ?_ _ | refine blk_drew ?_ | refine blk_alloc ?_ _)); refine blk_far ?_ NB184_186.out _; (with_reducible repeat (first | refine blk_drewN ?_ _ | refine blk_drew ?_ | refine blk_alloc ?_ _)); refine blk_far ?_ NB184_186.out _; (with_reducible repeat (first | refine blk_drewN ?_ _ | refine blk_drew ?_ | refine blk_alloc ?_ _)); exact BK184.out⟩
           have n5_ : Aside0 (((w84.setCell ⟨gb186, 0, none⟩ (.int .i64 ((rd_T45 x185000_4 (ji72)).f0))).setCell ⟨gb186, 1, none⟩ (.int .i64 ((rd_T45 x185000_4 (ji72)).f1))).heap[gb186]? = some (.cells #[.int .i64 ((rd_T45 x185000_4 (ji72)).f0), .int .i64 ((rd_T45 x185000_4 (ji72)).f1)] 45 (0, 0))) := ⟨by (with_reducible repeat (first | refine blk_drewN ?_ _ | refine blk_drew ?_ | refine blk_alloc ?_ _)); refine blk_put (cs := #[.int .i64 ((rd_T45 x185000_4 (ji72)).f0), .int .i64 0]) ?_ 1 _ rfl; (with_reducible repeat (first | refine blk_drewN ?_ _ | refine blk_drew ?_ | refine blk_alloc ?_ _)); refine blk_put (cs := #[.int .i64 0, .int .i64 0]) ?_ 0 _ rfl; (with_reducible repeat (first | refine blk_drewN ?_ _ | refine blk_drew ?_ | refine blk_alloc ?_ _)); exact BK186.out⟩
           have n6_ : Aside0 (Below w.heap.size w ((w84.setCell ⟨gb186, 0, none⟩ (.int .i64 ((rd_T45 x185000_4 (ji72)).f0))).setCell ⟨gb186, 1, none⟩ (.int .i64 ((rd_T45 x185000_4 (ji72)).f1)))) := ⟨by repeat (first | (with_reducible first | exact HB.out | apply below_alloc | apply pw_below_drewN | apply below_drew1 | refine below_set ?_ GE141.out | refine below_set ?_ GE184.out | refine below_set ?_ GE186.out) | exact HB.out)⟩
           (try clear HO_9); (try clear HO_185000); (try clear HO_185001); (try clear BK141); (try clear BK184); (try clear BK186); (try clear HB)
           generalize ((w84.setCell ⟨gb186, 0, none⟩ (.int .i64 ((rd_T45 x185000_4 (ji72)).f0))).setCell ⟨gb186, 1, none⟩ (.int .i64 ((rd_T45 x185000_4 (ji72)).f1))) = w88 at n0_ n1_ n2_ n3_ n4_ n5_ n6_ ⊢
           have HO_9 := n0_; have HO_185000 := n1_; have HO_185001 := n2_; have BK141 := n3_; have BK184 := n4_; have BK186 := n5_; have HB := n6_
           clear n0_ n1_ n2_ n3_ n4_ n5_ n6_
           have n0_ := aS (Kd.R_drew HO_9.out)
           have n1_ := aS (Kd.R_drew HO_185000.out)
           have n2_ := aS (Kd.R_drew HO_185001.out)
           have n3_ := aS (blk_drew BK141.out)
           have n4_ := aS (blk_drew BK184.out)
           have n5_ := aS (blk_drew BK186.out)
           have n6_ := aS (below_drew1 HB.out)
           clear HO_9 HO_185000 HO_185001 BK141 BK184 BK186 HB
           have HO_9 := n0_; have HO_185000 := n1_; have HO_185001 := n2_; have BK141 := n3_; have BK184 := n4_; have BK186 := n5_; have HB := n6_
           clear n0_ n1_ n2_ n3_ n4_ n5_ n6_
           have p187 : 0 ≤ (x14_4 : Int) := of_decide_eq_true (by first | (with_reducible assumption) | assumption)
           have q187 : x14_4 < (x9_3.length : Int) := of_decide_eq_true (by first | (with_reducible assumption) | assumption)
           obtain ⟨ad187, e187, hx187_0, hx187_1⟩ := at_T45 (Kd.R_reads' HO_9.out).2.2 x14_4 p187 q187
           obtain rfl : ad177 = ad187 := (by injection e187)
           replace p187 := eq_true p187
           replace q187 := eq_true q187
           refine start_ (n := 13) (S := fun w' => w'.cell? ⟨gb186, 0, none⟩ = some (.int .i64 ((rd_T45 x185000_4 (ji72)).f0)) ∧ w'.cell? ⟨gb186, 1, none⟩ = some (.int .i64 ((rd_T45 x185000_4 (ji72)).f1)) ∧ w'.cell? (ad177.add ((x14_4).toNat * 2)) = some (.int .i64 ((rd_T45 x9_3 x14_4).f0)) ∧ w'.cell? ⟨(ad177.add ((x14_4).toNat * 2)).block, (ad177.add ((x14_4).toNat * 2)).off + 1, none⟩ = some (.int .i64 ((rd_T45 x9_3 x14_4).f1))) (ds := []) #[false, false, false, false, false, false, false, false, false, false, false, false, false] (by kernel_rfl) rfl rfl ⟨(blk_cell BK186.out 0).trans rfl, (blk_cell BK186.out 1).trans rfl, hx187_0, hx187_1⟩ (fun hHeld => ?_); refine with_tabW spec_LongestLine.tab28 spec_LongestLine.bits28 (fun HT_ HW_ => ?_)
           generalize w88.drew = w89 at HO_9 HO_185000 HO_185001 BK141 BK184 BK186 HB hx187_0 hx187_1 hHeld ⊢
           refine pure_ (i := 0) (N := some 148) (v := ?_) (a' := ?_) (spec_LongestLine.bF 13 1) rfl rfl (any_of HT_.out (by kernel_rfl)) (fun _ _ _ h => h) (Or.inl ⟨by rfl, ?_⟩) ?_ ?_
           rotate_left
           ·
            intro w'
            go_simp
            with_reducible rfl
           rotate_left
           ·
            exact sP
           refine pure_ (i := 2) (N := some 150) (v := ?_) (a' := ?_) (spec_LongestLine.bF 13 5) rfl rfl (any_of HT_.out (by kernel_rfl)) (fun _ _ _ h => h) (Or.inl ⟨by rfl, ?_⟩) ?_ ?_
           rotate_left
           ·
            intro w'
            go_simp
            with_reducible rfl
           rotate_left
           ·
            exact sP
           refine pure_ (i := 3) (N := some 151) (v := ?_) (a' := ?_) (spec_LongestLine.bF 13 13) rfl rfl (any_of HT_.out (by kernel_rfl)) (fun _ _ _ h => h) (Or.inl ⟨by rfl, ?_⟩) ?_ ?_
           rotate_left
           ·
            intro w'
            go_simp
            with_reducible rfl
           rotate_left
           ·
            exact sP
           refine pure_ (i := 4) (N := some 152) (v := ?_) (a' := ?_) (spec_LongestLine.bF 13 29) rfl rfl (any_of HT_.out (by kernel_rfl)) (fun _ _ _ h => h) (Or.inl ⟨by rfl, ?_⟩) ?_ ?_
           rotate_left
           ·
            intro w'
            go_simp
            with_reducible rfl
           rotate_left
           ·
            exact sP
           refine pure_ (i := 6) (N := some 154) (v := ?_) (a' := ?_) (spec_LongestLine.bF 13 93) rfl rfl (any_of HT_.out (by kernel_rfl)) (fun _ _ _ h => h) (Or.inl ⟨by rfl, ?_⟩) ?_ ?_
           rotate_left
           ·
            intro w'
            go_simp
            with_reducible rfl
           rotate_left
           ·
            exact sP
           refine take_ (i := 1) (N := some 149) (v := ?_) (a' := ?_) (spec_LongestLine.bF 13 95) rfl rfl (take_ofW HT_.out HW_.out (by kernel_rfl)) (fun _ _ _ h => h) (Or.inl ⟨by rfl, ?_⟩) hHeld ?_ ?_
           rotate_left
           ·
            rintro w' ⟨s0, s1, s2, s3⟩
            go_simp
            with_reducible rfl
           rotate_left
           ·
            exact sP
           refine take_ (i := 5) (N := some 153) (v := ?_) (a' := ?_) (spec_LongestLine.bF 13 127) rfl rfl (take_ofW HT_.out HW_.out (by kernel_rfl)) (fun _ _ _ h => h) (Or.inl ⟨by rfl, ?_⟩) hHeld ?_ ?_
           rotate_left
           ·
            rintro w' ⟨s0, s1, s2, s3⟩
            go_simp
            with_reducible rfl
           rotate_left
           ·
            exact sP
           refine one_ (i := 7) (N := some 155) #[true, true, true, true, true, true, true, true, false, false, false, false, false] rfl rfl (one_of HT_.out (by kernel_rfl)) (by decide) (fun K hK => ?_)
           refine goes_ Try.func23 (by kernel_rfl) rfl #[.slice A0 l0.length c0, .agg #[.int .i64 ((rd_T45 x185000_4 (ji72)).f0), .int .i64 ((rd_T45 x185000_4 (ji72)).f1)], .agg #[.int .i64 ((rd_T45 x9_3 x14_4).f0), .int .i64 ((rd_T45 x9_3 x14_4).f1)], .int .i64 a2] (by rfl) rfl rfl (by (try simp only [List.map_toArray, List.map_cons, List.map_nil]); first | done | (simp only [hji72]; rfl) | rfl | (simp only [List.length_drop, List.length_take]; rfl)) ?_
           with_reducible refine (spec_BestJoin.calls k4 _ _ l0 ((rd_T45 x185000_4 (ji72)).f0) ((rd_T45 x185000_4 (ji72)).f1) ((rd_T45 x9_3 x14_4).f0) ((rd_T45 x9_3 x14_4).f1) a2 t188 t189 _ ?side1 ?side2 A76.out).mono ?_
           (case side1 => exact sC (Kd.C_below HR0.out HB.out))
           (case side2 => exact HC0.out)
           rintro e w90 ⟨rfl, hb⟩
           have HS2_ := (hb.cell (World.block_lt_of_cell? _ _ (hHeld.2.2.1))).trans (hHeld.2.2.1)
           have HS3_ := (hb.cell (World.block_lt_of_cell? _ _ (hHeld.2.2.2))).trans (hHeld.2.2.2)
           refine ⟨_, rfl, ?_⟩
           have n0_ := aS (Kd.R_below (sR HO_9.out) hb)
           have n1_ := aS (Kd.R_below (sR HO_185000.out) hb)
           have n2_ := aS (Kd.R_below (sR HO_185001.out) hb)
           have n3_ := aS (blk_below (g := gb141) (o := .cells #[.slice none 0 0, .slice none 0 0] 29 (0, 0)) (sB BK141.out) hb)
           have n4_ := aS (blk_below (g := gb184) (o := .cells #[.slice (some ad185) x185000_4.length co83, u185001] 29 (0, 0)) (sB BK184.out) hb)
           have n5_ := aS (blk_below (g := gb186) (o := .cells #[.int .i64 ((rd_T45 x185000_4 (ji72)).f0), .int .i64 ((rd_T45 x185000_4 (ji72)).f1)] 45 (0, 0)) (sB BK186.out) hb)
           have n6_ := aS (below_step (sW HB.out) hb)
           clear HO_9 HO_185000 HO_185001 BK141 BK184 BK186 HB
           have HO_9 := n0_; have HO_185000 := n1_; have HO_185001 := n2_; have BK141 := n3_; have BK184 := n4_; have BK186 := n5_; have HB := n6_
           clear n0_ n1_ n2_ n3_ n4_ n5_ n6_
           (try clear hb); (try clear hb2); (try clear hk); (try clear hi)
           refine hK.out _ _ ⟨(blk_cell BK186.out 0).trans rfl, (blk_cell BK186.out 1).trans rfl, HS2_, HS3_⟩ (fun hHeld => ?_)
           clear hK K
           refine norm_ (a' := ?_) ?_ ?_
           rotate_left
           ·
            show Act.put _ (some 155) _ = _
            exact sP
           refine pure_ (i := 8) (N := some 147) (v := ?_) (a' := ?_) (spec_LongestLine.bF 13 511) rfl rfl (any_of HT_.out (by kernel_rfl)) (fun _ _ _ h => h) (Or.inl ⟨by rfl, ?_⟩) ?_ ?_
           rotate_left
           ·
            intro w'
            go_simp
            with_reducible rfl
           rotate_left
           ·
            exact sP
           refine pure_ (i := 9) (N := some 156) (v := ?_) (a' := ?_) (spec_LongestLine.bF 13 1023) rfl rfl (any_of HT_.out (by kernel_rfl)) (fun _ _ _ h => h) (Or.inl ⟨by rfl, ?_⟩) ?_ ?_
           rotate_left
           ·
            intro w'
            go_simp
            with_reducible rfl
           rotate_left
           ·
            exact sP
           refine pure_ (i := 10) (N := some 157) (v := ?_) (a' := ?_) (spec_LongestLine.bF 13 2047) rfl rfl (any_of HT_.out (by kernel_rfl)) (fun _ _ _ h => h) (Or.inl ⟨by rfl, ?_⟩) ?_ ?_
           rotate_left
           ·
            intro w'
            go_simp
            with_reducible rfl
           rotate_left
           ·
            exact sP
           refine pure_ (i := 11) (N := some 16) (v := ?_) (a' := ?_) (spec_LongestLine.bF 13 4095) rfl rfl (any_of HT_.out (by kernel_rfl)) (fun _ _ _ h => h) (Or.inl ⟨by rfl, ?_⟩) ?_ ?_
           rotate_left
           ·
            intro w'
            go_simp
            with_reducible rfl
           rotate_left
           ·
            exact sP
           refine pure_ (i := 12) (N := some 17) (v := ?_) (a' := ?_) (spec_LongestLine.bF 13 8191) rfl rfl (any_of HT_.out (by kernel_rfl)) (fun _ _ _ h => h) (Or.inl ⟨by rfl, ?_⟩) ?_ ?_
           rotate_left
           ·
            intro w'
            go_simp
            with_reducible rfl
           rotate_left
           ·
            exact sP
           refine done_ (done_of HT_.out (by kernel_rfl)) ?_
           try go_wp2
           have n0_ := aS (Kd.R_drew HO_9.out)
           have n1_ := aS (Kd.R_drew HO_185000.out)
           have n2_ := aS (Kd.R_drew HO_185001.out)
           have n3_ := aS (blk_drew BK141.out)
           have n4_ := aS (blk_drew BK184.out)
           have n5_ := aS (blk_drew BK186.out)
           have n6_ := aS (below_drew1 HB.out)
           clear HO_9 HO_185000 HO_185001 BK141 BK184 BK186 HB
           have HO_9 := n0_; have HO_185000 := n1_; have HO_185001 := n2_; have BK141 := n3_; have BK184 := n4_; have BK186 := n5_; have HB := n6_
           clear n0_ n1_ n2_ n3_ n4_ n5_ n6_
           have p190 : 0 ≤ (t188 : Int) := of_decide_eq_true (by first | (with_reducible assumption) | assumption)
           have q190 : t188 < (l0.length : Int) := of_decide_eq_true (by first | (with_reducible assumption) | assumption)
           obtain ⟨ad190, e190, hx190_0, hx190_1, hx190_2⟩ := at_T61 HR0.out t188 p190 q190
           have hw190_2 := hx190_2
           have hw190_1 := hx190_1
           have hw190_0 := hx190_0
           cases e190
           replace hx190_0 := (HB.out.cell (World.block_lt_of_cell? w _ hx190_0)).trans hx190_0
           replace hx190_1 := (HB.out.cell (World.block_lt_of_cell? w _ hx190_1)).trans hx190_1
           replace hx190_2 := (HB.out.cell (World.block_lt_of_cell? w _ hx190_2)).trans hx190_2
           replace p190 := eq_true p190
           replace q190 := eq_true q190
           have p191 : 0 ≤ (x14_4 : Int) := of_decide_eq_true (by first | (with_reducible assumption) | assumption)
           have q191 : x14_4 < (x9_3.length : Int) := of_decide_eq_true (by first | (with_reducible assumption) | assumption)
           obtain ⟨ad191, e191, hx191_0, hx191_1⟩ := at_T45 (Kd.R_reads' HO_9.out).2.2 x14_4 p191 q191
           obtain rfl : ad177 = ad191 := (by injection e191)
           replace p191 := eq_true p191
           replace q191 := eq_true q191
           refine start_ (n := 15) (S := fun w' => w'.cell? (ad190.add ((t188).toNat * 3)) = some (.string ((rd_T61 l0 t188).f0)) ∧ w'.cell? ⟨(ad190.add ((t188).toNat * 3)).block, (ad190.add ((t188).toNat * 3)).off + 1, none⟩ = some (.int .i64 ((rd_T61 l0 t188).f1)) ∧ w'.cell? ⟨(ad190.add ((t188).toNat * 3)).block, (ad190.add ((t188).toNat * 3)).off + 2, none⟩ = some (.int .i64 ((rd_T61 l0 t188).f2)) ∧ w'.cell? (ad177.add ((x14_4).toNat * 2)) = some (.int .i64 ((rd_T45 x9_3 x14_4).f0)) ∧ w'.cell? ⟨(ad177.add ((x14_4).toNat * 2)).block, (ad177.add ((x14_4).toNat * 2)).off + 1, none⟩ = some (.int .i64 ((rd_T45 x9_3 x14_4).f1))) (ds := []) #[false, false, false, false, false, false, false, false, false, false, false, false, false, false, false] (by kernel_rfl) rfl rfl ⟨((HB.out.cell (World.block_lt_of_cell? w _ hw190_0)).trans hw190_0), ((HB.out.cell (World.block_lt_of_cell? w _ hw190_1)).trans hw190_1), ((HB.out.cell (World.block_lt_of_cell? w _ hw190_2)).trans hw190_2), hx191_0, hx191_1⟩ (fun hHeld => ?_); refine with_tabW spec_LongestLine.tab29 spec_LongestLine.bits29 (fun HT_ HW_ => ?_)
           generalize w90.drew = w91 at HO_9 HO_185000 HO_185001 BK141 BK184 BK186 HB hx190_0 hx190_1 hx190_2 hx191_0 hx191_1 hHeld ⊢
           refine pure_ (i := 0) (N := some 158) (v := ?_) (a' := ?_) (spec_LongestLine.bF 15 1) rfl rfl (any_of HT_.out (by kernel_rfl)) (fun _ _ _ h => h) (Or.inl ⟨by rfl, ?_⟩) ?_ ?_
           rotate_left
           ·
            intro w'
            go_simp
            with_reducible rfl
           rotate_left
           ·
            exact sP
           refine pure_ (i := 1) (N := some 159) (v := ?_) (a' := ?_) (spec_LongestLine.bF 15 3) rfl rfl (any_of HT_.out (by kernel_rfl)) (fun _ _ _ h => h) (Or.inl ⟨by rfl, ?_⟩) ?_ ?_
           rotate_left
           ·
            intro w'
            go_simp
            with_reducible rfl
           rotate_left
           ·
            exact sP
           refine pure_ (i := 2) (N := some 160) (v := ?_) (a' := ?_) (spec_LongestLine.bF 15 7) rfl rfl (any_of HT_.out (by kernel_rfl)) (fun _ _ _ h => h) (Or.inl ⟨by rfl, ?_⟩) ?_ ?_
           rotate_left
           ·
            intro w'
            go_simp
            with_reducible rfl
           rotate_left
           ·
            exact sP
           refine pure_ (i := 3) (N := some 161) (v := ?_) (a' := ?_) (spec_LongestLine.bF 15 15) rfl rfl (any_of HT_.out (by kernel_rfl)) (fun _ _ _ h => h) (Or.inl ⟨by rfl, ?_⟩) ?_ ?_
           rotate_left
           ·
            intro w'
            go_simp
            with_reducible rfl
           rotate_left
           ·
            exact sP
           refine pure_ (i := 4) (N := some 162) (v := ?_) (a' := ?_) (spec_LongestLine.bF 15 31) rfl rfl (any_of HT_.out (by kernel_rfl)) (fun _ _ _ h => h) (Or.inl ⟨by rfl, ?_⟩) ?_ ?_
           rotate_left
           ·
            intro w'
            go_simp
            with_reducible rfl
           rotate_left
           ·
            exact sP
           refine pure_ (i := 5) (N := some 163) (v := ?_) (a' := ?_) (spec_LongestLine.bF 15 63) rfl rfl (any_of HT_.out (by kernel_rfl)) (fun _ _ _ h => h) (Or.inl ⟨by rfl, ?_⟩) ?_ ?_
           rotate_left
           ·
            intro w'
            go_simp
            with_reducible rfl
           rotate_left
           ·
            exact sP
           refine pure_ (i := 6) (N := some 164) (v := ?_) (a' := ?_) (spec_LongestLine.bF 15 127) rfl rfl (any_of HT_.out (by kernel_rfl)) (fun _ _ _ h => h) (Or.inl ⟨by rfl, ?_⟩) ?_ ?_
           rotate_left
           ·
            intro w'
            go_simp
            with_reducible rfl
           rotate_left
           ·
            exact sP
           refine pure_ (i := 8) (N := some 166) (v := ?_) (a' := ?_) (spec_LongestLine.bF 15 383) rfl rfl (any_of HT_.out (by kernel_rfl)) (fun _ _ _ h => h) (Or.inl ⟨by rfl, ?_⟩) ?_ ?_
           rotate_left
           ·
            intro w'
            go_simp
            with_reducible rfl
           rotate_left
           ·
            exact sP
           refine pure_ (i := 9) (N := some 167) (v := ?_) (a' := ?_) (spec_LongestLine.bF 15 895) rfl rfl (any_of HT_.out (by kernel_rfl)) (fun _ _ _ h => h) (Or.inl ⟨by rfl, ?_⟩) ?_ ?_
           rotate_left
           ·
            intro w'
            go_simp
            with_reducible rfl
           rotate_left
           ·
            exact sP
           refine pure_ (i := 10) (N := some 168) (v := ?_) (a' := ?_) (spec_LongestLine.bF 15 1919) rfl rfl (any_of HT_.out (by kernel_rfl)) (fun _ _ _ h => h) (Or.inl ⟨by rfl, ?_⟩) ?_ ?_
           rotate_left
           ·
            intro w'
            go_simp
            with_reducible rfl
           rotate_left
           ·
            exact sP
           refine pure_ (i := 11) (N := some 169) (v := ?_) (a' := ?_) (spec_LongestLine.bF 15 3967) rfl rfl (any_of HT_.out (by kernel_rfl)) (fun _ _ _ h => h) (Or.inl ⟨by rfl, ?_⟩) ?_ ?_
           rotate_left
           ·
            intro w'
            go_simp
            with_reducible rfl
           rotate_left
           ·
            exact sP
           refine take_ (i := 7) (N := some 165) (v := ?_) (a' := ?_) (spec_LongestLine.bF 15 4095) rfl rfl (take_ofW HT_.out HW_.out (by kernel_rfl)) (fun _ _ _ h => h) (Or.inl ⟨by rfl, ?_⟩) hHeld ?_ ?_
           rotate_left
           ·
            rintro w' ⟨s0, s1, s2, s3, s4⟩
            go_simp
            with_reducible rfl
           rotate_left
           ·
            exact sP
           refine take_ (i := 12) (N := some 170) (v := ?_) (a' := ?_) (spec_LongestLine.bF 15 8191) rfl rfl (take_ofW HT_.out HW_.out (by kernel_rfl)) (fun _ _ _ h => h) (Or.inl ⟨by rfl, ?_⟩) hHeld ?_ ?_
           rotate_left
           ·
            rintro w' ⟨s0, s1, s2, s3, s4⟩
            go_simp
            with_reducible rfl
           rotate_left
           ·
            exact sP
           refine pure_ (i := 13) (N := some 171) (v := ?_) (a' := ?_) (spec_LongestLine.bF 15 16383) rfl rfl (any_of HT_.out (by kernel_rfl)) (fun _ _ _ h => h) (Or.inl ⟨by rfl, ?_⟩) ?_ ?_
           rotate_left
           ·
            intro w'
            go_simp
            with_reducible rfl
           rotate_left
           ·
            exact sP
           refine pure_ (i := 14) (N := some 172) (v := ?_) (a' := ?_) (spec_LongestLine.bF 15 32767) rfl rfl (any_of HT_.out (by kernel_rfl)) (fun _ _ _ h => h) (Or.inl ⟨by rfl, ?_⟩) ?_ ?_
           rotate_left
           ·
            intro w'
            go_simp
            with_reducible rfl
           rotate_left
           ·
            exact sP
           refine done_ (done_of HT_.out (by kernel_rfl)) ?_
           go_upto_if 172 with (fail)
           have H := HC80.out
           clear HC80
           by_cases c92 : ((rd_T61 l0 t188).f2) < ((rd_T45 x9_3 x14_4).f1)
           rotate_left
           ·
            rw [if_neg c92] at H
            have c92b0 : decide (((rd_T61 l0 t188).f2) < ((rd_T45 x9_3 x14_4).f1)) = false := decide_eq_false c92
            clear c92
            (first | rw [c92b0] | (simp only [i64_w, i32_w]; rw [c92b0]) | (rw [c92b2]; simp only [Bool.not_false, Bool.not_true]) | skip)
            have H' := aS H
            clear H
            go_wp2
            go_roundg k4
            case measure => have := HK1.out; have := HJ15.out; have := HK3.out; have := HK4.out; omega
            case rel => exact ⟨(wrap64 (x14_4 + 1)), (x185000_4), (x185001_4), (.slice (some ad185) x185000_4.length co83), (u185001), (by first | rfl | (simp; done) | (simp [*]; done) | (simp only [i64_w]; done) | (simp [i64_w]; done)), H', ⟨by have := HK1.out; have := HJ15.out; have := HK3.out; have := HK4.out; omega⟩, ⟨by (with_reducible repeat (first | apply Kd.R_alloc | apply Kd.R_drewN | apply Kd.R_drew)); exact Kd.R_mono HO_9.out (fun _ hk => hk.1)⟩, ⟨by (with_reducible repeat (first | apply Kd.R_alloc | apply Kd.R_drewN | apply Kd.R_drew)); exact Kd.R_mono HO_185000.out (fun _ hk => hk.1)⟩, ⟨by (with_reducible repeat (first | apply Kd.R_alloc | apply Kd.R_drewN | apply Kd.R_drew)); exact HO_185001.out⟩, ⟨by (with_reducible repeat (first | refine blk_drewN ?_ _ | refine blk_drew ?_ | refine blk_alloc ?_ _)); exact BK141.out⟩, ⟨by (with_reducible repeat (first | refine blk_drewN ?_ _ | refine blk_drew ?_ | refine blk_alloc ?_ _)); exact BK184.out⟩, ⟨by repeat (first | (with_reducible first | exact HB.out | apply below_alloc | apply pw_below_drewN | apply below_drew1 | refine below_set ?_ GE141.out | refine below_set ?_ GE184.out | refine below_set ?_ GE186.out) | exact HB.out)⟩⟩
           rw [if_pos c92] at H
           have c92b0 : decide (((rd_T61 l0 t188).f2) < ((rd_T45 x9_3 x14_4).f1)) = true := decide_eq_true c92
           clear c92
           (first | rw [c92b0] | (simp only [i64_w, i32_w]; rw [c92b0]) | (rw [c92b2]; simp only [Bool.not_false, Bool.not_true]) | skip)
           by_cases c93 : x185000_4.length < 8796093022208
           rotate_left
           ·
            rw [if_neg c93] at H
            exact absurd H (by simp)
           rw [if_pos c93] at H
           have LMc93 := aS c93
           clear c93
           obtain ⟨y193, hy193⟩ : ∃ y_ : List (S45), y_ = (x185000_4 ++ [(⟨(rd_T45 x9_3 x14_4).f0, (rd_T45 x9_3 x14_4).f1⟩ : S45)]) := ⟨_, rfl⟩
           replace H : (if x185001_4.length < 17592186044416 then (spec_LongestLine.l3 k4 l0 a2 x9_3 (wrap64 (x14_4 + 1)) y193 (x185001_4 ++ [t188])) else (none)) = some (r1, r2, r3) := by first | (rw [hy193]; with_reducible exact H) | (have H2_ := (Option.bind_some _ _).symm.trans H; rw [hy193]; with_reducible exact H2_) | (have H2_ := (Option.bind_some _ _).symm.trans H; with_reducible exact H2_) | with_reducible exact H | (rw [hy193]; exact H) | exact H
           have Ny193 := aS hy193
           clear hy193
           by_cases c94 : x185001_4.length < 17592186044416
           rotate_left
           ·
            rw [if_neg c94] at H
            exact absurd H (by simp)
           rw [if_pos c94] at H
           have LMc94 := aS c94
           clear c94
           obtain ⟨y196, hy196⟩ : ∃ y_ : List Int, y_ = (x185001_4 ++ [t188]) := ⟨_, rfl⟩
           replace H : (spec_LongestLine.l3 k4 l0 a2 x9_3 (wrap64 (x14_4 + 1)) y193 y196) = some (r1, r2, r3) := by first | (rw [hy196]; with_reducible exact H) | (have H2_ := (Option.bind_some _ _).symm.trans H; rw [hy196]; with_reducible exact H2_) | (have H2_ := (Option.bind_some _ _).symm.trans H; with_reducible exact H2_) | with_reducible exact H | (rw [hy196]; exact H) | exact H
           have Ny196 := aS hy196
           clear hy196
           have H' := aS H
           clear H
           try go_wp2
           have n0_ := aS (Kd.R_drew HO_9.out)
           have n1_ := aS (Kd.R_drew HO_185000.out)
           have n2_ := aS (Kd.R_drew HO_185001.out)
           have n3_ := aS (blk_drew BK141.out)
           have n4_ := aS (blk_drew BK184.out)
           have n5_ := aS (blk_drew BK186.out)
           have n6_ := aS (below_drew1 HB.out)
           clear HO_9 HO_185000 HO_185001 BK141 BK184 BK186 HB
           have HO_9 := n0_; have HO_185000 := n1_; have HO_185001 := n2_; have BK141 := n3_; have BK184 := n4_; have BK186 := n5_; have HB := n6_
           clear n0_ n1_ n2_ n3_ n4_ n5_ n6_
           have p192 : 0 ≤ (x14_4 : Int) := of_decide_eq_true (by first | (with_reducible assumption) | assumption)
           have q192 : x14_4 < (x9_3.length : Int) := of_decide_eq_true (by first | (with_reducible assumption) | assumption)
           obtain ⟨ad192, e192, hx192_0, hx192_1⟩ := at_T45 (Kd.R_reads' HO_9.out).2.2 x14_4 p192 q192
           obtain rfl : ad177 = ad192 := (by injection e192)
           replace p192 := eq_true p192
           replace q192 := eq_true q192
           refine start_ (n := 10) (S := fun w' => w'.cell? ⟨gb184, 0, none⟩ = some (.slice (some ad185) x185000_4.length co83) ∧ w'.cell? ⟨gb184, 1, none⟩ = some (u185001) ∧ w'.cell? (ad177.add ((x14_4).toNat * 2)) = some (.int .i64 ((rd_T45 x9_3 x14_4).f0)) ∧ w'.cell? ⟨(ad177.add ((x14_4).toNat * 2)).block, (ad177.add ((x14_4).toNat * 2)).off + 1, none⟩ = some (.int .i64 ((rd_T45 x9_3 x14_4).f1))) (ds := [7, 9]) #[false, false, false, false, false, false, false, false, false, false] (by kernel_rfl) rfl rfl ⟨(blk_cell BK184.out 0).trans rfl, (blk_cell BK184.out 1).trans rfl, hx192_0, hx192_1⟩ (fun hHeld => ?_); refine with_tabW spec_LongestLine.tab30 spec_LongestLine.bits30 (fun HT_ HW_ => ?_)
           generalize w91.drew = w95 at HO_9 HO_185000 HO_185001 BK141 BK184 BK186 HB hx192_0 hx192_1 hHeld ⊢
           refine pure_ (i := 0) (N := some 173) (v := ?_) (a' := ?_) (spec_LongestLine.bF 10 1) rfl rfl (any_of HT_.out (by kernel_rfl)) (fun _ _ _ h => h) (Or.inl ⟨by rfl, ?_⟩) ?_ ?_
           rotate_left
           ·
            intro w'
            go_simp
            with_reducible rfl
           rotate_left
           ·
            exact sP
           refine pure_ (i := 2) (N := some 175) (v := ?_) (a' := ?_) (spec_LongestLine.bF 10 5) rfl rfl (any_of HT_.out (by kernel_rfl)) (fun _ _ _ h => h) (Or.inl ⟨by rfl, ?_⟩) ?_ ?_
           rotate_left
           ·
            intro w'
            go_simp
            with_reducible rfl
           rotate_left
           ·
            exact sP
           refine pure_ (i := 3) (N := some 176) (v := ?_) (a' := ?_) (spec_LongestLine.bF 10 13) rfl rfl (any_of HT_.out (by kernel_rfl)) (fun _ _ _ h => h) (Or.inl ⟨by rfl, ?_⟩) ?_ ?_
           rotate_left
           ·
            intro w'
            go_simp
            with_reducible rfl
           rotate_left
           ·
            exact sP
           refine pure_ (i := 4) (N := some 177) (v := ?_) (a' := ?_) (spec_LongestLine.bF 10 29) rfl rfl (any_of HT_.out (by kernel_rfl)) (fun _ _ _ h => h) (Or.inl ⟨by rfl, ?_⟩) ?_ ?_
           rotate_left
           ·
            intro w'
            go_simp
            with_reducible rfl
           rotate_left
           ·
            exact sP
           refine take_ (i := 1) (N := some 174) (v := ?_) (a' := ?_) (spec_LongestLine.bF 10 31) rfl rfl (take_ofW HT_.out HW_.out (by kernel_rfl)) (fun _ _ _ h => h) (Or.inl ⟨by rfl, ?_⟩) hHeld ?_ ?_
           rotate_left
           ·
            rintro w' ⟨s0, s1, s2, s3⟩
            go_simp
            with_reducible rfl
           rotate_left
           ·
            exact sP
           refine take_ (i := 5) (N := some 178) (v := ?_) (a' := ?_) (spec_LongestLine.bF 10 63) rfl rfl (take_ofW HT_.out HW_.out (by kernel_rfl)) (fun _ _ _ h => h) (Or.inl ⟨by rfl, ?_⟩) hHeld ?_ ?_
           rotate_left
           ·
            rintro w' ⟨s0, s1, s2, s3⟩
            go_simp
            with_reducible rfl
           rotate_left
           ·
            exact sP
           refine one_ (i := 6) (N := some 179) #[true, true, true, true, true, true, true, false, false, false] rfl rfl (one_of HT_.out (by kernel_rfl)) (by decide) (fun K hK => ?_)
           refine value_ (w1 := ?_) (v := ?_) (by rfl) rfl ?_ ?_
           rotate_left 2
           ·
            go_simp
            constructor
            ·
             rfl
            ·
             rfl
           refine hK.out _ _ ⟨(blk_cell (blk_alloc BK184.out _) 0).trans rfl, (blk_cell (blk_alloc BK184.out _) 1).trans rfl, (World.cell?_alloc_lt _ _ _ (World.block_lt_of_cell? _ _ (hHeld.2.2.1))).trans (hHeld.2.2.1), (World.cell?_alloc_lt _ _ _ (World.block_lt_of_cell? _ _ (hHeld.2.2.2))).trans (hHeld.2.2.2)⟩ (fun hHeld => ?_)
           clear hK K
           refine norm_ (a' := ?_) ?_ ?_
           rotate_left
           ·
            show Act.put _ (some 179) _ = _
            exact sP
           refine last_ (i := 7) (N := some 180) #[true, true, true, true, true, true, true, true, false, false] rfl rfl (one_of HT_.out (by kernel_rfl)) (by decide) (fun K hK => ?_)
           refine Kd.R_append_step k45 (w0 := w) w.heap.size (by rfl) (.tmp 174) (.tmp 179) 26 45 (.agg #[(.int .i64 0), (.int .i64 0)]) 16 rfl Try.underlying26 info45 rfl (by decide) (by omega) (.slice (some ad185) x185000_4.length co83) x185000_4 (⟨(rd_T45 x9_3 x14_4).f0, (rd_T45 x9_3 x14_4).f1⟩ : S45) [.int .i64 ((rd_T45 x9_3 x14_4).f0), .int .i64 ((rd_T45 x9_3 x14_4).f1)] (fun k_ => some k_ ≠ (.slice (some ad177) x9_3.length co61 : Value).ownBlock ∧ k_ ≠ gb186) (fun _ => False) rfl rfl ?aP (fun _ hk => hk.elim) ?aF ?aO ?aB ?aS ?aL ?_
           (case aP => exact k45_mkM _ _ _ (⟨(rd_T45 x9_3 x14_4).f0, (rd_T45 x9_3 x14_4).f1⟩ : S45))
           (case aB => exact (sW HB.out))
           (case aF => exact (fun k_ hk => ⟨Kd.fresh' (Kd.R_lt (sR HO_9.out)) k_ hk, Kd.freshB (g := gb186) (o := .cells #[.int .i64 ((rd_T45 x185000_4 (ji72)).f0), .int .i64 ((rd_T45 x185000_4 (ji72)).f1)] 45 (0, 0)) (sB BK186.out) k_ hk⟩))
           (case aO => exact (sR HO_185000.out))
           (case aS => exact (below_size (sW HB.out)))
           (case aL => have := LMc93.out; omega)
           intro v194 w96 ho hb hg hat
           rw [← Ny193.out] at ho
           have n0_ := aS (Kd.R_after (ok := (fun k_ => k_ ≠ gb186)) (sR (Kd.R_mono HO_9.out (fun _ hk => ⟨hk.2, hk.1⟩))) hg hat)
           have n1_ := aS (Kd.R_over' (sR HO_185001.out) (Kd.R_typed (sR HO_185000.out)) (by decide) hg)
           have n2_ := aS (blk_grown (g := gb141) (o := .cells #[.slice none 0 0, .slice none 0 0] 29 (0, 0)) (sB BK141.out) hg (Kd.R_ne HO_185000.out BK141.out (by decide)))
           have n3_ := aS (blk_grown (g := gb184) (o := .cells #[.slice (some ad185) x185000_4.length co83, u185001] 29 (0, 0)) (sB BK184.out) hg (Kd.R_ne HO_185000.out BK184.out (by decide)))
           have n4_ := aS (blk_grown (g := gb186) (o := .cells #[.int .i64 ((rd_T45 x185000_4 (ji72)).f0), .int .i64 ((rd_T45 x185000_4 (ji72)).f1)] 45 (0, 0)) (sB BK186.out) hg (Kd.R_away HO_185000.out (fun _ hk => hk.2)))
           have n5_ := aS (hb)
           have n6_ := aS (ho)
           clear HO_9 HO_185001 BK141 BK184 BK186 HB HO_185000
           have HO_9 := n0_; have HO_185001 := n1_; have BK141 := n2_; have BK184 := n3_; have BK186 := n4_; have HB := n5_; have HO195 := n6_
           clear n0_ n1_ n2_ n3_ n4_ n5_ n6_
           clear ho hb hg hat
           obtain ⟨Ao97, co97, eo97⟩ := Kd.R_slice HO195.out
           (first | subst eo97 | (injection eo97 with f1_ f2_ f3_; have f4_ := f1_.symm; have f5_ := f3_.symm; clear f1_ f2_ f3_; subst f4_; subst f5_))
           refine hK.out _ _ ?_
           clear hK K
           refine norm_ (a' := ?_) ?_ ?_
           rotate_left
           ·
            show Act.put _ (some 180) _ = _
            exact sP
           refine pure_ (i := 8) (N := some 181) (v := ?_) (a' := ?_) (spec_LongestLine.bF 10 511) rfl rfl (any_of HT_.out (by kernel_rfl)) (fun _ _ _ h => h) (Or.inl ⟨by rfl, ?_⟩) ?_ ?_
           rotate_left
           ·
            intro w'
            go_simp
            with_reducible rfl
           rotate_left
           ·
            exact sP
           refine last_ (i := 9) (N := none) #[true, true, true, true, true, true, true, true, true, true] rfl rfl (one_of HT_.out (by kernel_rfl)) (by decide) (fun K hK => ?_)
           have hs98 : w96.cell? ⟨gb184, 0, none⟩ = some (.slice (some ad185) x185000_4.length co83) := (blk_cell BK184.out 0).trans rfl
           have hfs98 := blk_frozen BK184.out 0
           have hns98_0 := NB141_184.out
           have hns98_2 := NB186_184.out
           have hms98_0 := NB184_141.out
           have hms98_2 := NB184_186.out
           refine skip_ (w1 := ?_) (by rfl) rfl ?_ ?_
           rotate_left
           ·
            go_simp
            rfl
           refine hK.out _ _ ?_
           clear hK K
           refine done_ (done_of HT_.out (by kernel_rfl)) ?_
           have hnb99 := NB184_141.out
           have hnc99 := NB141_184.out
           have hnb100 := NB184_186.out
           have hnc100 := NB186_184.out
           have hcz101_0 : w96.cell? ⟨gb184, 0, none⟩ = some (.slice (some ad185) x185000_4.length co83) := (blk_cell BK184.out 0).trans rfl
           have hcz101_1 : w96.cell? ⟨gb184, 1, none⟩ = some (u185001) := (blk_cell BK184.out 1).trans rfl
           have hfz101_0 := blk_frozen BK184.out 0
           have hfz101_1 := blk_frozen BK184.out 1
           try go_wp2_with (first | ((with_reducible refine gate_builtin (b := .append) (xs := #[.tmp 183, .tmp 185]) rfl ?_); at_builtin; refine Kd.R_append (Kd.int .i64) (w0 := w) w.heap.size rfl (.tmp 183) (.tmp 185) 27 2 (.int .i64 0) 8 rfl Try.underlying27 info2 rfl (by decide) (by omega) u185001 x185001_4 t188 [.int .i64 t188] (fun _ => True) (fun _ => False) rfl (by first | (go_simp; done) | (go_simp; rfl)) ?aP (fun _ hk => hk.elim) ?aF ?aO ?aB ?aS ?aL ?_; (case aP => exact rfl); (case aB => exact (sW HB.out)); (case aF => exact (fun _ _ => trivial)); (case aO => exact (sR (Kd.R_mono (Kd.R_far (p := ⟨gb184, 0, none⟩) (Kd.R_types HO_185001.out BK184.out (by decide)) (fun _ hk => hk.2) (.slice Ao97 y193.length co97)) (fun _ hk => trivial)))); (case aS => exact (below_size (sW HB.out))); (case aL => have := LMc94.out; omega); intro v197 w102 ho hb hg hat; rw [← Ny196.out] at ho; have n0_ := aS (Kd.R_over' (sR (Kd.R_mono (Kd.R_far (p := ⟨gb184, 0, none⟩) (Kd.R_types HO_9.out BK184.out (by decide)) (fun _ hk => hk.2) (.slice Ao97 y193.length co97)) (fun _ h_ => h_.1))) (Kd.R_typed (sR (Kd.R_mono (Kd.R_far (p := ⟨gb184, 0, none⟩) (Kd.R_types HO_185001.out BK184.out (by decide)) (fun _ hk => hk.2) (.slice Ao97 y193.length co97)) (fun _ h_ => h_.1)))) (by decide) hg); have n1_ := aS (blk_grown (g := gb141) (o := .cells #[.slice none 0 0, .slice none 0 0] 29 (0, 0)) (by (with_reducible repeat (first | refine blk_drewN ?_ _ | refine blk_drew ?_ | refine blk_alloc ?_ _)); refine blk_far ?_ NB141_184.out _; (with_reducible repeat (first | refine blk_drewN ?_ _ | refine blk_drew ?_ | refine blk_alloc ?_ _)); exact BK141.out) hg (Kd.R_ne HO_185001.out BK141.out (by decide))); have n2_ := aS (blk_grown (g := gb184) (o := .cells #[.slice Ao97 y193.length co97, u185001] 29 (0, 0)) (by (with_reducible repeat (first | refine blk_drewN ?_ _ | refine blk_drew ?_ | refine blk_alloc ?_ _)); refine blk_put (cs := #[.slice (some ad185) x185000_4.length co83, u185001]) ?_ 0 _ rfl; (with_reducible repeat (first | refine blk_drewN ?_ _ | refine blk_drew ?_ | refine blk_alloc ?_ _)); exact BK184.out) hg (Kd.R_ne HO_185001.out BK184.out (by decide))); have n3_ := aS (blk_grown (g := gb186) (o := .cells #[.int .i64 ((rd_T45 x185000_4 (ji72)).f0), .int .i64 ((rd_T45 x185000_4 (ji72)).f1)] 45 (0, 0)) (by (with_reducible repeat (first | refine blk_drewN ?_ _ | refine blk_drew ?_ | refine blk_alloc ?_ _)); refine blk_far ?_ NB186_184.out _; (with_reducible repeat (first | refine blk_drewN ?_ _ | refine blk_drew ?_ | refine blk_alloc ?_ _)); exact BK186.out) hg (Kd.R_ne HO_185001.out BK186.out (by decide))); have n4_ := aS (Kd.R_over' (sR (Kd.R_mono (Kd.R_far (p := ⟨gb184, 0, none⟩) (Kd.R_types HO195.out BK184.out (by decide)) (fun _ hk => hk.2) (.slice Ao97 y193.length co97)) (fun _ h_ => h_.1))) (Kd.R_typed (sR (Kd.R_mono (Kd.R_far (p := ⟨gb184, 0, none⟩) (Kd.R_types HO_185001.out BK184.out (by decide)) (fun _ hk => hk.2) (.slice Ao97 y193.length co97)) (fun _ h_ => h_.1)))) (by decide) hg); have n5_ := aS (hb); have n6_ := aS (ho); clear HO_9 BK141 BK184 BK186 HO195 HB HO_185001; have HO_9 := n0_; have BK141 := n1_; have BK184 := n2_; have BK186 := n3_; have HO195 := n4_; have HB := n5_; have HO198 := n6_; clear n0_ n1_ n2_ n3_ n4_ n5_ n6_; clear ho hb hg hat; obtain ⟨Ao103, co103, eo103⟩ := Kd.R_slice HO198.out; subst eo103; have hcz104_0 : w102.cell? ⟨gb184, 0, none⟩ = some (.slice Ao97 y193.length co97) := (blk_cell BK184.out 0).trans rfl; have hcz104_1 : w102.cell? ⟨gb184, 1, none⟩ = some (u185001) := (blk_cell BK184.out 1).trans rfl; have hfz104_0 := blk_frozen BK184.out 0; have hfz104_1 := blk_frozen BK184.out 1))
           go_roundg k4
           case measure => have := HK1.out; have := HJ15.out; have := HK3.out; have := HK4.out; omega
           case rel => exact ⟨(wrap64 (x14_4 + 1)), (y193), (y196), (.slice Ao97 y193.length co97), (.slice Ao103 y196.length co103), (by first | rfl | (simp; done) | (simp [*]; done) | (simp only [i64_w]; done) | (simp [i64_w]; done)), H', ⟨by have := HK1.out; have := HJ15.out; have := HK3.out; have := HK4.out; omega⟩, ⟨by (with_reducible repeat (first | apply Kd.R_alloc | apply Kd.R_drewN | apply Kd.R_drew)); exact Kd.R_mono (Kd.R_far (p := ⟨gb184, 1, none⟩) (Kd.R_types HO_9.out BK184.out (by decide)) (fun _ hk => hk.2) (.slice Ao103 y196.length co103)) (fun _ hk => hk.1.2)⟩, ⟨by (with_reducible repeat (first | apply Kd.R_alloc | apply Kd.R_drewN | apply Kd.R_drew)); exact Kd.R_mono (Kd.R_far (p := ⟨gb184, 1, none⟩) (Kd.R_types HO195.out BK184.out (by decide)) (fun _ hk => hk.2) (.slice Ao103 y196.length co103)) (fun _ hk => hk.1.1)⟩, ⟨by (with_reducible repeat (first | apply Kd.R_alloc | apply Kd.R_drewN | apply Kd.R_drew)); exact Kd.R_mono (Kd.R_far (p := ⟨gb184, 1, none⟩) (Kd.R_types HO198.out BK184.out (by decide)) (fun _ hk => hk.2) (.slice Ao103 y196.length co103)) (fun _ hk => trivial)⟩, ⟨by (with_reducible repeat (first | refine blk_drewN ?_ _ | refine blk_drew ?_ | refine blk_alloc ?_ _)); refine blk_far ?_ NB141_184.out _; (with_reducible repeat (first | refine blk_drewN ?_ _ | refine blk_drew ?_ | refine blk_alloc ?_ _)); exact BK141.out⟩, ⟨by (with_reducible repeat (first | refine blk_drewN ?_ _ | refine blk_drew ?_ | refine blk_alloc ?_ _)); refine blk_put (cs := #[.slice Ao97 y193.length co97, u185001]) ?_ 1 _ rfl; (with_reducible repeat (first | refine blk_drewN ?_ _ | refine blk_drew ?_ | refine blk_alloc ?_ _)); exact BK184.out⟩, ⟨by repeat (first | (with_reducible first | exact HB.out | apply below_alloc | apply pw_below_drewN | apply below_drew1 | refine below_set ?_ GE141.out | refine below_set ?_ GE184.out | refine below_set ?_ GE186.out) | exact HB.out)⟩⟩
        rw [if_pos c23] at H
        have c23b0 : decide (x10_3 < (l1.length : Int)) = true := decide_eq_true c23
        clear c23
        by_cases c24 : 0 ≤ x10_3
        rotate_left
        ·
         rw [if_neg c24] at H
         exact absurd H (by simp)
        rw [if_pos c24] at H
        have c24b0 : decide (0 ≤ x10_3) = true := decide_eq_true c24
        clear c24
        by_cases c25 : ((rd_T45 l1 x10_3).f0) < a2
        ·
         rw [if_pos c25] at H
         have c25b0 : decide (((rd_T45 l1 x10_3).f0) < a2) = true := decide_eq_true c25
         clear c25
         have H' := aS H
         clear H
         have p149 : 0 ≤ (x10_3 : Int) := of_decide_eq_true (by first | (with_reducible assumption) | assumption)
         have q149 : x10_3 < (l1.length : Int) := of_decide_eq_true (by first | (with_reducible assumption) | assumption)
         obtain ⟨ad149, e149, hx149_0, hx149_1⟩ := at_T45 HR1.out x10_3 p149 q149
         cases e149
         replace hx149_0 := (HB.out.cell (World.block_lt_of_cell? w _ hx149_0)).trans hx149_0
         replace hx149_1 := (HB.out.cell (World.block_lt_of_cell? w _ hx149_1)).trans hx149_1
         replace p149 := eq_true p149
         replace q149 := eq_true q149
         go_wp2
         go_roundg k3
         case measure => have := HK1.out; have := HJ15.out; have := HK3.out; omega
         case rel => exact ⟨(x9_3), (wrap64 (x10_3 + 1)), (by first | rfl | (simp; done) | (simp [*]; done) | (simp only [i64_w]; done) | (simp [i64_w]; done)), H', ⟨by have := HK1.out; have := HJ15.out; have := HK3.out; omega⟩, ⟨by (with_reducible repeat (first | apply Kd.R_alloc | apply Kd.R_drewN | apply Kd.R_drew)); exact HO_9.out⟩, ⟨by (with_reducible repeat (first | refine blk_drewN ?_ _ | refine blk_drew ?_ | refine blk_alloc ?_ _)); exact BK141.out⟩, ⟨by repeat (first | (with_reducible first | exact HB.out | apply below_alloc | apply pw_below_drewN | apply below_drew1 | refine below_set ?_ GE141.out) | exact HB.out)⟩⟩
        rw [if_neg c25] at H
        have c25b0 : decide (((rd_T45 l1 x10_3).f0) < a2) = false := decide_eq_false c25
        clear c25
        have H' := aS H
        clear H
        have p149 : 0 ≤ (x10_3 : Int) := of_decide_eq_true (by first | (with_reducible assumption) | assumption)
        have q149 : x10_3 < (l1.length : Int) := of_decide_eq_true (by first | (with_reducible assumption) | assumption)
        obtain ⟨ad149, e149, hx149_0, hx149_1⟩ := at_T45 HR1.out x10_3 p149 q149
        cases e149
        replace hx149_0 := (HB.out.cell (World.block_lt_of_cell? w _ hx149_0)).trans hx149_0
        replace hx149_1 := (HB.out.cell (World.block_lt_of_cell? w _ hx149_1)).trans hx149_1
        replace p149 := eq_true p149
        replace q149 := eq_true q149
        obtain ⟨Ao26, co26, eo26⟩ := Kd.R_slice HO_9.out
        subst eo26
        go_wp2
        go_loopg [11] k3 (fun kq v11 w' => ∃ (x11_4 : Int), v11 = .int .i64 x11_4 ∧ Aside0 (spec_LongestLine.l2 kq l0 l1 a2 x9_3 x10_3 x11_4 = some (r1, r2, r3)) ∧ Aside0 (kq ≤ k3) ∧ Aside0 (Kd.R k45 45 w' w.heap.size (fun _ => True) (.slice Ao26 x9_3.length co26) x9_3) ∧ Aside0 (w'.heap[gb141]? = some (.cells #[(.slice none 0 0), (.slice none 0 0)] 29 (0, 0))) ∧ Aside0 (Below w.heap.size w w'))
        case atStart => exact ⟨((x9_3.length : Int)), (by first | rfl | (simp; done) | (simp [*]; done) | (simp only [i64_w]; done) | (simp [i64_w]; done)), H', ⟨Nat.le_refl _⟩, ⟨by (with_reducible repeat (first | apply Kd.R_alloc | apply Kd.R_drewN | apply Kd.R_drew)); exact HO_9.out⟩, ⟨by (with_reducible repeat (first | refine blk_drewN ?_ _ | refine blk_drew ?_ | refine blk_alloc ?_ _)); exact BK141.out⟩, ⟨by repeat (first | (with_reducible first | exact HB.out | apply below_alloc | apply pw_below_drewN | apply below_drew1 | refine below_set ?_ GE141.out) | exact HB.out)⟩⟩
        case round =>
         clear H'
         (try clear c1); (try clear p1); (try clear q1); (try clear hx1); (try clear c2); (try clear p2); (try clear c4); (try clear p6); (try clear c8); (try clear c9); (try clear c9b0); (try clear c9b2); (try clear c10); (try clear c10b0); (try clear c14); (try clear p14); (try clear q14); (try clear hx14); (try clear c17); (try clear c17b0); (try clear c17b1); (try clear c17b2); (try clear c19); (try clear c23); (try clear c23b0); (try clear c24); (try clear c24b0); (try clear c25); (try clear c25b0); (try clear hcz15_0); (try clear hcz15_1); (try clear hcz20_0); (try clear hcz20_1); (try clear hfz15_0); (try clear hfz15_1); (try clear hfz20_0); (try clear hfz20_1); (try clear hx143_0); (try clear hx143_1); (try clear hx149_0); (try clear hx149_1); (try clear p1); (try clear p14); (try clear p143); (try clear p149); (try clear p2); (try clear p6); (try clear q1); (try clear q14); (try clear q143); (try clear q149)
         obtain ⟨x11_4, rfl, HA, HK4, HO_9, BK141, HB⟩ := hrel
         cases gk with
         | zero => exact absurd HA.out (by simp [spec_LongestLine.l2])
         | succ k4 =>
          have H := HA.out
          clear HA
          simp only [spec_LongestLine.l2] at H
          have HC27 := aS H
          clear H
          go_upto_region 16 with (fail)
          go_cut [103] (fun v103 wc => ∃ (kq : Nat) (x103_26 : Bool), v103 = .bool x103_26 ∧ Aside0 (spec_LongestLine.j4 kq l0 l1 a2 x9_3 x10_3 x11_4 x103_26 = some (r1, r2, r3)) ∧ Aside0 (kq ≤ k4) ∧ Aside0 (Kd.R k45 45 wc w.heap.size (fun _ => True) (.slice Ao26 x9_3.length co26) x9_3) ∧ Aside0 (wc.heap[gb141]? = some (.cells #[(.slice none 0 0), (.slice none 0 0)] 29 (0, 0))) ∧ Aside0 (Below w.heap.size w wc))
          case first =>
           have H := HC27.out
           clear HC27
           by_cases c28 : x11_4 > 0
           rotate_left
           ·
            rw [if_neg c28] at H
            have c28b0 : decide (0 < x11_4) = false := decide_eq_false c28
            clear c28
            (first | rw [c28b0] | (simp only [i64_w, i32_w]; rw [c28b0]) | (rw [c28b2]; simp only [Bool.not_false, Bool.not_true]) | skip)
            have H' := aS H
            clear H
            try go_wp2
            have n0_ := aS (Kd.R_drew HO_9.out)
            have n1_ := aS (blk_drew BK141.out)
            have n2_ := aS (below_drew1 HB.out)
            clear HO_9 BK141 HB
            have HO_9 := n0_; have BK141 := n1_; have HB := n2_
            clear n0_ n1_ n2_
            refine start_ (n := 44) (S := fun w' => True) (ds := []) #[false, false, false, false, false, false, false, false, false, false, false, false, false, false, false, false, false, false, false, false, false, false, false, false, false, false, false, false, false, false, false, false, false, false, false, false, false, false, false, false, false, false, false, false] (by kernel_rfl) rfl rfl trivial (fun hHeld => ?_); refine with_tabW spec_LongestLine.tab16 spec_LongestLine.bits16 (fun HT_ HW_ => ?_)
            generalize wr.drew = w39 at HO_9 BK141 HB hHeld ⊢
            refine pure_ (i := 0) (N := some 60) (v := ?_) (a' := ?_) (spec_LongestLine.bF 44 1) rfl rfl (any_of HT_.out (by kernel_rfl)) (fun _ _ _ h => h) (Or.inl ⟨by rfl, ?_⟩) ?_ ?_
            rotate_left
            ·
             intro w'
             go_simp
             with_reducible rfl
            rotate_left
            ·
             exact sP
            refine pure_ (i := 1) (N := some 61) (v := ?_) (a' := ?_) (spec_LongestLine.bF 44 3) rfl rfl (any_of HT_.out (by kernel_rfl)) (fun _ _ _ h => h) (Or.inl ⟨by rfl, ?_⟩) ?_ ?_
            rotate_left
            ·
             intro w'
             go_simp
             with_reducible rfl
            rotate_left
            ·
             exact sP
            refine pure_ (i := 2) (N := some 62) (v := ?_) (a' := ?_) (spec_LongestLine.bF 44 7) rfl rfl (any_of HT_.out (by kernel_rfl)) (fun _ _ _ h => h) (Or.inl ⟨by rfl, ?_⟩) ?_ ?_
            rotate_left
            ·
             intro w'
             go_simp
             with_reducible rfl
            rotate_left
            ·
             exact sP
            refine pure_ (i := 3) (N := some 63) (v := undef) (a' := ?_) (spec_LongestLine.bF 44 15) rfl rfl (any_of HT_.out (by kernel_rfl)) (fun _ _ _ h => h) (Or.inr ⟨by rfl, rfl⟩) ?_ ?_
            rotate_left
            ·
             exact sP
            refine pure_ (i := 4) (N := some 64) (v := undef) (a' := ?_) (spec_LongestLine.bF 44 31) rfl rfl (any_of HT_.out (by kernel_rfl)) (fun _ _ _ h => h) (Or.inr ⟨by rfl, rfl⟩) ?_ ?_
            rotate_left
            ·
             exact sP
            refine pure_ (i := 5) (N := some 65) (v := undef) (a' := ?_) (spec_LongestLine.bF 44 63) rfl rfl (any_of HT_.out (by kernel_rfl)) (fun _ _ _ h => h) (Or.inr ⟨by rfl, rfl⟩) ?_ ?_
            rotate_left
            ·
             exact sP
            refine pure_ (i := 6) (N := some 66) (v := undef) (a' := ?_) (spec_LongestLine.bF 44 127) rfl rfl (any_of HT_.out (by kernel_rfl)) (fun _ _ _ h => h) (Or.inr ⟨by rfl, rfl⟩) ?_ ?_
            rotate_left
            ·
             exact sP
            refine pure_ (i := 7) (N := some 67) (v := undef) (a' := ?_) (spec_LongestLine.bF 44 255) rfl rfl (any_of HT_.out (by kernel_rfl)) (fun _ _ _ h => h) (Or.inr ⟨by rfl, rfl⟩) ?_ ?_
            rotate_left
            ·
             exact sP
            refine pure_ (i := 8) (N := some 68) (v := undef) (a' := ?_) (spec_LongestLine.bF 44 511) rfl rfl (any_of HT_.out (by kernel_rfl)) (fun _ _ _ h => h) (Or.inr ⟨by rfl, rfl⟩) ?_ ?_
            rotate_left
            ·
             exact sP
            refine pure_ (i := 9) (N := some 69) (v := undef) (a' := ?_) (spec_LongestLine.bF 44 1023) rfl rfl (any_of HT_.out (by kernel_rfl)) (fun _ _ _ h => h) (Or.inr ⟨by rfl, rfl⟩) ?_ ?_
            rotate_left
            ·
             exact sP
            refine pure_ (i := 10) (N := some 70) (v := undef) (a' := ?_) (spec_LongestLine.bF 44 2047) rfl rfl (any_of HT_.out (by kernel_rfl)) (fun _ _ _ h => h) (Or.inr ⟨by rfl, rfl⟩) ?_ ?_
            rotate_left
            ·
             exact sP
            refine pure_ (i := 11) (N := some 71) (v := undef) (a' := ?_) (spec_LongestLine.bF 44 4095) rfl rfl (any_of HT_.out (by kernel_rfl)) (fun _ _ _ h => h) (Or.inr ⟨by rfl, rfl⟩) ?_ ?_
            rotate_left
            ·
             exact sP
            refine pure_ (i := 12) (N := some 72) (v := undef) (a' := ?_) (spec_LongestLine.bF 44 8191) rfl rfl (any_of HT_.out (by kernel_rfl)) (fun _ _ _ h => h) (Or.inr ⟨by rfl, rfl⟩) ?_ ?_
            rotate_left
            ·
             exact sP
            refine pure_ (i := 13) (N := some 73) (v := undef) (a' := ?_) (spec_LongestLine.bF 44 16383) rfl rfl (any_of HT_.out (by kernel_rfl)) (fun _ _ _ h => h) (Or.inr ⟨by rfl, rfl⟩) ?_ ?_
            rotate_left
            ·
             exact sP
            refine pure_ (i := 14) (N := some 74) (v := undef) (a' := ?_) (spec_LongestLine.bF 44 32767) rfl rfl (any_of HT_.out (by kernel_rfl)) (fun _ _ _ h => h) (Or.inr ⟨by rfl, rfl⟩) ?_ ?_
            rotate_left
            ·
             exact sP
            refine pure_ (i := 15) (N := some 75) (v := undef) (a' := ?_) (spec_LongestLine.bF 44 65535) rfl rfl (any_of HT_.out (by kernel_rfl)) (fun _ _ _ h => h) (Or.inr ⟨by rfl, rfl⟩) ?_ ?_
            rotate_left
            ·
             exact sP
            refine pure_ (i := 16) (N := some 76) (v := undef) (a' := ?_) (spec_LongestLine.bF 44 131071) rfl rfl (any_of HT_.out (by kernel_rfl)) (fun _ _ _ h => h) (Or.inr ⟨by rfl, rfl⟩) ?_ ?_
            rotate_left
            ·
             exact sP
            refine pure_ (i := 17) (N := some 77) (v := undef) (a' := ?_) (spec_LongestLine.bF 44 262143) rfl rfl (any_of HT_.out (by kernel_rfl)) (fun _ _ _ h => h) (Or.inr ⟨by rfl, rfl⟩) ?_ ?_
            rotate_left
            ·
             exact sP
            refine pure_ (i := 18) (N := some 78) (v := undef) (a' := ?_) (spec_LongestLine.bF 44 524287) rfl rfl (any_of HT_.out (by kernel_rfl)) (fun _ _ _ h => h) (Or.inr ⟨by rfl, rfl⟩) ?_ ?_
            rotate_left
            ·
             exact sP
            refine pure_ (i := 19) (N := some 79) (v := undef) (a' := ?_) (spec_LongestLine.bF 44 1048575) rfl rfl (any_of HT_.out (by kernel_rfl)) (fun _ _ _ h => h) (Or.inr ⟨by rfl, rfl⟩) ?_ ?_
            rotate_left
            ·
             exact sP
            refine pure_ (i := 20) (N := some 80) (v := undef) (a' := ?_) (spec_LongestLine.bF 44 2097151) rfl rfl (any_of HT_.out (by kernel_rfl)) (fun _ _ _ h => h) (Or.inr ⟨by rfl, rfl⟩) ?_ ?_
            rotate_left
            ·
             exact sP
            refine pure_ (i := 21) (N := some 81) (v := undef) (a' := ?_) (spec_LongestLine.bF 44 4194303) rfl rfl (any_of HT_.out (by kernel_rfl)) (fun _ _ _ h => h) (Or.inr ⟨by rfl, rfl⟩) ?_ ?_
            rotate_left
            ·
             exact sP
            refine pure_ (i := 22) (N := some 82) (v := undef) (a' := ?_) (spec_LongestLine.bF 44 8388607) rfl rfl (any_of HT_.out (by kernel_rfl)) (fun _ _ _ h => h) (Or.inr ⟨by rfl, rfl⟩) ?_ ?_
            rotate_left
            ·
             exact sP
            refine pure_ (i := 23) (N := some 83) (v := undef) (a' := ?_) (spec_LongestLine.bF 44 16777215) rfl rfl (any_of HT_.out (by kernel_rfl)) (fun _ _ _ h => h) (Or.inr ⟨by rfl, rfl⟩) ?_ ?_
            rotate_left
            ·
             exact sP
            refine pure_ (i := 24) (N := some 84) (v := undef) (a' := ?_) (spec_LongestLine.bF 44 33554431) rfl rfl (any_of HT_.out (by kernel_rfl)) (fun _ _ _ h => h) (Or.inr ⟨by rfl, rfl⟩) ?_ ?_
            rotate_left
            ·
             exact sP
            refine pure_ (i := 25) (N := some 85) (v := undef) (a' := ?_) (spec_LongestLine.bF 44 67108863) rfl rfl (any_of HT_.out (by kernel_rfl)) (fun _ _ _ h => h) (Or.inr ⟨by rfl, rfl⟩) ?_ ?_
            rotate_left
            ·
             exact sP
            refine pure_ (i := 26) (N := some 86) (v := undef) (a' := ?_) (spec_LongestLine.bF 44 134217727) rfl rfl (any_of HT_.out (by kernel_rfl)) (fun _ _ _ h => h) (Or.inr ⟨by rfl, rfl⟩) ?_ ?_
            rotate_left
            ·
             exact sP
            refine pure_ (i := 27) (N := some 87) (v := undef) (a' := ?_) (spec_LongestLine.bF 44 268435455) rfl rfl (any_of HT_.out (by kernel_rfl)) (fun _ _ _ h => h) (Or.inr ⟨by rfl, rfl⟩) ?_ ?_
            rotate_left
            ·
             exact sP
            refine pure_ (i := 28) (N := some 88) (v := undef) (a' := ?_) (spec_LongestLine.bF 44 536870911) rfl rfl (any_of HT_.out (by kernel_rfl)) (fun _ _ _ h => h) (Or.inr ⟨by rfl, rfl⟩) ?_ ?_
            rotate_left
            ·
             exact sP
            refine pure_ (i := 29) (N := some 89) (v := undef) (a' := ?_) (spec_LongestLine.bF 44 1073741823) rfl rfl (any_of HT_.out (by kernel_rfl)) (fun _ _ _ h => h) (Or.inr ⟨by rfl, rfl⟩) ?_ ?_
            rotate_left
            ·
             exact sP
            refine pure_ (i := 30) (N := some 90) (v := undef) (a' := ?_) (spec_LongestLine.bF 44 2147483647) rfl rfl (any_of HT_.out (by kernel_rfl)) (fun _ _ _ h => h) (Or.inr ⟨by rfl, rfl⟩) ?_ ?_
            rotate_left
            ·
             exact sP
            refine pure_ (i := 31) (N := some 91) (v := undef) (a' := ?_) (spec_LongestLine.bF 44 4294967295) rfl rfl (any_of HT_.out (by kernel_rfl)) (fun _ _ _ h => h) (Or.inr ⟨by rfl, rfl⟩) ?_ ?_
            rotate_left
            ·
             exact sP
            refine pure_ (i := 32) (N := some 92) (v := undef) (a' := ?_) (spec_LongestLine.bF 44 8589934591) rfl rfl (any_of HT_.out (by kernel_rfl)) (fun _ _ _ h => h) (Or.inr ⟨by rfl, rfl⟩) ?_ ?_
            rotate_left
            ·
             exact sP
            refine pure_ (i := 33) (N := some 93) (v := undef) (a' := ?_) (spec_LongestLine.bF 44 17179869183) rfl rfl (any_of HT_.out (by kernel_rfl)) (fun _ _ _ h => h) (Or.inr ⟨by rfl, rfl⟩) ?_ ?_
            rotate_left
            ·
             exact sP
            refine pure_ (i := 34) (N := some 94) (v := undef) (a' := ?_) (spec_LongestLine.bF 44 34359738367) rfl rfl (any_of HT_.out (by kernel_rfl)) (fun _ _ _ h => h) (Or.inr ⟨by rfl, rfl⟩) ?_ ?_
            rotate_left
            ·
             exact sP
            refine pure_ (i := 35) (N := some 95) (v := undef) (a' := ?_) (spec_LongestLine.bF 44 68719476735) rfl rfl (any_of HT_.out (by kernel_rfl)) (fun _ _ _ h => h) (Or.inr ⟨by rfl, rfl⟩) ?_ ?_
            rotate_left
            ·
             exact sP
            refine pure_ (i := 36) (N := some 96) (v := undef) (a' := ?_) (spec_LongestLine.bF 44 137438953471) rfl rfl (any_of HT_.out (by kernel_rfl)) (fun _ _ _ h => h) (Or.inr ⟨by rfl, rfl⟩) ?_ ?_
            rotate_left
            ·
             exact sP
            refine pure_ (i := 37) (N := some 97) (v := undef) (a' := ?_) (spec_LongestLine.bF 44 274877906943) rfl rfl (any_of HT_.out (by kernel_rfl)) (fun _ _ _ h => h) (Or.inr ⟨by rfl, rfl⟩) ?_ ?_
            rotate_left
            ·
             exact sP
            refine pure_ (i := 38) (N := some 98) (v := undef) (a' := ?_) (spec_LongestLine.bF 44 549755813887) rfl rfl (any_of HT_.out (by kernel_rfl)) (fun _ _ _ h => h) (Or.inr ⟨by rfl, rfl⟩) ?_ ?_
            rotate_left
            ·
             exact sP
            refine pure_ (i := 39) (N := some 99) (v := undef) (a' := ?_) (spec_LongestLine.bF 44 1099511627775) rfl rfl (any_of HT_.out (by kernel_rfl)) (fun _ _ _ h => h) (Or.inr ⟨by rfl, rfl⟩) ?_ ?_
            rotate_left
            ·
             exact sP
            refine pure_ (i := 40) (N := some 100) (v := undef) (a' := ?_) (spec_LongestLine.bF 44 2199023255551) rfl rfl (any_of HT_.out (by kernel_rfl)) (fun _ _ _ h => h) (Or.inr ⟨by rfl, rfl⟩) ?_ ?_
            rotate_left
            ·
             exact sP
            refine pure_ (i := 41) (N := some 101) (v := undef) (a' := ?_) (spec_LongestLine.bF 44 4398046511103) rfl rfl (any_of HT_.out (by kernel_rfl)) (fun _ _ _ h => h) (Or.inr ⟨by rfl, rfl⟩) ?_ ?_
            rotate_left
            ·
             exact sP
            refine pure_ (i := 42) (N := some 102) (v := undef) (a' := ?_) (spec_LongestLine.bF 44 8796093022207) rfl rfl (any_of HT_.out (by kernel_rfl)) (fun _ _ _ h => h) (Or.inr ⟨by rfl, rfl⟩) ?_ ?_
            rotate_left
            ·
             exact sP
            refine pure_ (i := 43) (N := some 103) (v := ?_) (a' := ?_) (spec_LongestLine.bF 44 17592186044415) rfl rfl (any_of HT_.out (by kernel_rfl)) (fun _ _ _ h => h) (Or.inl ⟨by rfl, ?_⟩) ?_ ?_
            rotate_left
            ·
             intro w'
             go_simp
             with_reducible rfl
            rotate_left
            ·
             exact sP
            refine done_ (done_of HT_.out (by kernel_rfl)) ?_
            try go_wp2
            go_meet
            case rel => exact ⟨_, (false), (by first | rfl | (simp; done) | (simp [*]; done) | (simp only [i64_w]; done) | (simp [i64_w]; done)), H', ⟨by have := HK1.out; have := HJ15.out; have := HK3.out; have := HK4.out; first | omega | exact Nat.le_refl _⟩, ⟨by (with_reducible repeat (first | apply Kd.R_alloc | apply Kd.R_drewN | apply Kd.R_drew)); exact HO_9.out⟩, ⟨by (with_reducible repeat (first | refine blk_drewN ?_ _ | refine blk_drew ?_ | refine blk_alloc ?_ _)); exact BK141.out⟩, ⟨by repeat (first | (with_reducible first | exact HB.out | apply below_alloc | apply pw_below_drewN | apply below_drew1 | refine below_set ?_ GE141.out) | exact HB.out)⟩⟩
           rw [if_pos c28] at H
           have c28b0 : decide (0 < x11_4) = true := decide_eq_true c28
           clear c28
           (first | rw [c28b0] | (simp only [i64_w, i32_w]; rw [c28b0]) | (rw [c28b2]; simp only [Bool.not_false, Bool.not_true]) | skip)
           obtain ⟨ji29, hji29⟩ : ∃ j_ : Int, (wrap64 (x11_4 - 1)) = j_ := ⟨_, rfl⟩
           replace H : (if 0 ≤ (ji29) then (if (ji29) < (x9_3.length : Int) then (if 0 ≤ x10_3 then (if x10_3 < (l1.length : Int) then (if ((rd_T45 x9_3 (ji29)).f0) < ((rd_T45 l1 x10_3).f0) then (spec_LongestLine.j4 k4 l0 l1 a2 x9_3 x10_3 x11_4 true) else (if ((rd_T45 x9_3 (ji29)).f0) = ((rd_T45 l1 x10_3).f0) then (spec_LongestLine.j4 k4 l0 l1 a2 x9_3 x10_3 x11_4 (decide (((rd_T45 x9_3 (ji29)).f1) < ((rd_T45 l1 x10_3).f1)))) else (spec_LongestLine.j4 k4 l0 l1 a2 x9_3 x10_3 x11_4 false))) else (none)) else (none)) else (none)) else (none)) = some (r1, r2, r3) := by first | (rw [hji29] at H; exact H) | (simp only [hji29] at H ⊢; exact H)
           have hji29w : (IntKind.i64.wrap (x11_4 - 1)) = ji29 := (i64_w _).trans hji29
           by_cases c30 : 0 ≤ (ji29)
           rotate_left
           ·
            rw [if_neg c30] at H
            exact absurd H (by simp)
           rw [if_pos c30] at H
           have c30b0 : decide (0 ≤ (ji29)) = true := decide_eq_true c30
           clear c30
           by_cases c31 : (ji29) < (x9_3.length : Int)
           rotate_left
           ·
            rw [if_neg c31] at H
            exact absurd H (by simp)
           rw [if_pos c31] at H
           have c31b0 : decide ((ji29) < (x9_3.length : Int)) = true := decide_eq_true c31
           clear c31
           by_cases c32 : 0 ≤ x10_3
           rotate_left
           ·
            rw [if_neg c32] at H
            exact absurd H (by simp)
           rw [if_pos c32] at H
           have c32b0 : decide (0 ≤ x10_3) = true := decide_eq_true c32
           clear c32
           by_cases c33 : x10_3 < (l1.length : Int)
           rotate_left
           ·
            rw [if_neg c33] at H
            exact absurd H (by simp)
           rw [if_pos c33] at H
           have c33b0 : decide (x10_3 < (l1.length : Int)) = true := decide_eq_true c33
           clear c33
           by_cases c34 : ((rd_T45 x9_3 (ji29)).f0) < ((rd_T45 l1 x10_3).f0)
           ·
            rw [if_pos c34] at H
            have c34b0 : decide (((rd_T45 x9_3 (ji29)).f0) < ((rd_T45 l1 x10_3).f0)) = true := decide_eq_true c34
            clear c34
            have H' := aS H
            clear H
            try go_wp2
            have n0_ := aS (Kd.R_drew HO_9.out)
            have n1_ := aS (blk_drew BK141.out)
            have n2_ := aS (below_drew1 HB.out)
            clear HO_9 BK141 HB
            have HO_9 := n0_; have BK141 := n1_; have HB := n2_
            clear n0_ n1_ n2_
            have p150 : 0 ≤ ((ji29) : Int) := of_decide_eq_true (by first | (with_reducible assumption) | assumption)
            have q150 : (ji29) < (x9_3.length : Int) := of_decide_eq_true (by first | (with_reducible assumption) | assumption)
            obtain ⟨ad150, e150, hx150_0, hx150_1⟩ := at_T45 (Kd.R_reads' HO_9.out).2.2 (ji29) p150 q150
            cases e150
            replace p150 := eq_true p150
            replace q150 := eq_true q150
            have p151 : 0 ≤ (x10_3 : Int) := of_decide_eq_true (by first | (with_reducible assumption) | assumption)
            have q151 : x10_3 < (l1.length : Int) := of_decide_eq_true (by first | (with_reducible assumption) | assumption)
            obtain ⟨ad151, e151, hx151_0, hx151_1⟩ := at_T45 HR1.out x10_3 p151 q151
            have hw151_1 := hx151_1
            have hw151_0 := hx151_0
            obtain rfl : ad149 = ad151 := (by injection e151)
            replace hx151_0 := (HB.out.cell (World.block_lt_of_cell? w _ hx151_0)).trans hx151_0
            replace hx151_1 := (HB.out.cell (World.block_lt_of_cell? w _ hx151_1)).trans hx151_1
            replace p151 := eq_true p151
            replace q151 := eq_true q151
            refine start_ (n := 44) (S := fun w' => w'.cell? (ad150.add (((ji29)).toNat * 2)) = some (.int .i64 ((rd_T45 x9_3 (ji29)).f0)) ∧ w'.cell? ⟨(ad150.add (((ji29)).toNat * 2)).block, (ad150.add (((ji29)).toNat * 2)).off + 1, none⟩ = some (.int .i64 ((rd_T45 x9_3 (ji29)).f1)) ∧ w'.cell? (ad149.add ((x10_3).toNat * 2)) = some (.int .i64 ((rd_T45 l1 x10_3).f0)) ∧ w'.cell? ⟨(ad149.add ((x10_3).toNat * 2)).block, (ad149.add ((x10_3).toNat * 2)).off + 1, none⟩ = some (.int .i64 ((rd_T45 l1 x10_3).f1))) (ds := []) #[false, false, false, false, false, false, false, false, false, false, false, false, false, false, false, false, false, false, false, false, false, false, false, false, false, false, false, false, false, false, false, false, false, false, false, false, false, false, false, false, false, false, false, false] (by kernel_rfl) rfl rfl ⟨hx150_0, hx150_1, ((HB.out.cell (World.block_lt_of_cell? w _ hw151_0)).trans hw151_0), ((HB.out.cell (World.block_lt_of_cell? w _ hw151_1)).trans hw151_1)⟩ (fun hHeld => ?_); refine with_tabW spec_LongestLine.tab16 spec_LongestLine.bits16 (fun HT_ HW_ => ?_)
            generalize wr.drew = w35 at HO_9 BK141 HB hx150_0 hx150_1 hx151_0 hx151_1 hHeld ⊢
            refine pure_ (i := 0) (N := some 60) (v := ?_) (a' := ?_) (spec_LongestLine.bF 44 1) rfl rfl (any_of HT_.out (by kernel_rfl)) (fun _ _ _ h => h) (Or.inl ⟨by rfl, ?_⟩) ?_ ?_
            rotate_left
            ·
             intro w'
             go_simp
             with_reducible rfl
            rotate_left
            ·
             exact sP
            refine pure_ (i := 1) (N := some 61) (v := ?_) (a' := ?_) (spec_LongestLine.bF 44 3) rfl rfl (any_of HT_.out (by kernel_rfl)) (fun _ _ _ h => h) (Or.inl ⟨by rfl, ?_⟩) ?_ ?_
            rotate_left
            ·
             intro w'
             go_simp
             with_reducible rfl
            rotate_left
            ·
             exact sP
            refine pure_ (i := 2) (N := some 62) (v := ?_) (a' := ?_) (spec_LongestLine.bF 44 7) rfl rfl (any_of HT_.out (by kernel_rfl)) (fun _ _ _ h => h) (Or.inl ⟨by rfl, ?_⟩) ?_ ?_
            rotate_left
            ·
             intro w'
             go_simp
             with_reducible rfl
            rotate_left
            ·
             exact sP
            refine pure_ (i := 3) (N := some 63) (v := ?_) (a' := ?_) (spec_LongestLine.bF 44 15) rfl rfl (any_of HT_.out (by kernel_rfl)) (fun _ _ _ h => h) (Or.inl ⟨by rfl, ?_⟩) ?_ ?_
            rotate_left
            ·
             intro w'
             go_simp
             with_reducible rfl
            rotate_left
            ·
             exact sP
            refine pure_ (i := 4) (N := some 64) (v := ?_) (a' := ?_) (spec_LongestLine.bF 44 31) rfl rfl (any_of HT_.out (by kernel_rfl)) (fun _ _ _ h => h) (Or.inl ⟨by rfl, ?_⟩) ?_ ?_
            rotate_left
            ·
             intro w'
             go_simp
             with_reducible rfl
            rotate_left
            ·
             exact sP
            refine pure_ (i := 5) (N := some 65) (v := ?_) (a' := ?_) (spec_LongestLine.bF 44 63) rfl rfl (any_of HT_.out (by kernel_rfl)) (fun _ _ _ h => h) (Or.inl ⟨by rfl, ?_⟩) ?_ ?_
            rotate_left
            ·
             intro w'
             go_simp
             with_reducible rfl
            rotate_left
            ·
             exact sP
            refine pure_ (i := 6) (N := some 66) (v := ?_) (a' := ?_) (spec_LongestLine.bF 44 127) rfl rfl (any_of HT_.out (by kernel_rfl)) (fun _ _ _ h => h) (Or.inl ⟨by rfl, ?_⟩) ?_ ?_
            rotate_left
            ·
             intro w'
             go_simp
             with_reducible rfl
            rotate_left
            ·
             exact sP
            refine pure_ (i := 7) (N := some 67) (v := ?_) (a' := ?_) (spec_LongestLine.bF 44 255) rfl rfl (any_of HT_.out (by kernel_rfl)) (fun _ _ _ h => h) (Or.inl ⟨by rfl, ?_⟩) ?_ ?_
            rotate_left
            ·
             intro w'
             go_simp
             with_reducible rfl
            rotate_left
            ·
             exact sP
            refine pure_ (i := 9) (N := some 69) (v := ?_) (a' := ?_) (spec_LongestLine.bF 44 767) rfl rfl (any_of HT_.out (by kernel_rfl)) (fun _ _ _ h => h) (Or.inl ⟨by rfl, ?_⟩) ?_ ?_
            rotate_left
            ·
             intro w'
             go_simp
             with_reducible rfl
            rotate_left
            ·
             exact sP
            refine pure_ (i := 10) (N := some 70) (v := ?_) (a' := ?_) (spec_LongestLine.bF 44 1791) rfl rfl (any_of HT_.out (by kernel_rfl)) (fun _ _ _ h => h) (Or.inl ⟨by rfl, ?_⟩) ?_ ?_
            rotate_left
            ·
             intro w'
             go_simp
             with_reducible rfl
            rotate_left
            ·
             exact sP
            refine pure_ (i := 11) (N := some 71) (v := ?_) (a' := ?_) (spec_LongestLine.bF 44 3839) rfl rfl (any_of HT_.out (by kernel_rfl)) (fun _ _ _ h => h) (Or.inl ⟨by rfl, ?_⟩) ?_ ?_
            rotate_left
            ·
             intro w'
             go_simp
             with_reducible rfl
            rotate_left
            ·
             exact sP
            refine pure_ (i := 12) (N := some 72) (v := ?_) (a' := ?_) (spec_LongestLine.bF 44 7935) rfl rfl (any_of HT_.out (by kernel_rfl)) (fun _ _ _ h => h) (Or.inl ⟨by rfl, ?_⟩) ?_ ?_
            rotate_left
            ·
             intro w'
             go_simp
             with_reducible rfl
            rotate_left
            ·
             exact sP
            refine take_ (i := 8) (N := some 68) (v := ?_) (a' := ?_) (spec_LongestLine.bF 44 8191) rfl rfl (take_ofW HT_.out HW_.out (by kernel_rfl)) (fun _ _ _ h => h) (Or.inl ⟨by rfl, ?_⟩) hHeld ?_ ?_
            rotate_left
            ·
             rintro w' ⟨s0, s1, s2, s3⟩
             go_simp
             with_reducible rfl
            rotate_left
            ·
             exact sP
            refine take_ (i := 13) (N := some 73) (v := ?_) (a' := ?_) (spec_LongestLine.bF 44 16383) rfl rfl (take_ofW HT_.out HW_.out (by kernel_rfl)) (fun _ _ _ h => h) (Or.inl ⟨by rfl, ?_⟩) hHeld ?_ ?_
            rotate_left
            ·
             rintro w' ⟨s0, s1, s2, s3⟩
             go_simp
             with_reducible rfl
            rotate_left
            ·
             exact sP
            refine pure_ (i := 14) (N := some 74) (v := ?_) (a' := ?_) (spec_LongestLine.bF 44 32767) rfl rfl (any_of HT_.out (by kernel_rfl)) (fun _ _ _ h => h) (Or.inl ⟨by rfl, ?_⟩) ?_ ?_
            rotate_left
            ·
             intro w'
             go_simp
             with_reducible rfl
            rotate_left
            ·
             exact sP
            refine pure_ (i := 15) (N := some 75) (v := ?_) (a' := ?_) (spec_LongestLine.bF 44 65535) rfl rfl (any_of HT_.out (by kernel_rfl)) (fun _ _ _ h => h) (Or.inl ⟨by rfl, ?_⟩) ?_ ?_
            rotate_left
            ·
             intro w'
             go_simp
             with_reducible rfl
            rotate_left
            ·
             exact sP
            refine pure_ (i := 16) (N := some 76) (v := undef) (a' := ?_) (spec_LongestLine.bF 44 131071) rfl rfl (any_of HT_.out (by kernel_rfl)) (fun _ _ _ h => h) (Or.inr ⟨by rfl, rfl⟩) ?_ ?_
            rotate_left
            ·
             exact sP
            refine pure_ (i := 17) (N := some 77) (v := undef) (a' := ?_) (spec_LongestLine.bF 44 262143) rfl rfl (any_of HT_.out (by kernel_rfl)) (fun _ _ _ h => h) (Or.inr ⟨by rfl, rfl⟩) ?_ ?_
            rotate_left
            ·
             exact sP
            refine pure_ (i := 18) (N := some 78) (v := undef) (a' := ?_) (spec_LongestLine.bF 44 524287) rfl rfl (any_of HT_.out (by kernel_rfl)) (fun _ _ _ h => h) (Or.inr ⟨by rfl, rfl⟩) ?_ ?_
            rotate_left
            ·
             exact sP
            refine pure_ (i := 19) (N := some 79) (v := undef) (a' := ?_) (spec_LongestLine.bF 44 1048575) rfl rfl (any_of HT_.out (by kernel_rfl)) (fun _ _ _ h => h) (Or.inr ⟨by rfl, rfl⟩) ?_ ?_
            rotate_left
            ·
             exact sP
            refine pure_ (i := 20) (N := some 80) (v := undef) (a' := ?_) (spec_LongestLine.bF 44 2097151) rfl rfl (any_of HT_.out (by kernel_rfl)) (fun _ _ _ h => h) (Or.inr ⟨by rfl, rfl⟩) ?_ ?_
            rotate_left
            ·
             exact sP
            refine pure_ (i := 21) (N := some 81) (v := undef) (a' := ?_) (spec_LongestLine.bF 44 4194303) rfl rfl (any_of HT_.out (by kernel_rfl)) (fun _ _ _ h => h) (Or.inr ⟨by rfl, rfl⟩) ?_ ?_
            rotate_left
            ·
             exact sP
            refine pure_ (i := 22) (N := some 82) (v := undef) (a' := ?_) (spec_LongestLine.bF 44 8388607) rfl rfl (any_of HT_.out (by kernel_rfl)) (fun _ _ _ h => h) (Or.inr ⟨by rfl, rfl⟩) ?_ ?_
            rotate_left
            ·
             exact sP
            refine pure_ (i := 23) (N := some 83) (v := undef) (a' := ?_) (spec_LongestLine.bF 44 16777215) rfl rfl (any_of HT_.out (by kernel_rfl)) (fun _ _ _ h => h) (Or.inr ⟨by rfl, rfl⟩) ?_ ?_
            rotate_left
            ·
             exact sP
            refine pure_ (i := 24) (N := some 84) (v := undef) (a' := ?_) (spec_LongestLine.bF 44 33554431) rfl rfl (any_of HT_.out (by kernel_rfl)) (fun _ _ _ h => h) (Or.inr ⟨by rfl, rfl⟩) ?_ ?_
            rotate_left
            ·
             exact sP
            refine pure_ (i := 25) (N := some 85) (v := undef) (a' := ?_) (spec_LongestLine.bF 44 67108863) rfl rfl (any_of HT_.out (by kernel_rfl)) (fun _ _ _ h => h) (Or.inr ⟨by rfl, rfl⟩) ?_ ?_
            rotate_left
            ·
             exact sP
            refine pure_ (i := 26) (N := some 86) (v := undef) (a' := ?_) (spec_LongestLine.bF 44 134217727) rfl rfl (any_of HT_.out (by kernel_rfl)) (fun _ _ _ h => h) (Or.inr ⟨by rfl, rfl⟩) ?_ ?_
            rotate_left
            ·
             exact sP
            refine pure_ (i := 27) (N := some 87) (v := undef) (a' := ?_) (spec_LongestLine.bF 44 268435455) rfl rfl (any_of HT_.out (by kernel_rfl)) (fun _ _ _ h => h) (Or.inr ⟨by rfl, rfl⟩) ?_ ?_
            rotate_left
            ·
             exact sP
            refine pure_ (i := 28) (N := some 88) (v := undef) (a' := ?_) (spec_LongestLine.bF 44 536870911) rfl rfl (any_of HT_.out (by kernel_rfl)) (fun _ _ _ h => h) (Or.inr ⟨by rfl, rfl⟩) ?_ ?_
            rotate_left
            ·
             exact sP
            refine pure_ (i := 29) (N := some 89) (v := undef) (a' := ?_) (spec_LongestLine.bF 44 1073741823) rfl rfl (any_of HT_.out (by kernel_rfl)) (fun _ _ _ h => h) (Or.inr ⟨by rfl, rfl⟩) ?_ ?_
            rotate_left
            ·
             exact sP
            refine pure_ (i := 30) (N := some 90) (v := undef) (a' := ?_) (spec_LongestLine.bF 44 2147483647) rfl rfl (any_of HT_.out (by kernel_rfl)) (fun _ _ _ h => h) (Or.inr ⟨by rfl, rfl⟩) ?_ ?_
            rotate_left
            ·
             exact sP
            refine pure_ (i := 31) (N := some 91) (v := undef) (a' := ?_) (spec_LongestLine.bF 44 4294967295) rfl rfl (any_of HT_.out (by kernel_rfl)) (fun _ _ _ h => h) (Or.inr ⟨by rfl, rfl⟩) ?_ ?_
            rotate_left
            ·
             exact sP
            refine pure_ (i := 32) (N := some 92) (v := undef) (a' := ?_) (spec_LongestLine.bF 44 8589934591) rfl rfl (any_of HT_.out (by kernel_rfl)) (fun _ _ _ h => h) (Or.inr ⟨by rfl, rfl⟩) ?_ ?_
            rotate_left
            ·
             exact sP
            refine pure_ (i := 33) (N := some 93) (v := undef) (a' := ?_) (spec_LongestLine.bF 44 17179869183) rfl rfl (any_of HT_.out (by kernel_rfl)) (fun _ _ _ h => h) (Or.inr ⟨by rfl, rfl⟩) ?_ ?_
            rotate_left
            ·
             exact sP
            refine pure_ (i := 34) (N := some 94) (v := undef) (a' := ?_) (spec_LongestLine.bF 44 34359738367) rfl rfl (any_of HT_.out (by kernel_rfl)) (fun _ _ _ h => h) (Or.inr ⟨by rfl, rfl⟩) ?_ ?_
            rotate_left
            ·
             exact sP
            refine pure_ (i := 35) (N := some 95) (v := undef) (a' := ?_) (spec_LongestLine.bF 44 68719476735) rfl rfl (any_of HT_.out (by kernel_rfl)) (fun _ _ _ h => h) (Or.inr ⟨by rfl, rfl⟩) ?_ ?_
            rotate_left
            ·
             exact sP
            refine pure_ (i := 36) (N := some 96) (v := undef) (a' := ?_) (spec_LongestLine.bF 44 137438953471) rfl rfl (any_of HT_.out (by kernel_rfl)) (fun _ _ _ h => h) (Or.inr ⟨by rfl, rfl⟩) ?_ ?_
            rotate_left
            ·
             exact sP
            refine pure_ (i := 37) (N := some 97) (v := undef) (a' := ?_) (spec_LongestLine.bF 44 274877906943) rfl rfl (any_of HT_.out (by kernel_rfl)) (fun _ _ _ h => h) (Or.inr ⟨by rfl, rfl⟩) ?_ ?_
            rotate_left
            ·
             exact sP
            refine pure_ (i := 38) (N := some 98) (v := undef) (a' := ?_) (spec_LongestLine.bF 44 549755813887) rfl rfl (any_of HT_.out (by kernel_rfl)) (fun _ _ _ h => h) (Or.inr ⟨by rfl, rfl⟩) ?_ ?_
            rotate_left
            ·
             exact sP
            refine pure_ (i := 39) (N := some 99) (v := undef) (a' := ?_) (spec_LongestLine.bF 44 1099511627775) rfl rfl (any_of HT_.out (by kernel_rfl)) (fun _ _ _ h => h) (Or.inr ⟨by rfl, rfl⟩) ?_ ?_
            rotate_left
            ·
             exact sP
            refine pure_ (i := 40) (N := some 100) (v := undef) (a' := ?_) (spec_LongestLine.bF 44 2199023255551) rfl rfl (any_of HT_.out (by kernel_rfl)) (fun _ _ _ h => h) (Or.inr ⟨by rfl, rfl⟩) ?_ ?_
            rotate_left
            ·
             exact sP
            refine pure_ (i := 41) (N := some 101) (v := undef) (a' := ?_) (spec_LongestLine.bF 44 4398046511103) rfl rfl (any_of HT_.out (by kernel_rfl)) (fun _ _ _ h => h) (Or.inr ⟨by rfl, rfl⟩) ?_ ?_
            rotate_left
            ·
             exact sP
            refine pure_ (i := 42) (N := some 102) (v := ?_) (a' := ?_) (spec_LongestLine.bF 44 8796093022207) rfl rfl (any_of HT_.out (by kernel_rfl)) (fun _ _ _ h => h) (Or.inl ⟨by rfl, ?_⟩) ?_ ?_
            rotate_left
            ·
             intro w'
             go_simp
             with_reducible rfl
            rotate_left
            ·
             exact sP
            refine pure_ (i := 43) (N := some 103) (v := ?_) (a' := ?_) (spec_LongestLine.bF 44 17592186044415) rfl rfl (any_of HT_.out (by kernel_rfl)) (fun _ _ _ h => h) (Or.inl ⟨by rfl, ?_⟩) ?_ ?_
            rotate_left
            ·
             intro w'
             go_simp
             with_reducible rfl
            rotate_left
            ·
             exact sP
            refine done_ (done_of HT_.out (by kernel_rfl)) ?_
            try go_wp2
            go_meet
            case rel => exact ⟨_, (true), (by first | rfl | (simp; done) | (simp [*]; done) | (simp only [i64_w]; done) | (simp [i64_w]; done)), H', ⟨by have := HK1.out; have := HJ15.out; have := HK3.out; have := HK4.out; first | omega | exact Nat.le_refl _⟩, ⟨by (with_reducible repeat (first | apply Kd.R_alloc | apply Kd.R_drewN | apply Kd.R_drew)); exact HO_9.out⟩, ⟨by (with_reducible repeat (first | refine blk_drewN ?_ _ | refine blk_drew ?_ | refine blk_alloc ?_ _)); exact BK141.out⟩, ⟨by repeat (first | (with_reducible first | exact HB.out | apply below_alloc | apply pw_below_drewN | apply below_drew1 | refine below_set ?_ GE141.out) | exact HB.out)⟩⟩
           rw [if_neg c34] at H
           have c34b0 : decide (((rd_T45 x9_3 (ji29)).f0) < ((rd_T45 l1 x10_3).f0)) = false := decide_eq_false c34
           clear c34
           by_cases c36 : ((rd_T45 x9_3 (ji29)).f0) = ((rd_T45 l1 x10_3).f0)
           rotate_left
           ·
            rw [if_neg c36] at H
            have c36b0 : (((rd_T45 x9_3 (ji29)).f0) == ((rd_T45 l1 x10_3).f0)) = false := beq_eq_false_iff_ne.mpr c36
            have c36b1 : (((rd_T45 x9_3 (ji29)).f0) != ((rd_T45 l1 x10_3).f0)) = true := bne_iff_ne.mpr c36
            have H' := aS H
            clear H
            try go_wp2
            have n0_ := aS (Kd.R_drew HO_9.out)
            have n1_ := aS (blk_drew BK141.out)
            have n2_ := aS (below_drew1 HB.out)
            clear HO_9 BK141 HB
            have HO_9 := n0_; have BK141 := n1_; have HB := n2_
            clear n0_ n1_ n2_
            have p150 : 0 ≤ ((ji29) : Int) := of_decide_eq_true (by first | (with_reducible assumption) | assumption)
            have q150 : (ji29) < (x9_3.length : Int) := of_decide_eq_true (by first | (with_reducible assumption) | assumption)
            obtain ⟨ad150, e150, hx150_0, hx150_1⟩ := at_T45 (Kd.R_reads' HO_9.out).2.2 (ji29) p150 q150
            cases e150
            replace p150 := eq_true p150
            replace q150 := eq_true q150
            have p151 : 0 ≤ (x10_3 : Int) := of_decide_eq_true (by first | (with_reducible assumption) | assumption)
            have q151 : x10_3 < (l1.length : Int) := of_decide_eq_true (by first | (with_reducible assumption) | assumption)
            obtain ⟨ad151, e151, hx151_0, hx151_1⟩ := at_T45 HR1.out x10_3 p151 q151
            have hw151_1 := hx151_1
            have hw151_0 := hx151_0
            obtain rfl : ad149 = ad151 := (by injection e151)
            replace hx151_0 := (HB.out.cell (World.block_lt_of_cell? w _ hx151_0)).trans hx151_0
            replace hx151_1 := (HB.out.cell (World.block_lt_of_cell? w _ hx151_1)).trans hx151_1
            replace p151 := eq_true p151
            replace q151 := eq_true q151
            have p152 : 0 ≤ ((ji29) : Int) := of_decide_eq_true (by first | (with_reducible assumption) | assumption)
            have q152 : (ji29) < (x9_3.length : Int) := of_decide_eq_true (by first | (with_reducible assumption) | assumption)
            obtain ⟨ad152, e152, hx152_0, hx152_1⟩ := at_T45 (Kd.R_reads' HO_9.out).2.2 (ji29) p152 q152
            obtain rfl : ad150 = ad152 := (by injection e152)
            replace p152 := eq_true p152
            replace q152 := eq_true q152
            have p153 : 0 ≤ (x10_3 : Int) := of_decide_eq_true (by first | (with_reducible assumption) | assumption)
            have q153 : x10_3 < (l1.length : Int) := of_decide_eq_true (by first | (with_reducible assumption) | assumption)
            obtain ⟨ad153, e153, hx153_0, hx153_1⟩ := at_T45 HR1.out x10_3 p153 q153
            have hw153_1 := hx153_1
            have hw153_0 := hx153_0
            obtain rfl : ad149 = ad153 := (by injection e153)
            replace hx153_0 := (HB.out.cell (World.block_lt_of_cell? w _ hx153_0)).trans hx153_0
            replace hx153_1 := (HB.out.cell (World.block_lt_of_cell? w _ hx153_1)).trans hx153_1
            replace p153 := eq_true p153
            replace q153 := eq_true q153
            refine start_ (n := 44) (S := fun w' => w'.cell? (ad150.add (((ji29)).toNat * 2)) = some (.int .i64 ((rd_T45 x9_3 (ji29)).f0)) ∧ w'.cell? ⟨(ad150.add (((ji29)).toNat * 2)).block, (ad150.add (((ji29)).toNat * 2)).off + 1, none⟩ = some (.int .i64 ((rd_T45 x9_3 (ji29)).f1)) ∧ w'.cell? (ad149.add ((x10_3).toNat * 2)) = some (.int .i64 ((rd_T45 l1 x10_3).f0)) ∧ w'.cell? ⟨(ad149.add ((x10_3).toNat * 2)).block, (ad149.add ((x10_3).toNat * 2)).off + 1, none⟩ = some (.int .i64 ((rd_T45 l1 x10_3).f1)) ∧ w'.cell? (ad150.add (((ji29)).toNat * 2)) = some (.int .i64 ((rd_T45 x9_3 (ji29)).f0)) ∧ w'.cell? ⟨(ad150.add (((ji29)).toNat * 2)).block, (ad150.add (((ji29)).toNat * 2)).off + 1, none⟩ = some (.int .i64 ((rd_T45 x9_3 (ji29)).f1)) ∧ w'.cell? (ad149.add ((x10_3).toNat * 2)) = some (.int .i64 ((rd_T45 l1 x10_3).f0)) ∧ w'.cell? ⟨(ad149.add ((x10_3).toNat * 2)).block, (ad149.add ((x10_3).toNat * 2)).off + 1, none⟩ = some (.int .i64 ((rd_T45 l1 x10_3).f1))) (ds := []) #[false, false, false, false, false, false, false, false, false, false, false, false, false, false, false, false, false, false, false, false, false, false, false, false, false, false, false, false, false, false, false, false, false, false, false, false, false, false, false, false, false, false, false, false] (by kernel_rfl) rfl rfl ⟨hx150_0, hx150_1, ((HB.out.cell (World.block_lt_of_cell? w _ hw151_0)).trans hw151_0), ((HB.out.cell (World.block_lt_of_cell? w _ hw151_1)).trans hw151_1), hx152_0, hx152_1, ((HB.out.cell (World.block_lt_of_cell? w _ hw153_0)).trans hw153_0), ((HB.out.cell (World.block_lt_of_cell? w _ hw153_1)).trans hw153_1)⟩ (fun hHeld => ?_); refine with_tabW spec_LongestLine.tab16 spec_LongestLine.bits16 (fun HT_ HW_ => ?_)
            generalize wr.drew = w38 at HO_9 BK141 HB hx150_0 hx150_1 hx151_0 hx151_1 hx152_0 hx152_1 hx153_0 hx153_1 hHeld ⊢
            refine pure_ (i := 0) (N := some 60) (v := ?_) (a' := ?_) (spec_LongestLine.bF 44 1) rfl rfl (any_of HT_.out (by kernel_rfl)) (fun _ _ _ h => h) (Or.inl ⟨by rfl, ?_⟩) ?_ ?_
            rotate_left
            ·
             intro w'
             go_simp
             with_reducible rfl
            rotate_left
            ·
             exact sP
            refine pure_ (i := 1) (N := some 61) (v := ?_) (a' := ?_) (spec_LongestLine.bF 44 3) rfl rfl (any_of HT_.out (by kernel_rfl)) (fun _ _ _ h => h) (Or.inl ⟨by rfl, ?_⟩) ?_ ?_
            rotate_left
            ·
             intro w'
             go_simp
             with_reducible rfl
            rotate_left
            ·
             exact sP
            refine pure_ (i := 2) (N := some 62) (v := ?_) (a' := ?_) (spec_LongestLine.bF 44 7) rfl rfl (any_of HT_.out (by kernel_rfl)) (fun _ _ _ h => h) (Or.inl ⟨by rfl, ?_⟩) ?_ ?_
            rotate_left
            ·
             intro w'
             go_simp
             with_reducible rfl
            rotate_left
            ·
             exact sP
            refine pure_ (i := 3) (N := some 63) (v := ?_) (a' := ?_) (spec_LongestLine.bF 44 15) rfl rfl (any_of HT_.out (by kernel_rfl)) (fun _ _ _ h => h) (Or.inl ⟨by rfl, ?_⟩) ?_ ?_
            rotate_left
            ·
             intro w'
             go_simp
             with_reducible rfl
            rotate_left
            ·
             exact sP
            refine pure_ (i := 4) (N := some 64) (v := ?_) (a' := ?_) (spec_LongestLine.bF 44 31) rfl rfl (any_of HT_.out (by kernel_rfl)) (fun _ _ _ h => h) (Or.inl ⟨by rfl, ?_⟩) ?_ ?_
            rotate_left
            ·
             intro w'
             go_simp
             with_reducible rfl
            rotate_left
            ·
             exact sP
            refine pure_ (i := 5) (N := some 65) (v := ?_) (a' := ?_) (spec_LongestLine.bF 44 63) rfl rfl (any_of HT_.out (by kernel_rfl)) (fun _ _ _ h => h) (Or.inl ⟨by rfl, ?_⟩) ?_ ?_
            rotate_left
            ·
             intro w'
             go_simp
             with_reducible rfl
            rotate_left
            ·
             exact sP
            refine pure_ (i := 6) (N := some 66) (v := ?_) (a' := ?_) (spec_LongestLine.bF 44 127) rfl rfl (any_of HT_.out (by kernel_rfl)) (fun _ _ _ h => h) (Or.inl ⟨by rfl, ?_⟩) ?_ ?_
            rotate_left
            ·
             intro w'
             go_simp
             with_reducible rfl
            rotate_left
            ·
             exact sP
            refine pure_ (i := 7) (N := some 67) (v := ?_) (a' := ?_) (spec_LongestLine.bF 44 255) rfl rfl (any_of HT_.out (by kernel_rfl)) (fun _ _ _ h => h) (Or.inl ⟨by rfl, ?_⟩) ?_ ?_
            rotate_left
            ·
             intro w'
             go_simp
             with_reducible rfl
            rotate_left
            ·
             exact sP
            refine pure_ (i := 9) (N := some 69) (v := ?_) (a' := ?_) (spec_LongestLine.bF 44 767) rfl rfl (any_of HT_.out (by kernel_rfl)) (fun _ _ _ h => h) (Or.inl ⟨by rfl, ?_⟩) ?_ ?_
            rotate_left
            ·
             intro w'
             go_simp
             with_reducible rfl
            rotate_left
            ·
             exact sP
            refine pure_ (i := 10) (N := some 70) (v := ?_) (a' := ?_) (spec_LongestLine.bF 44 1791) rfl rfl (any_of HT_.out (by kernel_rfl)) (fun _ _ _ h => h) (Or.inl ⟨by rfl, ?_⟩) ?_ ?_
            rotate_left
            ·
             intro w'
             go_simp
             with_reducible rfl
            rotate_left
            ·
             exact sP
            refine pure_ (i := 11) (N := some 71) (v := ?_) (a' := ?_) (spec_LongestLine.bF 44 3839) rfl rfl (any_of HT_.out (by kernel_rfl)) (fun _ _ _ h => h) (Or.inl ⟨by rfl, ?_⟩) ?_ ?_
            rotate_left
            ·
             intro w'
             go_simp
             with_reducible rfl
            rotate_left
            ·
             exact sP
            refine pure_ (i := 12) (N := some 72) (v := ?_) (a' := ?_) (spec_LongestLine.bF 44 7935) rfl rfl (any_of HT_.out (by kernel_rfl)) (fun _ _ _ h => h) (Or.inl ⟨by rfl, ?_⟩) ?_ ?_
            rotate_left
            ·
             intro w'
             go_simp
             with_reducible rfl
            rotate_left
            ·
             exact sP
            refine take_ (i := 8) (N := some 68) (v := ?_) (a' := ?_) (spec_LongestLine.bF 44 8191) rfl rfl (take_ofW HT_.out HW_.out (by kernel_rfl)) (fun _ _ _ h => h) (Or.inl ⟨by rfl, ?_⟩) hHeld ?_ ?_
            rotate_left
            ·
             rintro w' ⟨s0, s1, s2, s3, s4, s5, s6, s7⟩
             go_simp
             with_reducible rfl
            rotate_left
            ·
             exact sP
            refine take_ (i := 13) (N := some 73) (v := ?_) (a' := ?_) (spec_LongestLine.bF 44 16383) rfl rfl (take_ofW HT_.out HW_.out (by kernel_rfl)) (fun _ _ _ h => h) (Or.inl ⟨by rfl, ?_⟩) hHeld ?_ ?_
            rotate_left
            ·
             rintro w' ⟨s0, s1, s2, s3, s4, s5, s6, s7⟩
             go_simp
             with_reducible rfl
            rotate_left
            ·
             exact sP
            refine pure_ (i := 14) (N := some 74) (v := ?_) (a' := ?_) (spec_LongestLine.bF 44 32767) rfl rfl (any_of HT_.out (by kernel_rfl)) (fun _ _ _ h => h) (Or.inl ⟨by rfl, ?_⟩) ?_ ?_
            rotate_left
            ·
             intro w'
             go_simp
             with_reducible rfl
            rotate_left
            ·
             exact sP
            refine pure_ (i := 15) (N := some 75) (v := ?_) (a' := ?_) (spec_LongestLine.bF 44 65535) rfl rfl (any_of HT_.out (by kernel_rfl)) (fun _ _ _ h => h) (Or.inl ⟨by rfl, ?_⟩) ?_ ?_
            rotate_left
            ·
             intro w'
             go_simp
             with_reducible rfl
            rotate_left
            ·
             exact sP
            refine pure_ (i := 16) (N := some 76) (v := ?_) (a' := ?_) (spec_LongestLine.bF 44 131071) rfl rfl (any_of HT_.out (by kernel_rfl)) (fun _ _ _ h => h) (Or.inl ⟨by rfl, ?_⟩) ?_ ?_
            rotate_left
            ·
             intro w'
             go_simp
             with_reducible rfl
            rotate_left
            ·
             exact sP
            refine pure_ (i := 17) (N := some 77) (v := ?_) (a' := ?_) (spec_LongestLine.bF 44 262143) rfl rfl (any_of HT_.out (by kernel_rfl)) (fun _ _ _ h => h) (Or.inl ⟨by rfl, ?_⟩) ?_ ?_
            rotate_left
            ·
             intro w'
             go_simp
             with_reducible rfl
            rotate_left
            ·
             exact sP
            refine pure_ (i := 18) (N := some 78) (v := ?_) (a' := ?_) (spec_LongestLine.bF 44 524287) rfl rfl (any_of HT_.out (by kernel_rfl)) (fun _ _ _ h => h) (Or.inl ⟨by rfl, ?_⟩) ?_ ?_
            rotate_left
            ·
             intro w'
             go_simp
             with_reducible rfl
            rotate_left
            ·
             exact sP
            refine pure_ (i := 19) (N := some 79) (v := ?_) (a' := ?_) (spec_LongestLine.bF 44 1048575) rfl rfl (any_of HT_.out (by kernel_rfl)) (fun _ _ _ h => h) (Or.inl ⟨by rfl, ?_⟩) ?_ ?_
            rotate_left
            ·
             intro w'
             go_simp
             with_reducible rfl
            rotate_left
            ·
             exact sP
            refine pure_ (i := 20) (N := some 80) (v := ?_) (a' := ?_) (spec_LongestLine.bF 44 2097151) rfl rfl (any_of HT_.out (by kernel_rfl)) (fun _ _ _ h => h) (Or.inl ⟨by rfl, ?_⟩) ?_ ?_
            rotate_left
            ·
             intro w'
             go_simp
             with_reducible rfl
            rotate_left
            ·
             exact sP
            refine pure_ (i := 22) (N := some 82) (v := ?_) (a' := ?_) (spec_LongestLine.bF 44 6291455) rfl rfl (any_of HT_.out (by kernel_rfl)) (fun _ _ _ h => h) (Or.inl ⟨by rfl, ?_⟩) ?_ ?_
            rotate_left
            ·
             intro w'
             go_simp
             with_reducible rfl
            rotate_left
            ·
             exact sP
            refine pure_ (i := 23) (N := some 83) (v := ?_) (a' := ?_) (spec_LongestLine.bF 44 14680063) rfl rfl (any_of HT_.out (by kernel_rfl)) (fun _ _ _ h => h) (Or.inl ⟨by rfl, ?_⟩) ?_ ?_
            rotate_left
            ·
             intro w'
             go_simp
             with_reducible rfl
            rotate_left
            ·
             exact sP
            refine pure_ (i := 24) (N := some 84) (v := ?_) (a' := ?_) (spec_LongestLine.bF 44 31457279) rfl rfl (any_of HT_.out (by kernel_rfl)) (fun _ _ _ h => h) (Or.inl ⟨by rfl, ?_⟩) ?_ ?_
            rotate_left
            ·
             intro w'
             go_simp
             with_reducible rfl
            rotate_left
            ·
             exact sP
            refine pure_ (i := 25) (N := some 85) (v := ?_) (a' := ?_) (spec_LongestLine.bF 44 65011711) rfl rfl (any_of HT_.out (by kernel_rfl)) (fun _ _ _ h => h) (Or.inl ⟨by rfl, ?_⟩) ?_ ?_
            rotate_left
            ·
             intro w'
             go_simp
             with_reducible rfl
            rotate_left
            ·
             exact sP
            refine take_ (i := 21) (N := some 81) (v := ?_) (a' := ?_) (spec_LongestLine.bF 44 67108863) rfl rfl (take_ofW HT_.out HW_.out (by kernel_rfl)) (fun _ _ _ h => h) (Or.inl ⟨by rfl, ?_⟩) hHeld ?_ ?_
            rotate_left
            ·
             rintro w' ⟨s0, s1, s2, s3, s4, s5, s6, s7⟩
             go_simp
             with_reducible rfl
            rotate_left
            ·
             exact sP
            refine take_ (i := 26) (N := some 86) (v := ?_) (a' := ?_) (spec_LongestLine.bF 44 134217727) rfl rfl (take_ofW HT_.out HW_.out (by kernel_rfl)) (fun _ _ _ h => h) (Or.inl ⟨by rfl, ?_⟩) hHeld ?_ ?_
            rotate_left
            ·
             rintro w' ⟨s0, s1, s2, s3, s4, s5, s6, s7⟩
             go_simp
             with_reducible rfl
            rotate_left
            ·
             exact sP
            refine pure_ (i := 27) (N := some 87) (v := ?_) (a' := ?_) (spec_LongestLine.bF 44 268435455) rfl rfl (any_of HT_.out (by kernel_rfl)) (fun _ _ _ h => h) (Or.inl ⟨by rfl, ?_⟩) ?_ ?_
            rotate_left
            ·
             intro w'
             go_simp
             with_reducible rfl
            rotate_left
            ·
             exact sP
            refine pure_ (i := 28) (N := some 88) (v := ?_) (a' := ?_) (spec_LongestLine.bF 44 536870911) rfl rfl (any_of HT_.out (by kernel_rfl)) (fun _ _ _ h => h) (Or.inl ⟨by rfl, ?_⟩) ?_ ?_
            rotate_left
            ·
             intro w'
             go_simp
             with_reducible rfl
            rotate_left
            ·
             exact sP
            refine pure_ (i := 29) (N := some 89) (v := undef) (a' := ?_) (spec_LongestLine.bF 44 1073741823) rfl rfl (any_of HT_.out (by kernel_rfl)) (fun _ _ _ h => h) (Or.inr ⟨by rfl, rfl⟩) ?_ ?_
            rotate_left
            ·
             exact sP
            refine pure_ (i := 30) (N := some 90) (v := undef) (a' := ?_) (spec_LongestLine.bF 44 2147483647) rfl rfl (any_of HT_.out (by kernel_rfl)) (fun _ _ _ h => h) (Or.inr ⟨by rfl, rfl⟩) ?_ ?_
            rotate_left
            ·
             exact sP
            refine pure_ (i := 31) (N := some 91) (v := undef) (a' := ?_) (spec_LongestLine.bF 44 4294967295) rfl rfl (any_of HT_.out (by kernel_rfl)) (fun _ _ _ h => h) (Or.inr ⟨by rfl, rfl⟩) ?_ ?_
            rotate_left
            ·
             exact sP
            refine pure_ (i := 32) (N := some 92) (v := undef) (a' := ?_) (spec_LongestLine.bF 44 8589934591) rfl rfl (any_of HT_.out (by kernel_rfl)) (fun _ _ _ h => h) (Or.inr ⟨by rfl, rfl⟩) ?_ ?_
            rotate_left
            ·
             exact sP
            refine pure_ (i := 33) (N := some 93) (v := undef) (a' := ?_) (spec_LongestLine.bF 44 17179869183) rfl rfl (any_of HT_.out (by kernel_rfl)) (fun _ _ _ h => h) (Or.inr ⟨by rfl, rfl⟩) ?_ ?_
            rotate_left
            ·
             exact sP
            refine pure_ (i := 34) (N := some 94) (v := undef) (a' := ?_) (spec_LongestLine.bF 44 34359738367) rfl rfl (any_of HT_.out (by kernel_rfl)) (fun _ _ _ h => h) (Or.inr ⟨by rfl, rfl⟩) ?_ ?_
            rotate_left
            ·
             exact sP
            refine pure_ (i := 35) (N := some 95) (v := undef) (a' := ?_) (spec_LongestLine.bF 44 68719476735) rfl rfl (any_of HT_.out (by kernel_rfl)) (fun _ _ _ h => h) (Or.inr ⟨by rfl, rfl⟩) ?_ ?_
            rotate_left
            ·
             exact sP
            refine pure_ (i := 36) (N := some 96) (v := undef) (a' := ?_) (spec_LongestLine.bF 44 137438953471) rfl rfl (any_of HT_.out (by kernel_rfl)) (fun _ _ _ h => h) (Or.inr ⟨by rfl, rfl⟩) ?_ ?_
            rotate_left
            ·
             exact sP
            refine pure_ (i := 37) (N := some 97) (v := undef) (a' := ?_) (spec_LongestLine.bF 44 274877906943) rfl rfl (any_of HT_.out (by kernel_rfl)) (fun _ _ _ h => h) (Or.inr ⟨by rfl, rfl⟩) ?_ ?_
            rotate_left
            ·
             exact sP
            refine pure_ (i := 38) (N := some 98) (v := undef) (a' := ?_) (spec_LongestLine.bF 44 549755813887) rfl rfl (any_of HT_.out (by kernel_rfl)) (fun _ _ _ h => h) (Or.inr ⟨by rfl, rfl⟩) ?_ ?_
            rotate_left
            ·
             exact sP
            refine pure_ (i := 39) (N := some 99) (v := undef) (a' := ?_) (spec_LongestLine.bF 44 1099511627775) rfl rfl (any_of HT_.out (by kernel_rfl)) (fun _ _ _ h => h) (Or.inr ⟨by rfl, rfl⟩) ?_ ?_
            rotate_left
            ·
             exact sP
            refine pure_ (i := 40) (N := some 100) (v := undef) (a' := ?_) (spec_LongestLine.bF 44 2199023255551) rfl rfl (any_of HT_.out (by kernel_rfl)) (fun _ _ _ h => h) (Or.inr ⟨by rfl, rfl⟩) ?_ ?_
            rotate_left
            ·
             exact sP
            refine pure_ (i := 41) (N := some 101) (v := ?_) (a' := ?_) (spec_LongestLine.bF 44 4398046511103) rfl rfl (any_of HT_.out (by kernel_rfl)) (fun _ _ _ h => h) (Or.inl ⟨by rfl, ?_⟩) ?_ ?_
            rotate_left
            ·
             intro w'
             go_simp
             with_reducible rfl
            rotate_left
            ·
             exact sP
            refine pure_ (i := 42) (N := some 102) (v := ?_) (a' := ?_) (spec_LongestLine.bF 44 8796093022207) rfl rfl (any_of HT_.out (by kernel_rfl)) (fun _ _ _ h => h) (Or.inl ⟨by rfl, ?_⟩) ?_ ?_
            rotate_left
            ·
             intro w'
             go_simp
             with_reducible rfl
            rotate_left
            ·
             exact sP
            refine pure_ (i := 43) (N := some 103) (v := ?_) (a' := ?_) (spec_LongestLine.bF 44 17592186044415) rfl rfl (any_of HT_.out (by kernel_rfl)) (fun _ _ _ h => h) (Or.inl ⟨by rfl, ?_⟩) ?_ ?_
            rotate_left
            ·
             intro w'
             go_simp
             with_reducible rfl
            rotate_left
            ·
             exact sP
            refine done_ (done_of HT_.out (by kernel_rfl)) ?_
            try go_wp2
            go_meet
            case rel => exact ⟨_, (false), (by first | rfl | (simp; done) | (simp [*]; done) | (simp only [i64_w]; done) | (simp [i64_w]; done)), H', ⟨by have := HK1.out; have := HJ15.out; have := HK3.out; have := HK4.out; first | omega | exact Nat.le_refl _⟩, ⟨by (with_reducible repeat (first | apply Kd.R_alloc | apply Kd.R_drewN | apply Kd.R_drew)); exact HO_9.out⟩, ⟨by (with_reducible repeat (first | refine blk_drewN ?_ _ | refine blk_drew ?_ | refine blk_alloc ?_ _)); exact BK141.out⟩, ⟨by repeat (first | (with_reducible first | exact HB.out | apply below_alloc | apply pw_below_drewN | apply below_drew1 | refine below_set ?_ GE141.out) | exact HB.out)⟩⟩
           rw [if_pos c36] at H
           have c36b0 : (((rd_T45 x9_3 (ji29)).f0) == ((rd_T45 l1 x10_3).f0)) = true := beq_iff_eq.mpr c36
           have c36b1 : (((rd_T45 x9_3 (ji29)).f0) != ((rd_T45 l1 x10_3).f0)) = false := bne_eq_false_iff_eq.mpr c36
           clear c36
           have H' := aS H
           clear H
           try go_wp2
           have n0_ := aS (Kd.R_drew HO_9.out)
           have n1_ := aS (blk_drew BK141.out)
           have n2_ := aS (below_drew1 HB.out)
           clear HO_9 BK141 HB
           have HO_9 := n0_; have BK141 := n1_; have HB := n2_
           clear n0_ n1_ n2_
           have p150 : 0 ≤ ((ji29) : Int) := of_decide_eq_true (by first | (with_reducible assumption) | assumption)
           have q150 : (ji29) < (x9_3.length : Int) := of_decide_eq_true (by first | (with_reducible assumption) | assumption)
           obtain ⟨ad150, e150, hx150_0, hx150_1⟩ := at_T45 (Kd.R_reads' HO_9.out).2.2 (ji29) p150 q150
           cases e150
           replace p150 := eq_true p150
           replace q150 := eq_true q150
           have p151 : 0 ≤ (x10_3 : Int) := of_decide_eq_true (by first | (with_reducible assumption) | assumption)
           have q151 : x10_3 < (l1.length : Int) := of_decide_eq_true (by first | (with_reducible assumption) | assumption)
           obtain ⟨ad151, e151, hx151_0, hx151_1⟩ := at_T45 HR1.out x10_3 p151 q151
           have hw151_1 := hx151_1
           have hw151_0 := hx151_0
           obtain rfl : ad149 = ad151 := (by injection e151)
           replace hx151_0 := (HB.out.cell (World.block_lt_of_cell? w _ hx151_0)).trans hx151_0
           replace hx151_1 := (HB.out.cell (World.block_lt_of_cell? w _ hx151_1)).trans hx151_1
           replace p151 := eq_true p151
           replace q151 := eq_true q151
           have p152 : 0 ≤ ((ji29) : Int) := of_decide_eq_true (by first | (with_reducible assumption) | assumption)
           have q152 : (ji29) < (x9_3.length : Int) := of_decide_eq_true (by first | (with_reducible assumption) | assumption)
           obtain ⟨ad152, e152, hx152_0, hx152_1⟩ := at_T45 (Kd.R_reads' HO_9.out).2.2 (ji29) p152 q152
           obtain rfl : ad150 = ad152 := (by injection e152)
           replace p152 := eq_true p152
           replace q152 := eq_true q152
           have p153 : 0 ≤ (x10_3 : Int) := of_decide_eq_true (by first | (with_reducible assumption) | assumption)
           have q153 : x10_3 < (l1.length : Int) := of_decide_eq_true (by first | (with_reducible assumption) | assumption)
           obtain ⟨ad153, e153, hx153_0, hx153_1⟩ := at_T45 HR1.out x10_3 p153 q153
           have hw153_1 := hx153_1
           have hw153_0 := hx153_0
           obtain rfl : ad149 = ad153 := (by injection e153)
           replace hx153_0 := (HB.out.cell (World.block_lt_of_cell? w _ hx153_0)).trans hx153_0
           replace hx153_1 := (HB.out.cell (World.block_lt_of_cell? w _ hx153_1)).trans hx153_1
           replace p153 := eq_true p153
           replace q153 := eq_true q153
           have p154 : 0 ≤ ((ji29) : Int) := of_decide_eq_true (by first | (with_reducible assumption) | assumption)
           have q154 : (ji29) < (x9_3.length : Int) := of_decide_eq_true (by first | (with_reducible assumption) | assumption)
           obtain ⟨ad154, e154, hx154_0, hx154_1⟩ := at_T45 (Kd.R_reads' HO_9.out).2.2 (ji29) p154 q154
           obtain rfl : ad150 = ad154 := (by injection e154)
           replace p154 := eq_true p154
           replace q154 := eq_true q154
           have p155 : 0 ≤ (x10_3 : Int) := of_decide_eq_true (by first | (with_reducible assumption) | assumption)
           have q155 : x10_3 < (l1.length : Int) := of_decide_eq_true (by first | (with_reducible assumption) | assumption)
           obtain ⟨ad155, e155, hx155_0, hx155_1⟩ := at_T45 HR1.out x10_3 p155 q155
           have hw155_1 := hx155_1
           have hw155_0 := hx155_0
           obtain rfl : ad149 = ad155 := (by injection e155)
           replace hx155_0 := (HB.out.cell (World.block_lt_of_cell? w _ hx155_0)).trans hx155_0
           replace hx155_1 := (HB.out.cell (World.block_lt_of_cell? w _ hx155_1)).trans hx155_1
           replace p155 := eq_true p155
           replace q155 := eq_true q155
           refine start_ (n := 44) (S := fun w' => w'.cell? (ad150.add (((ji29)).toNat * 2)) = some (.int .i64 ((rd_T45 x9_3 (ji29)).f0)) ∧ w'.cell? ⟨(ad150.add (((ji29)).toNat * 2)).block, (ad150.add (((ji29)).toNat * 2)).off + 1, none⟩ = some (.int .i64 ((rd_T45 x9_3 (ji29)).f1)) ∧ w'.cell? (ad149.add ((x10_3).toNat * 2)) = some (.int .i64 ((rd_T45 l1 x10_3).f0)) ∧ w'.cell? ⟨(ad149.add ((x10_3).toNat * 2)).block, (ad149.add ((x10_3).toNat * 2)).off + 1, none⟩ = some (.int .i64 ((rd_T45 l1 x10_3).f1)) ∧ w'.cell? (ad150.add (((ji29)).toNat * 2)) = some (.int .i64 ((rd_T45 x9_3 (ji29)).f0)) ∧ w'.cell? ⟨(ad150.add (((ji29)).toNat * 2)).block, (ad150.add (((ji29)).toNat * 2)).off + 1, none⟩ = some (.int .i64 ((rd_T45 x9_3 (ji29)).f1)) ∧ w'.cell? (ad149.add ((x10_3).toNat * 2)) = some (.int .i64 ((rd_T45 l1 x10_3).f0)) ∧ w'.cell? ⟨(ad149.add ((x10_3).toNat * 2)).block, (ad149.add ((x10_3).toNat * 2)).off + 1, none⟩ = some (.int .i64 ((rd_T45 l1 x10_3).f1)) ∧ w'.cell? (ad150.add (((ji29)).toNat * 2)) = some (.int .i64 ((rd_T45 x9_3 (ji29)).f0)) ∧ w'.cell? ⟨(ad150.add (((ji29)).toNat * 2)).block, (ad150.add (((ji29)).toNat * 2)).off + 1, none⟩ = some (.int .i64 ((rd_T45 x9_3 (ji29)).f1)) ∧ w'.cell? (ad149.add ((x10_3).toNat * 2)) = some (.int .i64 ((rd_T45 l1 x10_3).f0)) ∧ w'.cell? ⟨(ad149.add ((x10_3).toNat * 2)).block, (ad149.add ((x10_3).toNat * 2)).off + 1, none⟩ = some (.int .i64 ((rd_T45 l1 x10_3).f1))) (ds := []) #[false, false, false, false, false, false, false, false, false, false, false, false, false, false, false, false, false, false, false, false, false, false, false, false, false, false, false, false, false, false, false, false, false, false, false, false, false, false, false, false, false, false, false, false] (by kernel_rfl) rfl rfl ⟨hx150_0, hx150_1, ((HB.out.cell (World.block_lt_of_cell? w _ hw151_0)).trans hw151_0), ((HB.out.cell (World.block_lt_of_cell? w _ hw151_1)).trans hw151_1), hx152_0, hx152_1, ((HB.out.cell (World.block_lt_of_cell? w _ hw153_0)).trans hw153_0), ((HB.out.cell (World.block_lt_of_cell? w _ hw153_1)).trans hw153_1), hx154_0, hx154_1, ((HB.out.cell (World.block_lt_of_cell? w _ hw155_0)).trans hw155_0), ((HB.out.cell (World.block_lt_of_cell? w _ hw155_1)).trans hw155_1)⟩ (fun hHeld => ?_); refine with_tabW spec_LongestLine.tab16 spec_LongestLine.bits16 (fun HT_ HW_ => ?_)
           generalize wr.drew = w37 at HO_9 BK141 HB hx150_0 hx150_1 hx151_0 hx151_1 hx152_0 hx152_1 hx153_0 hx153_1 hx154_0 hx154_1 hx155_0 hx155_1 hHeld ⊢
           refine pure_ (i := 0) (N := some 60) (v := ?_) (a' := ?_) (spec_LongestLine.bF 44 1) rfl rfl (any_of HT_.out (by kernel_rfl)) (fun _ _ _ h => h) (Or.inl ⟨by rfl, ?_⟩) ?_ ?_
           rotate_left
           ·
            intro w'
            go_simp
            with_reducible rfl
           rotate_left
           ·
            exact sP
           refine pure_ (i := 1) (N := some 61) (v := ?_) (a' := ?_) (spec_LongestLine.bF 44 3) rfl rfl (any_of HT_.out (by kernel_rfl)) (fun _ _ _ h => h) (Or.inl ⟨by rfl, ?_⟩) ?_ ?_
           rotate_left
           ·
            intro w'
            go_simp
            with_reducible rfl
           rotate_left
           ·
            exact sP
           refine pure_ (i := 2) (N := some 62) (v := ?_) (a' := ?_) (spec_LongestLine.bF 44 7) rfl rfl (any_of HT_.out (by kernel_rfl)) (fun _ _ _ h => h) (Or.inl ⟨by rfl, ?_⟩) ?_ ?_
           rotate_left
           ·
            intro w'
            go_simp
            with_reducible rfl
           rotate_left
           ·
            exact sP
           refine pure_ (i := 3) (N := some 63) (v := ?_) (a' := ?_) (spec_LongestLine.bF 44 15) rfl rfl (any_of HT_.out (by kernel_rfl)) (fun _ _ _ h => h) (Or.inl ⟨by rfl, ?_⟩) ?_ ?_
           rotate_left
           ·
            intro w'
            go_simp
            with_reducible rfl
           rotate_left
           ·
            exact sP
           refine pure_ (i := 4) (N := some 64) (v := ?_) (a' := ?_) (spec_LongestLine.bF 44 31) rfl rfl (any_of HT_.out (by kernel_rfl)) (fun _ _ _ h => h) (Or.inl ⟨by rfl, ?_⟩) ?_ ?_
           rotate_left
           ·
            intro w'
            go_simp
            with_reducible rfl
           rotate_left
           ·
            exact sP
           refine pure_ (i := 5) (N := some 65) (v := ?_) (a' := ?_) (spec_LongestLine.bF 44 63) rfl rfl (any_of HT_.out (by kernel_rfl)) (fun _ _ _ h => h) (Or.inl ⟨by rfl, ?_⟩) ?_ ?_
           rotate_left
           ·
            intro w'
            go_simp
            with_reducible rfl
           rotate_left
           ·
            exact sP
           refine pure_ (i := 6) (N := some 66) (v := ?_) (a' := ?_) (spec_LongestLine.bF 44 127) rfl rfl (any_of HT_.out (by kernel_rfl)) (fun _ _ _ h => h) (Or.inl ⟨by rfl, ?_⟩) ?_ ?_
           rotate_left
           ·
            intro w'
            go_simp
            with_reducible rfl
           rotate_left
           ·
            exact sP
           refine pure_ (i := 7) (N := some 67) (v := ?_) (a' := ?_) (spec_LongestLine.bF 44 255) rfl rfl (any_of HT_.out (by kernel_rfl)) (fun _ _ _ h => h) (Or.inl ⟨by rfl, ?_⟩) ?_ ?_
           rotate_left
           ·
            intro w'
            go_simp
            with_reducible rfl
           rotate_left
           ·
            exact sP
           refine pure_ (i := 9) (N := some 69) (v := ?_) (a' := ?_) (spec_LongestLine.bF 44 767) rfl rfl (any_of HT_.out (by kernel_rfl)) (fun _ _ _ h => h) (Or.inl ⟨by rfl, ?_⟩) ?_ ?_
           rotate_left
           ·
            intro w'
            go_simp
            with_reducible rfl
           rotate_left
           ·
            exact sP
           refine pure_ (i := 10) (N := some 70) (v := ?_) (a' := ?_) (spec_LongestLine.bF 44 1791) rfl rfl (any_of HT_.out (by kernel_rfl)) (fun _ _ _ h => h) (Or.inl ⟨by rfl, ?_⟩) ?_ ?_
           rotate_left
           ·
            intro w'
            go_simp
            with_reducible rfl
           rotate_left
           ·
            exact sP
           refine pure_ (i := 11) (N := some 71) (v := ?_) (a' := ?_) (spec_LongestLine.bF 44 3839) rfl rfl (any_of HT_.out (by kernel_rfl)) (fun _ _ _ h => h) (Or.inl ⟨by rfl, ?_⟩) ?_ ?_
           rotate_left
           ·
            intro w'
            go_simp
            with_reducible rfl
           rotate_left
           ·
            exact sP
           refine pure_ (i := 12) (N := some 72) (v := ?_) (a' := ?_) (spec_LongestLine.bF 44 7935) rfl rfl (any_of HT_.out (by kernel_rfl)) (fun _ _ _ h => h) (Or.inl ⟨by rfl, ?_⟩) ?_ ?_
           rotate_left
           ·
            intro w'
            go_simp
            with_reducible rfl
           rotate_left
           ·
            exact sP
           refine take_ (i := 8) (N := some 68) (v := ?_) (a' := ?_) (spec_LongestLine.bF 44 8191) rfl rfl (take_ofW HT_.out HW_.out (by kernel_rfl)) (fun _ _ _ h => h) (Or.inl ⟨by rfl, ?_⟩) hHeld ?_ ?_
           rotate_left
           ·
            rintro w' ⟨s0, s1, s2, s3, s4, s5, s6, s7, s8, s9, s10, s11⟩
            go_simp
            with_reducible rfl
           rotate_left
           ·
            exact sP
           refine take_ (i := 13) (N := some 73) (v := ?_) (a' := ?_) (spec_LongestLine.bF 44 16383) rfl rfl (take_ofW HT_.out HW_.out (by kernel_rfl)) (fun _ _ _ h => h) (Or.inl ⟨by rfl, ?_⟩) hHeld ?_ ?_
           rotate_left
           ·
            rintro w' ⟨s0, s1, s2, s3, s4, s5, s6, s7, s8, s9, s10, s11⟩
            go_simp
            with_reducible rfl
           rotate_left
           ·
            exact sP
           refine pure_ (i := 14) (N := some 74) (v := ?_) (a' := ?_) (spec_LongestLine.bF 44 32767) rfl rfl (any_of HT_.out (by kernel_rfl)) (fun _ _ _ h => h) (Or.inl ⟨by rfl, ?_⟩) ?_ ?_
           rotate_left
           ·
            intro w'
            go_simp
            with_reducible rfl
           rotate_left
           ·
            exact sP
           refine pure_ (i := 15) (N := some 75) (v := ?_) (a' := ?_) (spec_LongestLine.bF 44 65535) rfl rfl (any_of HT_.out (by kernel_rfl)) (fun _ _ _ h => h) (Or.inl ⟨by rfl, ?_⟩) ?_ ?_
           rotate_left
           ·
            intro w'
            go_simp
            with_reducible rfl
           rotate_left
           ·
            exact sP
           refine pure_ (i := 16) (N := some 76) (v := ?_) (a' := ?_) (spec_LongestLine.bF 44 131071) rfl rfl (any_of HT_.out (by kernel_rfl)) (fun _ _ _ h => h) (Or.inl ⟨by rfl, ?_⟩) ?_ ?_
           rotate_left
           ·
            intro w'
            go_simp
            with_reducible rfl
           rotate_left
           ·
            exact sP
           refine pure_ (i := 17) (N := some 77) (v := ?_) (a' := ?_) (spec_LongestLine.bF 44 262143) rfl rfl (any_of HT_.out (by kernel_rfl)) (fun _ _ _ h => h) (Or.inl ⟨by rfl, ?_⟩) ?_ ?_
           rotate_left
           ·
            intro w'
            go_simp
            with_reducible rfl
           rotate_left
           ·
            exact sP
           refine pure_ (i := 18) (N := some 78) (v := ?_) (a' := ?_) (spec_LongestLine.bF 44 524287) rfl rfl (any_of HT_.out (by kernel_rfl)) (fun _ _ _ h => h) (Or.inl ⟨by rfl, ?_⟩) ?_ ?_
           rotate_left
           ·
            intro w'
            go_simp
            with_reducible rfl
           rotate_left
           ·
            exact sP
           refine pure_ (i := 19) (N := some 79) (v := ?_) (a' := ?_) (spec_LongestLine.bF 44 1048575) rfl rfl (any_of HT_.out (by kernel_rfl)) (fun _ _ _ h => h) (Or.inl ⟨by rfl, ?_⟩) ?_ ?_
           rotate_left
           ·
            intro w'
            go_simp
            with_reducible rfl
           rotate_left
           ·
            exact sP
           refine pure_ (i := 20) (N := some 80) (v := ?_) (a' := ?_) (spec_LongestLine.bF 44 2097151) rfl rfl (any_of HT_.out (by kernel_rfl)) (fun _ _ _ h => h) (Or.inl ⟨by rfl, ?_⟩) ?_ ?_
           rotate_left
           ·
            intro w'
            go_simp
            with_reducible rfl
           rotate_left
           ·
            exact sP
           refine pure_ (i := 22) (N := some 82) (v := ?_) (a' := ?_) (spec_LongestLine.bF 44 6291455) rfl rfl (any_of HT_.out (by kernel_rfl)) (fun _ _ _ h => h) (Or.inl ⟨by rfl, ?_⟩) ?_ ?_
           rotate_left
           ·
            intro w'
            go_simp
            with_reducible rfl
           rotate_left
           ·
            exact sP
           refine pure_ (i := 23) (N := some 83) (v := ?_) (a' := ?_) (spec_LongestLine.bF 44 14680063) rfl rfl (any_of HT_.out (by kernel_rfl)) (fun _ _ _ h => h) (Or.inl ⟨by rfl, ?_⟩) ?_ ?_
           rotate_left
           ·
            intro w'
            go_simp
            with_reducible rfl
           rotate_left
           ·
            exact sP
           refine pure_ (i := 24) (N := some 84) (v := ?_) (a' := ?_) (spec_LongestLine.bF 44 31457279) rfl rfl (any_of HT_.out (by kernel_rfl)) (fun _ _ _ h => h) (Or.inl ⟨by rfl, ?_⟩) ?_ ?_
           rotate_left
           ·
            intro w'
            go_simp
            with_reducible rfl
           rotate_left
           ·
            exact sP
           refine pure_ (i := 25) (N := some 85) (v := ?_) (a' := ?_) (spec_LongestLine.bF 44 65011711) rfl rfl (any_of HT_.out (by kernel_rfl)) (fun _ _ _ h => h) (Or.inl ⟨by rfl, ?_⟩) ?_ ?_
           rotate_left
           ·
            intro w'
            go_simp
            with_reducible rfl
           rotate_left
           ·
            exact sP
           refine take_ (i := 21) (N := some 81) (v := ?_) (a' := ?_) (spec_LongestLine.bF 44 67108863) rfl rfl (take_ofW HT_.out HW_.out (by kernel_rfl)) (fun _ _ _ h => h) (Or.inl ⟨by rfl, ?_⟩) hHeld ?_ ?_
           rotate_left
           ·
            rintro w' ⟨s0, s1, s2, s3, s4, s5, s6, s7, s8, s9, s10, s11⟩
            go_simp
            with_reducible rfl
           rotate_left
           ·
            exact sP
           refine take_ (i := 26) (N := some 86) (v := ?_) (a' := ?_) (spec_LongestLine.bF 44 134217727) rfl rfl (take_ofW HT_.out HW_.out (by kernel_rfl)) (fun _ _ _ h => h) (Or.inl ⟨by rfl, ?_⟩) hHeld ?_ ?_
           rotate_left
           ·
            rintro w' ⟨s0, s1, s2, s3, s4, s5, s6, s7, s8, s9, s10, s11⟩
            go_simp
            with_reducible rfl
           rotate_left
           ·
            exact sP
           refine pure_ (i := 27) (N := some 87) (v := ?_) (a' := ?_) (spec_LongestLine.bF 44 268435455) rfl rfl (any_of HT_.out (by kernel_rfl)) (fun _ _ _ h => h) (Or.inl ⟨by rfl, ?_⟩) ?_ ?_
           rotate_left
           ·
            intro w'
            go_simp
            with_reducible rfl
           rotate_left
           ·
            exact sP
           refine pure_ (i := 28) (N := some 88) (v := ?_) (a' := ?_) (spec_LongestLine.bF 44 536870911) rfl rfl (any_of HT_.out (by kernel_rfl)) (fun _ _ _ h => h) (Or.inl ⟨by rfl, ?_⟩) ?_ ?_
           rotate_left
           ·
            intro w'
            go_simp
            with_reducible rfl
           rotate_left
           ·
            exact sP
           refine pure_ (i := 29) (N := some 89) (v := ?_) (a' := ?_) (spec_LongestLine.bF 44 1073741823) rfl rfl (any_of HT_.out (by kernel_rfl)) (fun _ _ _ h => h) (Or.inl ⟨by rfl, ?_⟩) ?_ ?_
           rotate_left
           ·
            intro w'
            go_simp
            with_reducible rfl
           rotate_left
           ·
            exact sP
           refine pure_ (i := 30) (N := some 90) (v := ?_) (a' := ?_) (spec_LongestLine.bF 44 2147483647) rfl rfl (any_of HT_.out (by kernel_rfl)) (fun _ _ _ h => h) (Or.inl ⟨by rfl, ?_⟩) ?_ ?_
           rotate_left
           ·
            intro w'
            go_simp
            with_reducible rfl
           rotate_left
           ·
            exact sP
           refine pure_ (i := 31) (N := some 91) (v := ?_) (a' := ?_) (spec_LongestLine.bF 44 4294967295) rfl rfl (any_of HT_.out (by kernel_rfl)) (fun _ _ _ h => h) (Or.inl ⟨by rfl, ?_⟩) ?_ ?_
           rotate_left
           ·
            intro w'
            go_simp
            with_reducible rfl
           rotate_left
           ·
            exact sP
           refine pure_ (i := 32) (N := some 92) (v := ?_) (a' := ?_) (spec_LongestLine.bF 44 8589934591) rfl rfl (any_of HT_.out (by kernel_rfl)) (fun _ _ _ h => h) (Or.inl ⟨by rfl, ?_⟩) ?_ ?_
           rotate_left
           ·
            intro w'
            go_simp
            with_reducible rfl
           rotate_left
           ·
            exact sP
           refine pure_ (i := 33) (N := some 93) (v := ?_) (a' := ?_) (spec_LongestLine.bF 44 17179869183) rfl rfl (any_of HT_.out (by kernel_rfl)) (fun _ _ _ h => h) (Or.inl ⟨by rfl, ?_⟩) ?_ ?_
           rotate_left
           ·
            intro w'
            go_simp
            with_reducible rfl
           rotate_left
           ·
            exact sP
           refine pure_ (i := 35) (N := some 95) (v := ?_) (a' := ?_) (spec_LongestLine.bF 44 51539607551) rfl rfl (any_of HT_.out (by kernel_rfl)) (fun _ _ _ h => h) (Or.inl ⟨by rfl, ?_⟩) ?_ ?_
           rotate_left
           ·
            intro w'
            go_simp
            with_reducible rfl
           rotate_left
           ·
            exact sP
           refine pure_ (i := 36) (N := some 96) (v := ?_) (a' := ?_) (spec_LongestLine.bF 44 120259084287) rfl rfl (any_of HT_.out (by kernel_rfl)) (fun _ _ _ h => h) (Or.inl ⟨by rfl, ?_⟩) ?_ ?_
           rotate_left
           ·
            intro w'
            go_simp
            with_reducible rfl
           rotate_left
           ·
            exact sP
           refine pure_ (i := 37) (N := some 97) (v := ?_) (a' := ?_) (spec_LongestLine.bF 44 257698037759) rfl rfl (any_of HT_.out (by kernel_rfl)) (fun _ _ _ h => h) (Or.inl ⟨by rfl, ?_⟩) ?_ ?_
           rotate_left
           ·
            intro w'
            go_simp
            with_reducible rfl
           rotate_left
           ·
            exact sP
           refine pure_ (i := 38) (N := some 98) (v := ?_) (a' := ?_) (spec_LongestLine.bF 44 532575944703) rfl rfl (any_of HT_.out (by kernel_rfl)) (fun _ _ _ h => h) (Or.inl ⟨by rfl, ?_⟩) ?_ ?_
           rotate_left
           ·
            intro w'
            go_simp
            with_reducible rfl
           rotate_left
           ·
            exact sP
           refine take_ (i := 34) (N := some 94) (v := ?_) (a' := ?_) (spec_LongestLine.bF 44 549755813887) rfl rfl (take_ofW HT_.out HW_.out (by kernel_rfl)) (fun _ _ _ h => h) (Or.inl ⟨by rfl, ?_⟩) hHeld ?_ ?_
           rotate_left
           ·
            rintro w' ⟨s0, s1, s2, s3, s4, s5, s6, s7, s8, s9, s10, s11⟩
            go_simp
            with_reducible rfl
           rotate_left
           ·
            exact sP
           refine take_ (i := 39) (N := some 99) (v := ?_) (a' := ?_) (spec_LongestLine.bF 44 1099511627775) rfl rfl (take_ofW HT_.out HW_.out (by kernel_rfl)) (fun _ _ _ h => h) (Or.inl ⟨by rfl, ?_⟩) hHeld ?_ ?_
           rotate_left
           ·
            rintro w' ⟨s0, s1, s2, s3, s4, s5, s6, s7, s8, s9, s10, s11⟩
            go_simp
            with_reducible rfl
           rotate_left
           ·
            exact sP
           refine pure_ (i := 40) (N := some 100) (v := ?_) (a' := ?_) (spec_LongestLine.bF 44 2199023255551) rfl rfl (any_of HT_.out (by kernel_rfl)) (fun _ _ _ h => h) (Or.inl ⟨by rfl, ?_⟩) ?_ ?_
           rotate_left
           ·
            intro w'
            go_simp
            with_reducible rfl
           rotate_left
           ·
            exact sP
           refine pure_ (i := 41) (N := some 101) (v := ?_) (a' := ?_) (spec_LongestLine.bF 44 4398046511103) rfl rfl (any_of HT_.out (by kernel_rfl)) (fun _ _ _ h => h) (Or.inl ⟨by rfl, ?_⟩) ?_ ?_
           rotate_left
           ·
            intro w'
            go_simp
            with_reducible rfl
           rotate_left
           ·
            exact sP
           refine pure_ (i := 42) (N := some 102) (v := ?_) (a' := ?_) (spec_LongestLine.bF 44 8796093022207) rfl rfl (any_of HT_.out (by kernel_rfl)) (fun _ _ _ h => h) (Or.inl ⟨by rfl, ?_⟩) ?_ ?_
           rotate_left
           ·
            intro w'
            go_simp
            with_reducible rfl
           rotate_left
           ·
            exact sP
           refine pure_ (i := 43) (N := some 103) (v := ?_) (a' := ?_) (spec_LongestLine.bF 44 17592186044415) rfl rfl (any_of HT_.out (by kernel_rfl)) (fun _ _ _ h => h) (Or.inl ⟨by rfl, ?_⟩) ?_ ?_
           rotate_left
           ·
            intro w'
            go_simp
            with_reducible rfl
           rotate_left
           ·
            exact sP
           refine done_ (done_of HT_.out (by kernel_rfl)) ?_
           try go_wp2
           go_meet
           case rel => exact ⟨_, (decide (((rd_T45 x9_3 (ji29)).f1) < ((rd_T45 l1 x10_3).f1))), (by first | rfl | (simp; done) | (simp only [← hji29] <;> (first | rfl | simp)) | (simp [*]; done) | (simp only [i64_w]; done) | (simp [i64_w]; done)), H', ⟨by have := HK1.out; have := HJ15.out; have := HK3.out; have := HK4.out; first | omega | exact Nat.le_refl _⟩, ⟨by (with_reducible repeat (first | apply Kd.R_alloc | apply Kd.R_drewN | apply Kd.R_drew)); exact HO_9.out⟩, ⟨by (with_reducible repeat (first | refine blk_drewN ?_ _ | refine blk_drew ?_ | refine blk_alloc ?_ _)); exact BK141.out⟩, ⟨by repeat (first | (with_reducible first | exact HB.out | apply below_alloc | apply pw_below_drewN | apply below_drew1 | refine below_set ?_ GE141.out) | exact HB.out)⟩⟩
          case rest =>
           clear HC27
           (try clear p1); (try clear q1); (try clear hx1); (try clear c2); (try clear p2); (try clear c3); (try clear p15); (try clear q15); (try clear hx15); (try clear c28); (try clear c28b0); (try clear c28b2); (try clear c30); (try clear c31); (try clear c32); (try clear c33); (try clear c36); (try clear c36b0); (try clear c36b1); (try clear hx150_0); (try clear hx150_1); (try clear hx151_0); (try clear hx151_1); (try clear hx152_0); (try clear hx152_1); (try clear hx153_0); (try clear hx153_1); (try clear p150); (try clear p151); (try clear p152); (try clear p153); (try clear q150); (try clear q151); (try clear q152); (try clear q153)
           obtain ⟨kq, x103_26, rfl, HA, HJ26, HO_9, BK141, HB⟩ := hcut
           cases kq with
           | zero => exact absurd HA.out (by simp [spec_LongestLine.j4])
           | succ kj26 =>
            have H := HA.out
            clear HA
            simp only [spec_LongestLine.j4] at H
            by_cases c40 : x103_26 = true
            ·
             subst c40
             have H1 : (spec_LongestLine.l2 kj26 l0 l1 a2 x9_3 x10_3 (wrap64 (x11_4 - 1))) = some (r1, r2, r3) := by rw [if_pos rfl] at H; exact H
             clear H
             have H := H1
             clear H1
             have H' := aS H
             clear H
             go_wp2
             go_roundg kj26
             case measure => have := HK1.out; have := HJ15.out; have := HK3.out; have := HK4.out; have := HJ26.out; omega
             case rel => exact ⟨(wrap64 (x11_4 - 1)), (by first | rfl | (simp; done) | (simp [*]; done) | (simp only [i64_w]; done) | (simp [i64_w]; done)), H', ⟨by have := HK1.out; have := HJ15.out; have := HK3.out; have := HK4.out; have := HJ26.out; omega⟩, ⟨by (with_reducible repeat (first | apply Kd.R_alloc | apply Kd.R_drewN | apply Kd.R_drew)); exact HO_9.out⟩, ⟨by (with_reducible repeat (first | refine blk_drewN ?_ _ | refine blk_drew ?_ | refine blk_alloc ?_ _)); exact BK141.out⟩, ⟨by repeat (first | (with_reducible first | exact HB.out | apply below_alloc | apply pw_below_drewN | apply below_drew1 | refine below_set ?_ GE141.out) | exact HB.out)⟩⟩
            replace c40 := Bool.eq_false_iff.mpr c40
            subst c40
            have H1 : ((some (([] : List (S45)) : List (S45))).bind fun y156 => (if 0 ≤ x11_4 then (if x11_4 ≤ (x9_3.length : Int) then ((some (x9_3.take (x11_4 : Int).toNat : List (S45))).bind fun y159 => (if y156.length + y159.length < 8796093022208 then ((some (y156 ++ y159 : List (S45))).bind fun y163 => (if 0 ≤ x10_3 then (if x10_3 < (l1.length : Int) then (if y163.length < 8796093022208 then ((some (y163 ++ [(⟨(rd_T45 l1 x10_3).f0, (rd_T45 l1 x10_3).f1⟩ : S45)] : List (S45))).bind fun y167 => ((some (x9_3.drop (x11_4 : Int).toNat : List (S45))).bind fun y170 => (if y167.length + y170.length < 8796093022208 then (spec_LongestLine.l1 kj26 l0 l1 a2 (y167 ++ y170) (wrap64 (x10_3 + 1))) else (none)))) else (none)) else (none)) else (none))) else (none))) else (none)) else (none))) = some (r1, r2, r3) := by rw [if_neg (show ¬ (false = true) by decide)] at H; exact H
            clear H
            have H := H1
            clear H1
            obtain ⟨y156, hy156⟩ : ∃ y_ : List (S45), y_ = (([] : List (S45))) := ⟨_, rfl⟩
            replace H : (if 0 ≤ x11_4 then (if x11_4 ≤ (x9_3.length : Int) then ((some (x9_3.take (x11_4 : Int).toNat : List (S45))).bind fun y159 => (if y156.length + y159.length < 8796093022208 then ((some (y156 ++ y159 : List (S45))).bind fun y163 => (if 0 ≤ x10_3 then (if x10_3 < (l1.length : Int) then (if y163.length < 8796093022208 then ((some (y163 ++ [(⟨(rd_T45 l1 x10_3).f0, (rd_T45 l1 x10_3).f1⟩ : S45)] : List (S45))).bind fun y167 => ((some (x9_3.drop (x11_4 : Int).toNat : List (S45))).bind fun y170 => (if y167.length + y170.length < 8796093022208 then (spec_LongestLine.l1 kj26 l0 l1 a2 (y167 ++ y170) (wrap64 (x10_3 + 1))) else (none)))) else (none)) else (none)) else (none))) else (none))) else (none)) else (none)) = some (r1, r2, r3) := by first | (rw [hy156]; with_reducible exact H) | (have H2_ := (Option.bind_some _ _).symm.trans H; rw [hy156]; with_reducible exact H2_) | (have H2_ := (Option.bind_some _ _).symm.trans H; with_reducible exact H2_) | with_reducible exact H | (rw [hy156]; exact H) | exact H
            have Ny156 := aS hy156
            clear hy156
            by_cases c41 : 0 ≤ x11_4
            rotate_left
            ·
             rw [if_neg c41] at H
             exact absurd H (by simp)
            rw [if_pos c41] at H
            have c41b0 := eq_true c41
            have c41b1 : decide (0 ≤ x11_4) = true := decide_eq_true c41
            clear c41
            by_cases c42 : x11_4 ≤ (x9_3.length : Int)
            rotate_left
            ·
             rw [if_neg c42] at H
             exact absurd H (by simp)
            rw [if_pos c42] at H
            have c42b0 := eq_true c42
            have c42b1 : decide (x11_4 ≤ (x9_3.length : Int)) = true := decide_eq_true c42
            clear c42
            obtain ⟨y159, hy159⟩ : ∃ y_ : List (S45), y_ = (x9_3.take (x11_4 : Int).toNat) := ⟨_, rfl⟩
            replace H : (if y156.length + y159.length < 8796093022208 then ((some (y156 ++ y159 : List (S45))).bind fun y163 => (if 0 ≤ x10_3 then (if x10_3 < (l1.length : Int) then (if y163.length < 8796093022208 then ((some (y163 ++ [(⟨(rd_T45 l1 x10_3).f0, (rd_T45 l1 x10_3).f1⟩ : S45)] : List (S45))).bind fun y167 => ((some (x9_3.drop (x11_4 : Int).toNat : List (S45))).bind fun y170 => (if y167.length + y170.length < 8796093022208 then (spec_LongestLine.l1 kj26 l0 l1 a2 (y167 ++ y170) (wrap64 (x10_3 + 1))) else (none)))) else (none)) else (none)) else (none))) else (none)) = some (r1, r2, r3) := by first | (rw [hy159]; with_reducible exact H) | (have H2_ := (Option.bind_some _ _).symm.trans H; rw [hy159]; with_reducible exact H2_) | (have H2_ := (Option.bind_some _ _).symm.trans H; with_reducible exact H2_) | with_reducible exact H | (rw [hy159]; exact H) | exact H
            have Ny159 := aS hy159
            clear hy159
            by_cases c43 : y156.length + y159.length < 8796093022208
            rotate_left
            ·
             rw [if_neg c43] at H
             exact absurd H (by simp)
            rw [if_pos c43] at H
            have LMc43 := aS c43
            clear c43
            obtain ⟨y163, hy163⟩ : ∃ y_ : List (S45), y_ = (y156 ++ y159) := ⟨_, rfl⟩
            replace H : (if 0 ≤ x10_3 then (if x10_3 < (l1.length : Int) then (if y163.length < 8796093022208 then ((some (y163 ++ [(⟨(rd_T45 l1 x10_3).f0, (rd_T45 l1 x10_3).f1⟩ : S45)] : List (S45))).bind fun y167 => ((some (x9_3.drop (x11_4 : Int).toNat : List (S45))).bind fun y170 => (if y167.length + y170.length < 8796093022208 then (spec_LongestLine.l1 kj26 l0 l1 a2 (y167 ++ y170) (wrap64 (x10_3 + 1))) else (none)))) else (none)) else (none)) else (none)) = some (r1, r2, r3) := by first | (rw [hy163]; with_reducible exact H) | (have H2_ := (Option.bind_some _ _).symm.trans H; rw [hy163]; with_reducible exact H2_) | (have H2_ := (Option.bind_some _ _).symm.trans H; with_reducible exact H2_) | with_reducible exact H | (rw [hy163]; exact H) | exact H
            have Ny163 := aS hy163
            clear hy163
            by_cases c44 : 0 ≤ x10_3
            rotate_left
            ·
             rw [if_neg c44] at H
             exact absurd H (by simp)
            rw [if_pos c44] at H
            have c44b0 : decide (0 ≤ x10_3) = true := decide_eq_true c44
            clear c44
            by_cases c45 : x10_3 < (l1.length : Int)
            rotate_left
            ·
             rw [if_neg c45] at H
             exact absurd H (by simp)
            rw [if_pos c45] at H
            have c45b0 : decide (x10_3 < (l1.length : Int)) = true := decide_eq_true c45
            clear c45
            by_cases c46 : y163.length < 8796093022208
            rotate_left
            ·
             rw [if_neg c46] at H
             exact absurd H (by simp)
            rw [if_pos c46] at H
            have LMc46 := aS c46
            clear c46
            obtain ⟨y167, hy167⟩ : ∃ y_ : List (S45), y_ = (y163 ++ [(⟨(rd_T45 l1 x10_3).f0, (rd_T45 l1 x10_3).f1⟩ : S45)]) := ⟨_, rfl⟩
            replace H : ((some (x9_3.drop (x11_4 : Int).toNat : List (S45))).bind fun y170 => (if y167.length + y170.length < 8796093022208 then (spec_LongestLine.l1 kj26 l0 l1 a2 (y167 ++ y170) (wrap64 (x10_3 + 1))) else (none))) = some (r1, r2, r3) := by first | (rw [hy167]; with_reducible exact H) | (have H2_ := (Option.bind_some _ _).symm.trans H; rw [hy167]; with_reducible exact H2_) | (have H2_ := (Option.bind_some _ _).symm.trans H; with_reducible exact H2_) | with_reducible exact H | (rw [hy167]; exact H) | exact H
            have Ny167 := aS hy167
            clear hy167
            have c47b0 := eq_true (of_decide_eq_true (by first | (with_reducible assumption) | assumption) : 0 ≤ x11_4)
            have c48b0 := eq_true (of_decide_eq_true (by first | (with_reducible assumption) | assumption) : x11_4 ≤ (x9_3.length : Int))
            obtain ⟨y170, hy170⟩ : ∃ y_ : List (S45), y_ = (x9_3.drop (x11_4 : Int).toNat) := ⟨_, rfl⟩
            replace H : (if y167.length + y170.length < 8796093022208 then (spec_LongestLine.l1 kj26 l0 l1 a2 (y167 ++ y170) (wrap64 (x10_3 + 1))) else (none)) = some (r1, r2, r3) := by first | (rw [hy170]; with_reducible exact H) | (have H2_ := (Option.bind_some _ _).symm.trans H; rw [hy170]; with_reducible exact H2_) | (have H2_ := (Option.bind_some _ _).symm.trans H; with_reducible exact H2_) | with_reducible exact H | (rw [hy170]; exact H) | exact H
            have Ny170 := aS hy170
            clear hy170
            by_cases c49 : y167.length + y170.length < 8796093022208
            rotate_left
            ·
             rw [if_neg c49] at H
             exact absurd H (by simp)
            rw [if_pos c49] at H
            have LMc49 := aS c49
            clear c49
            obtain ⟨y174, hy174⟩ : ∃ y_ : List (S45), y_ = (y167 ++ y170) := ⟨_, rfl⟩
            replace H : (spec_LongestLine.l1 kj26 l0 l1 a2 y174 (wrap64 (x10_3 + 1))) = some (r1, r2, r3) := by first | (rw [hy174]; with_reducible exact H) | (have H2_ := (Option.bind_some _ _).symm.trans H; rw [hy174]; with_reducible exact H2_) | (have H2_ := (Option.bind_some _ _).symm.trans H; with_reducible exact H2_) | with_reducible exact H | (rw [hy174]; exact H) | exact H
            have Ny174 := aS hy174
            clear hy174
            have H' := aS H
            clear H
            go_wp2_with (first | ((with_reducible refine gate_dst (N := 106) rfl ?_); refine Kd.R_lit k45 _ 45 ?hg (N := 106) ?hd (xs := ([] : List (S45))) (inner := []) (ok := fun _ => True) (okp := fun _ => True) ?hr ?hp (fun _ hk => hk) trivial (Below.refl _ _) (Nat.le_refl _) (by simp) ?_; (case hd => rfl); (case hg => rfl); (case hr => first | (go_simp; done) | (go_simp; rfl)); (case hp => exact (Reps.none _ _)); intro v157 w50 ho51 hb hg_ hnew_; clear hg_ hnew_; (first | rw [← Ny156.out] at ho51 | (simp only [Int.reduceToNat] at ho51; rw [← Ny156.out] at ho51)); have n0_ := aS (Kd.R_elder' (sR HO_9.out) (Kd.R_base ho51) hb); have n1_ := aS (Kd.R_lower (Kd.R_new' ho51 (Kd.R_lt (sR HO_9.out))) (below_size (sW HB.out))); have n2_ := aS (blk_below (g := gb141) (o := .cells #[.slice none 0 0, .slice none 0 0] 29 (0, 0)) (sB BK141.out) hb); have n3_ := aS (below_step (sW HB.out) hb); clear HO_9 BK141 HB; have HO_9 := n0_; have HO158 := n1_; have BK141 := n2_; have HB := n3_; clear n0_ n1_ n2_ n3_; clear hb ho51; have q52 : (x11_4 : Int) ≤ ((x9_3.length : Int) : Int) := of_decide_eq_true (by first | (with_reducible assumption) | assumption); obtain ⟨i052, hi052, _, hsz52, _⟩ := info_parts info45; have hroom52 : x9_3.length ≤ co26 := (Kd.R_reads' HO_9.out).2.1; have hC52 : Kd.C k45 _ Ao26 x9_3.length x9_3 := (Kd.R_reads' HO_9.out).2.2; have hcut52 := cut_to (P := Try.prog) 26 45 .i64 Try.underlying26 hi052 Ao26 x9_3.length co26 x11_4 (of_decide_eq_true (by first | (with_reducible assumption) | assumption)) q52 hroom52; have hr52 := Kd.C_take (m := (x11_4 : Int).toNat) hC52 (by omega); have hy52 : y159.length = (x11_4 : Int).toNat := (by rw [Ny159.out, List.length_take]; omega); rw [← Ny159.out] at hr52; rw [← hy52] at hcut52; have HR162 := aS hr52; have HC162 := aS (show y159.length ≤ co26 from by omega); clear hr52 hC52 hroom52 hi052 hsz52; have KY52 := aS hy52; clear hy52; have KL52 := aS (show (x11_4 : Int).toNat ≤ x9_3.length from by omega); replace q52 := eq_true q52) | ((with_reducible refine gate_builtin (b := .append) (xs := #[.tmp 106, .tmp 109]) rfl ?_); at_builtin; refine Kd.R_append_rows k45 (w0 := w) w.heap.size rfl (.tmp 106) (.tmp 109) 26 45 (.agg #[(.int .i64 0), (.int .i64 0)]) 16 rfl Try.underlying26 info45 rfl (by decide) (by omega) v157 y156 y159 _ _ _ (fun k_ => some k_ ≠ (.slice Ao26 x9_3.length co26 : Value).ownBlock) (fun _ => False) rfl rfl ?aO ?aR (fun _ _ h => h) (fun _ h => h.elim) ?aF ?aB ?aS ?aL ?_; (case aR => repeat (first | exact (by repeat (first | (with_reducible exact HR162.out) | (with_reducible refine Kd.C_alloc ?_ _) | (with_reducible refine Kd.C_drewN ?_ _) | (with_reducible refine Kd.C_drew ?_) | exact HR162.out)) | (with_reducible refine Kd.C_alloc ?_ _) | (with_reducible refine Kd.C_drewN ?_ _) | (with_reducible refine Kd.C_drew ?_))); (case aB => exact (sW HB.out)); (case aF => exact (fun k_ hk => Kd.fresh' (Kd.R_lt (sR HO_9.out)) k_ hk)); (case aO => exact (sR (Kd.R_mono HO158.out (fun _ hk => hk.2)))); (case aS => exact (below_size (sW HB.out))); (case aL => have := LMc43.out; omega); intro v164 w53 ho hb hg hat; rw [← Ny163.out] at ho; have n0_ := aS (Kd.R_after (ok := (fun _ => True)) (sR HO_9.out) hg hat); have n1_ := aS (blk_grown (g := gb141) (o := .cells #[.slice none 0 0, .slice none 0 0] 29 (0, 0)) (sB BK141.out) hg (Kd.R_ne HO158.out BK141.out (by decide))); have n2_ := aS (hb); have n3_ := aS ((show Kd.C k45 w53 Ao26 y159.length y159 from by rw [Ny159.out]; exact Kd.C_take (m := (x11_4 : Int).toNat) ((Kd.R_reads' (Kd.R_after (ok := (fun _ => True)) (sR HO_9.out) hg hat)).2.2) KL52.out)); have n4_ := aS (ho); clear HO_9 BK141 HB HR162 HO158; have HO_9 := n0_; have BK141 := n1_; have HB := n2_; have HR162 := n3_; have HO165 := n4_; clear n0_ n1_ n2_ n3_ n4_; clear ho hb hg hat; have p166 : 0 ≤ (x10_3 : Int) := of_decide_eq_true (by first | (with_reducible assumption) | assumption); have q166 : x10_3 < (l1.length : Int) := of_decide_eq_true (by first | (with_reducible assumption) | assumption); obtain ⟨ad166, e166, hx166_0, hx166_1⟩ := at_T45 HR1.out x10_3 p166 q166; obtain rfl : ad149 = ad166 := (by injection e166); replace hx166_0 := (HB.out.cell (World.block_lt_of_cell? w _ hx166_0)).trans hx166_0; replace hx166_1 := (HB.out.cell (World.block_lt_of_cell? w _ hx166_1)).trans hx166_1; replace p166 := eq_true p166; replace q166 := eq_true q166) | ((with_reducible refine gate_builtin (b := .append) (xs := #[.tmp 111, .tmp 116]) rfl ?_); at_builtin; refine Kd.R_append k45 (w0 := w) w.heap.size rfl (.tmp 111) (.tmp 116) 26 45 (.agg #[(.int .i64 0), (.int .i64 0)]) 16 rfl Try.underlying26 info45 rfl (by decide) (by omega) v164 y163 (⟨(rd_T45 l1 x10_3).f0, (rd_T45 l1 x10_3).f1⟩ : S45) [.int .i64 ((rd_T45 l1 x10_3).f0), .int .i64 ((rd_T45 l1 x10_3).f1)] (fun k_ => some k_ ≠ (.slice Ao26 x9_3.length co26 : Value).ownBlock) (fun _ => False) rfl rfl ?aP (fun _ hk => hk.elim) ?aF ?aO ?aB ?aS ?aL ?_; (case aP => exact k45_mkM _ _ _ (⟨(rd_T45 l1 x10_3).f0, (rd_T45 l1 x10_3).f1⟩ : S45)); (case aB => exact (sW HB.out)); (case aF => exact (fun k_ hk => Kd.fresh' (Kd.R_lt (sR HO_9.out)) k_ hk)); (case aO => exact (sR HO165.out)); (case aS => exact (below_size (sW HB.out))); (case aL => have := LMc46.out; omega); intro v168 w54 ho hb hg hat; rw [← Ny167.out] at ho; have n0_ := aS (Kd.R_after (ok := (fun _ => True)) (sR HO_9.out) hg hat); have n1_ := aS (blk_grown (g := gb141) (o := .cells #[.slice none 0 0, .slice none 0 0] 29 (0, 0)) (sB BK141.out) hg (Kd.R_ne HO165.out BK141.out (by decide))); have n2_ := aS (hb); have n3_ := aS ((show Kd.C k45 w54 Ao26 y159.length y159 from by rw [Ny159.out]; exact Kd.C_take (m := (x11_4 : Int).toNat) ((Kd.R_reads' (Kd.R_after (ok := (fun _ => True)) (sR HO_9.out) hg hat)).2.2) KL52.out)); have n4_ := aS (ho); clear HO_9 BK141 HB HR162 HO165; have HO_9 := n0_; have BK141 := n1_; have HB := n2_; have HR162 := n3_; have HO169 := n4_; clear n0_ n1_ n2_ n3_ n4_; clear ho hb hg hat; have q55 : (x11_4 : Int) ≤ ((x9_3.length : Int) : Int) := of_decide_eq_true (by first | (with_reducible assumption) | assumption); obtain ⟨i055, hi055, _, hsz55, _⟩ := info_parts info45; have hroom55 : x9_3.length ≤ co26 := (Kd.R_reads' HO_9.out).2.1; have hC55 : Kd.C k45 _ Ao26 x9_3.length x9_3 := (Kd.R_reads' HO_9.out).2.2; have q055 : (0 : Int) ≤ (x11_4 : Int) := of_decide_eq_true (by first | (with_reducible assumption) | assumption); have hcut55 := cut_from (P := Try.prog) 26 45 .i64 Try.underlying26 hi055 2 hsz55 Ao26 x9_3.length co26 x11_4 q055 q55; have hr55 := Kd.C_drop (m := (x11_4 : Int).toNat) (c := co26) hC55 (by omega) hroom55; obtain ⟨A55, hA55⟩ : ∃ A1, A1 = (if co26 = (x11_4 : Int).toNat then Ao26 else (Ao26 : Option Addr).map (·.add ((x11_4 : Int).toNat * 2))) := ⟨_, rfl⟩; obtain ⟨c55, hc55⟩ : ∃ c1, c1 = co26 - (x11_4 : Int).toNat := ⟨_, rfl⟩; have hy55 : y170.length = x9_3.length - (x11_4 : Int).toNat := (by rw [Ny170.out, List.length_drop] <;> omega); rw [show (x9_3).drop (x11_4 : Int).toNat = y170 from Ny170.out.symm] at hr55; replace hr55 : Kd.C k45 _ A55 y170.length y170 := (by rw [hA55]; exact hr55); rw [← hy55, ← hA55, ← hc55] at hcut55; have HR173 := aS hr55; have HC173 := aS (show y170.length ≤ c55 from by rw [hy55, hc55]; exact Nat.sub_le_sub_right hroom55 _); clear hr55 hC55 hroom55 hi055 hsz55 hc55; have KY55 := aS hy55; have KA55 := aS hA55; clear hy55 hA55; have KL55 := aS (show (x11_4 : Int).toNat ≤ x9_3.length from by omega); replace q55 := eq_true q55) | ((with_reducible refine gate_builtin (b := .append) (xs := #[.tmp 118, .tmp 121]) rfl ?_); at_builtin; refine Kd.R_append_rows k45 (w0 := w) w.heap.size rfl (.tmp 118) (.tmp 121) 26 45 (.agg #[(.int .i64 0), (.int .i64 0)]) 16 rfl Try.underlying26 info45 rfl (by decide) (by omega) v168 y167 y170 _ _ _ (fun k_ => some k_ ≠ (.slice Ao26 x9_3.length co26 : Value).ownBlock) (fun _ => False) rfl rfl ?aO ?aR (fun _ _ h => h) (fun _ h => h.elim) ?aF ?aB ?aS ?aL ?_; (case aR => repeat (first | exact (by repeat (first | (with_reducible exact HR173.out) | (with_reducible refine Kd.C_alloc ?_ _) | (with_reducible refine Kd.C_drewN ?_ _) | (with_reducible refine Kd.C_drew ?_) | exact HR173.out)) | (with_reducible refine Kd.C_alloc ?_ _) | (with_reducible refine Kd.C_drewN ?_ _) | (with_reducible refine Kd.C_drew ?_))); (case aB => exact (sW HB.out)); (case aF => exact (fun k_ hk => Kd.fresh' (Kd.R_lt (sR HO_9.out)) k_ hk)); (case aO => exact (sR HO169.out)); (case aS => exact (below_size (sW HB.out))); (case aL => have := LMc49.out; omega); intro v175 w56 ho hb hg hat; rw [← Ny174.out] at ho; have n0_ := aS (Kd.R_after (ok := (fun _ => True)) (sR HO_9.out) hg hat); have n1_ := aS (blk_grown (g := gb141) (o := .cells #[.slice none 0 0, .slice none 0 0] 29 (0, 0)) (sB BK141.out) hg (Kd.R_ne HO169.out BK141.out (by decide))); have n2_ := aS (hb); have n3_ := aS ((show Kd.C k45 w56 Ao26 y159.length y159 from by rw [Ny159.out]; exact Kd.C_take (m := (x11_4 : Int).toNat) ((Kd.R_reads' (Kd.R_after (ok := (fun _ => True)) (sR HO_9.out) hg hat)).2.2) KL52.out)); have n4_ := aS ((show Kd.C k45 w56 A55 y170.length y170 from by rw [Ny170.out, KA55.out]; exact Kd.C_drop (m := (x11_4 : Int).toNat) (c := co26) ((Kd.R_reads' (Kd.R_after (ok := (fun _ => True)) (sR HO_9.out) hg hat)).2.2) KL55.out ((Kd.R_reads' (Kd.R_after (ok := (fun _ => True)) (sR HO_9.out) hg hat)).2.1))); have n5_ := aS (ho); clear HO_9 BK141 HB HR162 HR173 HO169; have HO_9 := n0_; have BK141 := n1_; have HB := n2_; have HR162 := n3_; have HR173 := n4_; have HO176 := n5_; clear n0_ n1_ n2_ n3_ n4_ n5_; clear ho hb hg hat))
            go_roundg kj26
            case measure => have := HK1.out; have := HJ15.out; have := HK3.out; have := HK4.out; have := HJ26.out; omega
            case rel => exact ⟨(y174), (wrap64 (x10_3 + 1)), (by first | rfl | (simp; done) | (simp [*]; done) | (simp only [i64_w]; done) | (simp [i64_w]; done)), H', ⟨by have := HK1.out; have := HJ15.out; have := HK3.out; have := HK4.out; have := HJ26.out; omega⟩, ⟨by (with_reducible repeat (first | apply Kd.R_alloc | apply Kd.R_drewN | apply Kd.R_drew)); exact Kd.R_mono HO176.out (fun _ hk => trivial)⟩, ⟨by (with_reducible repeat (first | refine blk_drewN ?_ _ | refine blk_drew ?_ | refine blk_alloc ?_ _)); exact BK141.out⟩, ⟨by repeat (first | (with_reducible first | exact HB.out | apply below_alloc | apply pw_below_drewN | apply below_drew1 | refine below_set ?_ GE141.out) | exact HB.out)⟩⟩
 ·
  replace c8 := Bool.eq_false_iff.mpr c8
  subst c8
  have H1 : (some (([] : List (S45)), ([] : List Int), 1)) = some (r1, r2, r3) := by rw [if_neg (show ¬ (false = true) by decide)] at H; exact H
  clear H
  have H := H1
  clear H1
  simp only [Option.some.injEq, Prod.mk.injEq] at H
  obtain ⟨rfl, rfl, rfl⟩ := H
  have hcz121_0 : w7.cell? ⟨gb141, 0, none⟩ = some (.slice none 0 0) := (blk_cell BK141.out 0).trans rfl
  have hcz121_1 : w7.cell? ⟨gb141, 1, none⟩ = some (.slice none 0 0) := (blk_cell BK141.out 1).trans rfl
  have hfz121_0 := blk_frozen BK141.out 0
  have hfz121_1 := blk_frozen BK141.out 1
  go_wp2
  refine bodyPost_ret (results_ct rfl _ _ gb141 29 #[.slice none 0 0, .slice none 0 0] (0, 0) _ rfl (by (with_reducible repeat (first | refine blk_drewN ?_ _ | refine blk_drew ?_ | refine blk_alloc ?_ _)); refine blk_put (cs := #[.slice none 0 0, .slice none 0 0]) ?_ 1 _ rfl; (with_reducible repeat (first | refine blk_drewN ?_ _ | refine blk_drew ?_ | refine blk_alloc ?_ _)); refine blk_put (cs := #[.slice none 0 0, .slice none 0 0]) ?_ 0 _ rfl; (with_reducible repeat (first | refine blk_drewN ?_ _ | refine blk_drew ?_ | refine blk_alloc ?_ _)); exact BK141.out) Try.underlying29 rfl (by kernel_rfl)) rfl ?_
  exact ⟨_, _, by first | rfl | (simp [errW_none, errW_some, i64_w]; done) | (simp [errW_none, errW_some] <;> rfl) | (simp [*, errW_none, errW_some] <;> rfl), by first | exact Kd.R_nil _ _ _ _ _ | exact Kd.N_nil _ _ _ _ _ | exact Kd.V_nil _ _ _ _ _ | exact Kd.Q_nil _ _ _ _ _ | exact Kd.S_nil _ _ _ _ _, by first | exact Kd.R_nil _ _ _ _ _ | exact Kd.N_nil _ _ _ _ _ | exact Kd.V_nil _ _ _ _ _ | exact Kd.Q_nil _ _ _ _ _ | exact Kd.S_nil _ _ _ _ _, by repeat (first | (with_reducible first | exact HB.out | apply below_alloc | apply pw_below_drewN | apply below_drew1 | refine below_set ?_ GE141.out) | exact HB.out)⟩

end Go.Proofs.Ytginmioklkcgbaa.QFnExactLongestLine

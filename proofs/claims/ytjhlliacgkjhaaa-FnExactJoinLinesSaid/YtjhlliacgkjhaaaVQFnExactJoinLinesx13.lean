/- What the Go functions of this law compute, each as a Lean function, and that each call comes to that answer; written by a program of this session. No condition. -/
import Derived.Test.YtjhlliacgkjhaaaVQFnExactJoinLinesx0
import Derived.Test.YtjhlliacgkjhaaaVQFnExactJoinLinesx1
import Derived.Test.YtjhlliacgkjhaaaVQFnExactJoinLinesx5
import Derived.Test.YtjhlliacgkjhaaaVQFnExactJoinLinesx6
import Derived.Test.YtjhlliacgkjhaaaVQFnExactJoinLinesx9
import Derived.Test.YtjhlliacgkjhaaaVQFnExactJoinLinesx10
import Derived.Test.YtjhlliacgkjhaaaVQFnExactJoinLinesx11
import Derived.Test.YtjhlliacgkjhaaaVQFnExactJoinLinesx12
namespace Go.Proofs.Ytjhlliacgkjhaaa.QFnExactJoinLines
open Go.RowKit Go.Proofs.YtjhlliacgkjhaaaW.PrintWords Go.Proofs.YtjhlliacgkjhaaaW.PrintLast Go.Proofs.YtjhlliacgkjhaaaW.PrintMore
attribute [local go_sem] max2_int min2_int max_two min_two max_three min_three max_four min_four   -- for this text's walks alone
set_option linter.unusedVariables false
set_option linter.unusedSimpArgs false

/-! ### laws_FnExactJoinLines: function 4 -/
mutual
def laws_FnExactJoinLines.j0 : Nat → List (S68) → Int → Int → List (S74) → Int → Bool → List (S94) → List Int → List (S94) → List Int → List (S91) → List Int → List (S91) → List Int → List (S91) → List Int → List (S91) → List Int → Option (Bool)
 | 0, _, _, _, _, _, _, _, _, _, _, _, _, _, _, _, _, _, _ => none
 | k + 1, x0, x3, x11, x12, x16, x70, x340000, x340001, x341000, x341001, x367000, x367001, x377000, x377001, x384000, x384001, x392000, x392001 => if x70 = true then (some false) else ((laws_toJoinS.f k x0).bind fun t393 => ((laws_eqJoinS.f k x12 t393).bind fun t396 => (if t396 = true then ((laws_toLine.f k x340000 x340001).bind fun bt397 => ((laws_eqLine.f k x377000 x377001 bt397.1 bt397.2).bind fun t403 => (if t403 = true then ((laws_toLine.f k x341000 x341001).bind fun bt404 => ((laws_eqLine.f k x384000 x384001 bt404.1 bt404.2).bind fun t410 => (if t410 = true then ((laws_markJoinS.f k x12 1).bind fun bt411 => ((laws_markLine.f k x377000 x377001 bt411.1).bind fun bt413 => ((laws_markLine.f k x384000 x384001 bt413.1).bind fun bt416 => (if bt416.1 < 0 then (laws_FnExactJoinLines.j1 k x0 x3 x11 true x340000 x340001 x341000 x341001 x367000 x367001 x392000 x392001) else ((laws_eqLine.f k x392000 x392001 x367000 x367001).bind fun t419 => (if t419 = true then (laws_FnExactJoinLines.j1 k x0 x3 x11 (x16 != x11) x340000 x340001 x341000 x341001 x367000 x367001 x392000 x392001) else (laws_FnExactJoinLines.j1 k x0 x3 x11 true x340000 x340001 x341000 x341001 x367000 x367001 x392000 x392001))))))) else (some false)))) else (some false)))) else (some false))))
def laws_FnExactJoinLines.j1 : Nat → List (S68) → Int → Int → Bool → List (S94) → List Int → List (S94) → List Int → List (S91) → List Int → List (S91) → List Int → Option (Bool)
 | 0, _, _, _, _, _, _, _, _, _, _, _, _ => none
 | k + 1, x0, x3, x11, x107, x340000, x340001, x341000, x341001, x367000, x367001, x392000, x392001 => if x107 = true then (some false) else ((laws_markLine.f k x392000 x392001 1).bind fun bt420 => ((laws_heldLine.f k bt420.2.1 bt420.2.2 1).bind fun t423 => (if t423 < 0 then (some false) else (if t423 = bt420.1 then ((laws_toJoinS.f k x0).bind fun t424 => ((laws_toLine.f k x340000 x340001).bind fun bt427 => ((laws_toLine.f k x341000 x341001).bind fun bt433 => ((impl_JoinLines.f k t424 bt427.1 bt427.2 bt433.1 bt433.2 x3).bind fun bt439 => ((laws_eqLine.f k bt439.1 bt439.2.1 x367000 x367001).bind fun t447 => (if t447 = true then (laws_FnExactJoinLines.j2 k bt420.1 (bt439.2.2 != x11) bt420.2.1 bt420.2.2) else (laws_FnExactJoinLines.j2 k bt420.1 true bt420.2.1 bt420.2.2))))))) else (some false)))))
def laws_FnExactJoinLines.j2 : Nat → Int → Bool → List (S91) → List Int → Option (Bool)
 | 0, _, _, _, _ => none
 | k + 1, x18, x138, x392000, x392001 => if x138 = true then (some false) else ((laws_heldLine.f k x392000 x392001 1).bind fun t448 => (if t448 < 0 then (some false) else (if t448 = x18 then (some true) else (some false))))
end
def laws_FnExactJoinLines.f (k : Nat) (l0 : List (S68)) (l1_0 : List (S94)) (l1_1 : List Int) (l2_0 : List (S94)) (l2_1 : List Int) (a3 : Int) : Option (Bool) := (laws_szJoinS.f k l0 1048576).bind fun t341 => (if t341 < 0 then (some true) else ((laws_szLine.f l1_0 l1_1 t341).bind fun t342 => (if t342 < 0 then (some true) else ((laws_szLine.f l2_0 l2_1 t342).bind fun t343 => (if t343 < 0 then (some true) else ((laws_toJoinS.f k l0).bind fun t344 => ((laws_toLine.f k l1_0 l1_1).bind fun bt347 => ((laws_toLine.f k l2_0 l2_1).bind fun bt353 => ((spec_JoinLines.f k t344 bt347.1 bt347.2 bt353.1 bt353.2 a3).bind fun bt359 => ((laws_toJoinS.f k l0).bind fun t367 => ((laws_toLine.f k l1_0 l1_1).bind fun bt370 => ((laws_toLine.f k l2_0 l2_1).bind fun bt377 => ((impl_JoinLines.f k t367 bt370.1 bt370.2 bt377.1 bt377.2 a3).bind fun bt384 => ((laws_eqLine.f k bt384.1 bt384.2.1 bt359.1 bt359.2.1).bind fun t392 => (if t392 = true then (laws_FnExactJoinLines.j0 k l0 a3 bt359.2.2 t367 bt384.2.2 (bt384.2.2 != bt359.2.2) l1_0 l1_1 l2_0 l2_1 bt359.1 bt359.2.1 bt370.1 bt370.2 bt377.1 bt377.2 bt384.1 bt384.2.1) else (laws_FnExactJoinLines.j0 k l0 a3 bt359.2.2 t367 bt384.2.2 true l1_0 l1_1 l2_0 l2_1 bt359.1 bt359.2.1 bt370.1 bt370.2 bt377.1 bt377.2 bt384.1 bt384.2.1))))))))))))))))
theorem laws_FnExactJoinLines.mono_l : ∀ k, (∀ y0 y1 y2 y3 y4 y5 y6 y7 y8 y9 y10 y11 y12 y13 y14 y15 y16 y17, LeO (laws_FnExactJoinLines.j0 k y0 y1 y2 y3 y4 y5 y6 y7 y8 y9 y10 y11 y12 y13 y14 y15 y16 y17) (laws_FnExactJoinLines.j0 (k + 1) y0 y1 y2 y3 y4 y5 y6 y7 y8 y9 y10 y11 y12 y13 y14 y15 y16 y17)) ∧ (∀ y0 y1 y2 y3 y4 y5 y6 y7 y8 y9 y10 y11, LeO (laws_FnExactJoinLines.j1 k y0 y1 y2 y3 y4 y5 y6 y7 y8 y9 y10 y11) (laws_FnExactJoinLines.j1 (k + 1) y0 y1 y2 y3 y4 y5 y6 y7 y8 y9 y10 y11)) ∧ (∀ y0 y1 y2 y3, LeO (laws_FnExactJoinLines.j2 k y0 y1 y2 y3) (laws_FnExactJoinLines.j2 (k + 1) y0 y1 y2 y3))
 | 0 => ⟨fun _ _ _ _ _ _ _ _ _ _ _ _ _ _ _ _ _ _ r h => by simp [laws_FnExactJoinLines.j0] at h, fun _ _ _ _ _ _ _ _ _ _ _ _ r h => by simp [laws_FnExactJoinLines.j1] at h, fun _ _ _ _ r h => by simp [laws_FnExactJoinLines.j2] at h⟩
 | k + 1 => by
  obtain ⟨ih0, ih1, ih2⟩ := laws_FnExactJoinLines.mono_l k
  refine ⟨?_, ?_, ?_⟩
  ·
   intro y0 y1 y2 y3 y4 y5 y6 y7 y8 y9 y10 y11 y12 y13 y14 y15 y16 y17
   unfold laws_FnExactJoinLines.j0
   repeat' first
   | (with_reducible exact ih0 _ _ _ _ _ _ _ _ _ _ _ _ _ _ _ _ _ _)
   | (with_reducible exact ih1 _ _ _ _ _ _ _ _ _ _ _ _)
   | (with_reducible exact ih2 _ _ _ _)
   | (with_reducible exact impl_JoinLines.mono _ _ _ _ _ _ _)
   | (with_reducible exact laws_eqJoinS.mono _ _ _)
   | (with_reducible exact laws_eqLine.mono _ _ _ _ _)
   | (with_reducible exact laws_heldLine.mono _ _ _ _)
   | (with_reducible exact laws_markJoinS.mono _ _ _)
   | (with_reducible exact laws_markLine.mono _ _ _ _)
   | (with_reducible exact laws_szJoinS.mono _ _ _)
   | (with_reducible exact laws_toJoinS.mono _ _)
   | (with_reducible exact laws_toLine.mono _ _ _)
   | (with_reducible exact spec_JoinLines.mono _ _ _ _ _ _ _)
   | (with_reducible exact LeO.refl _)
   | (with_reducible exact LeO.none _)
   | (with_reducible refine LeO.ite ?_ ?_)
   | (with_reducible refine LeO.bind ?_ (fun _ => ?_))
   | exact ih0 _ _ _ _ _ _ _ _ _ _ _ _ _ _ _ _ _ _
   | exact ih1 _ _ _ _ _ _ _ _ _ _ _ _
   | exact ih2 _ _ _ _
   | exact impl_JoinLines.mono _ _ _ _ _ _ _
   | exact laws_eqJoinS.mono _ _ _
   | exact laws_eqLine.mono _ _ _ _ _
   | exact laws_heldLine.mono _ _ _ _
   | exact laws_markJoinS.mono _ _ _
   | exact laws_markLine.mono _ _ _ _
   | exact laws_szJoinS.mono _ _ _
   | exact laws_toJoinS.mono _ _
   | exact laws_toLine.mono _ _ _
   | exact spec_JoinLines.mono _ _ _ _ _ _ _
   | exact LeO.none _
   | refine LeO.ite ?_ ?_
   | refine LeO.bind ?_ (fun _ => ?_)
  ·
   intro y0 y1 y2 y3 y4 y5 y6 y7 y8 y9 y10 y11
   unfold laws_FnExactJoinLines.j1
   repeat' first
   | (with_reducible exact ih0 _ _ _ _ _ _ _ _ _ _ _ _ _ _ _ _ _ _)
   | (with_reducible exact ih1 _ _ _ _ _ _ _ _ _ _ _ _)
   | (with_reducible exact ih2 _ _ _ _)
   | (with_reducible exact impl_JoinLines.mono _ _ _ _ _ _ _)
   | (with_reducible exact laws_eqJoinS.mono _ _ _)
   | (with_reducible exact laws_eqLine.mono _ _ _ _ _)
   | (with_reducible exact laws_heldLine.mono _ _ _ _)
   | (with_reducible exact laws_markJoinS.mono _ _ _)
   | (with_reducible exact laws_markLine.mono _ _ _ _)
   | (with_reducible exact laws_szJoinS.mono _ _ _)
   | (with_reducible exact laws_toJoinS.mono _ _)
   | (with_reducible exact laws_toLine.mono _ _ _)
   | (with_reducible exact spec_JoinLines.mono _ _ _ _ _ _ _)
   | (with_reducible exact LeO.refl _)
   | (with_reducible exact LeO.none _)
   | (with_reducible refine LeO.ite ?_ ?_)
   | (with_reducible refine LeO.bind ?_ (fun _ => ?_))
   | exact ih0 _ _ _ _ _ _ _ _ _ _ _ _ _ _ _ _ _ _
   | exact ih1 _ _ _ _ _ _ _ _ _ _ _ _
   | exact ih2 _ _ _ _
   | exact impl_JoinLines.mono _ _ _ _ _ _ _
   | exact laws_eqJoinS.mono _ _ _
   | exact laws_eqLine.mono _ _ _ _ _
   | exact laws_heldLine.mono _ _ _ _
   | exact laws_markJoinS.mono _ _ _
   | exact laws_markLine.mono _ _ _ _
   | exact laws_szJoinS.mono _ _ _
   | exact laws_toJoinS.mono _ _
   | exact laws_toLine.mono _ _ _
   | exact spec_JoinLines.mono _ _ _ _ _ _ _
   | exact LeO.none _
   | refine LeO.ite ?_ ?_
   | refine LeO.bind ?_ (fun _ => ?_)
  ·
   intro y0 y1 y2 y3
   unfold laws_FnExactJoinLines.j2
   repeat' first
   | (with_reducible exact ih0 _ _ _ _ _ _ _ _ _ _ _ _ _ _ _ _ _ _)
   | (with_reducible exact ih1 _ _ _ _ _ _ _ _ _ _ _ _)
   | (with_reducible exact ih2 _ _ _ _)
   | (with_reducible exact impl_JoinLines.mono _ _ _ _ _ _ _)
   | (with_reducible exact laws_eqJoinS.mono _ _ _)
   | (with_reducible exact laws_eqLine.mono _ _ _ _ _)
   | (with_reducible exact laws_heldLine.mono _ _ _ _)
   | (with_reducible exact laws_markJoinS.mono _ _ _)
   | (with_reducible exact laws_markLine.mono _ _ _ _)
   | (with_reducible exact laws_szJoinS.mono _ _ _)
   | (with_reducible exact laws_toJoinS.mono _ _)
   | (with_reducible exact laws_toLine.mono _ _ _)
   | (with_reducible exact spec_JoinLines.mono _ _ _ _ _ _ _)
   | (with_reducible exact LeO.refl _)
   | (with_reducible exact LeO.none _)
   | (with_reducible refine LeO.ite ?_ ?_)
   | (with_reducible refine LeO.bind ?_ (fun _ => ?_))
   | exact ih0 _ _ _ _ _ _ _ _ _ _ _ _ _ _ _ _ _ _
   | exact ih1 _ _ _ _ _ _ _ _ _ _ _ _
   | exact ih2 _ _ _ _
   | exact impl_JoinLines.mono _ _ _ _ _ _ _
   | exact laws_eqJoinS.mono _ _ _
   | exact laws_eqLine.mono _ _ _ _ _
   | exact laws_heldLine.mono _ _ _ _
   | exact laws_markJoinS.mono _ _ _
   | exact laws_markLine.mono _ _ _ _
   | exact laws_szJoinS.mono _ _ _
   | exact laws_toJoinS.mono _ _
   | exact laws_toLine.mono _ _ _
   | exact spec_JoinLines.mono _ _ _ _ _ _ _
   | exact LeO.none _
   | refine LeO.ite ?_ ?_
   | refine LeO.bind ?_ (fun _ => ?_)
theorem laws_FnExactJoinLines.mono : ∀ a0 a1 a2 a3 a4 a5 k, LeO (laws_FnExactJoinLines.f k a0 a1 a2 a3 a4 a5) (laws_FnExactJoinLines.f (k + 1) a0 a1 a2 a3 a4 a5) := by
 intro a0 a1 a2 a3 a4 a5 k
 obtain ⟨ih0, ih1, ih2⟩ := laws_FnExactJoinLines.mono_l k
 unfold laws_FnExactJoinLines.f
 repeat' first
   | (with_reducible exact ih0 _ _ _ _ _ _ _ _ _ _ _ _ _ _ _ _ _ _)
   | (with_reducible exact ih1 _ _ _ _ _ _ _ _ _ _ _ _)
   | (with_reducible exact ih2 _ _ _ _)
   | (with_reducible exact impl_JoinLines.mono _ _ _ _ _ _ _)
   | (with_reducible exact laws_eqJoinS.mono _ _ _)
   | (with_reducible exact laws_eqLine.mono _ _ _ _ _)
   | (with_reducible exact laws_heldLine.mono _ _ _ _)
   | (with_reducible exact laws_markJoinS.mono _ _ _)
   | (with_reducible exact laws_markLine.mono _ _ _ _)
   | (with_reducible exact laws_szJoinS.mono _ _ _)
   | (with_reducible exact laws_toJoinS.mono _ _)
   | (with_reducible exact laws_toLine.mono _ _ _)
   | (with_reducible exact spec_JoinLines.mono _ _ _ _ _ _ _)
   | (with_reducible exact LeO.refl _)
   | (with_reducible exact LeO.none _)
   | (with_reducible refine LeO.ite ?_ ?_)
   | (with_reducible refine LeO.bind ?_ (fun _ => ?_))
   | exact ih0 _ _ _ _ _ _ _ _ _ _ _ _ _ _ _ _ _ _
   | exact ih1 _ _ _ _ _ _ _ _ _ _ _ _
   | exact ih2 _ _ _ _
   | exact impl_JoinLines.mono _ _ _ _ _ _ _
   | exact laws_eqJoinS.mono _ _ _
   | exact laws_eqLine.mono _ _ _ _ _
   | exact laws_heldLine.mono _ _ _ _
   | exact laws_markJoinS.mono _ _ _
   | exact laws_markLine.mono _ _ _ _
   | exact laws_szJoinS.mono _ _ _
   | exact laws_toJoinS.mono _ _
   | exact laws_toLine.mono _ _ _
   | exact spec_JoinLines.mono _ _ _ _ _ _ _
   | exact LeO.none _
   | refine LeO.ite ?_ ?_
   | refine LeO.bind ?_ (fun _ => ?_)
end Go.Proofs.Ytjhlliacgkjhaaa.QFnExactJoinLines

/- What the Go functions of this law compute, each as a Lean function, and that each call comes to that answer; written by a program of this session. No condition. -/
import Derived.Test.YtmokjfncblnfcaaVQFnExactSharedForcesx0
import Derived.Test.YtmokjfncblnfcaaVQFnExactSharedForcesx1
import Derived.Test.YtmokjfncblnfcaaVQFnExactSharedForcesx4
import Derived.Test.YtmokjfncblnfcaaVQFnExactSharedForcesx9
namespace Go.Proofs.Ytmokjfncblnfcaa.QFnExactSharedForces
open Go.RowKit Go.Proofs.YtmokjfncblnfcaaW.PrintWords Go.Proofs.YtmokjfncblnfcaaW.PrintLast Go.Proofs.YtmokjfncblnfcaaW.PrintMore
attribute [local go_sem] max2_int min2_int max_two min_two max_three min_three max_four min_four   -- for this text's walks alone
set_option linter.unusedVariables false
set_option linter.unusedSimpArgs false

/-! ### laws_heldFractionS: function 41 -/
def laws_heldFractionS.l0 : Nat → List (S25) → Int → Int → Option (Int)
 | 0, _, _, _ => none
 | k + 1, x0, x1, x5 => if x5 < (x0.length : Int) then (if 0 ≤ x5 then (if ((rd_T25 x0 x5).f0) = x1 then (if ((rd_T25 x0 x5).f1) = (wrap64 (x1 + 1)) then (laws_heldFractionS.l0 k x0 (wrap64 ((wrap64 (x1 + 1)) + 1)) (wrap64 (x5 + 1))) else (some (-1))) else (some (-1))) else (none)) else (some x1)
def laws_heldFractionS.f (k : Nat) (l0 : List (S25)) (a1 : Int) : Option (Int) := laws_heldFractionS.l0 k l0 a1 0
theorem laws_heldFractionS.mono_l : ∀ k, (∀ y0 y1 y2, LeO (laws_heldFractionS.l0 k y0 y1 y2) (laws_heldFractionS.l0 (k + 1) y0 y1 y2))
 | 0 => fun _ _ _ r h => by simp [laws_heldFractionS.l0] at h
 | k + 1 => by
  have ih0 := laws_heldFractionS.mono_l k
  ·
   intro y0 y1 y2
   unfold laws_heldFractionS.l0
   repeat' first
   | (with_reducible exact ih0 _ _ _)
   | (with_reducible exact LeO.refl _)
   | (with_reducible exact LeO.none _)
   | (with_reducible refine LeO.ite ?_ ?_)
   | (with_reducible refine LeO.bind ?_ (fun _ => ?_))
   | exact ih0 _ _ _
   | exact LeO.none _
   | refine LeO.ite ?_ ?_
   | refine LeO.bind ?_ (fun _ => ?_)
theorem laws_heldFractionS.mono : ∀ a0 a1 k, LeO (laws_heldFractionS.f k a0 a1) (laws_heldFractionS.f (k + 1) a0 a1) := by
 intro a0 a1 k
 have ih0 := laws_heldFractionS.mono_l k
 unfold laws_heldFractionS.f
 repeat' first
   | (with_reducible exact ih0 _ _ _)
   | (with_reducible exact LeO.refl _)
   | (with_reducible exact LeO.none _)
   | (with_reducible refine LeO.ite ?_ ?_)
   | (with_reducible refine LeO.bind ?_ (fun _ => ?_))
   | exact ih0 _ _ _
   | exact LeO.none _
   | refine LeO.ite ?_ ?_
   | refine LeO.bind ?_ (fun _ => ?_)
set_option maxHeartbeats 8000000 in
set_option maxRecDepth 100000 in
theorem laws_heldFractionS.calls (k : Nat) (A0 : Option Addr) (c0 : Nat) (l0 : List (S25)) (a1 : Int) (r : Int) (w : World) (hr0 : Kd.C k25 w A0 l0.length l0) (hc0 : l0.length ≤ c0) (h : laws_heldFractionS.f k l0 a1 = some r) :
  Calls Try.prog 41 #[.slice A0 l0.length c0, .int .i64 a1] w fun e w' => e = .returned (.int .i64 r) ∧ Drawn0 w w' := by
 have HR0 := aS hr0
 have HC0 := aS hc0
 clear hr0 hc0
 have H : (laws_heldFractionS.l0 k l0 a1 0) = some r := h
 clear h
 have H' := aS H
 clear H
 go_enter Try.func41, Try.ntmps41
 go_wp2
 go_loopg [1, 5] k (fun kq v1 v5 w' => ∃ (x1_1 : Int) (x5_1 : Int), v1 = .int .i64 x1_1 ∧ v5 = .int .i64 x5_1 ∧ Aside0 (laws_heldFractionS.l0 kq l0 x1_1 x5_1 = some r) ∧ Aside0 (kq ≤ k) ∧ Drawn0 w w')
 case atStart => exact ⟨(a1), (0), (by first | rfl | (simp; done) | (simp [*]; done) | (simp only [i64_w]; done) | (simp [i64_w]; done)), (by first | rfl | (simp; done) | (simp [*]; done) | (simp only [i64_w]; done) | (simp [i64_w]; done)), H', ⟨Nat.le_refl _⟩, by repeat (first | exact Drawn0.refl _ | apply Drawn0.step)⟩
 case round =>
  clear H'
  (try clear p2)
  obtain ⟨x1_1, x5_1, rfl, rfl, HA, HK1, ⟨m1, rfl⟩⟩ := hrel
  cases gk with
  | zero => exact absurd HA.out (by simp [laws_heldFractionS.l0])
  | succ k1 =>
   have H := HA.out
   clear HA
   simp only [laws_heldFractionS.l0] at H
   by_cases c3 : x5_1 < (l0.length : Int)
   ·
    rw [if_pos c3] at H
    have c3b0 : decide (x5_1 < (l0.length : Int)) = true := decide_eq_true c3
    clear c3
    by_cases c4 : 0 ≤ x5_1
    ·
     rw [if_pos c4] at H
     have c4b0 : decide (0 ≤ x5_1) = true := decide_eq_true c4
     clear c4
     by_cases c5 : ((rd_T25 l0 x5_1).f0) = x1_1
     ·
      rw [if_pos c5] at H
      have c5b0 : (((rd_T25 l0 x5_1).f0) == x1_1) = true := beq_iff_eq.mpr c5
      have c5b1 : (((rd_T25 l0 x5_1).f0) != x1_1) = false := bne_eq_false_iff_eq.mpr c5
      clear c5
      by_cases c6 : ((rd_T25 l0 x5_1).f1) = (wrap64 (x1_1 + 1))
      ·
       rw [if_pos c6] at H
       have c6b0 : (((rd_T25 l0 x5_1).f1) == (wrap64 (x1_1 + 1))) = true := beq_iff_eq.mpr c6
       have c6b1 : (((rd_T25 l0 x5_1).f1) != (wrap64 (x1_1 + 1))) = false := bne_eq_false_iff_eq.mpr c6
       clear c6
       have H' := aS H
       clear H
       have p293 : 0 ≤ (x5_1 : Int) := of_decide_eq_true (by first | (with_reducible assumption) | assumption)
       have q293 : x5_1 < (l0.length : Int) := of_decide_eq_true (by first | (with_reducible assumption) | assumption)
       obtain ⟨ad293, e293, hx293_0, hx293_1⟩ := at_T25 HR0.out x5_1 p293 q293
       cases e293
       replace p293 := eq_true p293
       replace q293 := eq_true q293
       have p294 : 0 ≤ (x5_1 : Int) := of_decide_eq_true (by first | (with_reducible assumption) | assumption)
       have q294 : x5_1 < (l0.length : Int) := of_decide_eq_true (by first | (with_reducible assumption) | assumption)
       obtain ⟨ad294, e294, hx294_0, hx294_1⟩ := at_T25 HR0.out x5_1 p294 q294
       obtain rfl : ad293 = ad294 := (by injection e294)
       replace p294 := eq_true p294
       replace q294 := eq_true q294
       go_wp2
       go_roundg k1
       case measure => have := HK1.out; omega
       case rel => exact ⟨(wrap64 ((wrap64 (x1_1 + 1)) + 1)), (wrap64 (x5_1 + 1)), (by first | rfl | (simp; done) | (simp [*]; done) | (simp only [i64_w]; done) | (simp [i64_w]; done)), (by first | rfl | (simp; done) | (simp [*]; done) | (simp only [i64_w]; done) | (simp [i64_w]; done)), H', ⟨by have := HK1.out; omega⟩, by repeat (first | exact Drawn0.refl _ | apply Drawn0.step)⟩
      ·
       rw [if_neg c6] at H
       have c6b0 : (((rd_T25 l0 x5_1).f1) == (wrap64 (x1_1 + 1))) = false := beq_eq_false_iff_ne.mpr c6
       have c6b1 : (((rd_T25 l0 x5_1).f1) != (wrap64 (x1_1 + 1))) = true := bne_iff_ne.mpr c6
       obtain rfl := Option.some.inj H
       have p293 : 0 ≤ (x5_1 : Int) := of_decide_eq_true (by first | (with_reducible assumption) | assumption)
       have q293 : x5_1 < (l0.length : Int) := of_decide_eq_true (by first | (with_reducible assumption) | assumption)
       obtain ⟨ad293, e293, hx293_0, hx293_1⟩ := at_T25 HR0.out x5_1 p293 q293
       cases e293
       replace p293 := eq_true p293
       replace q293 := eq_true q293
       have p294 : 0 ≤ (x5_1 : Int) := of_decide_eq_true (by first | (with_reducible assumption) | assumption)
       have q294 : x5_1 < (l0.length : Int) := of_decide_eq_true (by first | (with_reducible assumption) | assumption)
       obtain ⟨ad294, e294, hx294_0, hx294_1⟩ := at_T25 HR0.out x5_1 p294 q294
       obtain rfl : ad293 = ad294 := (by injection e294)
       replace p294 := eq_true p294
       replace q294 := eq_true q294
       go_wp2
       go_ret
       exact ⟨by first | rfl | (simp; done) | (simp [*]; done) | (simp only [i64_w]; done) | (simp [i64_w]; done), by repeat (first | exact Drawn0.refl _ | apply Drawn0.step)⟩
     ·
      rw [if_neg c5] at H
      have c5b0 : (((rd_T25 l0 x5_1).f0) == x1_1) = false := beq_eq_false_iff_ne.mpr c5
      have c5b1 : (((rd_T25 l0 x5_1).f0) != x1_1) = true := bne_iff_ne.mpr c5
      obtain rfl := Option.some.inj H
      have p293 : 0 ≤ (x5_1 : Int) := of_decide_eq_true (by first | (with_reducible assumption) | assumption)
      have q293 : x5_1 < (l0.length : Int) := of_decide_eq_true (by first | (with_reducible assumption) | assumption)
      obtain ⟨ad293, e293, hx293_0, hx293_1⟩ := at_T25 HR0.out x5_1 p293 q293
      cases e293
      replace p293 := eq_true p293
      replace q293 := eq_true q293
      go_wp2
      go_ret
      exact ⟨by first | rfl | (simp; done) | (simp [*]; done) | (simp only [i64_w]; done) | (simp [i64_w]; done), by repeat (first | exact Drawn0.refl _ | apply Drawn0.step)⟩
    ·
     rw [if_neg c4] at H
     exact absurd H (by simp)
   ·
    rw [if_neg c3] at H
    have c3b0 : decide (x5_1 < (l0.length : Int)) = false := decide_eq_false c3
    clear c3
    obtain rfl := Option.some.inj H
    go_wp2
    go_ret
    exact ⟨by first | rfl | (simp; done) | (simp [*]; done) | (simp only [i64_w]; done) | (simp [i64_w]; done), by repeat (first | exact Drawn0.refl _ | apply Drawn0.step)⟩

/-! ### laws_FnExactSharedForces: function 10 -/
mutual
def laws_FnExactSharedForces.j0 : Nat → List (S23) → Int → List (S25) → Int → List (S28) → List (S25) → Int → Bool → Option (Bool)
 | 0, _, _, _, _, _, _, _, _ => none
 | k + 1, x0, x1, x6, x7, x8, x9, x10, x44 => if x44 = true then (some false) else ((laws_toSpringS.f k x0).bind fun t311 => ((laws_eqSpringS.f k x8 t311).bind fun t314 => (if t314 = true then ((laws_markSpringS.f k x8 1).bind fun bt315 => (if bt315.1 < 0 then (laws_FnExactSharedForces.j1 k x0 x1 x6 x7 x9 true) else ((laws_eqFractionS.f k x9 x6).bind fun t317 => (if t317 = true then (laws_FnExactSharedForces.j1 k x0 x1 x6 x7 x9 (x10 != x7)) else (laws_FnExactSharedForces.j1 k x0 x1 x6 x7 x9 true))))) else (some false))))
def laws_FnExactSharedForces.j1 : Nat → List (S23) → Int → List (S25) → Int → List (S25) → Bool → Option (Bool)
 | 0, _, _, _, _, _, _ => none
 | k + 1, x0, x1, x6, x7, x9, x65 => if x65 = true then (some false) else ((laws_markFractionS.f k x9 1).bind fun bt318 => ((laws_heldFractionS.f k bt318.2 1).bind fun t320 => (if t320 < 0 then (some false) else (if t320 = bt318.1 then ((laws_toSpringS.f k x0).bind fun t321 => ((impl_SharedForces.f k t321 x1).bind fun bt324 => ((laws_eqFractionS.f k bt324.1 x6).bind fun t328 => (if t328 = true then (laws_FnExactSharedForces.j2 k bt318.2 bt318.1 (bt324.2 != x7)) else (laws_FnExactSharedForces.j2 k bt318.2 bt318.1 true))))) else (some false)))))
def laws_FnExactSharedForces.j2 : Nat → List (S25) → Int → Bool → Option (Bool)
 | 0, _, _, _ => none
 | k + 1, x9, x12, x92 => if x92 = true then (some false) else ((laws_heldFractionS.f k x9 1).bind fun t329 => (if t329 < 0 then (some false) else (if t329 = x12 then (some true) else (some false))))
end
def laws_FnExactSharedForces.f (k : Nat) (l0 : List (S23)) (a1 : Int) : Option (Bool) := (laws_szSpringS.f l0 1048576).bind fun t295 => (if t295 < 0 then (some true) else ((laws_toSpringS.f k l0).bind fun t296 => ((spec_SharedForces.f k t296 a1).bind fun bt299 => ((laws_toSpringS.f k l0).bind fun t303 => ((impl_SharedForces.f k t303 a1).bind fun bt306 => ((laws_eqFractionS.f k bt306.1 bt299.1).bind fun t310 => (if t310 = true then (laws_FnExactSharedForces.j0 k l0 a1 bt299.1 bt299.2 t303 bt306.1 bt306.2 (bt306.2 != bt299.2)) else (laws_FnExactSharedForces.j0 k l0 a1 bt299.1 bt299.2 t303 bt306.1 bt306.2 true))))))))
theorem laws_FnExactSharedForces.mono_l : ∀ k, (∀ y0 y1 y2 y3 y4 y5 y6 y7, LeO (laws_FnExactSharedForces.j0 k y0 y1 y2 y3 y4 y5 y6 y7) (laws_FnExactSharedForces.j0 (k + 1) y0 y1 y2 y3 y4 y5 y6 y7)) ∧ (∀ y0 y1 y2 y3 y4 y5, LeO (laws_FnExactSharedForces.j1 k y0 y1 y2 y3 y4 y5) (laws_FnExactSharedForces.j1 (k + 1) y0 y1 y2 y3 y4 y5)) ∧ (∀ y0 y1 y2, LeO (laws_FnExactSharedForces.j2 k y0 y1 y2) (laws_FnExactSharedForces.j2 (k + 1) y0 y1 y2))
 | 0 => ⟨fun _ _ _ _ _ _ _ _ r h => by simp [laws_FnExactSharedForces.j0] at h, fun _ _ _ _ _ _ r h => by simp [laws_FnExactSharedForces.j1] at h, fun _ _ _ r h => by simp [laws_FnExactSharedForces.j2] at h⟩
 | k + 1 => by
  obtain ⟨ih0, ih1, ih2⟩ := laws_FnExactSharedForces.mono_l k
  refine ⟨?_, ?_, ?_⟩
  ·
   intro y0 y1 y2 y3 y4 y5 y6 y7
   unfold laws_FnExactSharedForces.j0
   repeat' first
   | (with_reducible exact ih0 _ _ _ _ _ _ _ _)
   | (with_reducible exact ih1 _ _ _ _ _ _)
   | (with_reducible exact ih2 _ _ _)
   | (with_reducible exact impl_SharedForces.mono _ _ _)
   | (with_reducible exact laws_eqFractionS.mono _ _ _)
   | (with_reducible exact laws_eqSpringS.mono _ _ _)
   | (with_reducible exact laws_heldFractionS.mono _ _ _)
   | (with_reducible exact laws_markFractionS.mono _ _ _)
   | (with_reducible exact laws_markSpringS.mono _ _ _)
   | (with_reducible exact laws_toSpringS.mono _ _)
   | (with_reducible exact spec_SharedForces.mono _ _ _)
   | (with_reducible exact LeO.refl _)
   | (with_reducible exact LeO.none _)
   | (with_reducible refine LeO.ite ?_ ?_)
   | (with_reducible refine LeO.bind ?_ (fun _ => ?_))
   | exact ih0 _ _ _ _ _ _ _ _
   | exact ih1 _ _ _ _ _ _
   | exact ih2 _ _ _
   | exact impl_SharedForces.mono _ _ _
   | exact laws_eqFractionS.mono _ _ _
   | exact laws_eqSpringS.mono _ _ _
   | exact laws_heldFractionS.mono _ _ _
   | exact laws_markFractionS.mono _ _ _
   | exact laws_markSpringS.mono _ _ _
   | exact laws_toSpringS.mono _ _
   | exact spec_SharedForces.mono _ _ _
   | exact LeO.none _
   | refine LeO.ite ?_ ?_
   | refine LeO.bind ?_ (fun _ => ?_)
  ·
   intro y0 y1 y2 y3 y4 y5
   unfold laws_FnExactSharedForces.j1
   repeat' first
   | (with_reducible exact ih0 _ _ _ _ _ _ _ _)
   | (with_reducible exact ih1 _ _ _ _ _ _)
   | (with_reducible exact ih2 _ _ _)
   | (with_reducible exact impl_SharedForces.mono _ _ _)
   | (with_reducible exact laws_eqFractionS.mono _ _ _)
   | (with_reducible exact laws_eqSpringS.mono _ _ _)
   | (with_reducible exact laws_heldFractionS.mono _ _ _)
   | (with_reducible exact laws_markFractionS.mono _ _ _)
   | (with_reducible exact laws_markSpringS.mono _ _ _)
   | (with_reducible exact laws_toSpringS.mono _ _)
   | (with_reducible exact spec_SharedForces.mono _ _ _)
   | (with_reducible exact LeO.refl _)
   | (with_reducible exact LeO.none _)
   | (with_reducible refine LeO.ite ?_ ?_)
   | (with_reducible refine LeO.bind ?_ (fun _ => ?_))
   | exact ih0 _ _ _ _ _ _ _ _
   | exact ih1 _ _ _ _ _ _
   | exact ih2 _ _ _
   | exact impl_SharedForces.mono _ _ _
   | exact laws_eqFractionS.mono _ _ _
   | exact laws_eqSpringS.mono _ _ _
   | exact laws_heldFractionS.mono _ _ _
   | exact laws_markFractionS.mono _ _ _
   | exact laws_markSpringS.mono _ _ _
   | exact laws_toSpringS.mono _ _
   | exact spec_SharedForces.mono _ _ _
   | exact LeO.none _
   | refine LeO.ite ?_ ?_
   | refine LeO.bind ?_ (fun _ => ?_)
  ·
   intro y0 y1 y2
   unfold laws_FnExactSharedForces.j2
   repeat' first
   | (with_reducible exact ih0 _ _ _ _ _ _ _ _)
   | (with_reducible exact ih1 _ _ _ _ _ _)
   | (with_reducible exact ih2 _ _ _)
   | (with_reducible exact impl_SharedForces.mono _ _ _)
   | (with_reducible exact laws_eqFractionS.mono _ _ _)
   | (with_reducible exact laws_eqSpringS.mono _ _ _)
   | (with_reducible exact laws_heldFractionS.mono _ _ _)
   | (with_reducible exact laws_markFractionS.mono _ _ _)
   | (with_reducible exact laws_markSpringS.mono _ _ _)
   | (with_reducible exact laws_toSpringS.mono _ _)
   | (with_reducible exact spec_SharedForces.mono _ _ _)
   | (with_reducible exact LeO.refl _)
   | (with_reducible exact LeO.none _)
   | (with_reducible refine LeO.ite ?_ ?_)
   | (with_reducible refine LeO.bind ?_ (fun _ => ?_))
   | exact ih0 _ _ _ _ _ _ _ _
   | exact ih1 _ _ _ _ _ _
   | exact ih2 _ _ _
   | exact impl_SharedForces.mono _ _ _
   | exact laws_eqFractionS.mono _ _ _
   | exact laws_eqSpringS.mono _ _ _
   | exact laws_heldFractionS.mono _ _ _
   | exact laws_markFractionS.mono _ _ _
   | exact laws_markSpringS.mono _ _ _
   | exact laws_toSpringS.mono _ _
   | exact spec_SharedForces.mono _ _ _
   | exact LeO.none _
   | refine LeO.ite ?_ ?_
   | refine LeO.bind ?_ (fun _ => ?_)
theorem laws_FnExactSharedForces.mono : ∀ a0 a1 k, LeO (laws_FnExactSharedForces.f k a0 a1) (laws_FnExactSharedForces.f (k + 1) a0 a1) := by
 intro a0 a1 k
 obtain ⟨ih0, ih1, ih2⟩ := laws_FnExactSharedForces.mono_l k
 unfold laws_FnExactSharedForces.f
 repeat' first
   | (with_reducible exact ih0 _ _ _ _ _ _ _ _)
   | (with_reducible exact ih1 _ _ _ _ _ _)
   | (with_reducible exact ih2 _ _ _)
   | (with_reducible exact impl_SharedForces.mono _ _ _)
   | (with_reducible exact laws_eqFractionS.mono _ _ _)
   | (with_reducible exact laws_eqSpringS.mono _ _ _)
   | (with_reducible exact laws_heldFractionS.mono _ _ _)
   | (with_reducible exact laws_markFractionS.mono _ _ _)
   | (with_reducible exact laws_markSpringS.mono _ _ _)
   | (with_reducible exact laws_toSpringS.mono _ _)
   | (with_reducible exact spec_SharedForces.mono _ _ _)
   | (with_reducible exact LeO.refl _)
   | (with_reducible exact LeO.none _)
   | (with_reducible refine LeO.ite ?_ ?_)
   | (with_reducible refine LeO.bind ?_ (fun _ => ?_))
   | exact ih0 _ _ _ _ _ _ _ _
   | exact ih1 _ _ _ _ _ _
   | exact ih2 _ _ _
   | exact impl_SharedForces.mono _ _ _
   | exact laws_eqFractionS.mono _ _ _
   | exact laws_eqSpringS.mono _ _ _
   | exact laws_heldFractionS.mono _ _ _
   | exact laws_markFractionS.mono _ _ _
   | exact laws_markSpringS.mono _ _ _
   | exact laws_toSpringS.mono _ _
   | exact spec_SharedForces.mono _ _ _
   | exact LeO.none _
   | refine LeO.ite ?_ ?_
   | refine LeO.bind ?_ (fun _ => ?_)
set_option maxHeartbeats 8000000 in
set_option maxRecDepth 100000 in
theorem laws_FnExactSharedForces.calls (k : Nat) (A0 : Option Addr) (c0 : Nat) (l0 : List (S23)) (a1 : Int) (r : Bool) (w : World) (hr0 : Kd.C k23 w A0 l0.length l0) (hc0 : l0.length ≤ c0) (h : laws_FnExactSharedForces.f k l0 a1 = some r) :
  Calls Try.prog 10 #[.slice A0 l0.length c0, .int .i64 a1] w fun e w' => e = .returned (.bool r) ∧ Below w.heap.size w w' := by
 have HR0 := aS hr0
 have HC0 := aS hc0
 clear hr0 hc0
 have HB := aS (Below.refl w.heap.size w)
 have H : ((laws_szSpringS.f l0 1048576).bind fun t295 => (if t295 < 0 then (some true) else ((laws_toSpringS.f k l0).bind fun t296 => ((spec_SharedForces.f k t296 a1).bind fun bt299 => ((laws_toSpringS.f k l0).bind fun t303 => ((impl_SharedForces.f k t303 a1).bind fun bt306 => ((laws_eqFractionS.f k bt306.1 bt299.1).bind fun t310 => (if t310 = true then (laws_FnExactSharedForces.j0 k l0 a1 bt299.1 bt299.2 t303 bt306.1 bt306.2 (bt306.2 != bt299.2)) else (laws_FnExactSharedForces.j0 k l0 a1 bt299.1 bt299.2 t303 bt306.1 bt306.2 true))))))))) = some r := h
 clear h
 replace H := Option.bind_eq_some_iff.mp H
 obtain ⟨t295, A30, H⟩ := H
 replace H : (if t295 < 0 then (some true) else ((laws_toSpringS.f k l0).bind fun t296 => ((spec_SharedForces.f k t296 a1).bind fun bt299 => ((laws_toSpringS.f k l0).bind fun t303 => ((impl_SharedForces.f k t303 a1).bind fun bt306 => ((laws_eqFractionS.f k bt306.1 bt299.1).bind fun t310 => (if t310 = true then (laws_FnExactSharedForces.j0 k l0 a1 bt299.1 bt299.2 t303 bt306.1 bt306.2 (bt306.2 != bt299.2)) else (laws_FnExactSharedForces.j0 k l0 a1 bt299.1 bt299.2 t303 bt306.1 bt306.2 true)))))))) = some r := H
 have A3 := aS A30
 clear A30
 have HC4 := aS H
 clear H
 go_enter Try.func10, Try.ntmps10
 go_upto_if 20 with (first | ((with_reducible refine gate_callee (f := 23) rfl ?_); refine goesL_ (some 18) rfl rfl Try.func23 (by kernel_rfl) rfl #[.slice A0 l0.length c0, .int .i64 1048576] rfl sG ?_; (with_reducible refine (laws_szSpringS.calls _ _ l0 1048576 t295 _ ?side1 ?side2 A3.out).mono ?_); (case side1 => exact sC HR0.out); (case side2 => exact HC0.out); rintro e w' ⟨rfl, ⟨nd, rfl⟩⟩; refine ⟨_, rfl, ?_⟩))
 (try simp only [Act.put, List.setIfInBounds_toArray, List.set_cons_zero, List.set_cons_succ])
 have H := HC4.out
 clear HC4
 by_cases c5 : t295 < 0
 ·
  rw [if_pos c5] at H
  have c5b0 : decide (t295 < 0) = true := decide_eq_true c5
  clear c5
  (first | rw [c5b0] | (simp only [i64_w, i32_w]; rw [c5b0]) | (rw [c5b2]; simp only [Bool.not_false, Bool.not_true]) | skip)
  obtain rfl := Option.some.inj H
  go_wp2
  go_ret
  exact ⟨by first | rfl | (simp [errW_none, errW_some, i64_w]; done) | (simp [errW_none, errW_some] <;> rfl) | (simp [*, errW_none, errW_some] <;> rfl), by repeat (first | (with_reducible first | exact HB.out | apply below_alloc | apply pw_below_drewN | apply below_drew1) | exact HB.out)⟩
 ·
  rw [if_neg c5] at H
  have c5b0 : decide (t295 < 0) = false := decide_eq_false c5
  clear c5
  (first | rw [c5b0] | (simp only [i64_w, i32_w]; rw [c5b0]) | (rw [c5b2]; simp only [Bool.not_false, Bool.not_true]) | skip)
  replace H := Option.bind_eq_some_iff.mp H
  obtain ⟨t296, A60, H⟩ := H
  replace H : ((spec_SharedForces.f k t296 a1).bind fun bt299 => ((laws_toSpringS.f k l0).bind fun t303 => ((impl_SharedForces.f k t303 a1).bind fun bt306 => ((laws_eqFractionS.f k bt306.1 bt299.1).bind fun t310 => (if t310 = true then (laws_FnExactSharedForces.j0 k l0 a1 bt299.1 bt299.2 t303 bt306.1 bt306.2 (bt306.2 != bt299.2)) else (laws_FnExactSharedForces.j0 k l0 a1 bt299.1 bt299.2 t303 bt306.1 bt306.2 true)))))) = some r := H
  have A6 := aS A60
  clear A60
  replace H := Option.bind_eq_some_iff.mp H
  obtain ⟨⟨t299, t300⟩, A70, H⟩ := H
  replace H : ((laws_toSpringS.f k l0).bind fun t303 => ((impl_SharedForces.f k t303 a1).bind fun bt306 => ((laws_eqFractionS.f k bt306.1 t299).bind fun t310 => (if t310 = true then (laws_FnExactSharedForces.j0 k l0 a1 t299 t300 t303 bt306.1 bt306.2 (bt306.2 != t300)) else (laws_FnExactSharedForces.j0 k l0 a1 t299 t300 t303 bt306.1 bt306.2 true))))) = some r := H
  have A7 := aS A70
  clear A70
  replace H := Option.bind_eq_some_iff.mp H
  obtain ⟨t303, A80, H⟩ := H
  replace H : ((impl_SharedForces.f k t303 a1).bind fun bt306 => ((laws_eqFractionS.f k bt306.1 t299).bind fun t310 => (if t310 = true then (laws_FnExactSharedForces.j0 k l0 a1 t299 t300 t303 bt306.1 bt306.2 (bt306.2 != t300)) else (laws_FnExactSharedForces.j0 k l0 a1 t299 t300 t303 bt306.1 bt306.2 true)))) = some r := H
  have A8 := aS A80
  clear A80
  replace H := Option.bind_eq_some_iff.mp H
  obtain ⟨⟨t306, t307⟩, A90, H⟩ := H
  replace H : ((laws_eqFractionS.f k t306 t299).bind fun t310 => (if t310 = true then (laws_FnExactSharedForces.j0 k l0 a1 t299 t300 t303 t306 t307 (t307 != t300)) else (laws_FnExactSharedForces.j0 k l0 a1 t299 t300 t303 t306 t307 true))) = some r := H
  have A9 := aS A90
  clear A90
  have HC10 := aS H
  clear H
  go_upto_region 8 with (first | ((with_reducible refine gate_callee (f := 25) rfl ?_); refine goesL_ (some 23) rfl rfl Try.func25 (by kernel_rfl) rfl #[.slice A0 l0.length c0] rfl sG ?_; (with_reducible refine (laws_toSpringS.calls k _ _ l0 t296 _ ?side1 ?side2 A6.out).mono ?_); (case side1 => exact sC (Kd.C_below HR0.out HB.out)); (case side2 => exact HC0.out); rintro e w11 ⟨v297, rfl, ho0, hb⟩; refine ⟨_, rfl, ?_⟩; have n0_ := aS (Kd.R_lower ho0 (below_size (sW HB.out))); have n1_ := aS (below_step (sW HB.out) hb); clear HB; have HO298 := n0_; have HB := n1_; clear n0_ n1_; (try clear hb); (try clear hb2); (try clear hk); (try clear hi); (try clear ho0); obtain ⟨Ao12, co12, eo12⟩ := Kd.R_slice HO298.out; subst eo12) | ((with_reducible refine gate_callee (f := 37) rfl ?_); refine goesL_ (some 25) rfl rfl Try.func37 (by kernel_rfl) rfl #[.slice Ao12 t296.length co12, .int .i64 a1] rfl sG ?_; (with_reducible refine (spec_SharedForces.calls k _ _ t296 a1 t299 t300 _ ?side1 ?side2 A7.out).mono ?_); (case side1 => exact sC (Kd.R_reads' HO298.out).2.2); (case side2 => exact (Kd.R_reads' HO298.out).2.1); rintro e w13 ⟨v301, rfl, ho0, hb⟩; refine ⟨_, rfl, ?_⟩; have n0_ := aS (Kd.R_below (sR HO298.out) hb); have n1_ := aS (Kd.R_lower ho0 (below_size (sW HB.out))); have n2_ := aS (below_step (sW HB.out) hb); clear HO298 HB; have HO298 := n0_; have HO302 := n1_; have HB := n2_; clear n0_ n1_ n2_; (try clear hb); (try clear hb2); (try clear hk); (try clear hi); (try clear ho0)) | ((with_reducible refine gate_callee (f := 25) rfl ?_); refine goesL_ (some 29) rfl rfl Try.func25 (by kernel_rfl) rfl #[.slice A0 l0.length c0] rfl sG ?_; (with_reducible refine (laws_toSpringS.calls k _ _ l0 t303 _ ?side1 ?side2 A8.out).mono ?_); (case side1 => exact sC (Kd.C_below HR0.out HB.out)); (case side2 => exact HC0.out); rintro e w14 ⟨v304, rfl, ho0, hb⟩; refine ⟨_, rfl, ?_⟩; have n0_ := aS (Kd.R_elder' (sR HO298.out) (Kd.R_base ho0) hb); have n1_ := aS (Kd.R_below (sR HO302.out) hb); have n2_ := aS (Kd.R_lower (Kd.R_new' ho0 (Kd.R_lt (sR HO298.out))) (below_size (sW HB.out))); have n3_ := aS (below_step (sW HB.out) hb); clear HO298 HO302 HB; have HO298 := n0_; have HO302 := n1_; have HO305 := n2_; have HB := n3_; clear n0_ n1_ n2_ n3_; (try clear hb); (try clear hb2); (try clear hk); (try clear hi); (try clear ho0); obtain ⟨Ao15, co15, eo15⟩ := Kd.R_slice HO305.out; subst eo15) | ((with_reducible refine gate_callee (f := 38) rfl ?_); refine goesL_ (some 33) rfl rfl Try.func38 (by kernel_rfl) rfl #[.slice Ao15 t303.length co15, .int .i64 a1] rfl sG ?_; (with_reducible refine (impl_SharedForces.calls k _ _ t303 a1 t306 t307 _ ?side1 ?side2 A9.out).mono ?_); (case side1 => exact sC (Kd.R_reads' HO305.out).2.2); (case side2 => exact (Kd.R_reads' HO305.out).2.1); rintro e w16 ⟨v308, rfl, ho0, hb⟩; refine ⟨_, rfl, ?_⟩; have n0_ := aS (Kd.R_below (sR HO298.out) hb); have n1_ := aS (Kd.R_elder' (sR HO302.out) (Kd.R_base ho0) hb); have n2_ := aS (Kd.R_below (sR HO305.out) hb); have n3_ := aS (Kd.R_lower (Kd.R_new' ho0 (Kd.R_lt (sR HO302.out))) (below_size (sW HB.out))); have n4_ := aS (below_step (sW HB.out) hb); clear HO298 HO302 HO305 HB; have HO298 := n0_; have HO302 := n1_; have HO305 := n2_; have HO309 := n3_; have HB := n4_; clear n0_ n1_ n2_ n3_ n4_; (try clear hb); (try clear hb2); (try clear hk); (try clear hi); (try clear ho0)))
  (try simp only [Act.put, List.setIfInBounds_toArray, List.set_cons_zero, List.set_cons_succ])
  go_cut [44] (fun v44 wc => ∃ (kq : Nat) (x44_9 : Bool), v44 = .bool x44_9 ∧ Aside0 (laws_FnExactSharedForces.j0 kq l0 a1 t299 t300 t303 t306 t307 x44_9 = some r) ∧ Aside0 (kq ≤ k) ∧ Aside0 (Kd.R k25 25 wc w.heap.size (fun k_ => some k_ ≠ (v308 : Value).ownBlock) v301 t299) ∧ Aside0 (Kd.R k28 28 wc w.heap.size (fun _ => True) (.slice Ao15 t303.length co15) t303) ∧ Aside0 (Kd.R k25 25 wc w.heap.size (fun k_ => some k_ ≠ (v301 : Value).ownBlock) v308 t306) ∧ Aside0 (Below w.heap.size w wc))
  case first =>
   have H := HC10.out
   clear HC10
   replace H := Option.bind_eq_some_iff.mp H
   obtain ⟨t310, A170, H⟩ := H
   replace H : (if t310 = true then (laws_FnExactSharedForces.j0 k l0 a1 t299 t300 t303 t306 t307 (t307 != t300)) else (laws_FnExactSharedForces.j0 k l0 a1 t299 t300 t303 t306 t307 true)) = some r := H
   have A17 := aS A170
   clear A170
   by_cases c18 : t310 = true
   ·
    subst c18
    have H1 : (laws_FnExactSharedForces.j0 k l0 a1 t299 t300 t303 t306 t307 (t307 != t300)) = some r := by rw [if_pos rfl] at H; exact H
    clear H
    have H := H1
    clear H1
    have H' := aS H
    clear H
    obtain ⟨Ao19, co19, eo19⟩ := Kd.R_slice HO309.out
    subst eo19
    obtain ⟨Ao20, co20, eo20⟩ := Kd.R_slice HO302.out
    subst eo20
    go_wp2_with (first | ((with_reducible refine gate_callee (f := 39) rfl ?_); refine goesL_ (some 38) rfl rfl Try.func39 (by kernel_rfl) rfl #[.slice Ao19 t306.length co19, .slice Ao20 t299.length co20] rfl sG ?_; (with_reducible refine (laws_eqFractionS.calls k _ _ t306 _ _ t299 true _ ?side1 ?side2 ?side3 ?side4 A17.out).mono ?_); (case side1 => exact sC (Kd.R_reads' HO309.out).2.2); (case side2 => exact (Kd.R_reads' HO309.out).2.1); (case side3 => exact sC (Kd.R_reads' HO302.out).2.2); (case side4 => exact (Kd.R_reads' HO302.out).2.1); rintro e w21 ⟨rfl, hb⟩; refine ⟨_, rfl, ?_⟩; have n0_ := aS (Kd.R_below (sR HO298.out) hb); have n1_ := aS (Kd.R_below (sR HO302.out) hb); have n2_ := aS (Kd.R_below (sR HO305.out) hb); have n3_ := aS (Kd.R_below (sR HO309.out) hb); have n4_ := aS (below_step (sW HB.out) hb); clear HO298 HO302 HO305 HO309 HB; have HO298 := n0_; have HO302 := n1_; have HO305 := n2_; have HO309 := n3_; have HB := n4_; clear n0_ n1_ n2_ n3_ n4_; (try clear hb); (try clear hb2); (try clear hk); (try clear hi)))
    go_meet
    case rel => exact ⟨_, ((t307 != t300)), (by first | rfl | (simp; done) | (simp [*]; done) | (simp only [i64_w]; done) | (simp [i64_w]; done)), H', ⟨by first | omega | exact Nat.le_refl _⟩, ⟨by (with_reducible repeat (first | apply Kd.R_alloc | apply Kd.R_drewN | apply Kd.R_drew)); exact Kd.R_mono HO302.out (fun _ hk => hk.2)⟩, ⟨by (with_reducible repeat (first | apply Kd.R_alloc | apply Kd.R_drewN | apply Kd.R_drew)); exact Kd.R_mono HO305.out (fun _ hk => trivial)⟩, ⟨by (with_reducible repeat (first | apply Kd.R_alloc | apply Kd.R_drewN | apply Kd.R_drew)); exact Kd.R_mono HO309.out (fun _ hk => hk.2)⟩, ⟨by repeat (first | (with_reducible first | exact HB.out | apply below_alloc | apply pw_below_drewN | apply below_drew1) | exact HB.out)⟩⟩
   ·
    replace c18 := Bool.eq_false_iff.mpr c18
    subst c18
    have H1 : (laws_FnExactSharedForces.j0 k l0 a1 t299 t300 t303 t306 t307 true) = some r := by rw [if_neg (show ¬ (false = true) by decide)] at H; exact H
    clear H
    have H := H1
    clear H1
    have H' := aS H
    clear H
    obtain ⟨Ao22, co22, eo22⟩ := Kd.R_slice HO309.out
    subst eo22
    obtain ⟨Ao23, co23, eo23⟩ := Kd.R_slice HO302.out
    subst eo23
    go_wp2_with (first | ((with_reducible refine gate_callee (f := 39) rfl ?_); refine goesL_ (some 38) rfl rfl Try.func39 (by kernel_rfl) rfl #[.slice Ao22 t306.length co22, .slice Ao23 t299.length co23] rfl sG ?_; (with_reducible refine (laws_eqFractionS.calls k _ _ t306 _ _ t299 false _ ?side1 ?side2 ?side3 ?side4 A17.out).mono ?_); (case side1 => exact sC (Kd.R_reads' HO309.out).2.2); (case side2 => exact (Kd.R_reads' HO309.out).2.1); (case side3 => exact sC (Kd.R_reads' HO302.out).2.2); (case side4 => exact (Kd.R_reads' HO302.out).2.1); rintro e w24 ⟨rfl, hb⟩; refine ⟨_, rfl, ?_⟩; have n0_ := aS (Kd.R_below (sR HO298.out) hb); have n1_ := aS (Kd.R_below (sR HO302.out) hb); have n2_ := aS (Kd.R_below (sR HO305.out) hb); have n3_ := aS (Kd.R_below (sR HO309.out) hb); have n4_ := aS (below_step (sW HB.out) hb); clear HO298 HO302 HO305 HO309 HB; have HO298 := n0_; have HO302 := n1_; have HO305 := n2_; have HO309 := n3_; have HB := n4_; clear n0_ n1_ n2_ n3_ n4_; (try clear hb); (try clear hb2); (try clear hk); (try clear hi)))
    go_meet
    case rel => exact ⟨_, (true), (by first | rfl | (simp; done) | (simp [*]; done) | (simp only [i64_w]; done) | (simp [i64_w]; done)), H', ⟨by first | omega | exact Nat.le_refl _⟩, ⟨by (with_reducible repeat (first | apply Kd.R_alloc | apply Kd.R_drewN | apply Kd.R_drew)); exact Kd.R_mono HO302.out (fun _ hk => hk.2)⟩, ⟨by (with_reducible repeat (first | apply Kd.R_alloc | apply Kd.R_drewN | apply Kd.R_drew)); exact Kd.R_mono HO305.out (fun _ hk => trivial)⟩, ⟨by (with_reducible repeat (first | apply Kd.R_alloc | apply Kd.R_drewN | apply Kd.R_drew)); exact Kd.R_mono HO309.out (fun _ hk => hk.2)⟩, ⟨by repeat (first | (with_reducible first | exact HB.out | apply below_alloc | apply pw_below_drewN | apply below_drew1) | exact HB.out)⟩⟩
  case rest =>
   clear HC10
   (try clear c1); (try clear c2); (try clear p2); (try clear c3); (try clear c5); (try clear c5b0); (try clear c5b2); (try clear c10); (try clear c18); (try clear c23)
   obtain ⟨kq, x44_9, rfl, HA, HJ9, HO_6, HO_8, HO_9, HB⟩ := hcut
   cases kq with
   | zero => exact absurd HA.out (by simp [laws_FnExactSharedForces.j0])
   | succ kj9 =>
    have H := HA.out
    clear HA
    simp only [laws_FnExactSharedForces.j0] at H
    by_cases c25 : x44_9 = true
    ·
     subst c25
     have H1 : (some false) = some r := by rw [if_pos rfl] at H; exact H
     clear H
     have H := H1
     clear H1
     obtain rfl := Option.some.inj H
     go_wp2
     go_ret
     exact ⟨by first | rfl | (simp [errW_none, errW_some, i64_w]; done) | (simp [errW_none, errW_some] <;> rfl) | (simp [*, errW_none, errW_some] <;> rfl), by repeat (first | (with_reducible first | exact HB.out | apply below_alloc | apply pw_below_drewN | apply below_drew1) | exact HB.out)⟩
    ·
     replace c25 := Bool.eq_false_iff.mpr c25
     subst c25
     have H1 : ((laws_toSpringS.f kj9 l0).bind fun t311 => ((laws_eqSpringS.f kj9 t303 t311).bind fun t314 => (if t314 = true then ((laws_markSpringS.f kj9 t303 1).bind fun bt315 => (if bt315.1 < 0 then (laws_FnExactSharedForces.j1 kj9 l0 a1 t299 t300 t306 true) else ((laws_eqFractionS.f kj9 t306 t299).bind fun t317 => (if t317 = true then (laws_FnExactSharedForces.j1 kj9 l0 a1 t299 t300 t306 (t307 != t300)) else (laws_FnExactSharedForces.j1 kj9 l0 a1 t299 t300 t306 true))))) else (some false)))) = some r := by rw [if_neg (show ¬ (false = true) by decide)] at H; exact H
     clear H
     have H := H1
     clear H1
     replace H := Option.bind_eq_some_iff.mp H
     obtain ⟨t311, A260, H⟩ := H
     replace H : ((laws_eqSpringS.f kj9 t303 t311).bind fun t314 => (if t314 = true then ((laws_markSpringS.f kj9 t303 1).bind fun bt315 => (if bt315.1 < 0 then (laws_FnExactSharedForces.j1 kj9 l0 a1 t299 t300 t306 true) else ((laws_eqFractionS.f kj9 t306 t299).bind fun t317 => (if t317 = true then (laws_FnExactSharedForces.j1 kj9 l0 a1 t299 t300 t306 (t307 != t300)) else (laws_FnExactSharedForces.j1 kj9 l0 a1 t299 t300 t306 true))))) else (some false))) = some r := H
     have A26 := aS A260
     clear A260
     replace H := Option.bind_eq_some_iff.mp H
     obtain ⟨t314, A270, H⟩ := H
     replace H : (if t314 = true then ((laws_markSpringS.f kj9 t303 1).bind fun bt315 => (if bt315.1 < 0 then (laws_FnExactSharedForces.j1 kj9 l0 a1 t299 t300 t306 true) else ((laws_eqFractionS.f kj9 t306 t299).bind fun t317 => (if t317 = true then (laws_FnExactSharedForces.j1 kj9 l0 a1 t299 t300 t306 (t307 != t300)) else (laws_FnExactSharedForces.j1 kj9 l0 a1 t299 t300 t306 true))))) else (some false)) = some r := H
     have A27 := aS A270
     clear A270
     have HC28 := aS H
     clear H
     go_upto_if 49 with (first | ((with_reducible refine gate_callee (f := 25) rfl ?_); refine goesL_ (some 47) rfl rfl Try.func25 (by kernel_rfl) rfl #[.slice A0 l0.length c0] rfl sG ?_; (with_reducible refine (laws_toSpringS.calls kj9 _ _ l0 t311 _ ?side1 ?side2 A26.out).mono ?_); (case side1 => exact sC (Kd.C_below HR0.out HB.out)); (case side2 => exact HC0.out); rintro e w29 ⟨v312, rfl, ho0, hb⟩; refine ⟨_, rfl, ?_⟩; have n0_ := aS (Kd.R_below (sR HO_6.out) hb); have n1_ := aS (Kd.R_elder' (sR HO_8.out) (Kd.R_base ho0) hb); have n2_ := aS (Kd.R_below (sR HO_9.out) hb); have n3_ := aS (Kd.R_lower (Kd.R_new' ho0 (Kd.R_lt (sR HO_8.out))) (below_size (sW HB.out))); have n4_ := aS (below_step (sW HB.out) hb); clear HO_6 HO_8 HO_9 HB; have HO_6 := n0_; have HO_8 := n1_; have HO_9 := n2_; have HO313 := n3_; have HB := n4_; clear n0_ n1_ n2_ n3_ n4_; (try clear hb); (try clear hb2); (try clear hk); (try clear hi); (try clear ho0); obtain ⟨Ao30, co30, eo30⟩ := Kd.R_slice HO313.out; subst eo30) | ((with_reducible refine gate_callee (f := 26) rfl ?_); refine goesL_ (some 48) rfl rfl Try.func26 (by kernel_rfl) rfl #[.slice Ao15 t303.length co15, .slice Ao30 t311.length co30] rfl sG ?_; (with_reducible refine (laws_eqSpringS.calls kj9 _ _ t303 _ _ t311 t314 _ ?side1 ?side2 ?side3 ?side4 A27.out).mono ?_); (case side1 => exact sC (Kd.R_reads' HO_8.out).2.2); (case side2 => exact (Kd.R_reads' HO_8.out).2.1); (case side3 => exact sC (Kd.R_reads' HO313.out).2.2); (case side4 => exact (Kd.R_reads' HO313.out).2.1); rintro e w31 ⟨rfl, hb⟩; refine ⟨_, rfl, ?_⟩; have n0_ := aS (Kd.R_below (sR HO_6.out) hb); have n1_ := aS (Kd.R_below (sR HO_8.out) hb); have n2_ := aS (Kd.R_below (sR HO_9.out) hb); have n3_ := aS (Kd.R_below (sR HO313.out) hb); have n4_ := aS (below_step (sW HB.out) hb); clear HO_6 HO_8 HO_9 HO313 HB; have HO_6 := n0_; have HO_8 := n1_; have HO_9 := n2_; have HO313 := n3_; have HB := n4_; clear n0_ n1_ n2_ n3_ n4_; (try clear hb); (try clear hb2); (try clear hk); (try clear hi)))
     (try simp only [Act.put, List.setIfInBounds_toArray, List.set_cons_zero, List.set_cons_succ])
     have H := HC28.out
     clear HC28
     by_cases c32 : t314 = true
     ·
      subst c32
      have H1 : ((laws_markSpringS.f kj9 t303 1).bind fun bt315 => (if bt315.1 < 0 then (laws_FnExactSharedForces.j1 kj9 l0 a1 t299 t300 t306 true) else ((laws_eqFractionS.f kj9 t306 t299).bind fun t317 => (if t317 = true then (laws_FnExactSharedForces.j1 kj9 l0 a1 t299 t300 t306 (t307 != t300)) else (laws_FnExactSharedForces.j1 kj9 l0 a1 t299 t300 t306 true))))) = some r := by rw [if_pos rfl] at H; exact H
      clear H
      have H := H1
      clear H1
      replace H := Option.bind_eq_some_iff.mp H
      obtain ⟨⟨t315, t316⟩, A330, H⟩ := H
      replace H : (if t315 < 0 then (laws_FnExactSharedForces.j1 kj9 l0 a1 t299 t300 t306 true) else ((laws_eqFractionS.f kj9 t306 t299).bind fun t317 => (if t317 = true then (laws_FnExactSharedForces.j1 kj9 l0 a1 t299 t300 t306 (t307 != t300)) else (laws_FnExactSharedForces.j1 kj9 l0 a1 t299 t300 t306 true)))) = some r := H
      have A33 := aS A330
      clear A330
      have HC34 := aS H
      clear H
      go_upto_region 14 with (first | ((with_reducible refine gate_callee (f := 34) rfl ?_); refine goesL_ (some 52) rfl rfl Try.func34 (by kernel_rfl) rfl #[.slice Ao15 t303.length co15, .int .i64 1] rfl sG ?_; (with_reducible refine (laws_markSpringS.calls kj9 (fun k_ => some k_ = (.slice Ao15 t303.length co15 : Value).ownBlock) (.slice Ao15 t303.length co15) t303 1 t315 t316 w _ ?side1 ?side2 A33.out).mono ?_); (case side1 => repeat (first | (with_reducible first | exact HB.out | apply below_alloc | apply pw_below_drewN | apply below_drew1) | exact HB.out)); (case side2 => exact Kd.R_tight rfl HO_8.out); rintro e w35 ⟨rfl, hy0, hb, hkp⟩; refine ⟨_, rfl, ?_⟩; have n0_ := aS (Kd.R_mono (ok' := fun k_ => some k_ ≠ (v308 : Value).ownBlock) (Kd.R_keptB ((Kd.R_apart' HO_6.out (Kd.R_typed HO_8.out) (by decide))) hkp (fun k_ hk_ hs_ => (hk_.2) hs_)) (fun k_ hk_ => hk_.1.1)); have n1_ := aS (Kd.R_reok rfl hy0 (fun k_ e_ => HO_8.out.1 k_ e_)); have n2_ := aS (Kd.R_mono (ok' := fun k_ => some k_ ≠ (v301 : Value).ownBlock) (Kd.R_keptB ((Kd.R_apart' HO_9.out (Kd.R_typed HO_8.out) (by decide))) hkp (fun k_ hk_ hs_ => (hk_.2) hs_)) (fun k_ hk_ => hk_.1.1)); have n3_ := aS (Kd.R_mono (ok' := fun k_ => some k_ ≠ (.slice Ao15 t303.length co15 : Value).ownBlock) (Kd.R_keptB (HO313.out) hkp (fun k_ hk_ hs_ => (hk_.2) hs_)) (fun k_ hk_ => hk_.1.2)); have n4_ := aS (hb); clear HO_6 HO_8 HO_9 HO313 HB; have HO_6 := n0_; have HO_8 := n1_; have HO_9 := n2_; have HO313 := n3_; have HB := n4_; clear n0_ n1_ n2_ n3_ n4_; (try clear hb); (try clear hkp); (try clear hy0)))
      (try simp only [Act.put, List.setIfInBounds_toArray, List.set_cons_zero, List.set_cons_succ])
      go_cut [65] (fun v65 wc => ∃ (kq : Nat) (x65_33 : Bool), v65 = .bool x65_33 ∧ Aside0 (laws_FnExactSharedForces.j1 kq l0 a1 t299 t300 t306 x65_33 = some r) ∧ Aside0 (kq ≤ kj9) ∧ Aside0 (Kd.R k25 25 wc w.heap.size (fun k_ => some k_ ≠ (v308 : Value).ownBlock) v301 t299) ∧ Aside0 (Kd.R k25 25 wc w.heap.size (fun k_ => some k_ ≠ (v301 : Value).ownBlock) v308 t306) ∧ Aside0 (Below w.heap.size w wc))
      case first =>
       have H := HC34.out
       clear HC34
       by_cases c36 : t315 < 0
       ·
        rw [if_pos c36] at H
        have c36b0 : decide (t315 < 0) = true := decide_eq_true c36
        clear c36
        (first | rw [c36b0] | (simp only [i64_w, i32_w]; rw [c36b0]) | (rw [c36b2]; simp only [Bool.not_false, Bool.not_true]) | skip)
        have H' := aS H
        clear H
        go_wp2
        go_meet
        case rel => exact ⟨_, (true), (by first | rfl | (simp; done) | (simp [*]; done) | (simp only [i64_w]; done) | (simp [i64_w]; done)), H', ⟨by have := HJ9.out; first | omega | exact Nat.le_refl _⟩, ⟨by (with_reducible repeat (first | apply Kd.R_alloc | apply Kd.R_drewN | apply Kd.R_drew)); exact HO_6.out⟩, ⟨by (with_reducible repeat (first | apply Kd.R_alloc | apply Kd.R_drewN | apply Kd.R_drew)); exact HO_9.out⟩, ⟨by repeat (first | (with_reducible first | exact HB.out | apply below_alloc | apply pw_below_drewN | apply below_drew1) | exact HB.out)⟩⟩
       ·
        rw [if_neg c36] at H
        have c36b0 : decide (t315 < 0) = false := decide_eq_false c36
        clear c36
        (first | rw [c36b0] | (simp only [i64_w, i32_w]; rw [c36b0]) | (rw [c36b2]; simp only [Bool.not_false, Bool.not_true]) | skip)
        replace H := Option.bind_eq_some_iff.mp H
        obtain ⟨t317, A370, H⟩ := H
        replace H : (if t317 = true then (laws_FnExactSharedForces.j1 kj9 l0 a1 t299 t300 t306 (t307 != t300)) else (laws_FnExactSharedForces.j1 kj9 l0 a1 t299 t300 t306 true)) = some r := H
        have A37 := aS A370
        clear A370
        by_cases c38 : t317 = true
        ·
         subst c38
         have H1 : (laws_FnExactSharedForces.j1 kj9 l0 a1 t299 t300 t306 (t307 != t300)) = some r := by rw [if_pos rfl] at H; exact H
         clear H
         have H := H1
         clear H1
         have H' := aS H
         clear H
         obtain ⟨Ao39, co39, eo39⟩ := Kd.R_slice HO_9.out
         subst eo39
         obtain ⟨Ao40, co40, eo40⟩ := Kd.R_slice HO_6.out
         subst eo40
         go_wp2_with (first | (go_at_call 39; (with_reducible refine (laws_eqFractionS.calls kj9 _ _ t306 _ _ t299 true _ ?side1 ?side2 ?side3 ?side4 A37.out).mono ?_); (case side1 => exact sC (Kd.R_reads' HO_9.out).2.2); (case side2 => exact (Kd.R_reads' HO_9.out).2.1); (case side3 => exact sC (Kd.R_reads' HO_6.out).2.2); (case side4 => exact (Kd.R_reads' HO_6.out).2.1); rintro e w41 ⟨rfl, hb⟩; have n0_ := aS (Kd.R_below (sR HO_6.out) hb); have n1_ := aS (Kd.R_below (sR HO_8.out) hb); have n2_ := aS (Kd.R_below (sR HO_9.out) hb); have n3_ := aS (Kd.R_below (sR HO313.out) hb); have n4_ := aS (below_step (sW HB.out) hb); clear HO_6 HO_8 HO_9 HO313 HB; have HO_6 := n0_; have HO_8 := n1_; have HO_9 := n2_; have HO313 := n3_; have HB := n4_; clear n0_ n1_ n2_ n3_ n4_; (try clear hb); (try clear hb2); (try clear hk); (try clear hi)))
         go_meet
         case rel => exact ⟨_, ((t307 != t300)), (by first | rfl | (simp; done) | (simp [*]; done) | (simp only [i64_w]; done) | (simp [i64_w]; done)), H', ⟨by have := HJ9.out; first | omega | exact Nat.le_refl _⟩, ⟨by (with_reducible repeat (first | apply Kd.R_alloc | apply Kd.R_drewN | apply Kd.R_drew)); exact HO_6.out⟩, ⟨by (with_reducible repeat (first | apply Kd.R_alloc | apply Kd.R_drewN | apply Kd.R_drew)); exact HO_9.out⟩, ⟨by repeat (first | (with_reducible first | exact HB.out | apply below_alloc | apply pw_below_drewN | apply below_drew1) | exact HB.out)⟩⟩
        ·
         replace c38 := Bool.eq_false_iff.mpr c38
         subst c38
         have H1 : (laws_FnExactSharedForces.j1 kj9 l0 a1 t299 t300 t306 true) = some r := by rw [if_neg (show ¬ (false = true) by decide)] at H; exact H
         clear H
         have H := H1
         clear H1
         have H' := aS H
         clear H
         obtain ⟨Ao42, co42, eo42⟩ := Kd.R_slice HO_9.out
         subst eo42
         obtain ⟨Ao43, co43, eo43⟩ := Kd.R_slice HO_6.out
         subst eo43
         go_wp2_with (first | (go_at_call 39; (with_reducible refine (laws_eqFractionS.calls kj9 _ _ t306 _ _ t299 false _ ?side1 ?side2 ?side3 ?side4 A37.out).mono ?_); (case side1 => exact sC (Kd.R_reads' HO_9.out).2.2); (case side2 => exact (Kd.R_reads' HO_9.out).2.1); (case side3 => exact sC (Kd.R_reads' HO_6.out).2.2); (case side4 => exact (Kd.R_reads' HO_6.out).2.1); rintro e w44 ⟨rfl, hb⟩; have n0_ := aS (Kd.R_below (sR HO_6.out) hb); have n1_ := aS (Kd.R_below (sR HO_8.out) hb); have n2_ := aS (Kd.R_below (sR HO_9.out) hb); have n3_ := aS (Kd.R_below (sR HO313.out) hb); have n4_ := aS (below_step (sW HB.out) hb); clear HO_6 HO_8 HO_9 HO313 HB; have HO_6 := n0_; have HO_8 := n1_; have HO_9 := n2_; have HO313 := n3_; have HB := n4_; clear n0_ n1_ n2_ n3_ n4_; (try clear hb); (try clear hb2); (try clear hk); (try clear hi)))
         go_meet
         case rel => exact ⟨_, (true), (by first | rfl | (simp; done) | (simp [*]; done) | (simp only [i64_w]; done) | (simp [i64_w]; done)), H', ⟨by have := HJ9.out; first | omega | exact Nat.le_refl _⟩, ⟨by (with_reducible repeat (first | apply Kd.R_alloc | apply Kd.R_drewN | apply Kd.R_drew)); exact HO_6.out⟩, ⟨by (with_reducible repeat (first | apply Kd.R_alloc | apply Kd.R_drewN | apply Kd.R_drew)); exact HO_9.out⟩, ⟨by repeat (first | (with_reducible first | exact HB.out | apply below_alloc | apply pw_below_drewN | apply below_drew1) | exact HB.out)⟩⟩
      case rest =>
       clear HC34
       (try clear c1); (try clear c2); (try clear p2); (try clear c3); (try clear c5); (try clear c5b0); (try clear c5b2); (try clear c10); (try clear c18); (try clear c23); (try clear c25); (try clear c26); (try clear c32); (try clear c34); (try clear c36); (try clear c36b0); (try clear c36b2); (try clear c37); (try clear c38); (try clear c39); (try clear p2)
       obtain ⟨kq, x65_33, rfl, HA, HJ33, HO_6, HO_9, HB⟩ := hcut
       cases kq with
       | zero => exact absurd HA.out (by simp [laws_FnExactSharedForces.j1])
       | succ kj33 =>
        have H := HA.out
        clear HA
        simp only [laws_FnExactSharedForces.j1] at H
        by_cases c45 : x65_33 = true
        ·
         subst c45
         have H1 : (some false) = some r := by rw [if_pos rfl] at H; exact H
         clear H
         have H := H1
         clear H1
         obtain rfl := Option.some.inj H
         go_wp2
         go_ret
         exact ⟨by first | rfl | (simp [errW_none, errW_some, i64_w]; done) | (simp [errW_none, errW_some] <;> rfl) | (simp [*, errW_none, errW_some] <;> rfl), by repeat (first | (with_reducible first | exact HB.out | apply below_alloc | apply pw_below_drewN | apply below_drew1) | exact HB.out)⟩
        ·
         replace c45 := Bool.eq_false_iff.mpr c45
         subst c45
         have H1 : ((laws_markFractionS.f kj33 t306 1).bind fun bt318 => ((laws_heldFractionS.f kj33 bt318.2 1).bind fun t320 => (if t320 < 0 then (some false) else (if t320 = bt318.1 then ((laws_toSpringS.f kj33 l0).bind fun t321 => ((impl_SharedForces.f kj33 t321 a1).bind fun bt324 => ((laws_eqFractionS.f kj33 bt324.1 t299).bind fun t328 => (if t328 = true then (laws_FnExactSharedForces.j2 kj33 bt318.2 bt318.1 (bt324.2 != t300)) else (laws_FnExactSharedForces.j2 kj33 bt318.2 bt318.1 true))))) else (some false))))) = some r := by rw [if_neg (show ¬ (false = true) by decide)] at H; exact H
         clear H
         have H := H1
         clear H1
         replace H := Option.bind_eq_some_iff.mp H
         obtain ⟨⟨t318, t319⟩, A460, H⟩ := H
         replace H : ((laws_heldFractionS.f kj33 t319 1).bind fun t320 => (if t320 < 0 then (some false) else (if t320 = t318 then ((laws_toSpringS.f kj33 l0).bind fun t321 => ((impl_SharedForces.f kj33 t321 a1).bind fun bt324 => ((laws_eqFractionS.f kj33 bt324.1 t299).bind fun t328 => (if t328 = true then (laws_FnExactSharedForces.j2 kj33 t319 t318 (bt324.2 != t300)) else (laws_FnExactSharedForces.j2 kj33 t319 t318 true))))) else (some false)))) = some r := H
         have A46 := aS A460
         clear A460
         replace H := Option.bind_eq_some_iff.mp H
         obtain ⟨t320, A470, H⟩ := H
         replace H : (if t320 < 0 then (some false) else (if t320 = t318 then ((laws_toSpringS.f kj33 l0).bind fun t321 => ((impl_SharedForces.f kj33 t321 a1).bind fun bt324 => ((laws_eqFractionS.f kj33 bt324.1 t299).bind fun t328 => (if t328 = true then (laws_FnExactSharedForces.j2 kj33 t319 t318 (bt324.2 != t300)) else (laws_FnExactSharedForces.j2 kj33 t319 t318 true))))) else (some false))) = some r := H
         have A47 := aS A470
         clear A470
         have HC48 := aS H
         clear H
         obtain ⟨Ao49, co49, eo49⟩ := Kd.R_slice HO_9.out
         subst eo49
         go_upto_if 73 with (first | ((with_reducible refine gate_callee (f := 40) rfl ?_); refine goesL_ (some 68) rfl rfl Try.func40 (by kernel_rfl) rfl #[.slice Ao49 t306.length co49, .int .i64 1] rfl sG ?_; (with_reducible refine (laws_markFractionS.calls kj33 (fun k_ => some k_ = (.slice Ao49 t306.length co49 : Value).ownBlock) (.slice Ao49 t306.length co49) t306 1 t318 t319 w _ ?side1 ?side2 A46.out).mono ?_); (case side1 => repeat (first | (with_reducible first | exact HB.out | apply below_alloc | apply pw_below_drewN | apply below_drew1) | exact HB.out)); (case side2 => exact Kd.R_tight rfl HO_9.out); rintro e w50 ⟨rfl, hy0, hb, hkp⟩; refine ⟨_, rfl, ?_⟩; have n0_ := aS (Kd.R_mono (ok' := fun k_ => some k_ ≠ (.slice Ao49 t306.length co49 : Value).ownBlock) (Kd.R_keptB (HO_6.out) hkp (fun k_ hk_ hs_ => (hk_) hs_)) (fun k_ hk_ => hk_.1)); have n1_ := aS (Kd.R_reok rfl hy0 (fun k_ e_ => HO_9.out.1 k_ e_)); have n2_ := aS (hb); clear HO_6 HO_9 HB; have HO_6 := n0_; have HO_9 := n1_; have HB := n2_; clear n0_ n1_ n2_; (try clear hb); (try clear hkp); (try clear hy0)) | ((with_reducible refine gate_callee (f := 41) rfl ?_); refine goesL_ (some 71) rfl rfl Try.func41 (by kernel_rfl) rfl #[.slice Ao49 t319.length co49, .int .i64 1] rfl (by (try simp only [List.map_toArray, List.map_cons, List.map_nil]); first | done | (rw [show t319.length = t306.length from (Kd.R_reads' HO_9.out).1.symm] <;> rfl) | rfl | (simp only [List.length_drop, List.length_take]; rfl)) ?_; (with_reducible refine (laws_heldFractionS.calls kj33 _ _ t319 1 t320 _ ?side1 ?side2 A47.out).mono ?_); (case side1 => exact sC (Kd.R_reads' HO_9.out).2.2); (case side2 => rw [show t319.length = t306.length from (Kd.R_reads' HO_9.out).1.symm]; exact (Kd.R_reads' HO_9.out).2.1); rintro e w' ⟨rfl, ⟨nd, rfl⟩⟩; refine ⟨_, rfl, ?_⟩))
         (try simp only [Act.put, List.setIfInBounds_toArray, List.set_cons_zero, List.set_cons_succ])
         have H := HC48.out
         clear HC48
         by_cases c51 : t320 < 0
         ·
          rw [if_pos c51] at H
          have c51b0 : decide (t320 < 0) = true := decide_eq_true c51
          clear c51
          (first | rw [c51b0] | (simp only [i64_w, i32_w]; rw [c51b0]) | (rw [c51b2]; simp only [Bool.not_false, Bool.not_true]) | skip)
          obtain rfl := Option.some.inj H
          go_wp2
          go_ret
          exact ⟨by first | rfl | (simp [errW_none, errW_some, i64_w]; done) | (simp [errW_none, errW_some] <;> rfl) | (simp [*, errW_none, errW_some] <;> rfl), by repeat (first | (with_reducible first | exact HB.out | apply below_alloc | apply pw_below_drewN | apply below_drew1) | exact HB.out)⟩
         ·
          rw [if_neg c51] at H
          have c51b0 : decide (t320 < 0) = false := decide_eq_false c51
          clear c51
          (first | rw [c51b0] | (simp only [i64_w, i32_w]; rw [c51b0]) | (rw [c51b2]; simp only [Bool.not_false, Bool.not_true]) | skip)
          by_cases c52 : t320 = t318
          ·
           rw [if_pos c52] at H
           have c52b0 : (t320 == t318) = true := beq_iff_eq.mpr c52
           have c52b1 : (t320 != t318) = false := bne_eq_false_iff_eq.mpr c52
           clear c52
           replace H := Option.bind_eq_some_iff.mp H
           obtain ⟨t321, A530, H⟩ := H
           replace H : ((impl_SharedForces.f kj33 t321 a1).bind fun bt324 => ((laws_eqFractionS.f kj33 bt324.1 t299).bind fun t328 => (if t328 = true then (laws_FnExactSharedForces.j2 kj33 t319 t318 (bt324.2 != t300)) else (laws_FnExactSharedForces.j2 kj33 t319 t318 true)))) = some r := H
           have A53 := aS A530
           clear A530
           replace H := Option.bind_eq_some_iff.mp H
           obtain ⟨⟨t324, t325⟩, A540, H⟩ := H
           replace H : ((laws_eqFractionS.f kj33 t324 t299).bind fun t328 => (if t328 = true then (laws_FnExactSharedForces.j2 kj33 t319 t318 (t325 != t300)) else (laws_FnExactSharedForces.j2 kj33 t319 t318 true))) = some r := H
           have A54 := aS A540
           clear A540
           have HC55 := aS H
           clear H
           go_upto_region 25 with (first | ((with_reducible refine gate_callee (f := 25) rfl ?_); refine goesL_ (some 79) rfl rfl Try.func25 (by kernel_rfl) rfl #[.slice A0 l0.length c0] rfl sG ?_; (with_reducible refine (laws_toSpringS.calls kj33 _ _ l0 t321 _ ?side1 ?side2 A53.out).mono ?_); (case side1 => exact sC (Kd.C_below HR0.out HB.out)); (case side2 => exact HC0.out); rintro e w56 ⟨v322, rfl, ho0, hb⟩; refine ⟨_, rfl, ?_⟩; have n0_ := aS (Kd.R_below (sR HO_6.out) hb); have n1_ := aS (Kd.R_below (sR HO_9.out) hb); have n2_ := aS (Kd.R_lower ho0 (below_size (sW HB.out))); have n3_ := aS (below_step (sW HB.out) hb); clear HO_6 HO_9 HB; have HO_6 := n0_; have HO_9 := n1_; have HO323 := n2_; have HB := n3_; clear n0_ n1_ n2_ n3_; (try clear hb); (try clear hb2); (try clear hk); (try clear hi); (try clear ho0); obtain ⟨Ao57, co57, eo57⟩ := Kd.R_slice HO323.out; subst eo57) | ((with_reducible refine gate_callee (f := 38) rfl ?_); refine goesL_ (some 81) rfl rfl Try.func38 (by kernel_rfl) rfl #[.slice Ao57 t321.length co57, .int .i64 a1] rfl sG ?_; (with_reducible refine (impl_SharedForces.calls kj33 _ _ t321 a1 t324 t325 _ ?side1 ?side2 A54.out).mono ?_); (case side1 => exact sC (Kd.R_reads' HO323.out).2.2); (case side2 => exact (Kd.R_reads' HO323.out).2.1); rintro e w58 ⟨v326, rfl, ho0, hb⟩; refine ⟨_, rfl, ?_⟩; have n0_ := aS (Kd.R_elder' (sR HO_6.out) (Kd.R_base ho0) hb); have n1_ := aS (Kd.R_elder' (sR HO_9.out) (Kd.R_base ho0) hb); have n2_ := aS (Kd.R_below (sR HO323.out) hb); have n3_ := aS (Kd.R_lower (Kd.R_new' (Kd.R_new' ho0 (Kd.R_lt (sR HO_6.out))) (Kd.R_lt (sR HO_9.out))) (below_size (sW HB.out))); have n4_ := aS (below_step (sW HB.out) hb); clear HO_6 HO_9 HO323 HB; have HO_6 := n0_; have HO_9 := n1_; have HO323 := n2_; have HO327 := n3_; have HB := n4_; clear n0_ n1_ n2_ n3_ n4_; (try clear hb); (try clear hb2); (try clear hk); (try clear hi); (try clear ho0)))
           (try simp only [Act.put, List.setIfInBounds_toArray, List.set_cons_zero, List.set_cons_succ])
           go_cut [92] (fun v92 wc => ∃ (kq : Nat) (x92_54 : Bool), v92 = .bool x92_54 ∧ Aside0 (laws_FnExactSharedForces.j2 kq t319 t318 x92_54 = some r) ∧ Aside0 (kq ≤ kj33) ∧ Aside0 (Kd.R k25 25 wc w.heap.size (fun _ => True) (.slice Ao49 t306.length co49) t319) ∧ Aside0 (Below w.heap.size w wc))
           case first =>
            have H := HC55.out
            clear HC55
            replace H := Option.bind_eq_some_iff.mp H
            obtain ⟨t328, A590, H⟩ := H
            replace H : (if t328 = true then (laws_FnExactSharedForces.j2 kj33 t319 t318 (t325 != t300)) else (laws_FnExactSharedForces.j2 kj33 t319 t318 true)) = some r := H
            have A59 := aS A590
            clear A590
            by_cases c60 : t328 = true
            ·
             subst c60
             have H1 : (laws_FnExactSharedForces.j2 kj33 t319 t318 (t325 != t300)) = some r := by rw [if_pos rfl] at H; exact H
             clear H
             have H := H1
             clear H1
             have H' := aS H
             clear H
             obtain ⟨Ao61, co61, eo61⟩ := Kd.R_slice HO327.out
             subst eo61
             obtain ⟨Ao62, co62, eo62⟩ := Kd.R_slice HO_6.out
             subst eo62
             go_wp2_with (first | ((with_reducible refine gate_callee (f := 39) rfl ?_); refine goesL_ (some 86) rfl rfl Try.func39 (by kernel_rfl) rfl #[.slice Ao61 t324.length co61, .slice Ao62 t299.length co62] rfl sG ?_; (with_reducible refine (laws_eqFractionS.calls kj33 _ _ t324 _ _ t299 true _ ?side1 ?side2 ?side3 ?side4 A59.out).mono ?_); (case side1 => exact sC (Kd.R_reads' HO327.out).2.2); (case side2 => exact (Kd.R_reads' HO327.out).2.1); (case side3 => exact sC (Kd.R_reads' HO_6.out).2.2); (case side4 => exact (Kd.R_reads' HO_6.out).2.1); rintro e w63 ⟨rfl, hb⟩; refine ⟨_, rfl, ?_⟩; have n0_ := aS (Kd.R_below (sR HO_6.out) hb); have n1_ := aS (Kd.R_below (sR HO_9.out) hb); have n2_ := aS (Kd.R_below (sR HO327.out) hb); have n3_ := aS (below_step (sW HB.out) hb); clear HO_6 HO_9 HO327 HB; have HO_6 := n0_; have HO_9 := n1_; have HO327 := n2_; have HB := n3_; clear n0_ n1_ n2_ n3_; (try clear hb); (try clear hb2); (try clear hk); (try clear hi)))
             go_meet
             case rel => exact ⟨_, ((t325 != t300)), (by first | rfl | (simp; done) | (simp [*]; done) | (simp only [i64_w]; done) | (simp [i64_w]; done)), H', ⟨by have := HJ9.out; have := HJ33.out; first | omega | exact Nat.le_refl _⟩, ⟨by (with_reducible repeat (first | apply Kd.R_alloc | apply Kd.R_drewN | apply Kd.R_drew)); exact Kd.R_mono HO_9.out (fun _ hk => trivial)⟩, ⟨by repeat (first | (with_reducible first | exact HB.out | apply below_alloc | apply pw_below_drewN | apply below_drew1) | exact HB.out)⟩⟩
            ·
             replace c60 := Bool.eq_false_iff.mpr c60
             subst c60
             have H1 : (laws_FnExactSharedForces.j2 kj33 t319 t318 true) = some r := by rw [if_neg (show ¬ (false = true) by decide)] at H; exact H
             clear H
             have H := H1
             clear H1
             have H' := aS H
             clear H
             obtain ⟨Ao64, co64, eo64⟩ := Kd.R_slice HO327.out
             subst eo64
             obtain ⟨Ao65, co65, eo65⟩ := Kd.R_slice HO_6.out
             subst eo65
             go_wp2_with (first | ((with_reducible refine gate_callee (f := 39) rfl ?_); refine goesL_ (some 86) rfl rfl Try.func39 (by kernel_rfl) rfl #[.slice Ao64 t324.length co64, .slice Ao65 t299.length co65] rfl sG ?_; (with_reducible refine (laws_eqFractionS.calls kj33 _ _ t324 _ _ t299 false _ ?side1 ?side2 ?side3 ?side4 A59.out).mono ?_); (case side1 => exact sC (Kd.R_reads' HO327.out).2.2); (case side2 => exact (Kd.R_reads' HO327.out).2.1); (case side3 => exact sC (Kd.R_reads' HO_6.out).2.2); (case side4 => exact (Kd.R_reads' HO_6.out).2.1); rintro e w66 ⟨rfl, hb⟩; refine ⟨_, rfl, ?_⟩; have n0_ := aS (Kd.R_below (sR HO_6.out) hb); have n1_ := aS (Kd.R_below (sR HO_9.out) hb); have n2_ := aS (Kd.R_below (sR HO327.out) hb); have n3_ := aS (below_step (sW HB.out) hb); clear HO_6 HO_9 HO327 HB; have HO_6 := n0_; have HO_9 := n1_; have HO327 := n2_; have HB := n3_; clear n0_ n1_ n2_ n3_; (try clear hb); (try clear hb2); (try clear hk); (try clear hi)))
             go_meet
             case rel => exact ⟨_, (true), (by first | rfl | (simp; done) | (simp [*]; done) | (simp only [i64_w]; done) | (simp [i64_w]; done)), H', ⟨by have := HJ9.out; have := HJ33.out; first | omega | exact Nat.le_refl _⟩, ⟨by (with_reducible repeat (first | apply Kd.R_alloc | apply Kd.R_drewN | apply Kd.R_drew)); exact Kd.R_mono HO_9.out (fun _ hk => trivial)⟩, ⟨by repeat (first | (with_reducible first | exact HB.out | apply below_alloc | apply pw_below_drewN | apply below_drew1) | exact HB.out)⟩⟩
           case rest =>
            clear HC55
            (try clear c1); (try clear c2); (try clear p2); (try clear c3); (try clear c4); (try clear c5); (try clear c5b0); (try clear c5b2); (try clear c6); (try clear c10); (try clear c18); (try clear c23); (try clear c25); (try clear c26); (try clear c32); (try clear c34); (try clear c36); (try clear c36b0); (try clear c36b2); (try clear c37); (try clear c38); (try clear c39); (try clear c40); (try clear c41); (try clear c45); (try clear c51); (try clear c51b0); (try clear c51b2); (try clear c52); (try clear c52b0); (try clear c52b1); (try clear c60); (try clear p2)
            obtain ⟨kq, x92_54, rfl, HA, HJ54, HO_9, HB⟩ := hcut
            have hl9_54 := (Kd.R_reads' HO_9.out).1
            rw [hl9_54] at HO_9
            (try simp only [hl9_54])
            cases kq with
            | zero => exact absurd HA.out (by simp [laws_FnExactSharedForces.j2])
            | succ kj54 =>
             have H := HA.out
             clear HA
             simp only [laws_FnExactSharedForces.j2] at H
             by_cases c67 : x92_54 = true
             ·
              subst c67
              have H1 : (some false) = some r := by rw [if_pos rfl] at H; exact H
              clear H
              have H := H1
              clear H1
              obtain rfl := Option.some.inj H
              go_wp2
              go_ret
              exact ⟨by first | rfl | (simp [errW_none, errW_some, i64_w]; done) | (simp [errW_none, errW_some] <;> rfl) | (simp [*, errW_none, errW_some] <;> rfl), by repeat (first | (with_reducible first | exact HB.out | apply below_alloc | apply pw_below_drewN | apply below_drew1) | exact HB.out)⟩
             ·
              replace c67 := Bool.eq_false_iff.mpr c67
              subst c67
              have H1 : ((laws_heldFractionS.f kj54 t319 1).bind fun t329 => (if t329 < 0 then (some false) else (if t329 = t318 then (some true) else (some false)))) = some r := by rw [if_neg (show ¬ (false = true) by decide)] at H; exact H
              clear H
              have H := H1
              clear H1
              replace H := Option.bind_eq_some_iff.mp H
              obtain ⟨t329, A680, H⟩ := H
              replace H : (if t329 < 0 then (some false) else (if t329 = t318 then (some true) else (some false))) = some r := H
              have A68 := aS A680
              clear A680
              have HC69 := aS H
              clear H
              go_upto_if 97 with (first | ((with_reducible refine gate_callee (f := 41) rfl ?_); refine goesL_ (some 95) rfl rfl Try.func41 (by kernel_rfl) rfl #[.slice Ao49 t319.length co49, .int .i64 1] rfl sG ?_; (with_reducible refine (laws_heldFractionS.calls kj54 _ _ t319 1 t329 _ ?side1 ?side2 A68.out).mono ?_); (case side1 => exact sC (Kd.R_reads' HO_9.out).2.2); (case side2 => exact (Kd.R_reads' HO_9.out).2.1); rintro e w' ⟨rfl, ⟨nd, rfl⟩⟩; refine ⟨_, rfl, ?_⟩))
              (try simp only [Act.put, List.setIfInBounds_toArray, List.set_cons_zero, List.set_cons_succ])
              have H := HC69.out
              clear HC69
              by_cases c70 : t329 < 0
              ·
               rw [if_pos c70] at H
               have c70b0 : decide (t329 < 0) = true := decide_eq_true c70
               clear c70
               (first | rw [c70b0] | (simp only [i64_w, i32_w]; rw [c70b0]) | (rw [c70b2]; simp only [Bool.not_false, Bool.not_true]) | skip)
               obtain rfl := Option.some.inj H
               go_wp2
               go_ret
               exact ⟨by first | rfl | (simp [errW_none, errW_some, i64_w]; done) | (simp [errW_none, errW_some] <;> rfl) | (simp [*, errW_none, errW_some] <;> rfl), by repeat (first | (with_reducible first | exact HB.out | apply below_alloc | apply pw_below_drewN | apply below_drew1) | exact HB.out)⟩
              ·
               rw [if_neg c70] at H
               have c70b0 : decide (t329 < 0) = false := decide_eq_false c70
               clear c70
               (first | rw [c70b0] | (simp only [i64_w, i32_w]; rw [c70b0]) | (rw [c70b2]; simp only [Bool.not_false, Bool.not_true]) | skip)
               by_cases c71 : t329 = t318
               ·
                rw [if_pos c71] at H
                have c71b0 : (t329 == t318) = true := beq_iff_eq.mpr c71
                have c71b1 : (t329 != t318) = false := bne_eq_false_iff_eq.mpr c71
                clear c71
                obtain rfl := Option.some.inj H
                go_wp2
                go_ret
                exact ⟨by first | rfl | (simp [errW_none, errW_some, i64_w]; done) | (simp [errW_none, errW_some] <;> rfl) | (simp [*, errW_none, errW_some] <;> rfl), by repeat (first | (with_reducible first | exact HB.out | apply below_alloc | apply pw_below_drewN | apply below_drew1) | exact HB.out)⟩
               ·
                rw [if_neg c71] at H
                have c71b0 : (t329 == t318) = false := beq_eq_false_iff_ne.mpr c71
                have c71b1 : (t329 != t318) = true := bne_iff_ne.mpr c71
                obtain rfl := Option.some.inj H
                go_wp2
                go_ret
                exact ⟨by first | rfl | (simp [errW_none, errW_some, i64_w]; done) | (simp [errW_none, errW_some] <;> rfl) | (simp [*, errW_none, errW_some] <;> rfl), by repeat (first | (with_reducible first | exact HB.out | apply below_alloc | apply pw_below_drewN | apply below_drew1) | exact HB.out)⟩
          ·
           rw [if_neg c52] at H
           have c52b0 : (t320 == t318) = false := beq_eq_false_iff_ne.mpr c52
           have c52b1 : (t320 != t318) = true := bne_iff_ne.mpr c52
           obtain rfl := Option.some.inj H
           go_wp2
           go_ret
           exact ⟨by first | rfl | (simp [errW_none, errW_some, i64_w]; done) | (simp [errW_none, errW_some] <;> rfl) | (simp [*, errW_none, errW_some] <;> rfl), by repeat (first | (with_reducible first | exact HB.out | apply below_alloc | apply pw_below_drewN | apply below_drew1) | exact HB.out)⟩
     ·
      replace c32 := Bool.eq_false_iff.mpr c32
      subst c32
      have H1 : (some false) = some r := by rw [if_neg (show ¬ (false = true) by decide)] at H; exact H
      clear H
      have H := H1
      clear H1
      obtain rfl := Option.some.inj H
      go_wp2
      go_ret
      exact ⟨by first | rfl | (simp [errW_none, errW_some, i64_w]; done) | (simp [errW_none, errW_some] <;> rfl) | (simp [*, errW_none, errW_some] <;> rfl), by repeat (first | (with_reducible first | exact HB.out | apply below_alloc | apply pw_below_drewN | apply below_drew1) | exact HB.out)⟩

/-- THE ONE PURE STATEMENT of laws_FnExactSharedForces. -/
def laws_FnExactSharedForces.Pure : Prop := ∀ (l0 : List (S23)) (a1 : Int), (l0.length * 16 ≤ 140737488351232 ∧ l0.length ≤ maxLen ∧ (∀ y0 ∈ l0, ((Lit.int .i64 y0.f0).wf = true) ∧ ((Lit.int .i64 y0.f1).wf = true))) → ((Lit.int .i64 a1).wf = true) → ∃ k, laws_FnExactSharedForces.f k l0 a1 = some true
theorem laws_FnExactSharedForces.walk : True := trivial

end Go.Proofs.Ytmokjfncblnfcaa.QFnExactSharedForces

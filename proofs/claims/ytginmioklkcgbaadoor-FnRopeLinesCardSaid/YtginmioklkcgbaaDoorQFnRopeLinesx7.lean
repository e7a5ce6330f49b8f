/- What the Go functions of this law compute, each as a Lean function, and that each call comes to that answer; written by a program of this session. No condition. -/
import Derived.Test.YtginmioklkcgbaaDoorQFnRopeLinesx0
import Derived.Test.YtginmioklkcgbaaDoorQFnRopeLinesx1
import Derived.Test.YtginmioklkcgbaaDoorQFnRopeLinesx3
import Derived.Test.YtginmioklkcgbaaDoorQFnRopeLinesx4
import Derived.Test.YtginmioklkcgbaaDoorQFnRopeLinesx5
import Derived.Test.YtginmioklkcgbaaDoorQFnRopeLinesx6
namespace Go.Proofs.YtginmioklkcgbaaDoor.QFnRopeLines
open Go.RowKit Go.Proofs.YtginmioklkcgbaaDoorW.PrintWords Go.Proofs.YtginmioklkcgbaaDoorW.PrintLast Go.Proofs.YtginmioklkcgbaaDoorW.PrintMore
attribute [local go_sem] max2_int min2_int max_two min_two max_three min_three max_four min_four   -- for this text's walks alone
set_option linter.unusedVariables false
set_option linter.unusedSimpArgs false

attribute [local go_sem high] eqA45
/-! ### laws_FnRopeLines: function 10 -/
mutual
def laws_FnRopeLines.j0 : Nat → List Int → Int → Int → Bool → ByteArray → Int → Int → Int → Option (Bool)
 | 0, _, _, _, _, _, _, _, _ => none
 | k + 1, x1, x6, x7, x45, x233000, x233001, x233002, x233003 => if x45 = true then (some false) else ((impl_WeightOfLine.f k x233000 x233001 x233002 x233003 x7).bind fun bt236 => (if bt236.2.2 = 0 then (if bt236.2.1 < 1 then (laws_FnRopeLines.j1 k x1 x6 x7 true x233000 x233001 x233002 x233003) else (if bt236.2.1 > 10000 then (laws_FnRopeLines.j1 k x1 x6 x7 true x233000 x233001 x233002 x233003) else (if bt236.1 > (wrap64 (x6 * bt236.2.1)) then (laws_FnRopeLines.j1 k x1 x6 x7 true x233000 x233001 x233002 x233003) else (laws_FnRopeLines.j1 k x1 x6 x7 ((wrap64 (bt236.1 * 10000)) != (wrap64 ((wrap64 (x7 * x233003)) * bt236.2.1))) x233000 x233001 x233002 x233003)))) else (laws_FnRopeLines.j1 k x1 x6 x7 true x233000 x233001 x233002 x233003)))
def laws_FnRopeLines.j1 : Nat → List Int → Int → Int → Bool → ByteArray → Int → Int → Int → Option (Bool)
 | 0, _, _, _, _, _, _, _, _ => none
 | k + 1, x1, x6, x7, x85, x233000, x233001, x233002, x233003 => if x85 = true then (some false) else (if x7 < 1000000 then ((impl_WeightOfLine.f k x233000 x233001 x233002 x233003 (wrap64 (x7 + 1))).bind fun bt240 => (if bt240.2.2 = 0 then (if bt240.2.1 < 1 then (some false) else (if bt240.1 ≤ (wrap64 (x6 * bt240.2.1)) then (some false) else (laws_FnRopeLines.j2 k x1 x233000 x233001 x233002 x233003))) else (some false))) else (laws_FnRopeLines.j2 k x1 x233000 x233001 x233002 x233003))
def laws_FnRopeLines.j2 : Nat → List Int → ByteArray → Int → Int → Int → Option (Bool)
 | 0, _, _, _, _, _ => none
 | k + 1, x1, x233000, x233001, x233002, x233003 => (laws_a2At.f x1 1 200).bind fun t244 => ((laws_a2At.f x1 2 20).bind fun t245 => ((impl_PartsFor.f k x233000 x233001 x233002 x233003 (wrap64 (100 * (wrap64 (1 + t244)))) (wrap64 (1 + t245))).bind fun bt246 => (if bt246.2 = 0 then (if bt246.1 < 1 then (laws_FnRopeLines.j3 k x1 true x233000 x233001 x233002 x233003) else (if bt246.1 > 1000000 then (laws_FnRopeLines.j3 k x1 true x233000 x233001 x233002 x233003) else (if (wrap64 (bt246.1 * x233002)) < (wrap64 ((wrap64 (100 * (wrap64 (1 + t244)))) * (wrap64 (1 + t245)))) then (laws_FnRopeLines.j3 k x1 true x233000 x233001 x233002 x233003) else (laws_FnRopeLines.j3 k x1 (decide ((wrap64 ((wrap64 (bt246.1 - 1)) * x233002)) ≥ (wrap64 ((wrap64 (100 * (wrap64 (1 + t244)))) * (wrap64 (1 + t245)))))) x233000 x233001 x233002 x233003)))) else (laws_FnRopeLines.j3 k x1 true x233000 x233001 x233002 x233003))))
def laws_FnRopeLines.j3 : Nat → List Int → Bool → ByteArray → Int → Int → Int → Option (Bool)
 | 0, _, _, _, _, _, _ => none
 | k + 1, x1, x155, x233000, x233001, x233002, x233003 => if x155 = true then (some false) else ((laws_a2At.f x1 3 101).bind fun t248 => ((impl_WornStrength.f k x233000 x233001 x233002 x233003 t248).bind fun bt249 => ((impl_RopeText.f k x233000 x233001 x233002 x233003).bind fun t251 => ((impl_ReadRope.f k t251).bind fun bt252 => (if bt249.2 = 0 then (if bt249.1 ≥ 0 then (if bt249.1 ≤ x233002 then (if (wrap64 (100 * bt249.1)) ≤ (wrap64 (x233002 * (wrap64 (100 - t248)))) then (if (wrap64 (100 * (wrap64 (bt249.1 + 1)))) > (wrap64 (x233002 * (wrap64 (100 - t248)))) then (if bt252.2.2.2.2 = true then (some (bt252.1.toList == x233000.toList && (bt252.2.1 == x233001 && (bt252.2.2.1 == x233002 && (bt252.2.2.2.1 == x233003))))) else (some false)) else (some false)) else (some false)) else (some false)) else (some false)) else (some false))))))
end
def laws_FnRopeLines.f (k : Nat) (l0 : List Int) (l1 : List Int) : Option (Bool) := (laws_a2Long.f l0 l1).bind fun t227 => (if t227 = true then (some true) else ((spec_A2Rope.f l0).bind fun bt228 => ((laws_a2At.f l1 0 200).bind fun t233 => ((impl_LengthForWeight.f k bt228.1 bt228.2.1 bt228.2.2.1 bt228.2.2.2 (wrap64 (t233 * 20))).bind fun bt234 => (if bt234.2 = 0 then (if bt234.1 < 0 then (laws_FnRopeLines.j0 k l1 (wrap64 (t233 * 20)) bt234.1 true bt228.1 bt228.2.1 bt228.2.2.1 bt228.2.2.2) else (laws_FnRopeLines.j0 k l1 (wrap64 (t233 * 20)) bt234.1 (decide (bt234.1 > 1000000)) bt228.1 bt228.2.1 bt228.2.2.1 bt228.2.2.2)) else (laws_FnRopeLines.j0 k l1 (wrap64 (t233 * 20)) bt234.1 true bt228.1 bt228.2.1 bt228.2.2.1 bt228.2.2.2))))))
theorem laws_FnRopeLines.mono_l : ∀ k, (∀ y0 y1 y2 y3 y4 y5 y6 y7, LeO (laws_FnRopeLines.j0 k y0 y1 y2 y3 y4 y5 y6 y7) (laws_FnRopeLines.j0 (k + 1) y0 y1 y2 y3 y4 y5 y6 y7)) ∧ (∀ y0 y1 y2 y3 y4 y5 y6 y7, LeO (laws_FnRopeLines.j1 k y0 y1 y2 y3 y4 y5 y6 y7) (laws_FnRopeLines.j1 (k + 1) y0 y1 y2 y3 y4 y5 y6 y7)) ∧ (∀ y0 y1 y2 y3 y4, LeO (laws_FnRopeLines.j2 k y0 y1 y2 y3 y4) (laws_FnRopeLines.j2 (k + 1) y0 y1 y2 y3 y4)) ∧ (∀ y0 y1 y2 y3 y4 y5, LeO (laws_FnRopeLines.j3 k y0 y1 y2 y3 y4 y5) (laws_FnRopeLines.j3 (k + 1) y0 y1 y2 y3 y4 y5))
 | 0 => ⟨fun _ _ _ _ _ _ _ _ r h => by simp [laws_FnRopeLines.j0] at h, fun _ _ _ _ _ _ _ _ r h => by simp [laws_FnRopeLines.j1] at h, fun _ _ _ _ _ r h => by simp [laws_FnRopeLines.j2] at h, fun _ _ _ _ _ _ r h => by simp [laws_FnRopeLines.j3] at h⟩
 | k + 1 => by
  obtain ⟨ih0, ih1, ih2, ih3⟩ := laws_FnRopeLines.mono_l k
  refine ⟨?_, ?_, ?_, ?_⟩
  ·
   intro y0 y1 y2 y3 y4 y5 y6 y7
   unfold laws_FnRopeLines.j0
   repeat' first
   | (with_reducible exact ih0 _ _ _ _ _ _ _ _)
   | (with_reducible exact ih1 _ _ _ _ _ _ _ _)
   | (with_reducible exact ih2 _ _ _ _ _)
   | (with_reducible exact ih3 _ _ _ _ _ _)
   | (with_reducible exact impl_LengthForWeight.mono _ _ _ _ _ _)
   | (with_reducible exact impl_PartsFor.mono _ _ _ _ _ _ _)
   | (with_reducible exact impl_ReadRope.mono _ _)
   | (with_reducible exact impl_RopeText.mono _ _ _ _ _)
   | (with_reducible exact impl_WeightOfLine.mono _ _ _ _ _ _)
   | (with_reducible exact impl_WornStrength.mono _ _ _ _ _ _)
   | (with_reducible exact LeO.refl _)
   | (with_reducible exact LeO.none _)
   | (with_reducible refine LeO.ite ?_ ?_)
   | (with_reducible refine LeO.bind ?_ (fun _ => ?_))
   | exact ih0 _ _ _ _ _ _ _ _
   | exact ih1 _ _ _ _ _ _ _ _
   | exact ih2 _ _ _ _ _
   | exact ih3 _ _ _ _ _ _
   | exact impl_LengthForWeight.mono _ _ _ _ _ _
   | exact impl_PartsFor.mono _ _ _ _ _ _ _
   | exact impl_ReadRope.mono _ _
   | exact impl_RopeText.mono _ _ _ _ _
   | exact impl_WeightOfLine.mono _ _ _ _ _ _
   | exact impl_WornStrength.mono _ _ _ _ _ _
   | exact LeO.none _
   | refine LeO.ite ?_ ?_
   | refine LeO.bind ?_ (fun _ => ?_)
  ·
   intro y0 y1 y2 y3 y4 y5 y6 y7
   unfold laws_FnRopeLines.j1
   repeat' first
   | (with_reducible exact ih0 _ _ _ _ _ _ _ _)
   | (with_reducible exact ih1 _ _ _ _ _ _ _ _)
   | (with_reducible exact ih2 _ _ _ _ _)
   | (with_reducible exact ih3 _ _ _ _ _ _)
   | (with_reducible exact impl_LengthForWeight.mono _ _ _ _ _ _)
   | (with_reducible exact impl_PartsFor.mono _ _ _ _ _ _ _)
   | (with_reducible exact impl_ReadRope.mono _ _)
   | (with_reducible exact impl_RopeText.mono _ _ _ _ _)
   | (with_reducible exact impl_WeightOfLine.mono _ _ _ _ _ _)
   | (with_reducible exact impl_WornStrength.mono _ _ _ _ _ _)
   | (with_reducible exact LeO.refl _)
   | (with_reducible exact LeO.none _)
   | (with_reducible refine LeO.ite ?_ ?_)
   | (with_reducible refine LeO.bind ?_ (fun _ => ?_))
   | exact ih0 _ _ _ _ _ _ _ _
   | exact ih1 _ _ _ _ _ _ _ _
   | exact ih2 _ _ _ _ _
   | exact ih3 _ _ _ _ _ _
   | exact impl_LengthForWeight.mono _ _ _ _ _ _
   | exact impl_PartsFor.mono _ _ _ _ _ _ _
   | exact impl_ReadRope.mono _ _
   | exact impl_RopeText.mono _ _ _ _ _
   | exact impl_WeightOfLine.mono _ _ _ _ _ _
   | exact impl_WornStrength.mono _ _ _ _ _ _
   | exact LeO.none _
   | refine LeO.ite ?_ ?_
   | refine LeO.bind ?_ (fun _ => ?_)
  ·
   intro y0 y1 y2 y3 y4
   unfold laws_FnRopeLines.j2
   repeat' first
   | (with_reducible exact ih0 _ _ _ _ _ _ _ _)
   | (with_reducible exact ih1 _ _ _ _ _ _ _ _)
   | (with_reducible exact ih2 _ _ _ _ _)
   | (with_reducible exact ih3 _ _ _ _ _ _)
   | (with_reducible exact impl_LengthForWeight.mono _ _ _ _ _ _)
   | (with_reducible exact impl_PartsFor.mono _ _ _ _ _ _ _)
   | (with_reducible exact impl_ReadRope.mono _ _)
   | (with_reducible exact impl_RopeText.mono _ _ _ _ _)
   | (with_reducible exact impl_WeightOfLine.mono _ _ _ _ _ _)
   | (with_reducible exact impl_WornStrength.mono _ _ _ _ _ _)
   | (with_reducible exact LeO.refl _)
   | (with_reducible exact LeO.none _)
   | (with_reducible refine LeO.ite ?_ ?_)
   | (with_reducible refine LeO.bind ?_ (fun _ => ?_))
   | exact ih0 _ _ _ _ _ _ _ _
   | exact ih1 _ _ _ _ _ _ _ _
   | exact ih2 _ _ _ _ _
   | exact ih3 _ _ _ _ _ _
   | exact impl_LengthForWeight.mono _ _ _ _ _ _
   | exact impl_PartsFor.mono _ _ _ _ _ _ _
   | exact impl_ReadRope.mono _ _
   | exact impl_RopeText.mono _ _ _ _ _
   | exact impl_WeightOfLine.mono _ _ _ _ _ _
   | exact impl_WornStrength.mono _ _ _ _ _ _
   | exact LeO.none _
   | refine LeO.ite ?_ ?_
   | refine LeO.bind ?_ (fun _ => ?_)
  ·
   intro y0 y1 y2 y3 y4 y5
   unfold laws_FnRopeLines.j3
   repeat' first
   | (with_reducible exact ih0 _ _ _ _ _ _ _ _)
   | (with_reducible exact ih1 _ _ _ _ _ _ _ _)
   | (with_reducible exact ih2 _ _ _ _ _)
   | (with_reducible exact ih3 _ _ _ _ _ _)
   | (with_reducible exact impl_LengthForWeight.mono _ _ _ _ _ _)
   | (with_reducible exact impl_PartsFor.mono _ _ _ _ _ _ _)
   | (with_reducible exact impl_ReadRope.mono _ _)
   | (with_reducible exact impl_RopeText.mono _ _ _ _ _)
   | (with_reducible exact impl_WeightOfLine.mono _ _ _ _ _ _)
   | (with_reducible exact impl_WornStrength.mono _ _ _ _ _ _)
   | (with_reducible exact LeO.refl _)
   | (with_reducible exact LeO.none _)
   | (with_reducible refine LeO.ite ?_ ?_)
   | (with_reducible refine LeO.bind ?_ (fun _ => ?_))
   | exact ih0 _ _ _ _ _ _ _ _
   | exact ih1 _ _ _ _ _ _ _ _
   | exact ih2 _ _ _ _ _
   | exact ih3 _ _ _ _ _ _
   | exact impl_LengthForWeight.mono _ _ _ _ _ _
   | exact impl_PartsFor.mono _ _ _ _ _ _ _
   | exact impl_ReadRope.mono _ _
   | exact impl_RopeText.mono _ _ _ _ _
   | exact impl_WeightOfLine.mono _ _ _ _ _ _
   | exact impl_WornStrength.mono _ _ _ _ _ _
   | exact LeO.none _
   | refine LeO.ite ?_ ?_
   | refine LeO.bind ?_ (fun _ => ?_)
theorem laws_FnRopeLines.mono : ∀ a0 a1 k, LeO (laws_FnRopeLines.f k a0 a1) (laws_FnRopeLines.f (k + 1) a0 a1) := by
 intro a0 a1 k
 obtain ⟨ih0, ih1, ih2, ih3⟩ := laws_FnRopeLines.mono_l k
 unfold laws_FnRopeLines.f
 repeat' first
   | (with_reducible exact ih0 _ _ _ _ _ _ _ _)
   | (with_reducible exact ih1 _ _ _ _ _ _ _ _)
   | (with_reducible exact ih2 _ _ _ _ _)
   | (with_reducible exact ih3 _ _ _ _ _ _)
   | (with_reducible exact impl_LengthForWeight.mono _ _ _ _ _ _)
   | (with_reducible exact impl_PartsFor.mono _ _ _ _ _ _ _)
   | (with_reducible exact impl_ReadRope.mono _ _)
   | (with_reducible exact impl_RopeText.mono _ _ _ _ _)
   | (with_reducible exact impl_WeightOfLine.mono _ _ _ _ _ _)
   | (with_reducible exact impl_WornStrength.mono _ _ _ _ _ _)
   | (with_reducible exact LeO.refl _)
   | (with_reducible exact LeO.none _)
   | (with_reducible refine LeO.ite ?_ ?_)
   | (with_reducible refine LeO.bind ?_ (fun _ => ?_))
   | exact ih0 _ _ _ _ _ _ _ _
   | exact ih1 _ _ _ _ _ _ _ _
   | exact ih2 _ _ _ _ _
   | exact ih3 _ _ _ _ _ _
   | exact impl_LengthForWeight.mono _ _ _ _ _ _
   | exact impl_PartsFor.mono _ _ _ _ _ _ _
   | exact impl_ReadRope.mono _ _
   | exact impl_RopeText.mono _ _ _ _ _
   | exact impl_WeightOfLine.mono _ _ _ _ _ _
   | exact impl_WornStrength.mono _ _ _ _ _ _
   | exact LeO.none _
   | refine LeO.ite ?_ ?_
   | refine LeO.bind ?_ (fun _ => ?_)
def laws_FnRopeLines.bF (n k : Nat) : Array Bool := ((List.range n).map fun i => k.testBit i).toArray
set_option maxHeartbeats 8000000 in
set_option maxRecDepth 100000 in
theorem laws_FnRopeLines.calls (k : Nat) (A0 : Option Addr) (c0 : Nat) (l0 : List Int) (A1 : Option Addr) (c1 : Nat) (l1 : List Int) (r : Bool) (w : World) (hM : Gnd.Max w) (hT : Gnd.Tab w) (hr0 : Kd.C (Kd.int .u8) w A0 l0.length l0) (hc0 : l0.length ≤ c0) (hr1 : Kd.C (Kd.int .u8) w A1 l1.length l1) (hc1 : l1.length ≤ c1) (h : laws_FnRopeLines.f k l0 l1 = some r) :
  Calls Tryd.prog 10 #[.slice A0 l0.length c0, .slice A1 l1.length c1] w fun e w' => e = .returned (.bool r) ∧ Below w.heap.size w w' := by
 have hu45 := Tryd.underlying45
 have hu58 := Tryd.underlying58
 have HR0 := aS hr0
 have HC0 := aS hc0
 clear hr0 hc0
 have HR1 := aS hr1
 have HC1 := aS hc1
 clear hr1 hc1
 have HB := aS (Below.refl w.heap.size w)
 have H : ((laws_a2Long.f l0 l1).bind fun t227 => (if t227 = true then (some true) else ((spec_A2Rope.f l0).bind fun bt228 => ((laws_a2At.f l1 0 200).bind fun t233 => ((impl_LengthForWeight.f k bt228.1 bt228.2.1 bt228.2.2.1 bt228.2.2.2 (wrap64 (t233 * 20))).bind fun bt234 => (if bt234.2 = 0 then (if bt234.1 < 0 then (laws_FnRopeLines.j0 k l1 (wrap64 (t233 * 20)) bt234.1 true bt228.1 bt228.2.1 bt228.2.2.1 bt228.2.2.2) else (laws_FnRopeLines.j0 k l1 (wrap64 (t233 * 20)) bt234.1 (decide (bt234.1 > 1000000)) bt228.1 bt228.2.1 bt228.2.2.1 bt228.2.2.2)) else (laws_FnRopeLines.j0 k l1 (wrap64 (t233 * 20)) bt234.1 true bt228.1 bt228.2.1 bt228.2.2.1 bt228.2.2.2))))))) = some r := h
 clear h
 replace H := Option.bind_eq_some_iff.mp H
 obtain ⟨t227, A30, H⟩ := H
 replace H : (if t227 = true then (some true) else ((spec_A2Rope.f l0).bind fun bt228 => ((laws_a2At.f l1 0 200).bind fun t233 => ((impl_LengthForWeight.f k bt228.1 bt228.2.1 bt228.2.2.1 bt228.2.2.2 (wrap64 (t233 * 20))).bind fun bt234 => (if bt234.2 = 0 then (if bt234.1 < 0 then (laws_FnRopeLines.j0 k l1 (wrap64 (t233 * 20)) bt234.1 true bt228.1 bt228.2.1 bt228.2.2.1 bt228.2.2.2) else (laws_FnRopeLines.j0 k l1 (wrap64 (t233 * 20)) bt234.1 (decide (bt234.1 > 1000000)) bt228.1 bt228.2.1 bt228.2.2.1 bt228.2.2.2)) else (laws_FnRopeLines.j0 k l1 (wrap64 (t233 * 20)) bt234.1 true bt228.1 bt228.2.1 bt228.2.2.1 bt228.2.2.2)))))) = some r := H
 have A3 := aS A30
 clear A30
 have HC4 := aS H
 clear H
 go_enter Tryd.func10, Tryd.ntmps10
 go_upto_if 24 with (first | ((with_reducible refine gate_callee (f := 35) rfl ?_); refine goesL_ (some 24) rfl rfl Tryd.func35 (by kernel_rfl) rfl #[.slice A0 l0.length c0, .slice A1 l1.length c1] rfl sG ?_; (with_reducible refine (laws_a2Long.calls _ _ l0 _ _ l1 t227 _ ?side1 ?side2 ?side3 ?side4 A3.out).mono ?_); (case side1 => exact sC HR0.out); (case side2 => exact HC0.out); (case side3 => exact sC HR1.out); (case side4 => exact HC1.out); rintro e w' ⟨rfl, ⟨nd, rfl⟩⟩; refine ⟨_, rfl, ?_⟩))
 (try simp only [Act.put, List.setIfInBounds_toArray, List.set_cons_zero, List.set_cons_succ])
 have H := HC4.out
 clear HC4
 by_cases c5 : t227 = true
 ·
  subst c5
  have H1 : (some true) = some r := by rw [if_pos rfl] at H; exact H
  clear H
  have H := H1
  clear H1
  obtain rfl := Option.some.inj H
  go_wp2
  go_ret
  exact ⟨by first | rfl | (simp [errW_none, errW_some, i64_w]; done) | (simp [errW_none, errW_some] <;> rfl) | (simp [*, errW_none, errW_some] <;> rfl), by repeat (first | (with_reducible first | exact HB.out | apply below_alloc | apply pw_below_drewN | apply below_drew1) | exact HB.out)⟩
 ·
  replace c5 := Bool.eq_false_iff.mpr c5
  subst c5
  have H1 : ((spec_A2Rope.f l0).bind fun bt228 => ((laws_a2At.f l1 0 200).bind fun t233 => ((impl_LengthForWeight.f k bt228.1 bt228.2.1 bt228.2.2.1 bt228.2.2.2 (wrap64 (t233 * 20))).bind fun bt234 => (if bt234.2 = 0 then (if bt234.1 < 0 then (laws_FnRopeLines.j0 k l1 (wrap64 (t233 * 20)) bt234.1 true bt228.1 bt228.2.1 bt228.2.2.1 bt228.2.2.2) else (laws_FnRopeLines.j0 k l1 (wrap64 (t233 * 20)) bt234.1 (decide (bt234.1 > 1000000)) bt228.1 bt228.2.1 bt228.2.2.1 bt228.2.2.2)) else (laws_FnRopeLines.j0 k l1 (wrap64 (t233 * 20)) bt234.1 true bt228.1 bt228.2.1 bt228.2.2.1 bt228.2.2.2))))) = some r := by rw [if_neg (show ¬ (false = true) by decide)] at H; exact H
  clear H
  have H := H1
  clear H1
  replace H := Option.bind_eq_some_iff.mp H
  obtain ⟨⟨t228, t229, t230, t231⟩, A60, H⟩ := H
  replace H : ((laws_a2At.f l1 0 200).bind fun t233 => ((impl_LengthForWeight.f k t228 t229 t230 t231 (wrap64 (t233 * 20))).bind fun bt234 => (if bt234.2 = 0 then (if bt234.1 < 0 then (laws_FnRopeLines.j0 k l1 (wrap64 (t233 * 20)) bt234.1 true t228 t229 t230 t231) else (laws_FnRopeLines.j0 k l1 (wrap64 (t233 * 20)) bt234.1 (decide (bt234.1 > 1000000)) t228 t229 t230 t231)) else (laws_FnRopeLines.j0 k l1 (wrap64 (t233 * 20)) bt234.1 true t228 t229 t230 t231)))) = some r := H
  have A6 := aS A60
  clear A60
  replace H := Option.bind_eq_some_iff.mp H
  obtain ⟨t233, A70, H⟩ := H
  replace H : ((impl_LengthForWeight.f k t228 t229 t230 t231 (wrap64 (t233 * 20))).bind fun bt234 => (if bt234.2 = 0 then (if bt234.1 < 0 then (laws_FnRopeLines.j0 k l1 (wrap64 (t233 * 20)) bt234.1 true t228 t229 t230 t231) else (laws_FnRopeLines.j0 k l1 (wrap64 (t233 * 20)) bt234.1 (decide (bt234.1 > 1000000)) t228 t229 t230 t231)) else (laws_FnRopeLines.j0 k l1 (wrap64 (t233 * 20)) bt234.1 true t228 t229 t230 t231))) = some r := H
  have A7 := aS A70
  clear A70
  replace H := Option.bind_eq_some_iff.mp H
  obtain ⟨⟨t234, t235⟩, A80, H⟩ := H
  replace H : (if t235 = 0 then (if t234 < 0 then (laws_FnRopeLines.j0 k l1 (wrap64 (t233 * 20)) t234 true t228 t229 t230 t231) else (laws_FnRopeLines.j0 k l1 (wrap64 (t233 * 20)) t234 (decide (t234 > 1000000)) t228 t229 t230 t231)) else (laws_FnRopeLines.j0 k l1 (wrap64 (t233 * 20)) t234 true t228 t229 t230 t231)) = some r := H
  have A8 := aS A80
  clear A80
  have HC9 := aS H
  clear H
  go_upto_region 6 with (first | ((with_reducible refine gate_callee (f := 36) rfl ?_); refine goesL_ (some 26) rfl rfl Tryd.func36 (by kernel_rfl) rfl #[.slice A0 l0.length c0] rfl sG ?_; (with_reducible refine (spec_A2Rope.calls _ _ l0 t228 t229 t230 t231 _ ?side1 ?side2 A6.out).mono ?_); (case side1 => exact sC (Kd.C_below HR0.out HB.out)); (case side2 => exact HC0.out); rintro e w10 ⟨rfl, hb⟩; refine ⟨_, rfl, ?_⟩; have n0_ := aS (below_step (sW HB.out) hb); clear HB; have HB := n0_; clear n0_; (try clear hb); (try clear hb2); (try clear hk); (try clear hi)) | ((with_reducible refine gate_dst (N := 5) rfl ?_); refine box_event ?hg (N := 5) ?hd (cs := #[.string (⟨#[]⟩ : ByteArray), .int .i64 0, .int .i64 0, .int .i64 0]) (t := 45) ?hr ?_; (case hd => rfl); (case hg => rfl); (case hr => first | (go_simp; done) | (go_simp; rfl)); intro gb232 hg w11 hbox hb; have n0_ := aS (below_step (sW HB.out) hb); have n1_ := aS (hbox); have n2_ := aS ((by rw [hg]; exact (below_size (sW HB.out)) : w.heap.size ≤ gb232)); have n3_ := aS ((by rw [hg]; exact (below_size (sW HB.out)) : w.heap.size ≤ gb232)); clear HB; have HB := n0_; have BK232 := n1_; have GW232 := n2_; have GE232 := n3_; clear n0_ n1_ n2_ n3_; clear hb hbox hg; have hcz12_0 : w11.cell? ⟨gb232, 0, none⟩ = some (.string (⟨#[]⟩ : ByteArray)) := (blk_cell BK232.out 0).trans rfl; have hcz12_1 : w11.cell? ⟨gb232, 1, none⟩ = some (.int .i64 0) := (blk_cell BK232.out 1).trans rfl; have hcz12_2 : w11.cell? ⟨gb232, 2, none⟩ = some (.int .i64 0) := (blk_cell BK232.out 2).trans rfl; have hcz12_3 : w11.cell? ⟨gb232, 3, none⟩ = some (.int .i64 0) := (blk_cell BK232.out 3).trans rfl; have hfz12_0 := blk_frozen BK232.out 0; have hfz12_1 := blk_frozen BK232.out 1; have hfz12_2 := blk_frozen BK232.out 2; have hfz12_3 := blk_frozen BK232.out 3) | ((with_reducible refine gate_callee (f := 37) rfl ?_); refine goesL_ (some 28) rfl rfl Tryd.func37 (by kernel_rfl) rfl #[.slice A1 l1.length c1, .int .i64 0, .int .i64 200] rfl sG ?_; (with_reducible refine (laws_a2At.calls _ _ l1 0 200 t233 _ ?side1 ?side2 A7.out).mono ?_); (case side1 => exact Kd.C_below HR1.out (sW HB.out)); (case side2 => exact HC1.out); rintro e w' ⟨rfl, ⟨nd, rfl⟩⟩; refine ⟨_, rfl, ?_⟩) | ((with_reducible refine gate_callee (f := 38) rfl ?_); refine goesL_ (some 33) rfl rfl Tryd.func38 (by kernel_rfl) rfl #[.agg #[.string t228, .int .i64 t229, .int .i64 t230, .int .i64 t231], .int .i64 (wrap64 (t233 * 20))] rfl sG ?_; (with_reducible refine (impl_LengthForWeight.calls k t228 t229 t230 t231 (wrap64 (t233 * 20)) t234 t235 _ A8.out).mono ?_); rintro e w13 ⟨rfl, hb⟩; refine ⟨_, rfl, ?_⟩; have n0_ := aS (blk_below (g := gb232) (o := .cells #[.string t228, .int .i64 t229, .int .i64 t230, .int .i64 t231] 45 (0, 0)) (by (with_reducible repeat (first | refine blk_drewN ?_ _ | refine blk_drew ?_ | refine blk_alloc ?_ _)); refine blk_put (cs := #[.string t228, .int .i64 t229, .int .i64 t230, .int .i64 0]) ?_ 3 _ rfl; (with_reducible repeat (first | refine blk_drewN ?_ _ | refine blk_drew ?_ | refine blk_alloc ?_ _)); refine blk_put (cs := #[.string t228, .int .i64 t229, .int .i64 0, .int .i64 0]) ?_ 2 _ rfl; (with_reducible repeat (first | refine blk_drewN ?_ _ | refine blk_drew ?_ | refine blk_alloc ?_ _)); refine blk_put (cs := #[.string t228, .int .i64 0, .int .i64 0, .int .i64 0]) ?_ 1 _ rfl; (with_reducible repeat (first | refine blk_drewN ?_ _ | refine blk_drew ?_ | refine blk_alloc ?_ _)); refine blk_put (cs := #[.string (⟨#[]⟩ : ByteArray), .int .i64 0, .int .i64 0, .int .i64 0]) ?_ 0 _ rfl; (with_reducible repeat (first | refine blk_drewN ?_ _ | refine blk_drew ?_ | refine blk_alloc ?_ _)); exact BK232.out) hb); have n1_ := aS (below_step (sW HB.out) hb); clear BK232 HB; have BK232 := n0_; have HB := n1_; clear n0_ n1_; (try clear hb); (try clear hb2); (try clear hk); (try clear hi)))
  (try simp only [Act.put, List.setIfInBounds_toArray, List.set_cons_zero, List.set_cons_succ])
  go_cut [45] (fun v45 wc => ∃ (kq : Nat) (x45_8 : Bool), v45 = .bool x45_8 ∧ Aside0 (laws_FnRopeLines.j0 kq l1 (wrap64 (t233 * 20)) t234 x45_8 t228 t229 t230 t231 = some r) ∧ Aside0 (kq ≤ k) ∧ Aside0 (wc.heap[gb232]? = some (.cells #[.string t228, .int .i64 t229, .int .i64 t230, .int .i64 t231] 45 (0, 0))) ∧ Aside0 (Below w.heap.size w wc))
  case first =>
   as_aux_lemma =>
    have H := HC9.out
    clear HC9
    by_cases c14 : t235 = 0
    rotate_left
    ·
     rw [if_neg c14] at H
     have c14b0 : (t235 == 0) = false := beq_eq_false_iff_ne.mpr c14
     have c14b1 : (t235 != 0) = true := bne_iff_ne.mpr c14
     (first | rw [c14b0] | (simp only [i64_w, i32_w]; rw [c14b0]) | (rw [c14b2]; simp only [Bool.not_false, Bool.not_true]) | skip)
     have H' := aS H
     clear H
     go_wp2
     go_meet
     case rel => exact ⟨_, (true), (by first | rfl | (simp; done) | (simp [*]; done) | (simp only [i64_w]; done) | (simp [i64_w]; done)), H', ⟨by first | omega | exact Nat.le_refl _⟩, ⟨by (with_reducible repeat (first | refine blk_drewN ?_ _ | refine blk_drew ?_ | refine blk_alloc ?_ _)); exact BK232.out⟩, ⟨by repeat (first | (with_reducible first | exact HB.out | apply below_alloc | apply pw_below_drewN | apply below_drew1 | refine below_set ?_ GE232.out) | exact HB.out)⟩⟩
    rw [if_pos c14] at H
    have c14b0 : (t235 == 0) = true := beq_iff_eq.mpr c14
    have c14b1 : (t235 != 0) = false := bne_eq_false_iff_eq.mpr c14
    clear c14
    (first | rw [c14b0] | (simp only [i64_w, i32_w]; rw [c14b0]) | (rw [c14b2]; simp only [Bool.not_false, Bool.not_true]) | skip)
    by_cases c15 : t234 < 0
    ·
     rw [if_pos c15] at H
     have c15b0 : decide (t234 < 0) = true := decide_eq_true c15
     clear c15
     have H' := aS H
     clear H
     go_wp2
     go_meet
     case rel => exact ⟨_, (true), (by first | rfl | (simp; done) | (simp [*]; done) | (simp only [i64_w]; done) | (simp [i64_w]; done)), H', ⟨by first | omega | exact Nat.le_refl _⟩, ⟨by (with_reducible repeat (first | refine blk_drewN ?_ _ | refine blk_drew ?_ | refine blk_alloc ?_ _)); exact BK232.out⟩, ⟨by repeat (first | (with_reducible first | exact HB.out | apply below_alloc | apply pw_below_drewN | apply below_drew1 | refine below_set ?_ GE232.out) | exact HB.out)⟩⟩
    rw [if_neg c15] at H
    have c15b0 : decide (t234 < 0) = false := decide_eq_false c15
    clear c15
    have H' := aS H
    clear H
    go_wp2
    go_meet
    case rel => exact ⟨_, (decide (t234 > 1000000)), (by first | rfl | (simp; done) | (simp [*]; done) | (simp only [i64_w]; done) | (simp [i64_w]; done)), H', ⟨by first | omega | exact Nat.le_refl _⟩, ⟨by (with_reducible repeat (first | refine blk_drewN ?_ _ | refine blk_drew ?_ | refine blk_alloc ?_ _)); exact BK232.out⟩, ⟨by repeat (first | (with_reducible first | exact HB.out | apply below_alloc | apply pw_below_drewN | apply below_drew1 | refine below_set ?_ GE232.out) | exact HB.out)⟩⟩
  case rest =>
   as_aux_lemma =>
    clear HC9
    (try clear c1); (try clear p2); (try clear c3); (try clear c5); (try clear p6); (try clear c10); (try clear c14); (try clear c14b0); (try clear c14b1); (try clear c14b2); (try clear c15); (try clear c15b0); (try clear hcz12_0); (try clear hcz12_1); (try clear hcz12_2); (try clear hcz12_3); (try clear hfz12_0); (try clear hfz12_1); (try clear hfz12_2); (try clear hfz12_3)
    obtain ⟨kq, x45_8, rfl, HA, HJ8, BK232, HB⟩ := hcut
    cases kq with
    | zero => exact absurd HA.out (by simp [laws_FnRopeLines.j0])
    | succ kj8 =>
     have H := HA.out
     clear HA
     simp only [laws_FnRopeLines.j0] at H
     by_cases c16 : x45_8 = true
     ·
      subst c16
      have H1 : (some false) = some r := by rw [if_pos rfl] at H; exact H
      clear H
      have H := H1
      clear H1
      obtain rfl := Option.some.inj H
      go_wp2
      go_ret
      exact ⟨by first | rfl | (simp [errW_none, errW_some, i64_w]; done) | (simp [errW_none, errW_some] <;> rfl) | (simp [*, errW_none, errW_some] <;> rfl), by repeat (first | (with_reducible first | exact HB.out | apply below_alloc | apply pw_below_drewN | apply below_drew1) | exact HB.out)⟩
     ·
      replace c16 := Bool.eq_false_iff.mpr c16
      subst c16
      have H1 : ((impl_WeightOfLine.f kj8 t228 t229 t230 t231 t234).bind fun bt236 => (if bt236.2.2 = 0 then (if bt236.2.1 < 1 then (laws_FnRopeLines.j1 kj8 l1 (wrap64 (t233 * 20)) t234 true t228 t229 t230 t231) else (if bt236.2.1 > 10000 then (laws_FnRopeLines.j1 kj8 l1 (wrap64 (t233 * 20)) t234 true t228 t229 t230 t231) else (if bt236.1 > (wrap64 ((wrap64 (t233 * 20)) * bt236.2.1)) then (laws_FnRopeLines.j1 kj8 l1 (wrap64 (t233 * 20)) t234 true t228 t229 t230 t231) else (laws_FnRopeLines.j1 kj8 l1 (wrap64 (t233 * 20)) t234 ((wrap64 (bt236.1 * 10000)) != (wrap64 ((wrap64 (t234 * t231)) * bt236.2.1))) t228 t229 t230 t231)))) else (laws_FnRopeLines.j1 kj8 l1 (wrap64 (t233 * 20)) t234 true t228 t229 t230 t231))) = some r := by rw [if_neg (show ¬ (false = true) by decide)] at H; exact H
      clear H
      have H := H1
      clear H1
      replace H := Option.bind_eq_some_iff.mp H
      obtain ⟨⟨t236, t237, t238⟩, A170, H⟩ := H
      replace H : (if t238 = 0 then (if t237 < 1 then (laws_FnRopeLines.j1 kj8 l1 (wrap64 (t233 * 20)) t234 true t228 t229 t230 t231) else (if t237 > 10000 then (laws_FnRopeLines.j1 kj8 l1 (wrap64 (t233 * 20)) t234 true t228 t229 t230 t231) else (if t236 > (wrap64 ((wrap64 (t233 * 20)) * t237)) then (laws_FnRopeLines.j1 kj8 l1 (wrap64 (t233 * 20)) t234 true t228 t229 t230 t231) else (laws_FnRopeLines.j1 kj8 l1 (wrap64 (t233 * 20)) t234 ((wrap64 (t236 * 10000)) != (wrap64 ((wrap64 (t234 * t231)) * t237))) t228 t229 t230 t231)))) else (laws_FnRopeLines.j1 kj8 l1 (wrap64 (t233 * 20)) t234 true t228 t229 t230 t231)) = some r := H
      have A17 := aS A170
      clear A170
      have HC18 := aS H
      clear H
      have hcz19_0 : wc.cell? ⟨gb232, 0, none⟩ = some (.string t228) := (blk_cell BK232.out 0).trans rfl
      have hcz19_1 : wc.cell? ⟨gb232, 1, none⟩ = some (.int .i64 t229) := (blk_cell BK232.out 1).trans rfl
      have hcz19_2 : wc.cell? ⟨gb232, 2, none⟩ = some (.int .i64 t230) := (blk_cell BK232.out 2).trans rfl
      have hcz19_3 : wc.cell? ⟨gb232, 3, none⟩ = some (.int .i64 t231) := (blk_cell BK232.out 3).trans rfl
      have hfz19_0 := blk_frozen BK232.out 0
      have hfz19_1 := blk_frozen BK232.out 1
      have hfz19_2 := blk_frozen BK232.out 2
      have hfz19_3 := blk_frozen BK232.out 3
      go_upto_region 9 with (first | ((with_reducible refine gate_callee (f := 39) rfl ?_); refine goesL_ (some 49) rfl rfl Tryd.func39 (by kernel_rfl) rfl #[.agg #[.string t228, .int .i64 t229, .int .i64 t230, .int .i64 t231], .int .i64 t234] rfl sG ?_; (with_reducible refine (impl_WeightOfLine.calls kj8 t228 t229 t230 t231 t234 t236 t237 t238 _ A17.out).mono ?_); rintro e w20 ⟨rfl, hb⟩; refine ⟨_, rfl, ?_⟩; have n0_ := aS (blk_below (g := gb232) (o := .cells #[.string t228, .int .i64 t229, .int .i64 t230, .int .i64 t231] 45 (0, 0)) (sB BK232.out) hb); have n1_ := aS (below_step (sW HB.out) hb); clear BK232 HB; have BK232 := n0_; have HB := n1_; clear n0_ n1_; (try clear hb); (try clear hb2); (try clear hk); (try clear hi)) | ((with_reducible refine gate_dst (N := 9) rfl ?_); refine box_event ?hg (N := 9) ?hd (cs := #[.int .i64 0, .int .i64 0]) (t := 58) ?hr ?_; (case hd => rfl); (case hg => rfl); (case hr => first | (go_simp; done) | (go_simp; rfl)); intro gb239 hg w21 hbox hb; have n0_ := aS (blk_below (g := gb232) (o := .cells #[.string t228, .int .i64 t229, .int .i64 t230, .int .i64 t231] 45 (0, 0)) (sB BK232.out) hb); have n1_ := aS (below_step (sW HB.out) hb); have n2_ := aS (hbox); have n3_ := aS ((by rw [hg]; exact (below_size (sW HB.out)) : w.heap.size ≤ gb239)); have n4_ := aS ((by rw [hg]; exact (below_size (sW HB.out)) : w.heap.size ≤ gb239)); have n5_ := aS ((by rw [hg]; exact Nat.ne_of_lt (blk_lt (g := gb232) (o := .cells #[.string t228, .int .i64 t229, .int .i64 t230, .int .i64 t231] 45 (0, 0)) (sB BK232.out)) : gb232 ≠ gb239)); have n6_ := aS ((by rw [hg]; exact Nat.ne_of_gt (blk_lt (g := gb232) (o := .cells #[.string t228, .int .i64 t229, .int .i64 t230, .int .i64 t231] 45 (0, 0)) (sB BK232.out)) : gb239 ≠ gb232)); clear BK232 HB; have BK232 := n0_; have HB := n1_; have BK239 := n2_; have GW239 := n3_; have GE239 := n4_; have NB232_239 := n5_; have NB239_232 := n6_; clear n0_ n1_ n2_ n3_ n4_ n5_ n6_; clear hb hbox hg; have hnb22 := NB239_232.out; have hnc22 := NB232_239.out; have hcz23_0 : w21.cell? ⟨gb239, 0, none⟩ = some (.int .i64 0) := (blk_cell BK239.out 0).trans rfl; have hcz23_1 : w21.cell? ⟨gb239, 1, none⟩ = some (.int .i64 0) := (blk_cell BK239.out 1).trans rfl; have hfz23_0 := blk_frozen BK239.out 0; have hfz23_1 := blk_frozen BK239.out 1))
      (try simp only [Act.put, List.setIfInBounds_toArray, List.set_cons_zero, List.set_cons_succ])
      go_cut [85] (fun v85 wc => ∃ (kq : Nat) (x85_17 : Bool), v85 = .bool x85_17 ∧ Aside0 (laws_FnRopeLines.j1 kq l1 (wrap64 (t233 * 20)) t234 x85_17 t228 t229 t230 t231 = some r) ∧ Aside0 (kq ≤ kj8) ∧ Aside0 (wc.heap[gb232]? = some (.cells #[.string t228, .int .i64 t229, .int .i64 t230, .int .i64 t231] 45 (0, 0))) ∧ Aside0 (Below w.heap.size w wc))
      case first =>
       as_aux_lemma =>
        have H := HC18.out
        clear HC18
        by_cases c24 : t238 = 0
        rotate_left
        ·
         rw [if_neg c24] at H
         have c24b0 : (t238 == 0) = false := beq_eq_false_iff_ne.mpr c24
         have c24b1 : (t238 != 0) = true := bne_iff_ne.mpr c24
         (first | rw [c24b0] | (simp only [i64_w, i32_w]; rw [c24b0]) | (rw [c24b2]; simp only [Bool.not_false, Bool.not_true]) | skip)
         have H' := aS H
         clear H
         go_wp2
         go_meet
         case rel => exact ⟨_, (true), (by first | rfl | (simp; done) | (simp [*]; done) | (simp only [i64_w]; done) | (simp [i64_w]; done)), H', ⟨by have := HJ8.out; first | omega | exact Nat.le_refl _⟩, ⟨by (with_reducible repeat (first | refine blk_drewN ?_ _ | refine blk_drew ?_ | refine blk_alloc ?_ _)); refine blk_far ?_ NB232_239.out _; (with_reducible repeat (first | refine blk_drewN ?_ _ | refine blk_drew ?_ | refine blk_alloc ?_ _)); refine blk_far ?_ NB232_239.out _; (with_reducible repeat (first | refine blk_drewN ?_ _ | refine blk_drew ?_ | refine blk_alloc ?_ _)); exact BK232.out⟩, ⟨by repeat (first | (with_reducible first | exact HB.out | apply below_alloc | apply pw_below_drewN | apply below_drew1 | refine below_set ?_ GE232.out | refine below_set ?_ GE239.out) | exact HB.out)⟩⟩
        rw [if_pos c24] at H
        have c24b0 : (t238 == 0) = true := beq_iff_eq.mpr c24
        have c24b1 : (t238 != 0) = false := bne_eq_false_iff_eq.mpr c24
        clear c24
        (first | rw [c24b0] | (simp only [i64_w, i32_w]; rw [c24b0]) | (rw [c24b2]; simp only [Bool.not_false, Bool.not_true]) | skip)
        by_cases c25 : t237 < 1
        ·
         rw [if_pos c25] at H
         have c25b0 : decide (t237 < 1) = true := decide_eq_true c25
         clear c25
         have H' := aS H
         clear H
         have hnb26 := NB239_232.out
         have hnc26 := NB232_239.out
         have hcz27_0 : w21.cell? ⟨gb239, 0, none⟩ = some (.int .i64 0) := (blk_cell BK239.out 0).trans rfl
         have hcz27_1 : w21.cell? ⟨gb239, 1, none⟩ = some (.int .i64 0) := (blk_cell BK239.out 1).trans rfl
         have hfz27_0 := blk_frozen BK239.out 0
         have hfz27_1 := blk_frozen BK239.out 1
         go_wp2
         go_meet
         case rel => exact ⟨_, (true), (by first | rfl | (simp; done) | (simp [*]; done) | (simp only [i64_w]; done) | (simp [i64_w]; done)), H', ⟨by have := HJ8.out; first | omega | exact Nat.le_refl _⟩, ⟨by (with_reducible repeat (first | refine blk_drewN ?_ _ | refine blk_drew ?_ | refine blk_alloc ?_ _)); refine blk_far ?_ NB232_239.out _; (with_reducible repeat (first | refine blk_drewN ?_ _ | refine blk_drew ?_ | refine blk_alloc ?_ _)); refine blk_far ?_ NB232_239.out _; (with_reducible repeat (first | refine blk_drewN ?_ _ | refine blk_drew ?_ | refine blk_alloc ?_ _)); exact BK232.out⟩, ⟨by repeat (first | (with_reducible first | exact HB.out | apply below_alloc | apply pw_below_drewN | apply below_drew1 | refine below_set ?_ GE232.out | refine below_set ?_ GE239.out) | exact HB.out)⟩⟩
        rw [if_neg c25] at H
        have c25b0 : decide (t237 < 1) = false := decide_eq_false c25
        clear c25
        by_cases c28 : t237 > 10000
        ·
         rw [if_pos c28] at H
         have c28b0 : decide (10000 < t237) = true := decide_eq_true c28
         clear c28
         have H' := aS H
         clear H
         have hnb29 := NB239_232.out
         have hnc29 := NB232_239.out
         have hcz30_0 : w21.cell? ⟨gb239, 0, none⟩ = some (.int .i64 0) := (blk_cell BK239.out 0).trans rfl
         have hcz30_1 : w21.cell? ⟨gb239, 1, none⟩ = some (.int .i64 0) := (blk_cell BK239.out 1).trans rfl
         have hfz30_0 := blk_frozen BK239.out 0
         have hfz30_1 := blk_frozen BK239.out 1
         go_wp2
         go_meet
         case rel => exact ⟨_, (true), (by first | rfl | (simp; done) | (simp [*]; done) | (simp only [i64_w]; done) | (simp [i64_w]; done)), H', ⟨by have := HJ8.out; first | omega | exact Nat.le_refl _⟩, ⟨by (with_reducible repeat (first | refine blk_drewN ?_ _ | refine blk_drew ?_ | refine blk_alloc ?_ _)); refine blk_far ?_ NB232_239.out _; (with_reducible repeat (first | refine blk_drewN ?_ _ | refine blk_drew ?_ | refine blk_alloc ?_ _)); refine blk_far ?_ NB232_239.out _; (with_reducible repeat (first | refine blk_drewN ?_ _ | refine blk_drew ?_ | refine blk_alloc ?_ _)); exact BK232.out⟩, ⟨by repeat (first | (with_reducible first | exact HB.out | apply below_alloc | apply pw_below_drewN | apply below_drew1 | refine below_set ?_ GE232.out | refine below_set ?_ GE239.out) | exact HB.out)⟩⟩
        rw [if_neg c28] at H
        have c28b0 : decide (10000 < t237) = false := decide_eq_false c28
        clear c28
        by_cases c31 : t236 > (wrap64 ((wrap64 (t233 * 20)) * t237))
        ·
         rw [if_pos c31] at H
         have c31b0 : decide ((wrap64 ((wrap64 (t233 * 20)) * t237)) < t236) = true := decide_eq_true c31
         clear c31
         have H' := aS H
         clear H
         have hnb32 := NB239_232.out
         have hnc32 := NB232_239.out
         have hcz33_0 : w21.cell? ⟨gb239, 0, none⟩ = some (.int .i64 0) := (blk_cell BK239.out 0).trans rfl
         have hcz33_1 : w21.cell? ⟨gb239, 1, none⟩ = some (.int .i64 0) := (blk_cell BK239.out 1).trans rfl
         have hfz33_0 := blk_frozen BK239.out 0
         have hfz33_1 := blk_frozen BK239.out 1
         go_wp2
         go_meet
         case rel => exact ⟨_, (true), (by first | rfl | (simp; done) | (simp [*]; done) | (simp only [i64_w]; done) | (simp [i64_w]; done)), H', ⟨by have := HJ8.out; first | omega | exact Nat.le_refl _⟩, ⟨by (with_reducible repeat (first | refine blk_drewN ?_ _ | refine blk_drew ?_ | refine blk_alloc ?_ _)); refine blk_far ?_ NB232_239.out _; (with_reducible repeat (first | refine blk_drewN ?_ _ | refine blk_drew ?_ | refine blk_alloc ?_ _)); refine blk_far ?_ NB232_239.out _; (with_reducible repeat (first | refine blk_drewN ?_ _ | refine blk_drew ?_ | refine blk_alloc ?_ _)); exact BK232.out⟩, ⟨by repeat (first | (with_reducible first | exact HB.out | apply below_alloc | apply pw_below_drewN | apply below_drew1 | refine below_set ?_ GE232.out | refine below_set ?_ GE239.out) | exact HB.out)⟩⟩
        rw [if_neg c31] at H
        have c31b0 : decide ((wrap64 ((wrap64 (t233 * 20)) * t237)) < t236) = false := decide_eq_false c31
        clear c31
        have H' := aS H
        clear H
        have hnb34 := NB239_232.out
        have hnc34 := NB232_239.out
        have hcz35_0 : w21.cell? ⟨gb239, 0, none⟩ = some (.int .i64 0) := (blk_cell BK239.out 0).trans rfl
        have hcz35_1 : w21.cell? ⟨gb239, 1, none⟩ = some (.int .i64 0) := (blk_cell BK239.out 1).trans rfl
        have hfz35_0 := blk_frozen BK239.out 0
        have hfz35_1 := blk_frozen BK239.out 1
        have hcz36_0 : w21.cell? ⟨gb232, 0, none⟩ = some (.string t228) := (blk_cell BK232.out 0).trans rfl
        have hcz36_1 : w21.cell? ⟨gb232, 1, none⟩ = some (.int .i64 t229) := (blk_cell BK232.out 1).trans rfl
        have hcz36_2 : w21.cell? ⟨gb232, 2, none⟩ = some (.int .i64 t230) := (blk_cell BK232.out 2).trans rfl
        have hcz36_3 : w21.cell? ⟨gb232, 3, none⟩ = some (.int .i64 t231) := (blk_cell BK232.out 3).trans rfl
        have hfz36_0 := blk_frozen BK232.out 0
        have hfz36_1 := blk_frozen BK232.out 1
        have hfz36_2 := blk_frozen BK232.out 2
        have hfz36_3 := blk_frozen BK232.out 3
        go_wp2
        go_meet
        case rel => exact ⟨_, (((wrap64 (t236 * 10000)) != (wrap64 ((wrap64 (t234 * t231)) * t237)))), (by first | rfl | (simp; done) | (simp [*]; done) | (simp only [i64_w]; done) | (simp [i64_w]; done)), H', ⟨by have := HJ8.out; first | omega | exact Nat.le_refl _⟩, ⟨by (with_reducible repeat (first | refine blk_drewN ?_ _ | refine blk_drew ?_ | refine blk_alloc ?_ _)); refine blk_far ?_ NB232_239.out _; (with_reducible repeat (first | refine blk_drewN ?_ _ | refine blk_drew ?_ | refine blk_alloc ?_ _)); refine blk_far ?_ NB232_239.out _; (with_reducible repeat (first | refine blk_drewN ?_ _ | refine blk_drew ?_ | refine blk_alloc ?_ _)); exact BK232.out⟩, ⟨by repeat (first | (with_reducible first | exact HB.out | apply below_alloc | apply pw_below_drewN | apply below_drew1 | refine below_set ?_ GE232.out | refine below_set ?_ GE239.out) | exact HB.out)⟩⟩
      case rest =>
       as_aux_lemma =>
        clear HC18
        (try clear c1); (try clear c2); (try clear p2); (try clear c3); (try clear c5); (try clear p6); (try clear c10); (try clear c14); (try clear c14b0); (try clear c14b1); (try clear c14b2); (try clear c15); (try clear c15b0); (try clear c16); (try clear c22); (try clear c24); (try clear c24b0); (try clear c24b1); (try clear c24b2); (try clear c25); (try clear c25b0); (try clear c26); (try clear c28); (try clear c28b0); (try clear c29); (try clear c31); (try clear c31b0); (try clear c32); (try clear c34); (try clear c35); (try clear c36); (try clear hcz12_0); (try clear hcz12_1); (try clear hcz12_2); (try clear hcz12_3); (try clear hcz19_0); (try clear hcz19_1); (try clear hcz19_2); (try clear hcz19_3); (try clear hcz23_0); (try clear hcz23_1); (try clear hcz27_0); (try clear hcz27_1); (try clear hcz30_0); (try clear hcz30_1); (try clear hcz33_0); (try clear hcz33_1); (try clear hcz35_0); (try clear hcz35_1); (try clear hcz36_0); (try clear hcz36_1); (try clear hcz36_2); (try clear hcz36_3); (try clear hfz12_0); (try clear hfz12_1); (try clear hfz12_2); (try clear hfz12_3); (try clear hfz19_0); (try clear hfz19_1); (try clear hfz19_2); (try clear hfz19_3); (try clear hfz23_0); (try clear hfz23_1); (try clear hfz27_0); (try clear hfz27_1); (try clear hfz30_0); (try clear hfz30_1); (try clear hfz33_0); (try clear hfz33_1); (try clear hfz35_0); (try clear hfz35_1); (try clear hfz36_0); (try clear hfz36_1); (try clear hfz36_2); (try clear hfz36_3); (try clear p2); (try clear p6)
        obtain ⟨kq, x85_17, rfl, HA, HJ17, BK232, HB⟩ := hcut
        cases kq with
        | zero => exact absurd HA.out (by simp [laws_FnRopeLines.j1])
        | succ kj17 =>
         have H := HA.out
         clear HA
         simp only [laws_FnRopeLines.j1] at H
         by_cases c37 : x85_17 = true
         ·
          subst c37
          have H1 : (some false) = some r := by rw [if_pos rfl] at H; exact H
          clear H
          have H := H1
          clear H1
          obtain rfl := Option.some.inj H
          go_wp2
          go_ret
          exact ⟨by first | rfl | (simp [errW_none, errW_some, i64_w]; done) | (simp [errW_none, errW_some] <;> rfl) | (simp [*, errW_none, errW_some] <;> rfl), by repeat (first | (with_reducible first | exact HB.out | apply below_alloc | apply pw_below_drewN | apply below_drew1) | exact HB.out)⟩
         ·
          replace c37 := Bool.eq_false_iff.mpr c37
          subst c37
          have H1 : (if t234 < 1000000 then ((impl_WeightOfLine.f kj17 t228 t229 t230 t231 (wrap64 (t234 + 1))).bind fun bt240 => (if bt240.2.2 = 0 then (if bt240.2.1 < 1 then (some false) else (if bt240.1 ≤ (wrap64 ((wrap64 (t233 * 20)) * bt240.2.1)) then (some false) else (laws_FnRopeLines.j2 kj17 l1 t228 t229 t230 t231))) else (some false))) else (laws_FnRopeLines.j2 kj17 l1 t228 t229 t230 t231)) = some r := by rw [if_neg (show ¬ (false = true) by decide)] at H; exact H
          clear H
          have H := H1
          clear H1
          have HC38 := aS H
          clear H
          go_upto_if 87 with (fail)
          go_cut [] (fun wc => ∃ (kq : Nat), Aside0 (laws_FnRopeLines.j2 kq l1 t228 t229 t230 t231 = some r) ∧ Aside0 (kq ≤ kj17) ∧ Aside0 (wc.heap[gb232]? = some (.cells #[.string t228, .int .i64 t229, .int .i64 t230, .int .i64 t231] 45 (0, 0))) ∧ Aside0 (Below w.heap.size w wc))
          case first =>
           as_aux_lemma =>
            have H := HC38.out
            clear HC38
            by_cases c39 : t234 < 1000000
            rotate_left
            ·
             rw [if_neg c39] at H
             have c39b0 : decide (t234 < 1000000) = false := decide_eq_false c39
             clear c39
             (first | rw [c39b0] | (simp only [i64_w, i32_w]; rw [c39b0]) | (rw [c39b2]; simp only [Bool.not_false, Bool.not_true]) | skip)
             have H' := aS H
             clear H
             go_wp2
             go_meet
             case rel => exact ⟨_, H', ⟨by have := HJ8.out; have := HJ17.out; first | omega | exact Nat.le_refl _⟩, ⟨by (with_reducible repeat (first | refine blk_drewN ?_ _ | refine blk_drew ?_ | refine blk_alloc ?_ _)); exact BK232.out⟩, ⟨by repeat (first | (with_reducible first | exact HB.out | apply below_alloc | apply pw_below_drewN | apply below_drew1 | refine below_set ?_ GE232.out) | exact HB.out)⟩⟩
            rw [if_pos c39] at H
            have c39b0 : decide (t234 < 1000000) = true := decide_eq_true c39
            clear c39
            (first | rw [c39b0] | (simp only [i64_w, i32_w]; rw [c39b0]) | (rw [c39b2]; simp only [Bool.not_false, Bool.not_true]) | skip)
            replace H := Option.bind_eq_some_iff.mp H
            obtain ⟨⟨t240, t241, t242⟩, A400, H⟩ := H
            replace H : (if t242 = 0 then (if t241 < 1 then (some false) else (if t240 ≤ (wrap64 ((wrap64 (t233 * 20)) * t241)) then (some false) else (laws_FnRopeLines.j2 kj17 l1 t228 t229 t230 t231))) else (some false)) = some r := H
            have A40 := aS A400
            clear A400
            have HC41 := aS H
            clear H
            have hcz42_0 : wc.cell? ⟨gb232, 0, none⟩ = some (.string t228) := (blk_cell BK232.out 0).trans rfl
            have hcz42_1 : wc.cell? ⟨gb232, 1, none⟩ = some (.int .i64 t229) := (blk_cell BK232.out 1).trans rfl
            have hcz42_2 : wc.cell? ⟨gb232, 2, none⟩ = some (.int .i64 t230) := (blk_cell BK232.out 2).trans rfl
            have hcz42_3 : wc.cell? ⟨gb232, 3, none⟩ = some (.int .i64 t231) := (blk_cell BK232.out 3).trans rfl
            have hfz42_0 := blk_frozen BK232.out 0
            have hfz42_1 := blk_frozen BK232.out 1
            have hfz42_2 := blk_frozen BK232.out 2
            have hfz42_3 := blk_frozen BK232.out 3
            go_upto_region 13 with (first | ((with_reducible refine gate_callee (f := 39) rfl ?_); refine goesL_ (some 92) rfl rfl Tryd.func39 (by kernel_rfl) rfl #[.agg #[.string t228, .int .i64 t229, .int .i64 t230, .int .i64 t231], .int .i64 (wrap64 (t234 + 1))] rfl sG ?_; (with_reducible refine (impl_WeightOfLine.calls kj17 t228 t229 t230 t231 (wrap64 (t234 + 1)) t240 t241 t242 _ A40.out).mono ?_); rintro e w43 ⟨rfl, hb⟩; refine ⟨_, rfl, ?_⟩; have n0_ := aS (blk_below (g := gb232) (o := .cells #[.string t228, .int .i64 t229, .int .i64 t230, .int .i64 t231] 45 (0, 0)) (sB BK232.out) hb); have n1_ := aS (below_step (sW HB.out) hb); clear BK232 HB; have BK232 := n0_; have HB := n1_; clear n0_ n1_; (try clear hb); (try clear hb2); (try clear hk); (try clear hi)) | ((with_reducible refine gate_dst (N := 11) rfl ?_); refine box_event ?hg (N := 11) ?hd (cs := #[.int .i64 0, .int .i64 0]) (t := 58) ?hr ?_; (case hd => rfl); (case hg => rfl); (case hr => first | (go_simp; done) | (go_simp; rfl)); intro gb243 hg w44 hbox hb; have n0_ := aS (blk_below (g := gb232) (o := .cells #[.string t228, .int .i64 t229, .int .i64 t230, .int .i64 t231] 45 (0, 0)) (sB BK232.out) hb); have n1_ := aS (below_step (sW HB.out) hb); have n2_ := aS (hbox); have n3_ := aS ((by rw [hg]; exact (below_size (sW HB.out)) : w.heap.size ≤ gb243)); have n4_ := aS ((by rw [hg]; exact (below_size (sW HB.out)) : w.heap.size ≤ gb243)); have n5_ := aS ((by rw [hg]; exact Nat.ne_of_lt (blk_lt (g := gb232) (o := .cells #[.string t228, .int .i64 t229, .int .i64 t230, .int .i64 t231] 45 (0, 0)) (sB BK232.out)) : gb232 ≠ gb243)); have n6_ := aS ((by rw [hg]; exact Nat.ne_of_gt (blk_lt (g := gb232) (o := .cells #[.string t228, .int .i64 t229, .int .i64 t230, .int .i64 t231] 45 (0, 0)) (sB BK232.out)) : gb243 ≠ gb232)); clear BK232 HB; have BK232 := n0_; have HB := n1_; have BK243 := n2_; have GW243 := n3_; have GE243 := n4_; have NB232_243 := n5_; have NB243_232 := n6_; clear n0_ n1_ n2_ n3_ n4_ n5_ n6_; clear hb hbox hg; have hnb45 := NB243_232.out; have hnc45 := NB232_243.out; have hcz46_0 : w44.cell? ⟨gb243, 0, none⟩ = some (.int .i64 0) := (blk_cell BK243.out 0).trans rfl; have hcz46_1 : w44.cell? ⟨gb243, 1, none⟩ = some (.int .i64 0) := (blk_cell BK243.out 1).trans rfl; have hfz46_0 := blk_frozen BK243.out 0; have hfz46_1 := blk_frozen BK243.out 1))
            (try simp only [Act.put, List.setIfInBounds_toArray, List.set_cons_zero, List.set_cons_succ])
            have H := HC41.out
            clear HC41
            by_cases c47 : t242 = 0
            rotate_left
            ·
             rw [if_neg c47] at H
             have c47b0 : (t242 == 0) = false := beq_eq_false_iff_ne.mpr c47
             have c47b1 : (t242 != 0) = true := bne_iff_ne.mpr c47
             (first | rw [c47b0] | (simp only [i64_w, i32_w]; rw [c47b0]) | (rw [c47b2]; simp only [Bool.not_false, Bool.not_true]) | skip)
             obtain rfl := Option.some.inj H
             go_wp2
             go_ret
             exact ⟨by first | rfl | (simp [errW_none, errW_some, i64_w]; done) | (simp [errW_none, errW_some] <;> rfl) | (simp [*, errW_none, errW_some] <;> rfl), by repeat (first | (with_reducible first | exact HB.out | apply below_alloc | apply pw_below_drewN | apply below_drew1 | refine below_set ?_ GE232.out | refine below_set ?_ GE243.out) | exact HB.out)⟩
            rw [if_pos c47] at H
            have c47b0 : (t242 == 0) = true := beq_iff_eq.mpr c47
            have c47b1 : (t242 != 0) = false := bne_eq_false_iff_eq.mpr c47
            clear c47
            (first | rw [c47b0] | (simp only [i64_w, i32_w]; rw [c47b0]) | (rw [c47b2]; simp only [Bool.not_false, Bool.not_true]) | skip)
            by_cases c48 : t241 < 1
            ·
             rw [if_pos c48] at H
             have c48b0 : decide (t241 < 1) = true := decide_eq_true c48
             clear c48
             obtain rfl := Option.some.inj H
             have hnb49 := NB243_232.out
             have hnc49 := NB232_243.out
             have hcz50_0 : w44.cell? ⟨gb243, 0, none⟩ = some (.int .i64 0) := (blk_cell BK243.out 0).trans rfl
             have hcz50_1 : w44.cell? ⟨gb243, 1, none⟩ = some (.int .i64 0) := (blk_cell BK243.out 1).trans rfl
             have hfz50_0 := blk_frozen BK243.out 0
             have hfz50_1 := blk_frozen BK243.out 1
             go_wp2
             go_ret
             exact ⟨by first | rfl | (simp [errW_none, errW_some, i64_w]; done) | (simp [errW_none, errW_some] <;> rfl) | (simp [*, errW_none, errW_some] <;> rfl), by repeat (first | (with_reducible first | exact HB.out | apply below_alloc | apply pw_below_drewN | apply below_drew1 | refine below_set ?_ GE232.out | refine below_set ?_ GE243.out) | exact HB.out)⟩
            rw [if_neg c48] at H
            have c48b0 : decide (t241 < 1) = false := decide_eq_false c48
            clear c48
            by_cases c51 : t240 ≤ (wrap64 ((wrap64 (t233 * 20)) * t241))
            ·
             rw [if_pos c51] at H
             have c51b0 : decide (t240 ≤ (wrap64 ((wrap64 (t233 * 20)) * t241))) = true := decide_eq_true c51
             clear c51
             obtain rfl := Option.some.inj H
             have hnb52 := NB243_232.out
             have hnc52 := NB232_243.out
             have hcz53_0 : w44.cell? ⟨gb243, 0, none⟩ = some (.int .i64 0) := (blk_cell BK243.out 0).trans rfl
             have hcz53_1 : w44.cell? ⟨gb243, 1, none⟩ = some (.int .i64 0) := (blk_cell BK243.out 1).trans rfl
             have hfz53_0 := blk_frozen BK243.out 0
             have hfz53_1 := blk_frozen BK243.out 1
             go_wp2
             go_ret
             exact ⟨by first | rfl | (simp [errW_none, errW_some, i64_w]; done) | (simp [errW_none, errW_some] <;> rfl) | (simp [*, errW_none, errW_some] <;> rfl), by repeat (first | (with_reducible first | exact HB.out | apply below_alloc | apply pw_below_drewN | apply below_drew1 | refine below_set ?_ GE232.out | refine below_set ?_ GE243.out) | exact HB.out)⟩
            rw [if_neg c51] at H
            have c51b0 : decide (t240 ≤ (wrap64 ((wrap64 (t233 * 20)) * t241))) = false := decide_eq_false c51
            clear c51
            have H' := aS H
            clear H
            have hnb54 := NB243_232.out
            have hnc54 := NB232_243.out
            have hcz55_0 : w44.cell? ⟨gb243, 0, none⟩ = some (.int .i64 0) := (blk_cell BK243.out 0).trans rfl
            have hcz55_1 : w44.cell? ⟨gb243, 1, none⟩ = some (.int .i64 0) := (blk_cell BK243.out 1).trans rfl
            have hfz55_0 := blk_frozen BK243.out 0
            have hfz55_1 := blk_frozen BK243.out 1
            go_wp2
            go_meet
            case rel => exact ⟨_, H', ⟨by have := HJ8.out; have := HJ17.out; first | omega | exact Nat.le_refl _⟩, ⟨by (with_reducible repeat (first | refine blk_drewN ?_ _ | refine blk_drew ?_ | refine blk_alloc ?_ _)); refine blk_far ?_ NB232_243.out _; (with_reducible repeat (first | refine blk_drewN ?_ _ | refine blk_drew ?_ | refine blk_alloc ?_ _)); refine blk_far ?_ NB232_243.out _; (with_reducible repeat (first | refine blk_drewN ?_ _ | refine blk_drew ?_ | refine blk_alloc ?_ _)); exact BK232.out⟩, ⟨by repeat (first | (with_reducible first | exact HB.out | apply below_alloc | apply pw_below_drewN | apply below_drew1 | refine below_set ?_ GE232.out | refine below_set ?_ GE243.out) | exact HB.out)⟩⟩
          case rest =>
           as_aux_lemma =>
            clear HC38
            (try clear c1); (try clear c2); (try clear p2); (try clear c3); (try clear c4); (try clear c5); (try clear p6); (try clear c10); (try clear c14); (try clear c14b0); (try clear c14b1); (try clear c14b2); (try clear c15); (try clear c15b0); (try clear c16); (try clear c22); (try clear c24); (try clear c24b0); (try clear c24b1); (try clear c24b2); (try clear c25); (try clear c25b0); (try clear c26); (try clear c28); (try clear c28b0); (try clear c29); (try clear c31); (try clear c31b0); (try clear c32); (try clear c34); (try clear c35); (try clear c36); (try clear c37); (try clear c38); (try clear c39); (try clear c39b0); (try clear c39b2); (try clear c45); (try clear c47); (try clear c47b0); (try clear c47b1); (try clear c47b2); (try clear c48); (try clear c48b0); (try clear c49); (try clear c51); (try clear c51b0); (try clear c52); (try clear c54); (try clear hcz12_0); (try clear hcz12_1); (try clear hcz12_2); (try clear hcz12_3); (try clear hcz19_0); (try clear hcz19_1); (try clear hcz19_2); (try clear hcz19_3); (try clear hcz23_0); (try clear hcz23_1); (try clear hcz27_0); (try clear hcz27_1); (try clear hcz30_0); (try clear hcz30_1); (try clear hcz33_0); (try clear hcz33_1); (try clear hcz35_0); (try clear hcz35_1); (try clear hcz36_0); (try clear hcz36_1); (try clear hcz36_2); (try clear hcz36_3); (try clear hcz42_0); (try clear hcz42_1); (try clear hcz42_2); (try clear hcz42_3); (try clear hcz46_0); (try clear hcz46_1); (try clear hcz50_0); (try clear hcz50_1); (try clear hcz53_0); (try clear hcz53_1); (try clear hcz55_0); (try clear hcz55_1); (try clear hfz12_0); (try clear hfz12_1); (try clear hfz12_2); (try clear hfz12_3); (try clear hfz19_0); (try clear hfz19_1); (try clear hfz19_2); (try clear hfz19_3); (try clear hfz23_0); (try clear hfz23_1); (try clear hfz27_0); (try clear hfz27_1); (try clear hfz30_0); (try clear hfz30_1); (try clear hfz33_0); (try clear hfz33_1); (try clear hfz35_0); (try clear hfz35_1); (try clear hfz36_0); (try clear hfz36_1); (try clear hfz36_2); (try clear hfz36_3); (try clear hfz42_0); (try clear hfz42_1); (try clear hfz42_2); (try clear hfz42_3); (try clear hfz46_0); (try clear hfz46_1); (try clear hfz50_0); (try clear hfz50_1); (try clear hfz53_0); (try clear hfz53_1); (try clear hfz55_0); (try clear hfz55_1); (try clear p2); (try clear p6)
            obtain ⟨kq, HA, HJ37, BK232, HB⟩ := hcut
            cases kq with
            | zero => exact absurd HA.out (by simp [laws_FnRopeLines.j2])
            | succ kj37 =>
             have H := HA.out
             clear HA
             simp only [laws_FnRopeLines.j2] at H
             replace H := Option.bind_eq_some_iff.mp H
             obtain ⟨t244, A560, H⟩ := H
             replace H : ((laws_a2At.f l1 2 20).bind fun t245 => ((impl_PartsFor.f kj37 t228 t229 t230 t231 (wrap64 (100 * (wrap64 (1 + t244)))) (wrap64 (1 + t245))).bind fun bt246 => (if bt246.2 = 0 then (if bt246.1 < 1 then (laws_FnRopeLines.j3 kj37 l1 true t228 t229 t230 t231) else (if bt246.1 > 1000000 then (laws_FnRopeLines.j3 kj37 l1 true t228 t229 t230 t231) else (if (wrap64 (bt246.1 * t230)) < (wrap64 ((wrap64 (100 * (wrap64 (1 + t244)))) * (wrap64 (1 + t245)))) then (laws_FnRopeLines.j3 kj37 l1 true t228 t229 t230 t231) else (laws_FnRopeLines.j3 kj37 l1 (decide ((wrap64 ((wrap64 (bt246.1 - 1)) * t230)) ≥ (wrap64 ((wrap64 (100 * (wrap64 (1 + t244)))) * (wrap64 (1 + t245)))))) t228 t229 t230 t231)))) else (laws_FnRopeLines.j3 kj37 l1 true t228 t229 t230 t231)))) = some r := H
             have A56 := aS A560
             clear A560
             replace H := Option.bind_eq_some_iff.mp H
             obtain ⟨t245, A570, H⟩ := H
             replace H : ((impl_PartsFor.f kj37 t228 t229 t230 t231 (wrap64 (100 * (wrap64 (1 + t244)))) (wrap64 (1 + t245))).bind fun bt246 => (if bt246.2 = 0 then (if bt246.1 < 1 then (laws_FnRopeLines.j3 kj37 l1 true t228 t229 t230 t231) else (if bt246.1 > 1000000 then (laws_FnRopeLines.j3 kj37 l1 true t228 t229 t230 t231) else (if (wrap64 (bt246.1 * t230)) < (wrap64 ((wrap64 (100 * (wrap64 (1 + t244)))) * (wrap64 (1 + t245)))) then (laws_FnRopeLines.j3 kj37 l1 true t228 t229 t230 t231) else (laws_FnRopeLines.j3 kj37 l1 (decide ((wrap64 ((wrap64 (bt246.1 - 1)) * t230)) ≥ (wrap64 ((wrap64 (100 * (wrap64 (1 + t244)))) * (wrap64 (1 + t245)))))) t228 t229 t230 t231)))) else (laws_FnRopeLines.j3 kj37 l1 true t228 t229 t230 t231))) = some r := H
             have A57 := aS A570
             clear A570
             replace H := Option.bind_eq_some_iff.mp H
             obtain ⟨⟨t246, t247⟩, A580, H⟩ := H
             replace H : (if t247 = 0 then (if t246 < 1 then (laws_FnRopeLines.j3 kj37 l1 true t228 t229 t230 t231) else (if t246 > 1000000 then (laws_FnRopeLines.j3 kj37 l1 true t228 t229 t230 t231) else (if (wrap64 (t246 * t230)) < (wrap64 ((wrap64 (100 * (wrap64 (1 + t244)))) * (wrap64 (1 + t245)))) then (laws_FnRopeLines.j3 kj37 l1 true t228 t229 t230 t231) else (laws_FnRopeLines.j3 kj37 l1 (decide ((wrap64 ((wrap64 (t246 - 1)) * t230)) ≥ (wrap64 ((wrap64 (100 * (wrap64 (1 + t244)))) * (wrap64 (1 + t245)))))) t228 t229 t230 t231)))) else (laws_FnRopeLines.j3 kj37 l1 true t228 t229 t230 t231)) = some r := H
             have A58 := aS A580
             clear A580
             have HC59 := aS H
             clear H
             go_upto_region 18 with (first | ((with_reducible refine gate_callee (f := 37) rfl ?_); refine goesL_ (some 112) rfl rfl Tryd.func37 (by kernel_rfl) rfl #[.slice A1 l1.length c1, .int .i64 1, .int .i64 200] rfl sG ?_; (with_reducible refine (laws_a2At.calls _ _ l1 1 200 t244 _ ?side1 ?side2 A56.out).mono ?_); (case side1 => exact sC (Kd.C_below HR1.out HB.out)); (case side2 => exact HC1.out); rintro e w' ⟨rfl, ⟨nd, rfl⟩⟩; refine ⟨_, rfl, ?_⟩) | ((with_reducible refine gate_callee (f := 37) rfl ?_); refine goesL_ (some 116) rfl rfl Tryd.func37 (by kernel_rfl) rfl #[.slice A1 l1.length c1, .int .i64 2, .int .i64 20] rfl sG ?_; (with_reducible refine (laws_a2At.calls _ _ l1 2 20 t245 _ ?side1 ?side2 A57.out).mono ?_); (case side1 => exact sC (Kd.C_below HR1.out (sW HB.out))); (case side2 => exact HC1.out); rintro e w' ⟨rfl, ⟨nd, rfl⟩⟩; refine ⟨_, rfl, ?_⟩; have hcz60_0 : wc.cell? ⟨gb232, 0, none⟩ = some (.string t228) := (blk_cell BK232.out 0).trans rfl; have hcz60_1 : wc.cell? ⟨gb232, 1, none⟩ = some (.int .i64 t229) := (blk_cell BK232.out 1).trans rfl; have hcz60_2 : wc.cell? ⟨gb232, 2, none⟩ = some (.int .i64 t230) := (blk_cell BK232.out 2).trans rfl; have hcz60_3 : wc.cell? ⟨gb232, 3, none⟩ = some (.int .i64 t231) := (blk_cell BK232.out 3).trans rfl; have hfz60_0 := blk_frozen BK232.out 0; have hfz60_1 := blk_frozen BK232.out 1; have hfz60_2 := blk_frozen BK232.out 2; have hfz60_3 := blk_frozen BK232.out 3) | ((with_reducible refine gate_callee (f := 40) rfl ?_); refine goesL_ (some 122) rfl rfl Tryd.func40 (by kernel_rfl) rfl #[.agg #[.string t228, .int .i64 t229, .int .i64 t230, .int .i64 t231], .int .i64 (wrap64 (100 * (wrap64 (1 + t244)))), .int .i64 (wrap64 (1 + t245))] rfl sG ?_; (with_reducible refine (impl_PartsFor.calls kj37 t228 t229 t230 t231 (wrap64 (100 * (wrap64 (1 + t244)))) (wrap64 (1 + t245)) t246 t247 _ A58.out).mono ?_); rintro e w61 ⟨rfl, hb⟩; refine ⟨_, rfl, ?_⟩; have n0_ := aS (blk_below (g := gb232) (o := .cells #[.string t228, .int .i64 t229, .int .i64 t230, .int .i64 t231] 45 (0, 0)) (sB BK232.out) hb); have n1_ := aS (below_step (sW HB.out) hb); clear BK232 HB; have BK232 := n0_; have HB := n1_; clear n0_ n1_; (try clear hb); (try clear hb2); (try clear hk); (try clear hi)))
             (try simp only [Act.put, List.setIfInBounds_toArray, List.set_cons_zero, List.set_cons_succ])
             go_cut [155] (fun v155 wc => ∃ (kq : Nat) (x155_58 : Bool), v155 = .bool x155_58 ∧ Aside0 (laws_FnRopeLines.j3 kq l1 x155_58 t228 t229 t230 t231 = some r) ∧ Aside0 (kq ≤ kj37) ∧ Aside0 (wc.heap[gb232]? = some (.cells #[.string t228, .int .i64 t229, .int .i64 t230, .int .i64 t231] 45 (0, 0))) ∧ Aside0 (Below w.heap.size w wc))
             case first =>
              as_aux_lemma =>
               have H := HC59.out
               clear HC59
               by_cases c62 : t247 = 0
               rotate_left
               ·
                rw [if_neg c62] at H
                have c62b0 : (t247 == 0) = false := beq_eq_false_iff_ne.mpr c62
                have c62b1 : (t247 != 0) = true := bne_iff_ne.mpr c62
                (first | rw [c62b0] | (simp only [i64_w, i32_w]; rw [c62b0]) | (rw [c62b2]; simp only [Bool.not_false, Bool.not_true]) | skip)
                have H' := aS H
                clear H
                go_wp2
                go_meet
                case rel => exact ⟨_, (true), (by first | rfl | (simp; done) | (simp [*]; done) | (simp only [i64_w]; done) | (simp [i64_w]; done)), H', ⟨by have := HJ8.out; have := HJ17.out; have := HJ37.out; first | omega | exact Nat.le_refl _⟩, ⟨by (with_reducible repeat (first | refine blk_drewN ?_ _ | refine blk_drew ?_ | refine blk_alloc ?_ _)); exact BK232.out⟩, ⟨by repeat (first | (with_reducible first | exact HB.out | apply below_alloc | apply pw_below_drewN | apply below_drew1 | refine below_set ?_ GE232.out) | exact HB.out)⟩⟩
               rw [if_pos c62] at H
               have c62b0 : (t247 == 0) = true := beq_iff_eq.mpr c62
               have c62b1 : (t247 != 0) = false := bne_eq_false_iff_eq.mpr c62
               clear c62
               (first | rw [c62b0] | (simp only [i64_w, i32_w]; rw [c62b0]) | (rw [c62b2]; simp only [Bool.not_false, Bool.not_true]) | skip)
               by_cases c63 : t246 < 1
               ·
                rw [if_pos c63] at H
                have c63b0 : decide (t246 < 1) = true := decide_eq_true c63
                clear c63
                have H' := aS H
                clear H
                go_wp2
                go_meet
                case rel => exact ⟨_, (true), (by first | rfl | (simp; done) | (simp [*]; done) | (simp only [i64_w]; done) | (simp [i64_w]; done)), H', ⟨by have := HJ8.out; have := HJ17.out; have := HJ37.out; first | omega | exact Nat.le_refl _⟩, ⟨by (with_reducible repeat (first | refine blk_drewN ?_ _ | refine blk_drew ?_ | refine blk_alloc ?_ _)); exact BK232.out⟩, ⟨by repeat (first | (with_reducible first | exact HB.out | apply below_alloc | apply pw_below_drewN | apply below_drew1 | refine below_set ?_ GE232.out) | exact HB.out)⟩⟩
               rw [if_neg c63] at H
               have c63b0 : decide (t246 < 1) = false := decide_eq_false c63
               clear c63
               by_cases c64 : t246 > 1000000
               ·
                rw [if_pos c64] at H
                have c64b0 : decide (1000000 < t246) = true := decide_eq_true c64
                clear c64
                have H' := aS H
                clear H
                go_wp2
                go_meet
                case rel => exact ⟨_, (true), (by first | rfl | (simp; done) | (simp [*]; done) | (simp only [i64_w]; done) | (simp [i64_w]; done)), H', ⟨by have := HJ8.out; have := HJ17.out; have := HJ37.out; first | omega | exact Nat.le_refl _⟩, ⟨by (with_reducible repeat (first | refine blk_drewN ?_ _ | refine blk_drew ?_ | refine blk_alloc ?_ _)); exact BK232.out⟩, ⟨by repeat (first | (with_reducible first | exact HB.out | apply below_alloc | apply pw_below_drewN | apply below_drew1 | refine below_set ?_ GE232.out) | exact HB.out)⟩⟩
               rw [if_neg c64] at H
               have c64b0 : decide (1000000 < t246) = false := decide_eq_false c64
               clear c64
               by_cases c65 : (wrap64 (t246 * t230)) < (wrap64 ((wrap64 (100 * (wrap64 (1 + t244)))) * (wrap64 (1 + t245))))
               ·
                rw [if_pos c65] at H
                have c65b0 : decide ((wrap64 (t246 * t230)) < (wrap64 ((wrap64 (100 * (wrap64 (1 + t244)))) * (wrap64 (1 + t245))))) = true := decide_eq_true c65
                clear c65
                have H' := aS H
                clear H
                have hcz66_0 : w61.cell? ⟨gb232, 0, none⟩ = some (.string t228) := (blk_cell BK232.out 0).trans rfl
                have hcz66_1 : w61.cell? ⟨gb232, 1, none⟩ = some (.int .i64 t229) := (blk_cell BK232.out 1).trans rfl
                have hcz66_2 : w61.cell? ⟨gb232, 2, none⟩ = some (.int .i64 t230) := (blk_cell BK232.out 2).trans rfl
                have hcz66_3 : w61.cell? ⟨gb232, 3, none⟩ = some (.int .i64 t231) := (blk_cell BK232.out 3).trans rfl
                have hfz66_0 := blk_frozen BK232.out 0
                have hfz66_1 := blk_frozen BK232.out 1
                have hfz66_2 := blk_frozen BK232.out 2
                have hfz66_3 := blk_frozen BK232.out 3
                go_wp2
                go_meet
                case rel => exact ⟨_, (true), (by first | rfl | (simp; done) | (simp [*]; done) | (simp only [i64_w]; done) | (simp [i64_w]; done)), H', ⟨by have := HJ8.out; have := HJ17.out; have := HJ37.out; first | omega | exact Nat.le_refl _⟩, ⟨by (with_reducible repeat (first | refine blk_drewN ?_ _ | refine blk_drew ?_ | refine blk_alloc ?_ _)); exact BK232.out⟩, ⟨by repeat (first | (with_reducible first | exact HB.out | apply below_alloc | apply pw_below_drewN | apply below_drew1 | refine below_set ?_ GE232.out) | exact HB.out)⟩⟩
               rw [if_neg c65] at H
               have c65b0 : decide ((wrap64 (t246 * t230)) < (wrap64 ((wrap64 (100 * (wrap64 (1 + t244)))) * (wrap64 (1 + t245))))) = false := decide_eq_false c65
               clear c65
               have H' := aS H
               clear H
               have hcz67_0 : w61.cell? ⟨gb232, 0, none⟩ = some (.string t228) := (blk_cell BK232.out 0).trans rfl
               have hcz67_1 : w61.cell? ⟨gb232, 1, none⟩ = some (.int .i64 t229) := (blk_cell BK232.out 1).trans rfl
               have hcz67_2 : w61.cell? ⟨gb232, 2, none⟩ = some (.int .i64 t230) := (blk_cell BK232.out 2).trans rfl
               have hcz67_3 : w61.cell? ⟨gb232, 3, none⟩ = some (.int .i64 t231) := (blk_cell BK232.out 3).trans rfl
               have hfz67_0 := blk_frozen BK232.out 0
               have hfz67_1 := blk_frozen BK232.out 1
               have hfz67_2 := blk_frozen BK232.out 2
               have hfz67_3 := blk_frozen BK232.out 3
               go_wp2
               go_meet
               case rel => exact ⟨_, (decide ((wrap64 ((wrap64 (t246 - 1)) * t230)) ≥ (wrap64 ((wrap64 (100 * (wrap64 (1 + t244)))) * (wrap64 (1 + t245)))))), (by first | rfl | (simp; done) | (simp [*]; done) | (simp only [i64_w]; done) | (simp [i64_w]; done)), H', ⟨by have := HJ8.out; have := HJ17.out; have := HJ37.out; first | omega | exact Nat.le_refl _⟩, ⟨by (with_reducible repeat (first | refine blk_drewN ?_ _ | refine blk_drew ?_ | refine blk_alloc ?_ _)); exact BK232.out⟩, ⟨by repeat (first | (with_reducible first | exact HB.out | apply below_alloc | apply pw_below_drewN | apply below_drew1 | refine below_set ?_ GE232.out) | exact HB.out)⟩⟩
             case rest =>
              as_aux_lemma =>
               clear HC59
               (try clear c1); (try clear c2); (try clear p2); (try clear c3); (try clear c4); (try clear c5); (try clear c6); (try clear p6); (try clear c10); (try clear c14); (try clear c14b0); (try clear c14b1); (try clear c14b2); (try clear c15); (try clear c15b0); (try clear c16); (try clear c22); (try clear c24); (try clear c24b0); (try clear c24b1); (try clear c24b2); (try clear c25); (try clear c25b0); (try clear c26); (try clear c28); (try clear c28b0); (try clear c29); (try clear c31); (try clear c31b0); (try clear c32); (try clear c34); (try clear c35); (try clear c36); (try clear c37); (try clear c38); (try clear c39); (try clear c39b0); (try clear c39b2); (try clear c40); (try clear c45); (try clear c47); (try clear c47b0); (try clear c47b1); (try clear c47b2); (try clear c48); (try clear c48b0); (try clear c49); (try clear c51); (try clear c51b0); (try clear c52); (try clear c54); (try clear c62); (try clear c62b0); (try clear c62b1); (try clear c62b2); (try clear c63); (try clear c63b0); (try clear c64); (try clear c64b0); (try clear p64); (try clear c65); (try clear c65b0); (try clear hcz12_0); (try clear hcz12_1); (try clear hcz12_2); (try clear hcz12_3); (try clear hcz19_0); (try clear hcz19_1); (try clear hcz19_2); (try clear hcz19_3); (try clear hcz23_0); (try clear hcz23_1); (try clear hcz27_0); (try clear hcz27_1); (try clear hcz30_0); (try clear hcz30_1); (try clear hcz33_0); (try clear hcz33_1); (try clear hcz35_0); (try clear hcz35_1); (try clear hcz36_0); (try clear hcz36_1); (try clear hcz36_2); (try clear hcz36_3); (try clear hcz42_0); (try clear hcz42_1); (try clear hcz42_2); (try clear hcz42_3); (try clear hcz46_0); (try clear hcz46_1); (try clear hcz50_0); (try clear hcz50_1); (try clear hcz53_0); (try clear hcz53_1); (try clear hcz55_0); (try clear hcz55_1); (try clear hcz60_0); (try clear hcz60_1); (try clear hcz60_2); (try clear hcz60_3); (try clear hcz66_0); (try clear hcz66_1); (try clear hcz66_2); (try clear hcz66_3); (try clear hcz67_0); (try clear hcz67_1); (try clear hcz67_2); (try clear hcz67_3); (try clear hfz12_0); (try clear hfz12_1); (try clear hfz12_2); (try clear hfz12_3); (try clear hfz19_0); (try clear hfz19_1); (try clear hfz19_2); (try clear hfz19_3); (try clear hfz23_0); (try clear hfz23_1); (try clear hfz27_0); (try clear hfz27_1); (try clear hfz30_0); (try clear hfz30_1); (try clear hfz33_0); (try clear hfz33_1); (try clear hfz35_0); (try clear hfz35_1); (try clear hfz36_0); (try clear hfz36_1); (try clear hfz36_2); (try clear hfz36_3); (try clear hfz42_0); (try clear hfz42_1); (try clear hfz42_2); (try clear hfz42_3); (try clear hfz46_0); (try clear hfz46_1); (try clear hfz50_0); (try clear hfz50_1); (try clear hfz53_0); (try clear hfz53_1); (try clear hfz55_0); (try clear hfz55_1); (try clear hfz60_0); (try clear hfz60_1); (try clear hfz60_2); (try clear hfz60_3); (try clear hfz66_0); (try clear hfz66_1); (try clear hfz66_2); (try clear hfz66_3); (try clear hfz67_0); (try clear hfz67_1); (try clear hfz67_2); (try clear hfz67_3); (try clear p2); (try clear p6)
               obtain ⟨kq, x155_58, rfl, HA, HJ58, BK232, HB⟩ := hcut
               cases kq with
               | zero => exact absurd HA.out (by simp [laws_FnRopeLines.j3])
               | succ kj58 =>
                have H := HA.out
                clear HA
                simp only [laws_FnRopeLines.j3] at H
                by_cases c68 : x155_58 = true
                ·
                 subst c68
                 have H1 : (some false) = some r := by rw [if_pos rfl] at H; exact H
                 clear H
                 have H := H1
                 clear H1
                 obtain rfl := Option.some.inj H
                 go_wp2
                 go_ret
                 exact ⟨by first | rfl | (simp [errW_none, errW_some, i64_w]; done) | (simp [errW_none, errW_some] <;> rfl) | (simp [*, errW_none, errW_some] <;> rfl), by repeat (first | (with_reducible first | exact HB.out | apply below_alloc | apply pw_below_drewN | apply below_drew1) | exact HB.out)⟩
                ·
                 replace c68 := Bool.eq_false_iff.mpr c68
                 subst c68
                 have H1 : ((laws_a2At.f l1 3 101).bind fun t248 => ((impl_WornStrength.f kj58 t228 t229 t230 t231 t248).bind fun bt249 => ((impl_RopeText.f kj58 t228 t229 t230 t231).bind fun t251 => ((impl_ReadRope.f kj58 t251).bind fun bt252 => (if bt249.2 = 0 then (if bt249.1 ≥ 0 then (if bt249.1 ≤ t230 then (if (wrap64 (100 * bt249.1)) ≤ (wrap64 (t230 * (wrap64 (100 - t248)))) then (if (wrap64 (100 * (wrap64 (bt249.1 + 1)))) > (wrap64 (t230 * (wrap64 (100 - t248)))) then (if bt252.2.2.2.2 = true then (some (bt252.1.toList == t228.toList && (bt252.2.1 == t229 && (bt252.2.2.1 == t230 && (bt252.2.2.2.1 == t231))))) else (some false)) else (some false)) else (some false)) else (some false)) else (some false)) else (some false)))))) = some r := by rw [if_neg (show ¬ (false = true) by decide)] at H; exact H
                 clear H
                 have H := H1
                 clear H1
                 replace H := Option.bind_eq_some_iff.mp H
                 obtain ⟨t248, A690, H⟩ := H
                 replace H : ((impl_WornStrength.f kj58 t228 t229 t230 t231 t248).bind fun bt249 => ((impl_RopeText.f kj58 t228 t229 t230 t231).bind fun t251 => ((impl_ReadRope.f kj58 t251).bind fun bt252 => (if bt249.2 = 0 then (if bt249.1 ≥ 0 then (if bt249.1 ≤ t230 then (if (wrap64 (100 * bt249.1)) ≤ (wrap64 (t230 * (wrap64 (100 - t248)))) then (if (wrap64 (100 * (wrap64 (bt249.1 + 1)))) > (wrap64 (t230 * (wrap64 (100 - t248)))) then (if bt252.2.2.2.2 = true then (some (bt252.1.toList == t228.toList && (bt252.2.1 == t229 && (bt252.2.2.1 == t230 && (bt252.2.2.2.1 == t231))))) else (some false)) else (some false)) else (some false)) else (some false)) else (some false)) else (some false))))) = some r := H
                 have A69 := aS A690
                 clear A690
                 replace H := Option.bind_eq_some_iff.mp H
                 obtain ⟨⟨t249, t250⟩, A700, H⟩ := H
                 replace H : ((impl_RopeText.f kj58 t228 t229 t230 t231).bind fun t251 => ((impl_ReadRope.f kj58 t251).bind fun bt252 => (if t250 = 0 then (if t249 ≥ 0 then (if t249 ≤ t230 then (if (wrap64 (100 * t249)) ≤ (wrap64 (t230 * (wrap64 (100 - t248)))) then (if (wrap64 (100 * (wrap64 (t249 + 1)))) > (wrap64 (t230 * (wrap64 (100 - t248)))) then (if bt252.2.2.2.2 = true then (some (bt252.1.toList == t228.toList && (bt252.2.1 == t229 && (bt252.2.2.1 == t230 && (bt252.2.2.2.1 == t231))))) else (some false)) else (some false)) else (some false)) else (some false)) else (some false)) else (some false)))) = some r := H
                 have A70 := aS A700
                 clear A700
                 replace H := Option.bind_eq_some_iff.mp H
                 obtain ⟨t251, A710, H⟩ := H
                 replace H : ((impl_ReadRope.f kj58 t251).bind fun bt252 => (if t250 = 0 then (if t249 ≥ 0 then (if t249 ≤ t230 then (if (wrap64 (100 * t249)) ≤ (wrap64 (t230 * (wrap64 (100 - t248)))) then (if (wrap64 (100 * (wrap64 (t249 + 1)))) > (wrap64 (t230 * (wrap64 (100 - t248)))) then (if bt252.2.2.2.2 = true then (some (bt252.1.toList == t228.toList && (bt252.2.1 == t229 && (bt252.2.2.1 == t230 && (bt252.2.2.2.1 == t231))))) else (some false)) else (some false)) else (some false)) else (some false)) else (some false)) else (some false))) = some r := H
                 have A71 := aS A710
                 clear A710
                 replace H := Option.bind_eq_some_iff.mp H
                 obtain ⟨⟨t252, t253, t254, t255, t256⟩, A720, H⟩ := H
                 replace H : (if t250 = 0 then (if t249 ≥ 0 then (if t249 ≤ t230 then (if (wrap64 (100 * t249)) ≤ (wrap64 (t230 * (wrap64 (100 - t248)))) then (if (wrap64 (100 * (wrap64 (t249 + 1)))) > (wrap64 (t230 * (wrap64 (100 - t248)))) then (if t256 = true then (some (t252.toList == t228.toList && (t253 == t229 && (t254 == t230 && (t255 == t231))))) else (some false)) else (some false)) else (some false)) else (some false)) else (some false)) else (some false)) = some r := H
                 have A72 := aS A720
                 clear A720
                 have HC73 := aS H
                 clear H
                 go_upto_region 23 with (first | ((with_reducible refine gate_callee (f := 37) rfl ?_); refine goesL_ (some 157) rfl rfl Tryd.func37 (by kernel_rfl) rfl #[.slice A1 l1.length c1, .int .i64 3, .int .i64 101] rfl sG ?_; (with_reducible refine (laws_a2At.calls _ _ l1 3 101 t248 _ ?side1 ?side2 A69.out).mono ?_); (case side1 => exact sC (Kd.C_below HR1.out HB.out)); (case side2 => exact HC1.out); rintro e w' ⟨rfl, ⟨nd, rfl⟩⟩; refine ⟨_, rfl, ?_⟩; (try (rw [drewN_self wc]; generalize hq_ : World.drewN wc _ = wc; have n0_ : Aside0 (wc.heap[gb232]? = some (.cells #[.string t228, .int .i64 t229, .int .i64 t230, .int .i64 t231] 45 (0, 0))) := ⟨by rw [← hq_]; exact (sB BK232.out)⟩; have n1_ : Aside0 (Below w.heap.size w wc) := ⟨by rw [← hq_]; exact (sW HB.out)⟩; clear BK232 HB hq_; have BK232 := n0_; have HB := n1_; clear n0_ n1_)); (try (have hcu74_0 : wc.cell? ⟨gb232, 0, none⟩ = some (.string t228) := (blk_cell BK232.out 0).trans rfl; have hfu74_0 := blk_frozen BK232.out 0; have hcu74_1 : wc.cell? ⟨gb232, 1, none⟩ = some (.int .i64 t229) := (blk_cell BK232.out 1).trans rfl; have hfu74_1 := blk_frozen BK232.out 1; have hcu74_2 : wc.cell? ⟨gb232, 2, none⟩ = some (.int .i64 t230) := (blk_cell BK232.out 2).trans rfl; have hfu74_2 := blk_frozen BK232.out 2; have hcu74_3 : wc.cell? ⟨gb232, 3, none⟩ = some (.int .i64 t231) := (blk_cell BK232.out 3).trans rfl; have hfu74_3 := blk_frozen BK232.out 3)); have hcz75_0 : wc.cell? ⟨gb232, 0, none⟩ = some (.string t228) := (blk_cell BK232.out 0).trans rfl; have hcz75_1 : wc.cell? ⟨gb232, 1, none⟩ = some (.int .i64 t229) := (blk_cell BK232.out 1).trans rfl; have hcz75_2 : wc.cell? ⟨gb232, 2, none⟩ = some (.int .i64 t230) := (blk_cell BK232.out 2).trans rfl; have hcz75_3 : wc.cell? ⟨gb232, 3, none⟩ = some (.int .i64 t231) := (blk_cell BK232.out 3).trans rfl; have hfz75_0 := blk_frozen BK232.out 0; have hfz75_1 := blk_frozen BK232.out 1; have hfz75_2 := blk_frozen BK232.out 2; have hfz75_3 := blk_frozen BK232.out 3) | ((with_reducible refine gate_callee (f := 41) rfl ?_); refine goesL_ (some 161) rfl rfl Tryd.func41 (by kernel_rfl) rfl #[.agg #[.string t228, .int .i64 t229, .int .i64 t230, .int .i64 t231], .int .i64 t248] rfl sG ?_; (with_reducible refine (impl_WornStrength.calls kj58 t228 t229 t230 t231 t248 t249 t250 _ A70.out).mono ?_); rintro e w76 ⟨rfl, hb⟩; refine ⟨_, rfl, ?_⟩; have n0_ := aS (blk_below (g := gb232) (o := .cells #[.string t228, .int .i64 t229, .int .i64 t230, .int .i64 t231] 45 (0, 0)) (sB BK232.out) hb); have n1_ := aS (below_step (sW HB.out) hb); clear BK232 HB; have BK232 := n0_; have HB := n1_; clear n0_ n1_; (try clear hb); (try clear hb2); (try clear hk); (try clear hi); have hcz77_0 : w76.cell? ⟨gb232, 0, none⟩ = some (.string t228) := (blk_cell BK232.out 0).trans rfl; have hcz77_1 : w76.cell? ⟨gb232, 1, none⟩ = some (.int .i64 t229) := (blk_cell BK232.out 1).trans rfl; have hcz77_2 : w76.cell? ⟨gb232, 2, none⟩ = some (.int .i64 t230) := (blk_cell BK232.out 2).trans rfl; have hcz77_3 : w76.cell? ⟨gb232, 3, none⟩ = some (.int .i64 t231) := (blk_cell BK232.out 3).trans rfl; have hfz77_0 := blk_frozen BK232.out 0; have hfz77_1 := blk_frozen BK232.out 1; have hfz77_2 := blk_frozen BK232.out 2; have hfz77_3 := blk_frozen BK232.out 3) | ((with_reducible refine gate_callee (f := 31) rfl ?_); refine goesL_ (some 166) rfl rfl Tryd.func31 (by kernel_rfl) rfl #[.agg #[.string t228, .int .i64 t229, .int .i64 t230, .int .i64 t231]] rfl sG ?_; (with_reducible refine (impl_RopeText.calls kj58 t228 t229 t230 t231 t251 _ ?side1 A71.out).mono ?_); (case side1 => exact Gnd.Tab.on hT (sW HB.out)); rintro e w78 ⟨rfl, hb⟩; refine ⟨_, rfl, ?_⟩; have n0_ := aS (blk_below (g := gb232) (o := .cells #[.string t228, .int .i64 t229, .int .i64 t230, .int .i64 t231] 45 (0, 0)) (sB BK232.out) hb); have n1_ := aS (below_step (sW HB.out) hb); clear BK232 HB; have BK232 := n0_; have HB := n1_; clear n0_ n1_; (try clear hb); (try clear hb2); (try clear hk); (try clear hi)) | ((with_reducible refine gate_callee (f := 33) rfl ?_); refine goesL_ (some 167) rfl rfl Tryd.func33 (by kernel_rfl) rfl #[.string t251] rfl sG ?_; (with_reducible refine (impl_ReadRope.calls kj58 t251 t252 t253 t254 t255 t256 _ ?side1 ?side2 A72.out).mono ?_); (case side1 => exact Gnd.Max.on hM (sW HB.out)); (case side2 => exact Gnd.Tab.on hT (sW HB.out)); rintro e w79 ⟨rfl, hb⟩; refine ⟨_, rfl, ?_⟩; have n0_ := aS (blk_below (g := gb232) (o := .cells #[.string t228, .int .i64 t229, .int .i64 t230, .int .i64 t231] 45 (0, 0)) (sB BK232.out) hb); have n1_ := aS (below_step (sW HB.out) hb); clear BK232 HB; have BK232 := n0_; have HB := n1_; clear n0_ n1_; (try clear hb); (try clear hb2); (try clear hk); (try clear hi)) | ((with_reducible refine gate_dst (N := 20) rfl ?_); refine box_event ?hg (N := 20) ?hd (cs := #[.string (⟨#[]⟩ : ByteArray), .int .i64 0, .int .i64 0, .int .i64 0]) (t := 45) ?hr ?_; (case hd => rfl); (case hg => rfl); (case hr => first | (go_simp; done) | (go_simp; rfl)); intro gb257 hg w80 hbox hb; have n0_ := aS (blk_below (g := gb232) (o := .cells #[.string t228, .int .i64 t229, .int .i64 t230, .int .i64 t231] 45 (0, 0)) (sB BK232.out) hb); have n1_ := aS (below_step (sW HB.out) hb); have n2_ := aS (hbox); have n3_ := aS ((by rw [hg]; exact (below_size (sW HB.out)) : w.heap.size ≤ gb257)); have n4_ := aS ((by rw [hg]; exact (below_size (sW HB.out)) : w.heap.size ≤ gb257)); have n5_ := aS ((by rw [hg]; exact Nat.ne_of_lt (blk_lt (g := gb232) (o := .cells #[.string t228, .int .i64 t229, .int .i64 t230, .int .i64 t231] 45 (0, 0)) (sB BK232.out)) : gb232 ≠ gb257)); have n6_ := aS ((by rw [hg]; exact Nat.ne_of_gt (blk_lt (g := gb232) (o := .cells #[.string t228, .int .i64 t229, .int .i64 t230, .int .i64 t231] 45 (0, 0)) (sB BK232.out)) : gb257 ≠ gb232)); clear BK232 HB; have BK232 := n0_; have HB := n1_; have BK257 := n2_; have GW257 := n3_; have GE257 := n4_; have NB232_257 := n5_; have NB257_232 := n6_; clear n0_ n1_ n2_ n3_ n4_ n5_ n6_; clear hb hbox hg; have hnb81 := NB257_232.out; have hnc81 := NB232_257.out; have hcz82_0 : w80.cell? ⟨gb257, 0, none⟩ = some (.string (⟨#[]⟩ : ByteArray)) := (blk_cell BK257.out 0).trans rfl; have hcz82_1 : w80.cell? ⟨gb257, 1, none⟩ = some (.int .i64 0) := (blk_cell BK257.out 1).trans rfl; have hcz82_2 : w80.cell? ⟨gb257, 2, none⟩ = some (.int .i64 0) := (blk_cell BK257.out 2).trans rfl; have hcz82_3 : w80.cell? ⟨gb257, 3, none⟩ = some (.int .i64 0) := (blk_cell BK257.out 3).trans rfl; have hfz82_0 := blk_frozen BK257.out 0; have hfz82_1 := blk_frozen BK257.out 1; have hfz82_2 := blk_frozen BK257.out 2; have hfz82_3 := blk_frozen BK257.out 3))
                 (try simp only [Act.put, List.setIfInBounds_toArray, List.set_cons_zero, List.set_cons_succ])
                 have H := HC73.out
                 clear HC73
                 by_cases c83 : t250 = 0
                 ·
                  rw [if_pos c83] at H
                  have c83b0 : (t250 == 0) = true := beq_iff_eq.mpr c83
                  have c83b1 : (t250 != 0) = false := bne_eq_false_iff_eq.mpr c83
                  clear c83
                  (first | rw [c83b0] | (simp only [i64_w, i32_w]; rw [c83b0]) | (rw [c83b2]; simp only [Bool.not_false, Bool.not_true]) | skip)
                  by_cases c84 : t249 ≥ 0
                  rotate_left
                  ·
                   rw [if_neg c84] at H
                   have c84b0 : decide (0 ≤ t249) = false := decide_eq_false c84
                   clear c84
                   obtain rfl := Option.some.inj H
                   go_wp2
                   go_ret
                   exact ⟨by first | rfl | (simp [errW_none, errW_some, i64_w]; done) | (simp [errW_none, errW_some] <;> rfl) | (simp [*, errW_none, errW_some] <;> rfl), by repeat (first | (with_reducible first | exact HB.out | apply below_alloc | apply pw_below_drewN | apply below_drew1 | refine below_set ?_ GE232.out | refine below_set ?_ GE257.out) | exact HB.out)⟩
                  rw [if_pos c84] at H
                  have c84b0 : decide (0 ≤ t249) = true := decide_eq_true c84
                  clear c84
                  by_cases c85 : t249 ≤ t230
                  rotate_left
                  ·
                   rw [if_neg c85] at H
                   have c85b0 : decide (t249 ≤ t230) = false := decide_eq_false c85
                   clear c85
                   obtain rfl := Option.some.inj H
                   have hnb98 := NB232_257.out
                   have hnc98 := NB257_232.out
                   have hcz99_0 : w80.cell? ⟨gb232, 0, none⟩ = some (.string t228) := (blk_cell BK232.out 0).trans rfl
                   have hcz99_1 : w80.cell? ⟨gb232, 1, none⟩ = some (.int .i64 t229) := (blk_cell BK232.out 1).trans rfl
                   have hcz99_2 : w80.cell? ⟨gb232, 2, none⟩ = some (.int .i64 t230) := (blk_cell BK232.out 2).trans rfl
                   have hcz99_3 : w80.cell? ⟨gb232, 3, none⟩ = some (.int .i64 t231) := (blk_cell BK232.out 3).trans rfl
                   have hfz99_0 := blk_frozen BK232.out 0
                   have hfz99_1 := blk_frozen BK232.out 1
                   have hfz99_2 := blk_frozen BK232.out 2
                   have hfz99_3 := blk_frozen BK232.out 3
                   go_wp2
                   go_ret
                   exact ⟨by first | rfl | (simp [errW_none, errW_some, i64_w]; done) | (simp [errW_none, errW_some] <;> rfl) | (simp [*, errW_none, errW_some] <;> rfl), by repeat (first | (with_reducible first | exact HB.out | apply below_alloc | apply pw_below_drewN | apply below_drew1 | refine below_set ?_ GE232.out | refine below_set ?_ GE257.out) | exact HB.out)⟩
                  rw [if_pos c85] at H
                  have c85b0 : decide (t249 ≤ t230) = true := decide_eq_true c85
                  clear c85
                  by_cases c86 : (wrap64 (100 * t249)) ≤ (wrap64 (t230 * (wrap64 (100 - t248))))
                  rotate_left
                  ·
                   rw [if_neg c86] at H
                   have c86b0 : decide ((wrap64 (100 * t249)) ≤ (wrap64 (t230 * (wrap64 (100 - t248))))) = false := decide_eq_false c86
                   clear c86
                   obtain rfl := Option.some.inj H
                   have hnb96 := NB232_257.out
                   have hnc96 := NB257_232.out
                   have hcz97_0 : w80.cell? ⟨gb232, 0, none⟩ = some (.string t228) := (blk_cell BK232.out 0).trans rfl
                   have hcz97_1 : w80.cell? ⟨gb232, 1, none⟩ = some (.int .i64 t229) := (blk_cell BK232.out 1).trans rfl
                   have hcz97_2 : w80.cell? ⟨gb232, 2, none⟩ = some (.int .i64 t230) := (blk_cell BK232.out 2).trans rfl
                   have hcz97_3 : w80.cell? ⟨gb232, 3, none⟩ = some (.int .i64 t231) := (blk_cell BK232.out 3).trans rfl
                   have hfz97_0 := blk_frozen BK232.out 0
                   have hfz97_1 := blk_frozen BK232.out 1
                   have hfz97_2 := blk_frozen BK232.out 2
                   have hfz97_3 := blk_frozen BK232.out 3
                   go_wp2
                   go_ret
                   exact ⟨by first | rfl | (simp [errW_none, errW_some, i64_w]; done) | (simp [errW_none, errW_some] <;> rfl) | (simp [*, errW_none, errW_some] <;> rfl), by repeat (first | (with_reducible first | exact HB.out | apply below_alloc | apply pw_below_drewN | apply below_drew1 | refine below_set ?_ GE232.out | refine below_set ?_ GE257.out) | exact HB.out)⟩
                  rw [if_pos c86] at H
                  have c86b0 : decide ((wrap64 (100 * t249)) ≤ (wrap64 (t230 * (wrap64 (100 - t248))))) = true := decide_eq_true c86
                  clear c86
                  by_cases c87 : (wrap64 (100 * (wrap64 (t249 + 1)))) > (wrap64 (t230 * (wrap64 (100 - t248))))
                  rotate_left
                  ·
                   rw [if_neg c87] at H
                   have c87b0 : decide ((wrap64 (t230 * (wrap64 (100 - t248)))) < (wrap64 (100 * (wrap64 (t249 + 1))))) = false := decide_eq_false c87
                   clear c87
                   obtain rfl := Option.some.inj H
                   have hnb94 := NB232_257.out
                   have hnc94 := NB257_232.out
                   have hcz95_0 : w80.cell? ⟨gb232, 0, none⟩ = some (.string t228) := (blk_cell BK232.out 0).trans rfl
                   have hcz95_1 : w80.cell? ⟨gb232, 1, none⟩ = some (.int .i64 t229) := (blk_cell BK232.out 1).trans rfl
                   have hcz95_2 : w80.cell? ⟨gb232, 2, none⟩ = some (.int .i64 t230) := (blk_cell BK232.out 2).trans rfl
                   have hcz95_3 : w80.cell? ⟨gb232, 3, none⟩ = some (.int .i64 t231) := (blk_cell BK232.out 3).trans rfl
                   have hfz95_0 := blk_frozen BK232.out 0
                   have hfz95_1 := blk_frozen BK232.out 1
                   have hfz95_2 := blk_frozen BK232.out 2
                   have hfz95_3 := blk_frozen BK232.out 3
                   go_wp2
                   go_ret
                   exact ⟨by first | rfl | (simp [errW_none, errW_some, i64_w]; done) | (simp [errW_none, errW_some] <;> rfl) | (simp [*, errW_none, errW_some] <;> rfl), by repeat (first | (with_reducible first | exact HB.out | apply below_alloc | apply pw_below_drewN | apply below_drew1 | refine below_set ?_ GE232.out | refine below_set ?_ GE257.out) | exact HB.out)⟩
                  rw [if_pos c87] at H
                  have c87b0 : decide ((wrap64 (t230 * (wrap64 (100 - t248)))) < (wrap64 (100 * (wrap64 (t249 + 1))))) = true := decide_eq_true c87
                  clear c87
                  by_cases c88 : t256 = true
                  rotate_left
                  ·
                   replace c88 := Bool.eq_false_iff.mpr c88
                   subst c88
                   have H1 : (some false) = some r := by rw [if_neg (show ¬ (false = true) by decide)] at H; exact H
                   clear H
                   have H := H1
                   clear H1
                   obtain rfl := Option.some.inj H
                   have hnb92 := NB232_257.out
                   have hnc92 := NB257_232.out
                   have hcz93_0 : w80.cell? ⟨gb232, 0, none⟩ = some (.string t228) := (blk_cell BK232.out 0).trans rfl
                   have hcz93_1 : w80.cell? ⟨gb232, 1, none⟩ = some (.int .i64 t229) := (blk_cell BK232.out 1).trans rfl
                   have hcz93_2 : w80.cell? ⟨gb232, 2, none⟩ = some (.int .i64 t230) := (blk_cell BK232.out 2).trans rfl
                   have hcz93_3 : w80.cell? ⟨gb232, 3, none⟩ = some (.int .i64 t231) := (blk_cell BK232.out 3).trans rfl
                   have hfz93_0 := blk_frozen BK232.out 0
                   have hfz93_1 := blk_frozen BK232.out 1
                   have hfz93_2 := blk_frozen BK232.out 2
                   have hfz93_3 := blk_frozen BK232.out 3
                   go_wp2
                   go_ret
                   exact ⟨by first | rfl | (simp [errW_none, errW_some, i64_w]; done) | (simp [errW_none, errW_some] <;> rfl) | (simp [*, errW_none, errW_some] <;> rfl), by repeat (first | (with_reducible first | exact HB.out | apply below_alloc | apply pw_below_drewN | apply below_drew1 | refine below_set ?_ GE232.out | refine below_set ?_ GE257.out) | exact HB.out)⟩
                  subst c88
                  have H1 : (some (t252.toList == t228.toList && (t253 == t229 && (t254 == t230 && (t255 == t231))))) = some r := by rw [if_pos rfl] at H; exact H
                  clear H
                  have H := H1
                  clear H1
                  obtain rfl := Option.some.inj H
                  have hnb89 := NB232_257.out
                  have hnc89 := NB257_232.out
                  have hcz90_0 : w80.cell? ⟨gb232, 0, none⟩ = some (.string t228) := (blk_cell BK232.out 0).trans rfl
                  have hcz90_1 : w80.cell? ⟨gb232, 1, none⟩ = some (.int .i64 t229) := (blk_cell BK232.out 1).trans rfl
                  have hcz90_2 : w80.cell? ⟨gb232, 2, none⟩ = some (.int .i64 t230) := (blk_cell BK232.out 2).trans rfl
                  have hcz90_3 : w80.cell? ⟨gb232, 3, none⟩ = some (.int .i64 t231) := (blk_cell BK232.out 3).trans rfl
                  have hfz90_0 := blk_frozen BK232.out 0
                  have hfz90_1 := blk_frozen BK232.out 1
                  have hfz90_2 := blk_frozen BK232.out 2
                  have hfz90_3 := blk_frozen BK232.out 3
                  have hcz91_0 : w80.cell? ⟨gb257, 0, none⟩ = some (.string (⟨#[]⟩ : ByteArray)) := (blk_cell BK257.out 0).trans rfl
                  have hcz91_1 : w80.cell? ⟨gb257, 1, none⟩ = some (.int .i64 0) := (blk_cell BK257.out 1).trans rfl
                  have hcz91_2 : w80.cell? ⟨gb257, 2, none⟩ = some (.int .i64 0) := (blk_cell BK257.out 2).trans rfl
                  have hcz91_3 : w80.cell? ⟨gb257, 3, none⟩ = some (.int .i64 0) := (blk_cell BK257.out 3).trans rfl
                  have hfz91_0 := blk_frozen BK257.out 0
                  have hfz91_1 := blk_frozen BK257.out 1
                  have hfz91_2 := blk_frozen BK257.out 2
                  have hfz91_3 := blk_frozen BK257.out 3
                  go_wp2
                  go_ret
                  exact ⟨by first | rfl | (simp [errW_none, errW_some, i64_w]; done) | (simp [errW_none, errW_some] <;> rfl) | (simp [*, errW_none, errW_some] <;> rfl), by repeat (first | (with_reducible first | exact HB.out | apply below_alloc | apply pw_below_drewN | apply below_drew1 | refine below_set ?_ GE232.out | refine below_set ?_ GE257.out) | exact HB.out)⟩
                 ·
                  rw [if_neg c83] at H
                  have c83b0 : (t250 == 0) = false := beq_eq_false_iff_ne.mpr c83
                  have c83b1 : (t250 != 0) = true := bne_iff_ne.mpr c83
                  (first | rw [c83b0] | (simp only [i64_w, i32_w]; rw [c83b0]) | (rw [c83b2]; simp only [Bool.not_false, Bool.not_true]) | skip)
                  obtain rfl := Option.some.inj H
                  go_wp2
                  go_ret
                  exact ⟨by first | rfl | (simp [errW_none, errW_some, i64_w]; done) | (simp [errW_none, errW_some] <;> rfl) | (simp [*, errW_none, errW_some] <;> rfl), by repeat (first | (with_reducible first | exact HB.out | apply below_alloc | apply pw_below_drewN | apply below_drew1 | refine below_set ?_ GE232.out | refine below_set ?_ GE257.out) | exact HB.out)⟩
    
/-- THE ONE PURE STATEMENT of laws_FnRopeLines. -/
def laws_FnRopeLines.Pure : Prop := ∀ (l0 : List Int) (l1 : List Int), (l0.length * 1 ≤ 140737488351232 ∧ l0.length ≤ maxLen ∧ (∀ y0 ∈ l0, (Lit.int .u8 y0).wf = true)) → (l1.length * 1 ≤ 140737488351232 ∧ l1.length ≤ maxLen ∧ (∀ y0 ∈ l1, (Lit.int .u8 y0).wf = true)) → ∃ k, laws_FnRopeLines.f k l0 l1 = some true
theorem laws_FnRopeLines.walk : True := trivial

end Go.Proofs.YtginmioklkcgbaaDoor.QFnRopeLines

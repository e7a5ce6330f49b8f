/- What the Go functions of this law compute, each as a Lean function, and that each call comes to that answer; written by a program of this session. No condition. -/
import Derived.Test.YtginmioklkcgbaaVQFnExactLongestLinex0
import Derived.Test.YtginmioklkcgbaaVQFnExactLongestLinex1
import Derived.Test.YtginmioklkcgbaaVQFnExactLongestLinex4
import Derived.Test.YtginmioklkcgbaaVQFnExactLongestLinex5
import Derived.Test.YtginmioklkcgbaaVQFnExactLongestLinex10
import Derived.Test.YtginmioklkcgbaaVQFnExactLongestLinex11
import Derived.Test.YtginmioklkcgbaaVQFnExactLongestLinex12
import Derived.Test.YtginmioklkcgbaaVQFnExactLongestLinex13
namespace Go.Proofs.Ytginmioklkcgbaa.QFnExactLongestLine
open Go.RowKit Go.Proofs.YtginmioklkcgbaaW.PrintWords Go.Proofs.YtginmioklkcgbaaW.PrintLast Go.Proofs.YtginmioklkcgbaaW.PrintMore
attribute [local go_sem] max2_int min2_int max_two min_two max_three min_three max_four min_four   -- for this text's walks alone
set_option linter.unusedVariables false
set_option linter.unusedSimpArgs false

/-! ### laws_FnExactLongestLine: function 3 -/
mutual
def laws_FnExactLongestLine.j0 : Nat → List (S78) → List (S83) → Int → Int → List (S61) → List (S45) → Int → Bool → List (S45) → List Int → List (S45) → List Int → Option (Bool)
 | 0, _, _, _, _, _, _, _, _, _, _, _, _ => none
 | k + 1, x0, x1, x2, x9, x10, x11, x13, x57, x351000, x351001, x365000, x365001 => if x57 = true then (some false) else ((laws_toJoinS.f k x0).bind fun t366 => ((laws_eqJoinS.f k x10 t366).bind fun t369 => (if t369 = true then ((laws_toLinePieceS.f k x1).bind fun t370 => ((laws_eqLinePieceS.f k x11 t370).bind fun t373 => (if t373 = true then ((laws_markJoinS.f k x10 1).bind fun bt374 => ((laws_markLinePieceS.f k x11 bt374.1).bind fun bt376 => (if bt376.1 < 0 then (laws_FnExactLongestLine.j1 k x0 x1 x2 x9 true x351000 x351001 x365000 x365001) else ((laws_eqLine.f k x365000 x365001 x351000 x351001).bind fun t378 => (if t378 = true then (laws_FnExactLongestLine.j1 k x0 x1 x2 x9 (x13 != x9) x351000 x351001 x365000 x365001) else (laws_FnExactLongestLine.j1 k x0 x1 x2 x9 true x351000 x351001 x365000 x365001)))))) else (some false)))) else (some false))))
def laws_FnExactLongestLine.j1 : Nat → List (S78) → List (S83) → Int → Int → Bool → List (S45) → List Int → List (S45) → List Int → Option (Bool)
 | 0, _, _, _, _, _, _, _, _, _ => none
 | k + 1, x0, x1, x2, x9, x86, x351000, x351001, x365000, x365001 => if x86 = true then (some false) else ((laws_markLine.f k x365000 x365001 1).bind fun bt379 => ((laws_heldLine.f k bt379.2.1 bt379.2.2 1).bind fun t382 => (if t382 < 0 then (some false) else (if t382 = bt379.1 then ((laws_toJoinS.f k x0).bind fun t383 => ((laws_toLinePieceS.f k x1).bind fun t386 => ((impl_LongestLine.f k t383 t386 x2).bind fun bt389 => ((laws_eqLine.f k bt389.1 bt389.2.1 x351000 x351001).bind fun t397 => (if t397 = true then (laws_FnExactLongestLine.j2 k bt379.1 (bt389.2.2 != x9) bt379.2.1 bt379.2.2) else (laws_FnExactLongestLine.j2 k bt379.1 true bt379.2.1 bt379.2.2)))))) else (some false)))))
def laws_FnExactLongestLine.j2 : Nat → Int → Bool → List (S45) → List Int → Option (Bool)
 | 0, _, _, _, _ => none
 | k + 1, x15, x115, x365000, x365001 => if x115 = true then (some false) else ((laws_heldLine.f k x365000 x365001 1).bind fun t398 => (if t398 < 0 then (some false) else (if t398 = x15 then (some true) else (some false))))
end
def laws_FnExactLongestLine.f (k : Nat) (l0 : List (S78)) (l1 : List (S83)) (a2 : Int) : Option (Bool) := (laws_szJoinS.f k l0 1048576).bind fun t335 => (if t335 < 0 then (some true) else ((laws_szLinePieceS.f l1 t335).bind fun t336 => (if t336 < 0 then (some true) else ((laws_toJoinS.f k l0).bind fun t337 => ((laws_toLinePieceS.f k l1).bind fun t340 => ((spec_LongestLine.f k t337 t340 a2).bind fun bt343 => ((laws_toJoinS.f k l0).bind fun t351 => ((laws_toLinePieceS.f k l1).bind fun t354 => ((impl_LongestLine.f k t351 t354 a2).bind fun bt357 => ((laws_eqLine.f k bt357.1 bt357.2.1 bt343.1 bt343.2.1).bind fun t365 => (if t365 = true then (laws_FnExactLongestLine.j0 k l0 l1 a2 bt343.2.2 t351 t354 bt357.2.2 (bt357.2.2 != bt343.2.2) bt343.1 bt343.2.1 bt357.1 bt357.2.1) else (laws_FnExactLongestLine.j0 k l0 l1 a2 bt343.2.2 t351 t354 bt357.2.2 true bt343.1 bt343.2.1 bt357.1 bt357.2.1))))))))))))
theorem laws_FnExactLongestLine.mono_l : ∀ k, (∀ y0 y1 y2 y3 y4 y5 y6 y7 y8 y9 y10 y11, LeO (laws_FnExactLongestLine.j0 k y0 y1 y2 y3 y4 y5 y6 y7 y8 y9 y10 y11) (laws_FnExactLongestLine.j0 (k + 1) y0 y1 y2 y3 y4 y5 y6 y7 y8 y9 y10 y11)) ∧ (∀ y0 y1 y2 y3 y4 y5 y6 y7 y8, LeO (laws_FnExactLongestLine.j1 k y0 y1 y2 y3 y4 y5 y6 y7 y8) (laws_FnExactLongestLine.j1 (k + 1) y0 y1 y2 y3 y4 y5 y6 y7 y8)) ∧ (∀ y0 y1 y2 y3, LeO (laws_FnExactLongestLine.j2 k y0 y1 y2 y3) (laws_FnExactLongestLine.j2 (k + 1) y0 y1 y2 y3))
 | 0 => ⟨fun _ _ _ _ _ _ _ _ _ _ _ _ r h => by simp [laws_FnExactLongestLine.j0] at h, fun _ _ _ _ _ _ _ _ _ r h => by simp [laws_FnExactLongestLine.j1] at h, fun _ _ _ _ r h => by simp [laws_FnExactLongestLine.j2] at h⟩
 | k + 1 => by
  obtain ⟨ih0, ih1, ih2⟩ := laws_FnExactLongestLine.mono_l k
  refine ⟨?_, ?_, ?_⟩
  ·
   intro y0 y1 y2 y3 y4 y5 y6 y7 y8 y9 y10 y11
   unfold laws_FnExactLongestLine.j0
   repeat' first
   | (with_reducible exact ih0 _ _ _ _ _ _ _ _ _ _ _ _)
   | (with_reducible exact ih1 _ _ _ _ _ _ _ _ _)
   | (with_reducible exact ih2 _ _ _ _)
   | (with_reducible exact impl_LongestLine.mono _ _ _ _)
   | (with_reducible exact laws_eqJoinS.mono _ _ _)
   | (with_reducible exact laws_eqLine.mono _ _ _ _ _)
   | (with_reducible exact laws_eqLinePieceS.mono _ _ _)
   | (with_reducible exact laws_heldLine.mono _ _ _ _)
   | (with_reducible exact laws_markJoinS.mono _ _ _)
   | (with_reducible exact laws_markLine.mono _ _ _ _)
   | (with_reducible exact laws_markLinePieceS.mono _ _ _)
   | (with_reducible exact laws_szJoinS.mono _ _ _)
   | (with_reducible exact laws_toJoinS.mono _ _)
   | (with_reducible exact laws_toLinePieceS.mono _ _)
   | (with_reducible exact spec_LongestLine.mono _ _ _ _)
   | (with_reducible exact LeO.refl _)
   | (with_reducible exact LeO.none _)
   | (with_reducible refine LeO.ite ?_ ?_)
   | (with_reducible refine LeO.bind ?_ (fun _ => ?_))
   | exact ih0 _ _ _ _ _ _ _ _ _ _ _ _
   | exact ih1 _ _ _ _ _ _ _ _ _
   | exact ih2 _ _ _ _
   | exact impl_LongestLine.mono _ _ _ _
   | exact laws_eqJoinS.mono _ _ _
   | exact laws_eqLine.mono _ _ _ _ _
   | exact laws_eqLinePieceS.mono _ _ _
   | exact laws_heldLine.mono _ _ _ _
   | exact laws_markJoinS.mono _ _ _
   | exact laws_markLine.mono _ _ _ _
   | exact laws_markLinePieceS.mono _ _ _
   | exact laws_szJoinS.mono _ _ _
   | exact laws_toJoinS.mono _ _
   | exact laws_toLinePieceS.mono _ _
   | exact spec_LongestLine.mono _ _ _ _
   | exact LeO.none _
   | refine LeO.ite ?_ ?_
   | refine LeO.bind ?_ (fun _ => ?_)
  ·
   intro y0 y1 y2 y3 y4 y5 y6 y7 y8
   unfold laws_FnExactLongestLine.j1
   repeat' first
   | (with_reducible exact ih0 _ _ _ _ _ _ _ _ _ _ _ _)
   | (with_reducible exact ih1 _ _ _ _ _ _ _ _ _)
   | (with_reducible exact ih2 _ _ _ _)
   | (with_reducible exact impl_LongestLine.mono _ _ _ _)
   | (with_reducible exact laws_eqJoinS.mono _ _ _)
   | (with_reducible exact laws_eqLine.mono _ _ _ _ _)
   | (with_reducible exact laws_eqLinePieceS.mono _ _ _)
   | (with_reducible exact laws_heldLine.mono _ _ _ _)
   | (with_reducible exact laws_markJoinS.mono _ _ _)
   | (with_reducible exact laws_markLine.mono _ _ _ _)
   | (with_reducible exact laws_markLinePieceS.mono _ _ _)
   | (with_reducible exact laws_szJoinS.mono _ _ _)
   | (with_reducible exact laws_toJoinS.mono _ _)
   | (with_reducible exact laws_toLinePieceS.mono _ _)
   | (with_reducible exact spec_LongestLine.mono _ _ _ _)
   | (with_reducible exact LeO.refl _)
   | (with_reducible exact LeO.none _)
   | (with_reducible refine LeO.ite ?_ ?_)
   | (with_reducible refine LeO.bind ?_ (fun _ => ?_))
   | exact ih0 _ _ _ _ _ _ _ _ _ _ _ _
   | exact ih1 _ _ _ _ _ _ _ _ _
   | exact ih2 _ _ _ _
   | exact impl_LongestLine.mono _ _ _ _
   | exact laws_eqJoinS.mono _ _ _
   | exact laws_eqLine.mono _ _ _ _ _
   | exact laws_eqLinePieceS.mono _ _ _
   | exact laws_heldLine.mono _ _ _ _
   | exact laws_markJoinS.mono _ _ _
   | exact laws_markLine.mono _ _ _ _
   | exact laws_markLinePieceS.mono _ _ _
   | exact laws_szJoinS.mono _ _ _
   | exact laws_toJoinS.mono _ _
   | exact laws_toLinePieceS.mono _ _
   | exact spec_LongestLine.mono _ _ _ _
   | exact LeO.none _
   | refine LeO.ite ?_ ?_
   | refine LeO.bind ?_ (fun _ => ?_)
  ·
   intro y0 y1 y2 y3
   unfold laws_FnExactLongestLine.j2
   repeat' first
   | (with_reducible exact ih0 _ _ _ _ _ _ _ _ _ _ _ _)
   | (with_reducible exact ih1 _ _ _ _ _ _ _ _ _)
   | (with_reducible exact ih2 _ _ _ _)
   | (with_reducible exact impl_LongestLine.mono _ _ _ _)
   | (with_reducible exact laws_eqJoinS.mono _ _ _)
   | (with_reducible exact laws_eqLine.mono _ _ _ _ _)
   | (with_reducible exact laws_eqLinePieceS.mono _ _ _)
   | (with_reducible exact laws_heldLine.mono _ _ _ _)
   | (with_reducible exact laws_markJoinS.mono _ _ _)
   | (with_reducible exact laws_markLine.mono _ _ _ _)
   | (with_reducible exact laws_markLinePieceS.mono _ _ _)
   | (with_reducible exact laws_szJoinS.mono _ _ _)
   | (with_reducible exact laws_toJoinS.mono _ _)
   | (with_reducible exact laws_toLinePieceS.mono _ _)
   | (with_reducible exact spec_LongestLine.mono _ _ _ _)
   | (with_reducible exact LeO.refl _)
   | (with_reducible exact LeO.none _)
   | (with_reducible refine LeO.ite ?_ ?_)
   | (with_reducible refine LeO.bind ?_ (fun _ => ?_))
   | exact ih0 _ _ _ _ _ _ _ _ _ _ _ _
   | exact ih1 _ _ _ _ _ _ _ _ _
   | exact ih2 _ _ _ _
   | exact impl_LongestLine.mono _ _ _ _
   | exact laws_eqJoinS.mono _ _ _
   | exact laws_eqLine.mono _ _ _ _ _
   | exact laws_eqLinePieceS.mono _ _ _
   | exact laws_heldLine.mono _ _ _ _
   | exact laws_markJoinS.mono _ _ _
   | exact laws_markLine.mono _ _ _ _
   | exact laws_markLinePieceS.mono _ _ _
   | exact laws_szJoinS.mono _ _ _
   | exact laws_toJoinS.mono _ _
   | exact laws_toLinePieceS.mono _ _
   | exact spec_LongestLine.mono _ _ _ _
   | exact LeO.none _
   | refine LeO.ite ?_ ?_
   | refine LeO.bind ?_ (fun _ => ?_)
theorem laws_FnExactLongestLine.mono : ∀ a0 a1 a2 k, LeO (laws_FnExactLongestLine.f k a0 a1 a2) (laws_FnExactLongestLine.f (k + 1) a0 a1 a2) := by
 intro a0 a1 a2 k
 obtain ⟨ih0, ih1, ih2⟩ := laws_FnExactLongestLine.mono_l k
 unfold laws_FnExactLongestLine.f
 repeat' first
   | (with_reducible exact ih0 _ _ _ _ _ _ _ _ _ _ _ _)
   | (with_reducible exact ih1 _ _ _ _ _ _ _ _ _)
   | (with_reducible exact ih2 _ _ _ _)
   | (with_reducible exact impl_LongestLine.mono _ _ _ _)
   | (with_reducible exact laws_eqJoinS.mono _ _ _)
   | (with_reducible exact laws_eqLine.mono _ _ _ _ _)
   | (with_reducible exact laws_eqLinePieceS.mono _ _ _)
   | (with_reducible exact laws_heldLine.mono _ _ _ _)
   | (with_reducible exact laws_markJoinS.mono _ _ _)
   | (with_reducible exact laws_markLine.mono _ _ _ _)
   | (with_reducible exact laws_markLinePieceS.mono _ _ _)
   | (with_reducible exact laws_szJoinS.mono _ _ _)
   | (with_reducible exact laws_toJoinS.mono _ _)
   | (with_reducible exact laws_toLinePieceS.mono _ _)
   | (with_reducible exact spec_LongestLine.mono _ _ _ _)
   | (with_reducible exact LeO.refl _)
   | (with_reducible exact LeO.none _)
   | (with_reducible refine LeO.ite ?_ ?_)
   | (with_reducible refine LeO.bind ?_ (fun _ => ?_))
   | exact ih0 _ _ _ _ _ _ _ _ _ _ _ _
   | exact ih1 _ _ _ _ _ _ _ _ _
   | exact ih2 _ _ _ _
   | exact impl_LongestLine.mono _ _ _ _
   | exact laws_eqJoinS.mono _ _ _
   | exact laws_eqLine.mono _ _ _ _ _
   | exact laws_eqLinePieceS.mono _ _ _
   | exact laws_heldLine.mono _ _ _ _
   | exact laws_markJoinS.mono _ _ _
   | exact laws_markLine.mono _ _ _ _
   | exact laws_markLinePieceS.mono _ _ _
   | exact laws_szJoinS.mono _ _ _
   | exact laws_toJoinS.mono _ _
   | exact laws_toLinePieceS.mono _ _
   | exact spec_LongestLine.mono _ _ _ _
   | exact LeO.none _
   | refine LeO.ite ?_ ?_
   | refine LeO.bind ?_ (fun _ => ?_)
def laws_FnExactLongestLine.bF (n k : Nat) : Array Bool := ((List.range n).map fun i => k.testBit i).toArray
set_option maxHeartbeats 8000000 in
set_option maxRecDepth 100000 in
theorem laws_FnExactLongestLine.calls (k : Nat) (A0 : Option Addr) (c0 : Nat) (l0 : List (S78)) (A1 : Option Addr) (c1 : Nat) (l1 : List (S83)) (a2 : Int) (r : Bool) (w : World) (hr0 : Kd.C k78 w A0 l0.length l0) (hc0 : l0.length ≤ c0) (hr1 : Kd.C k83 w A1 l1.length l1) (hc1 : l1.length ≤ c1) (h : laws_FnExactLongestLine.f k l0 l1 a2 = some r) :
  Calls Try.prog 3 #[.slice A0 l0.length c0, .slice A1 l1.length c1, .int .i64 a2] w fun e w' => e = .returned (.bool r) ∧ Below w.heap.size w w' := by
 have hu29 := Try.underlying29
 have HR0 := aS hr0
 have HC0 := aS hc0
 clear hr0 hc0
 have HR1 := aS hr1
 have HC1 := aS hc1
 clear hr1 hc1
 have HB := aS (Below.refl w.heap.size w)
 have H : ((laws_szJoinS.f k l0 1048576).bind fun t335 => (if t335 < 0 then (some true) else ((laws_szLinePieceS.f l1 t335).bind fun t336 => (if t336 < 0 then (some true) else ((laws_toJoinS.f k l0).bind fun t337 => ((laws_toLinePieceS.f k l1).bind fun t340 => ((spec_LongestLine.f k t337 t340 a2).bind fun bt343 => ((laws_toJoinS.f k l0).bind fun t351 => ((laws_toLinePieceS.f k l1).bind fun t354 => ((impl_LongestLine.f k t351 t354 a2).bind fun bt357 => ((laws_eqLine.f k bt357.1 bt357.2.1 bt343.1 bt343.2.1).bind fun t365 => (if t365 = true then (laws_FnExactLongestLine.j0 k l0 l1 a2 bt343.2.2 t351 t354 bt357.2.2 (bt357.2.2 != bt343.2.2) bt343.1 bt343.2.1 bt357.1 bt357.2.1) else (laws_FnExactLongestLine.j0 k l0 l1 a2 bt343.2.2 t351 t354 bt357.2.2 true bt343.1 bt343.2.1 bt357.1 bt357.2.1))))))))))))) = some r := h
 clear h
 replace H := Option.bind_eq_some_iff.mp H
 obtain ⟨t335, A40, H⟩ := H
 replace H : (if t335 < 0 then (some true) else ((laws_szLinePieceS.f l1 t335).bind fun t336 => (if t336 < 0 then (some true) else ((laws_toJoinS.f k l0).bind fun t337 => ((laws_toLinePieceS.f k l1).bind fun t340 => ((spec_LongestLine.f k t337 t340 a2).bind fun bt343 => ((laws_toJoinS.f k l0).bind fun t351 => ((laws_toLinePieceS.f k l1).bind fun t354 => ((impl_LongestLine.f k t351 t354 a2).bind fun bt357 => ((laws_eqLine.f k bt357.1 bt357.2.1 bt343.1 bt343.2.1).bind fun t365 => (if t365 = true then (laws_FnExactLongestLine.j0 k l0 l1 a2 bt343.2.2 t351 t354 bt357.2.2 (bt357.2.2 != bt343.2.2) bt343.1 bt343.2.1 bt357.1 bt357.2.1) else (laws_FnExactLongestLine.j0 k l0 l1 a2 bt343.2.2 t351 t354 bt357.2.2 true bt343.1 bt343.2.1 bt357.1 bt357.2.1)))))))))))) = some r := H
 have A4 := aS A40
 clear A40
 have HC5 := aS H
 clear H
 go_enter Try.func3, Try.ntmps3
 go_upto_if 23 with (first | ((with_reducible refine gate_callee (f := 7) rfl ?_); refine goesL_ (some 21) rfl rfl Try.func7 (by kernel_rfl) rfl #[.slice A0 l0.length c0, .int .i64 1048576] rfl sG ?_; (with_reducible refine (laws_szJoinS.calls k _ _ l0 1048576 t335 _ ?side1 ?side2 A4.out).mono ?_); (case side1 => exact sC HR0.out); (case side2 => exact HC0.out); rintro e w6 ⟨rfl, hb⟩; refine ⟨_, rfl, ?_⟩; have n0_ := aS (below_step (sW HB.out) hb); clear HB; have HB := n0_; clear n0_; (try clear hb); (try clear hb2); (try clear hk); (try clear hi)))
 (try simp only [Act.put, List.setIfInBounds_toArray, List.set_cons_zero, List.set_cons_succ])
 have H := HC5.out
 clear HC5
 by_cases c7 : t335 < 0
 ·
  rw [if_pos c7] at H
  have c7b0 : decide (t335 < 0) = true := decide_eq_true c7
  clear c7
  (first | rw [c7b0] | (simp only [i64_w, i32_w]; rw [c7b0]) | (rw [c7b2]; simp only [Bool.not_false, Bool.not_true]) | skip)
  obtain rfl := Option.some.inj H
  go_wp2
  go_ret
  exact ⟨by first | rfl | (simp [errW_none, errW_some, i64_w]; done) | (simp [errW_none, errW_some] <;> rfl) | (simp [*, errW_none, errW_some] <;> rfl), by repeat (first | (with_reducible first | exact HB.out | apply below_alloc | apply pw_below_drewN | apply below_drew1) | exact HB.out)⟩
 ·
  rw [if_neg c7] at H
  have c7b0 : decide (t335 < 0) = false := decide_eq_false c7
  clear c7
  (first | rw [c7b0] | (simp only [i64_w, i32_w]; rw [c7b0]) | (rw [c7b2]; simp only [Bool.not_false, Bool.not_true]) | skip)
  replace H := Option.bind_eq_some_iff.mp H
  obtain ⟨t336, A80, H⟩ := H
  replace H : (if t336 < 0 then (some true) else ((laws_toJoinS.f k l0).bind fun t337 => ((laws_toLinePieceS.f k l1).bind fun t340 => ((spec_LongestLine.f k t337 t340 a2).bind fun bt343 => ((laws_toJoinS.f k l0).bind fun t351 => ((laws_toLinePieceS.f k l1).bind fun t354 => ((impl_LongestLine.f k t351 t354 a2).bind fun bt357 => ((laws_eqLine.f k bt357.1 bt357.2.1 bt343.1 bt343.2.1).bind fun t365 => (if t365 = true then (laws_FnExactLongestLine.j0 k l0 l1 a2 bt343.2.2 t351 t354 bt357.2.2 (bt357.2.2 != bt343.2.2) bt343.1 bt343.2.1 bt357.1 bt357.2.1) else (laws_FnExactLongestLine.j0 k l0 l1 a2 bt343.2.2 t351 t354 bt357.2.2 true bt343.1 bt343.2.1 bt357.1 bt357.2.1)))))))))) = some r := H
  have A8 := aS A80
  clear A80
  have HC9 := aS H
  clear H
  go_upto_if 28 with (first | ((with_reducible refine gate_callee (f := 8) rfl ?_); refine goesL_ (some 26) rfl rfl Try.func8 (by kernel_rfl) rfl #[.slice A1 l1.length c1, .int .i64 t335] rfl sG ?_; (with_reducible refine (laws_szLinePieceS.calls _ _ l1 t335 t336 _ ?side1 ?side2 A8.out).mono ?_); (case side1 => exact sC (Kd.C_below HR1.out HB.out)); (case side2 => exact HC1.out); rintro e w' ⟨rfl, ⟨nd, rfl⟩⟩; refine ⟨_, rfl, ?_⟩))
  (try simp only [Act.put, List.setIfInBounds_toArray, List.set_cons_zero, List.set_cons_succ])
  have H := HC9.out
  clear HC9
  by_cases c10 : t336 < 0
  ·
   rw [if_pos c10] at H
   have c10b0 : decide (t336 < 0) = true := decide_eq_true c10
   clear c10
   (first | rw [c10b0] | (simp only [i64_w, i32_w]; rw [c10b0]) | (rw [c10b2]; simp only [Bool.not_false, Bool.not_true]) | skip)
   obtain rfl := Option.some.inj H
   go_wp2
   go_ret
   exact ⟨by first | rfl | (simp [errW_none, errW_some, i64_w]; done) | (simp [errW_none, errW_some] <;> rfl) | (simp [*, errW_none, errW_some] <;> rfl), by repeat (first | (with_reducible first | exact HB.out | apply below_alloc | apply pw_below_drewN | apply below_drew1) | exact HB.out)⟩
  ·
   rw [if_neg c10] at H
   have c10b0 : decide (t336 < 0) = false := decide_eq_false c10
   clear c10
   (first | rw [c10b0] | (simp only [i64_w, i32_w]; rw [c10b0]) | (rw [c10b2]; simp only [Bool.not_false, Bool.not_true]) | skip)
   replace H := Option.bind_eq_some_iff.mp H
   obtain ⟨t337, A110, H⟩ := H
   replace H : ((laws_toLinePieceS.f k l1).bind fun t340 => ((spec_LongestLine.f k t337 t340 a2).bind fun bt343 => ((laws_toJoinS.f k l0).bind fun t351 => ((laws_toLinePieceS.f k l1).bind fun t354 => ((impl_LongestLine.f k t351 t354 a2).bind fun bt357 => ((laws_eqLine.f k bt357.1 bt357.2.1 bt343.1 bt343.2.1).bind fun t365 => (if t365 = true then (laws_FnExactLongestLine.j0 k l0 l1 a2 bt343.2.2 t351 t354 bt357.2.2 (bt357.2.2 != bt343.2.2) bt343.1 bt343.2.1 bt357.1 bt357.2.1) else (laws_FnExactLongestLine.j0 k l0 l1 a2 bt343.2.2 t351 t354 bt357.2.2 true bt343.1 bt343.2.1 bt357.1 bt357.2.1)))))))) = some r := H
   have A11 := aS A110
   clear A110
   replace H := Option.bind_eq_some_iff.mp H
   obtain ⟨t340, A120, H⟩ := H
   replace H : ((spec_LongestLine.f k t337 t340 a2).bind fun bt343 => ((laws_toJoinS.f k l0).bind fun t351 => ((laws_toLinePieceS.f k l1).bind fun t354 => ((impl_LongestLine.f k t351 t354 a2).bind fun bt357 => ((laws_eqLine.f k bt357.1 bt357.2.1 bt343.1 bt343.2.1).bind fun t365 => (if t365 = true then (laws_FnExactLongestLine.j0 k l0 l1 a2 bt343.2.2 t351 t354 bt357.2.2 (bt357.2.2 != bt343.2.2) bt343.1 bt343.2.1 bt357.1 bt357.2.1) else (laws_FnExactLongestLine.j0 k l0 l1 a2 bt343.2.2 t351 t354 bt357.2.2 true bt343.1 bt343.2.1 bt357.1 bt357.2.1))))))) = some r := H
   have A12 := aS A120
   clear A120
   replace H := Option.bind_eq_some_iff.mp H
   obtain ⟨⟨t343, t346, t349⟩, A130, H⟩ := H
   replace H : ((laws_toJoinS.f k l0).bind fun t351 => ((laws_toLinePieceS.f k l1).bind fun t354 => ((impl_LongestLine.f k t351 t354 a2).bind fun bt357 => ((laws_eqLine.f k bt357.1 bt357.2.1 t343 t346).bind fun t365 => (if t365 = true then (laws_FnExactLongestLine.j0 k l0 l1 a2 t349 t351 t354 bt357.2.2 (bt357.2.2 != t349) t343 t346 bt357.1 bt357.2.1) else (laws_FnExactLongestLine.j0 k l0 l1 a2 t349 t351 t354 bt357.2.2 true t343 t346 bt357.1 bt357.2.1)))))) = some r := H
   have A13 := aS A130
   clear A130
   replace H := Option.bind_eq_some_iff.mp H
   obtain ⟨t351, A140, H⟩ := H
   replace H : ((laws_toLinePieceS.f k l1).bind fun t354 => ((impl_LongestLine.f k t351 t354 a2).bind fun bt357 => ((laws_eqLine.f k bt357.1 bt357.2.1 t343 t346).bind fun t365 => (if t365 = true then (laws_FnExactLongestLine.j0 k l0 l1 a2 t349 t351 t354 bt357.2.2 (bt357.2.2 != t349) t343 t346 bt357.1 bt357.2.1) else (laws_FnExactLongestLine.j0 k l0 l1 a2 t349 t351 t354 bt357.2.2 true t343 t346 bt357.1 bt357.2.1))))) = some r := H
   have A14 := aS A140
   clear A140
   replace H := Option.bind_eq_some_iff.mp H
   obtain ⟨t354, A150, H⟩ := H
   replace H : ((impl_LongestLine.f k t351 t354 a2).bind fun bt357 => ((laws_eqLine.f k bt357.1 bt357.2.1 t343 t346).bind fun t365 => (if t365 = true then (laws_FnExactLongestLine.j0 k l0 l1 a2 t349 t351 t354 bt357.2.2 (bt357.2.2 != t349) t343 t346 bt357.1 bt357.2.1) else (laws_FnExactLongestLine.j0 k l0 l1 a2 t349 t351 t354 bt357.2.2 true t343 t346 bt357.1 bt357.2.1)))) = some r := H
   have A15 := aS A150
   clear A150
   replace H := Option.bind_eq_some_iff.mp H
   obtain ⟨⟨t357, t360, t363⟩, A160, H⟩ := H
   replace H : ((laws_eqLine.f k t357 t360 t343 t346).bind fun t365 => (if t365 = true then (laws_FnExactLongestLine.j0 k l0 l1 a2 t349 t351 t354 t363 (t363 != t349) t343 t346 t357 t360) else (laws_FnExactLongestLine.j0 k l0 l1 a2 t349 t351 t354 t363 true t343 t346 t357 t360))) = some r := H
   have A16 := aS A160
   clear A160
   have HC17 := aS H
   clear H
   go_upto_region 12 with (first | ((with_reducible refine gate_callee (f := 10) rfl ?_); refine goesL_ (some 31) rfl rfl Try.func10 (by kernel_rfl) rfl #[.slice A0 l0.length c0] rfl sG ?_; (with_reducible refine (laws_toJoinS.calls k _ _ l0 t337 _ ?side1 ?side2 A11.out).mono ?_); (case side1 => exact sC (Kd.C_below HR0.out HB.out)); (case side2 => exact HC0.out); rintro e w18 ⟨v338, rfl, ho0, hb⟩; refine ⟨_, rfl, ?_⟩; have n0_ := aS (Kd.R_lower ho0 (below_size (sW HB.out))); have n1_ := aS (below_step (sW HB.out) hb); clear HB; have HO339 := n0_; have HB := n1_; clear n0_ n1_; (try clear hb); (try clear hb2); (try clear hk); (try clear hi); (try clear ho0)) | ((with_reducible refine gate_callee (f := 11) rfl ?_); refine goesL_ (some 33) rfl rfl Try.func11 (by kernel_rfl) rfl #[.slice A1 l1.length c1] rfl sG ?_; (with_reducible refine (laws_toLinePieceS.calls k _ _ l1 t340 _ ?side1 ?side2 A12.out).mono ?_); (case side1 => exact sC (Kd.C_below HR1.out HB.out)); (case side2 => exact HC1.out); rintro e w19 ⟨v341, rfl, ho0, hb⟩; refine ⟨_, rfl, ?_⟩; have n0_ := aS (Kd.R_below (sR HO339.out) hb); have n1_ := aS (Kd.R_lower ho0 (below_size (sW HB.out))); have n2_ := aS (below_step (sW HB.out) hb); clear HO339 HB; have HO339 := n0_; have HO342 := n1_; have HB := n2_; clear n0_ n1_ n2_; (try clear hb); (try clear hb2); (try clear hk); (try clear hi); (try clear ho0); obtain ⟨Ao20, co20, eo20⟩ := Kd.R_slice HO339.out; subst eo20; obtain ⟨Ao21, co21, eo21⟩ := Kd.R_slice HO342.out; subst eo21) | ((with_reducible refine gate_callee (f := 9) rfl ?_); refine goesL_ (some 35) rfl rfl Try.func9 (by kernel_rfl) rfl #[.slice Ao20 t337.length co20, .slice Ao21 t340.length co21, .int .i64 a2] rfl sG ?_; (with_reducible refine (spec_LongestLine.calls k _ _ t337 _ _ t340 a2 t343 t346 t349 _ ?side1 ?side2 ?side3 ?side4 A13.out).mono ?_); (case side1 => exact sC (Kd.R_reads' HO339.out).2.2); (case side2 => exact (Kd.R_reads' HO339.out).2.1); (case side3 => exact sC (Kd.R_reads' HO342.out).2.2); (case side4 => exact (Kd.R_reads' HO342.out).2.1); rintro e w22 ⟨v344, v347, rfl, ho0, ho1, hb⟩; refine ⟨_, rfl, ?_⟩; have n0_ := aS (Kd.R_below (sR HO339.out) hb); have n1_ := aS (Kd.R_elder' (sR HO342.out) (Kd.R_base ho0) hb); have n2_ := aS (Kd.R_lower (Kd.R_new' ho0 (Kd.R_lt (sR HO342.out))) (below_size (sW HB.out))); have n3_ := aS (Kd.R_lower ho1 (below_size (sW HB.out))); have n4_ := aS (below_step (sW HB.out) hb); clear HO339 HO342 HB; have HO339 := n0_; have HO342 := n1_; have HO345 := n2_; have HO348 := n3_; have HB := n4_; clear n0_ n1_ n2_ n3_ n4_; (try clear hb); (try clear hb2); (try clear hk); (try clear hi); (try clear ho0); (try clear ho1)) | ((with_reducible refine gate_dst (N := 8) rfl ?_); refine box_event ?hg (N := 8) ?hd (cs := #[.slice none 0 0, .slice none 0 0]) (t := 29) ?hr ?_; (case hd => rfl); (case hg => rfl); (case hr => first | (go_simp; done) | (go_simp; rfl)); intro gb350 hg w23 hbox hb; have n0_ := aS (Kd.R_below (sR HO339.out) hb); have n1_ := aS (Kd.R_below (sR HO342.out) hb); have n2_ := aS (Kd.R_below (sR HO345.out) hb); have n3_ := aS (Kd.R_below (sR HO348.out) hb); have n4_ := aS (below_step (sW HB.out) hb); have n5_ := aS (hbox); have n6_ := aS ((by rw [hg]; exact (below_size (sW HB.out)) : w.heap.size ≤ gb350)); have n7_ := aS ((by rw [hg]; exact (below_size (sW HB.out)) : w.heap.size ≤ gb350)); clear HO339 HO342 HO345 HO348 HB; have HO339 := n0_; have HO342 := n1_; have HO345 := n2_; have HO348 := n3_; have HB := n4_; have BK350 := n5_; have GW350 := n6_; have GE350 := n7_; clear n0_ n1_ n2_ n3_ n4_ n5_ n6_ n7_; clear hb hbox hg; obtain ⟨Ao24, co24, eo24⟩ := Kd.R_slice HO345.out; subst eo24; have hcz25_0 : w23.cell? ⟨gb350, 0, none⟩ = some (.slice none 0 0) := (blk_cell BK350.out 0).trans rfl; have hcz25_1 : w23.cell? ⟨gb350, 1, none⟩ = some (.slice none 0 0) := (blk_cell BK350.out 1).trans rfl; have hfz25_0 := blk_frozen BK350.out 0; have hfz25_1 := blk_frozen BK350.out 1; obtain ⟨Ao26, co26, eo26⟩ := Kd.R_slice HO348.out; subst eo26) | ((with_reducible refine gate_callee (f := 10) rfl ?_); refine goesL_ (some 39) rfl rfl Try.func10 (by kernel_rfl) rfl #[.slice A0 l0.length c0] rfl sG ?_; (with_reducible refine (laws_toJoinS.calls k _ _ l0 t351 _ ?side1 ?side2 A14.out).mono ?_); (case side1 => exact Kd.C_below HR0.out (sW HB.out)); (case side2 => exact HC0.out); rintro e w27 ⟨v352, rfl, ho0, hb⟩; refine ⟨_, rfl, ?_⟩; have n0_ := aS (Kd.R_elder' (sR (Kd.R_mono (Kd.R_far (p := ⟨gb350, 1, none⟩) (Kd.R_far (p := ⟨gb350, 0, none⟩) (Kd.R_types HO339.out BK350.out (by decide)) (fun _ hk => hk.2) (.slice Ao24 t343.length co24)) (fun _ hk => hk.2) (.slice Ao26 t346.length co26)) (fun _ h_ => h_.1))) (Kd.R_base ho0) hb); have n1_ := aS (Kd.R_below (sR (Kd.R_mono (Kd.R_far (p := ⟨gb350, 1, none⟩) (Kd.R_far (p := ⟨gb350, 0, none⟩) (Kd.R_types HO342.out BK350.out (by decide)) (fun _ hk => hk.2) (.slice Ao24 t343.length co24)) (fun _ hk => hk.2) (.slice Ao26 t346.length co26)) (fun _ h_ => h_.1))) hb); have n2_ := aS (Kd.R_below (sR (Kd.R_mono (Kd.R_far (p := ⟨gb350, 1, none⟩) (Kd.R_far (p := ⟨gb350, 0, none⟩) (Kd.R_types HO345.out BK350.out (by decide)) (fun _ hk => hk.2) (.slice Ao24 t343.length co24)) (fun _ hk => hk.2) (.slice Ao26 t346.length co26)) (fun _ h_ => h_.1))) hb); have n3_ := aS (Kd.R_below (sR (Kd.R_mono (Kd.R_far (p := ⟨gb350, 1, none⟩) (Kd.R_far (p := ⟨gb350, 0, none⟩) (Kd.R_types HO348.out BK350.out (by decide)) (fun _ hk => hk.2) (.slice Ao24 t343.length co24)) (fun _ hk => hk.2) (.slice Ao26 t346.length co26)) (fun _ h_ => h_.1))) hb); have n4_ := aS (Kd.R_lower (Kd.R_new' ho0 (Kd.R_lt (sR (Kd.R_mono (Kd.R_far (p := ⟨gb350, 1, none⟩) (Kd.R_far (p := ⟨gb350, 0, none⟩) (Kd.R_types HO339.out BK350.out (by decide)) (fun _ hk => hk.2) (.slice Ao24 t343.length co24)) (fun _ hk => hk.2) (.slice Ao26 t346.length co26)) (fun _ h_ => h_.1))))) (below_size (sW HB.out))); have n5_ := aS (blk_below (g := gb350) (o := .cells #[.slice Ao24 t343.length co24, .slice Ao26 t346.length co26] 29 (0, 0)) (by (with_reducible repeat (first | refine blk_drewN ?_ _ | refine blk_drew ?_ | refine blk_alloc ?_ _)); refine blk_put (cs := #[.slice Ao24 t343.length co24, .slice none 0 0]) ?_ 1 _ rfl; (with_reducible repeat (first | refine blk_drewN ?_ _ | refine blk_drew ?_ | refine blk_alloc ?_ _)); refine blk_put (cs := #[.slice none 0 0, .slice none 0 0]) ?_ 0 _ rfl; (with_reducible repeat (first | refine blk_drewN ?_ _ | refine blk_drew ?_ | refine blk_alloc ?_ _)); exact BK350.out) hb); have n6_ := aS (below_step (sW HB.out) hb); clear HO339 HO342 HO345 HO348 BK350 HB; have HO339 := n0_; have HO342 := n1_; have HO345 := n2_; have HO348 := n3_; have HO353 := n4_; have BK350 := n5_; have HB := n6_; clear n0_ n1_ n2_ n3_ n4_ n5_ n6_; (try clear hb); (try clear hb2); (try clear hk); (try clear hi); (try clear ho0)) | ((with_reducible refine gate_callee (f := 11) rfl ?_); refine goesL_ (some 41) rfl rfl Try.func11 (by kernel_rfl) rfl #[.slice A1 l1.length c1] rfl sG ?_; (with_reducible refine (laws_toLinePieceS.calls k _ _ l1 t354 _ ?side1 ?side2 A15.out).mono ?_); (case side1 => exact sC (Kd.C_below HR1.out HB.out)); (case side2 => exact HC1.out); rintro e w28 ⟨v355, rfl, ho0, hb⟩; refine ⟨_, rfl, ?_⟩; have n0_ := aS (Kd.R_below (sR HO339.out) hb); have n1_ := aS (Kd.R_elder' (sR HO342.out) (Kd.R_base ho0) hb); have n2_ := aS (Kd.R_elder' (sR HO345.out) (Kd.R_base ho0) hb); have n3_ := aS (Kd.R_below (sR HO348.out) hb); have n4_ := aS (Kd.R_below (sR HO353.out) hb); have n5_ := aS (Kd.R_lower (Kd.R_new' (Kd.R_new' ho0 (Kd.R_lt (sR HO342.out))) (Kd.R_lt (sR HO345.out))) (below_size (sW HB.out))); have n6_ := aS (blk_below (g := gb350) (o := .cells #[.slice Ao24 t343.length co24, .slice Ao26 t346.length co26] 29 (0, 0)) (sB BK350.out) hb); have n7_ := aS (below_step (sW HB.out) hb); clear HO339 HO342 HO345 HO348 HO353 BK350 HB; have HO339 := n0_; have HO342 := n1_; have HO345 := n2_; have HO348 := n3_; have HO353 := n4_; have HO356 := n5_; have BK350 := n6_; have HB := n7_; clear n0_ n1_ n2_ n3_ n4_ n5_ n6_ n7_; (try clear hb); (try clear hb2); (try clear hk); (try clear hi); (try clear ho0); obtain ⟨Ao29, co29, eo29⟩ := Kd.R_slice HO353.out; subst eo29; obtain ⟨Ao30, co30, eo30⟩ := Kd.R_slice HO356.out; subst eo30) | ((with_reducible refine gate_callee (f := 12) rfl ?_); refine goesL_ (some 46) rfl rfl Try.func12 (by kernel_rfl) rfl #[.slice Ao29 t351.length co29, .slice Ao30 t354.length co30, .int .i64 a2] rfl sG ?_; (with_reducible refine (impl_LongestLine.calls k _ _ t351 _ _ t354 a2 t357 t360 t363 _ ?side1 ?side2 ?side3 ?side4 A16.out).mono ?_); (case side1 => exact sC (Kd.R_reads' HO353.out).2.2); (case side2 => exact (Kd.R_reads' HO353.out).2.1); (case side3 => exact sC (Kd.R_reads' HO356.out).2.2); (case side4 => exact (Kd.R_reads' HO356.out).2.1); rintro e w31 ⟨v358, v361, rfl, ho0, ho1, hb⟩; refine ⟨_, rfl, ?_⟩; have n0_ := aS (Kd.R_below (sR HO339.out) hb); have n1_ := aS (Kd.R_elder' (sR HO342.out) (Kd.R_base ho0) hb); have n2_ := aS (Kd.R_elder' (sR HO345.out) (Kd.R_base ho0) hb); have n3_ := aS (Kd.R_elder' (sR HO348.out) (Kd.R_base ho1) hb); have n4_ := aS (Kd.R_below (sR HO353.out) hb); have n5_ := aS (Kd.R_elder' (sR HO356.out) (Kd.R_base ho0) hb); have n6_ := aS (Kd.R_lower (Kd.R_new' (Kd.R_new' (Kd.R_new' ho0 (Kd.R_lt (sR HO342.out))) (Kd.R_lt (sR HO345.out))) (Kd.R_lt (sR HO356.out))) (below_size (sW HB.out))); have n7_ := aS (Kd.R_lower (Kd.R_new' ho1 (Kd.R_lt (sR HO348.out))) (below_size (sW HB.out))); have n8_ := aS (blk_below (g := gb350) (o := .cells #[.slice Ao24 t343.length co24, .slice Ao26 t346.length co26] 29 (0, 0)) (sB BK350.out) hb); have n9_ := aS (below_step (sW HB.out) hb); clear HO339 HO342 HO345 HO348 HO353 HO356 BK350 HB; have HO339 := n0_; have HO342 := n1_; have HO345 := n2_; have HO348 := n3_; have HO353 := n4_; have HO356 := n5_; have HO359 := n6_; have HO362 := n7_; have BK350 := n8_; have HB := n9_; clear n0_ n1_ n2_ n3_ n4_ n5_ n6_ n7_ n8_ n9_; (try clear hb); (try clear hb2); (try clear hk); (try clear hi); (try clear ho0); (try clear ho1)) | ((with_reducible refine gate_dst (N := 12) rfl ?_); refine box_event ?hg (N := 12) ?hd (cs := #[.slice none 0 0, .slice none 0 0]) (t := 29) ?hr ?_; (case hd => rfl); (case hg => rfl); (case hr => first | (go_simp; done) | (go_simp; rfl)); intro gb364 hg w32 hbox hb; have n0_ := aS (Kd.R_below (sR HO339.out) hb); have n1_ := aS (Kd.R_below (sR HO342.out) hb); have n2_ := aS (Kd.R_below (sR HO345.out) hb); have n3_ := aS (Kd.R_below (sR HO348.out) hb); have n4_ := aS (Kd.R_below (sR HO353.out) hb); have n5_ := aS (Kd.R_below (sR HO356.out) hb); have n6_ := aS (Kd.R_below (sR HO359.out) hb); have n7_ := aS (Kd.R_below (sR HO362.out) hb); have n8_ := aS (blk_below (g := gb350) (o := .cells #[.slice Ao24 t343.length co24, .slice Ao26 t346.length co26] 29 (0, 0)) (sB BK350.out) hb); have n9_ := aS (below_step (sW HB.out) hb); have n10_ := aS (hbox); have n11_ := aS ((by rw [hg]; exact (below_size (sW HB.out)) : w.heap.size ≤ gb364)); have n12_ := aS ((by rw [hg]; exact (below_size (sW HB.out)) : w.heap.size ≤ gb364)); have n13_ := aS ((by rw [hg]; exact Nat.ne_of_lt (blk_lt (g := gb350) (o := .cells #[.slice Ao24 t343.length co24, .slice Ao26 t346.length co26] 29 (0, 0)) (sB BK350.out)) : gb350 ≠ gb364)); have n14_ := aS ((by rw [hg]; exact Nat.ne_of_gt (blk_lt (g := gb350) (o := .cells #[.slice Ao24 t343.length co24, .slice Ao26 t346.length co26] 29 (0, 0)) (sB BK350.out)) : gb364 ≠ gb350)); clear HO339 HO342 HO345 HO348 HO353 HO356 HO359 HO362 BK350 HB; have HO339 := n0_; have HO342 := n1_; have HO345 := n2_; have HO348 := n3_; have HO353 := n4_; have HO356 := n5_; have HO359 := n6_; have HO362 := n7_; have BK350 := n8_; have HB := n9_; have BK364 := n10_; have GW364 := n11_; have GE364 := n12_; have NB350_364 := n13_; have NB364_350 := n14_; clear n0_ n1_ n2_ n3_ n4_ n5_ n6_ n7_ n8_ n9_ n10_ n11_ n12_ n13_ n14_; clear hb hbox hg; obtain ⟨Ao33, co33, eo33⟩ := Kd.R_slice HO359.out; subst eo33; have hnb34 := NB364_350.out; have hnc34 := NB350_364.out; have hcz35_0 : w32.cell? ⟨gb364, 0, none⟩ = some (.slice none 0 0) := (blk_cell BK364.out 0).trans rfl; have hcz35_1 : w32.cell? ⟨gb364, 1, none⟩ = some (.slice none 0 0) := (blk_cell BK364.out 1).trans rfl; have hfz35_0 := blk_frozen BK364.out 0; have hfz35_1 := blk_frozen BK364.out 1; obtain ⟨Ao36, co36, eo36⟩ := Kd.R_slice HO362.out; subst eo36))
   (try simp only [Act.put, List.setIfInBounds_toArray, List.set_cons_zero, List.set_cons_succ])
   go_cut [57] (fun v57 wc => ∃ (kq : Nat) (x57_16 : Bool), v57 = .bool x57_16 ∧ Aside0 (laws_FnExactLongestLine.j0 kq l0 l1 a2 t349 t351 t354 t363 x57_16 t343 t346 t357 t360 = some r) ∧ Aside0 (kq ≤ k) ∧ Aside0 (Kd.R k61 61 wc w.heap.size (fun _ => True) (.slice Ao29 t351.length co29) t351) ∧ Aside0 (Kd.R k45 45 wc w.heap.size (fun k_ => some k_ ≠ ((.slice Ao24 t343.length co24) : Value).ownBlock ∧ some k_ ≠ ((.slice Ao33 t357.length co33) : Value).ownBlock) (.slice Ao30 t354.length co30) t354) ∧ Aside0 (Kd.R k45 45 wc w.heap.size (fun k_ => some k_ ≠ ((.slice Ao30 t354.length co30) : Value).ownBlock ∧ some k_ ≠ ((.slice Ao33 t357.length co33) : Value).ownBlock) (.slice Ao24 t343.length co24) t343) ∧ Aside0 (Kd.R (Kd.int .i64) 2 wc w.heap.size (fun k_ => some k_ ≠ ((.slice Ao36 t360.length co36) : Value).ownBlock) (.slice Ao26 t346.length co26) t346) ∧ Aside0 (Kd.R k45 45 wc w.heap.size (fun k_ => some k_ ≠ ((.slice Ao30 t354.length co30) : Value).ownBlock ∧ some k_ ≠ ((.slice Ao24 t343.length co24) : Value).ownBlock) (.slice Ao33 t357.length co33) t357) ∧ Aside0 (Kd.R (Kd.int .i64) 2 wc w.heap.size (fun k_ => some k_ ≠ ((.slice Ao26 t346.length co26) : Value).ownBlock) (.slice Ao36 t360.length co36) t360) ∧ Aside0 (wc.heap[gb350]? = some (.cells #[(.slice Ao24 t343.length co24), (.slice Ao26 t346.length co26)] 29 (0, 0))) ∧ Aside0 (wc.heap[gb364]? = some (.cells #[(.slice Ao33 t357.length co33), (.slice Ao36 t360.length co36)] 29 (0, 0))) ∧ Aside0 (Below w.heap.size w wc))
   case first =>
    have H := HC17.out
    clear HC17
    replace H := Option.bind_eq_some_iff.mp H
    obtain ⟨t365, A370, H⟩ := H
    replace H : (if t365 = true then (laws_FnExactLongestLine.j0 k l0 l1 a2 t349 t351 t354 t363 (t363 != t349) t343 t346 t357 t360) else (laws_FnExactLongestLine.j0 k l0 l1 a2 t349 t351 t354 t363 true t343 t346 t357 t360)) = some r := H
    have A37 := aS A370
    clear A370
    by_cases c38 : t365 = true
    ·
     subst c38
     have H1 : (laws_FnExactLongestLine.j0 k l0 l1 a2 t349 t351 t354 t363 (t363 != t349) t343 t346 t357 t360) = some r := by rw [if_pos rfl] at H; exact H
     clear H
     have H := H1
     clear H1
     have H' := aS H
     clear H
     have hnb39 := NB364_350.out
     have hnc39 := NB350_364.out
     have hcz40_0 : w32.cell? ⟨gb364, 0, none⟩ = some (.slice none 0 0) := (blk_cell BK364.out 0).trans rfl
     have hcz40_1 : w32.cell? ⟨gb364, 1, none⟩ = some (.slice none 0 0) := (blk_cell BK364.out 1).trans rfl
     have hfz40_0 := blk_frozen BK364.out 0
     have hfz40_1 := blk_frozen BK364.out 1
     have hcz41_0 : w32.cell? ⟨gb350, 0, none⟩ = some (.slice Ao24 t343.length co24) := (blk_cell BK350.out 0).trans rfl
     have hcz41_1 : w32.cell? ⟨gb350, 1, none⟩ = some (.slice Ao26 t346.length co26) := (blk_cell BK350.out 1).trans rfl
     have hfz41_0 := blk_frozen BK350.out 0
     have hfz41_1 := blk_frozen BK350.out 1
     go_wp2_with (first | ((with_reducible refine gate_callee (f := 13) rfl ?_); refine goesL_ (some 51) rfl rfl Try.func13 (by kernel_rfl) rfl #[.agg #[.slice Ao33 t357.length co33, .slice Ao36 t360.length co36], .agg #[.slice Ao24 t343.length co24, .slice Ao26 t346.length co26]] rfl sG ?_; (with_reducible refine (laws_eqLine.calls k _ _ t357 _ _ t360 _ _ t343 _ _ t346 true _ ?side1 ?side2 ?side3 ?side4 ?side5 ?side6 ?side7 ?side8 A37.out).mono ?_); (case side1 => refine (Kd.R_reads' (e := 45) (base := w.heap.size) (ok := fun k_ => (((True ∧ some k_ ≠ (.slice Ao21 t340.length co21 : Value).ownBlock) ∧ some k_ ≠ (.slice Ao24 t343.length co24 : Value).ownBlock) ∧ some k_ ≠ (.slice Ao30 t354.length co30 : Value).ownBlock)) (n := t357.length) (c := co33) ?_).2.2; exact (sR (Kd.R_mono (Kd.R_far (p := ⟨gb364, 1, none⟩) (Kd.R_far (p := ⟨gb364, 0, none⟩) (Kd.R_types HO359.out BK364.out (by decide)) (fun _ hk => hk.2) (.slice Ao33 t357.length co33)) (fun _ hk => hk.2) (.slice Ao36 t360.length co36)) (fun _ h_ => h_.1)))); (case side2 => exact (Kd.R_reads' HO359.out).2.1); (case side3 => refine (Kd.R_reads' (e := 2) (base := w.heap.size) (ok := fun k_ => (True ∧ some k_ ≠ (.slice Ao26 t346.length co26 : Value).ownBlock)) (n := t360.length) (c := co36) ?_).2.2; exact (sR (Kd.R_mono (Kd.R_far (p := ⟨gb364, 1, none⟩) (Kd.R_far (p := ⟨gb364, 0, none⟩) (Kd.R_types HO362.out BK364.out (by decide)) (fun _ hk => hk.2) (.slice Ao33 t357.length co33)) (fun _ hk => hk.2) (.slice Ao36 t360.length co36)) (fun _ h_ => h_.1)))); (case side4 => exact (Kd.R_reads' HO362.out).2.1); (case side5 => refine (Kd.R_reads' (e := 45) (base := w.heap.size) (ok := fun k_ => (((True ∧ some k_ ≠ (.slice Ao21 t340.length co21 : Value).ownBlock) ∧ some k_ ≠ (.slice Ao30 t354.length co30 : Value).ownBlock) ∧ some k_ ≠ (.slice Ao33 t357.length co33 : Value).ownBlock)) (n := t343.length) (c := co24) ?_).2.2; exact (sR (Kd.R_mono (Kd.R_far (p := ⟨gb364, 1, none⟩) (Kd.R_far (p := ⟨gb364, 0, none⟩) (Kd.R_types HO345.out BK364.out (by decide)) (fun _ hk => hk.2) (.slice Ao33 t357.length co33)) (fun _ hk => hk.2) (.slice Ao36 t360.length co36)) (fun _ h_ => h_.1)))); (case side6 => exact (Kd.R_reads' HO345.out).2.1); (case side7 => refine (Kd.R_reads' (e := 2) (base := w.heap.size) (ok := fun k_ => (True ∧ some k_ ≠ (.slice Ao36 t360.length co36 : Value).ownBlock)) (n := t346.length) (c := co26) ?_).2.2; exact (sR (Kd.R_mono (Kd.R_far (p := ⟨gb364, 1, none⟩) (Kd.R_far (p := ⟨gb364, 0, none⟩) (Kd.R_types HO348.out BK364.out (by decide)) (fun _ hk => hk.2) (.slice Ao33 t357.length co33)) (fun _ hk => hk.2) (.slice Ao36 t360.length co36)) (fun _ h_ => h_.1)))); (case side8 => exact (Kd.R_reads' HO348.out).2.1); rintro e w42 ⟨rfl, hb⟩; refine ⟨_, rfl, ?_⟩; have n0_ := aS (Kd.R_below (sR (Kd.R_mono (Kd.R_far (p := ⟨gb364, 1, none⟩) (Kd.R_far (p := ⟨gb364, 0, none⟩) (Kd.R_types HO339.out BK364.out (by decide)) (fun _ hk => hk.2) (.slice Ao33 t357.length co33)) (fun _ hk => hk.2) (.slice Ao36 t360.length co36)) (fun _ h_ => h_.1))) hb); have n1_ := aS (Kd.R_below (sR (Kd.R_mono (Kd.R_far (p := ⟨gb364, 1, none⟩) (Kd.R_far (p := ⟨gb364, 0, none⟩) (Kd.R_types HO342.out BK364.out (by decide)) (fun _ hk => hk.2) (.slice Ao33 t357.length co33)) (fun _ hk => hk.2) (.slice Ao36 t360.length co36)) (fun _ h_ => h_.1))) hb); have n2_ := aS (Kd.R_below (sR (Kd.R_mono (Kd.R_far (p := ⟨gb364, 1, none⟩) (Kd.R_far (p := ⟨gb364, 0, none⟩) (Kd.R_types HO345.out BK364.out (by decide)) (fun _ hk => hk.2) (.slice Ao33 t357.length co33)) (fun _ hk => hk.2) (.slice Ao36 t360.length co36)) (fun _ h_ => h_.1))) hb); have n3_ := aS (Kd.R_below (sR (Kd.R_mono (Kd.R_far (p := ⟨gb364, 1, none⟩) (Kd.R_far (p := ⟨gb364, 0, none⟩) (Kd.R_types HO348.out BK364.out (by decide)) (fun _ hk => hk.2) (.slice Ao33 t357.length co33)) (fun _ hk => hk.2) (.slice Ao36 t360.length co36)) (fun _ h_ => h_.1))) hb); have n4_ := aS (Kd.R_below (sR (Kd.R_mono (Kd.R_far (p := ⟨gb364, 1, none⟩) (Kd.R_far (p := ⟨gb364, 0, none⟩) (Kd.R_types HO353.out BK364.out (by decide)) (fun _ hk => hk.2) (.slice Ao33 t357.length co33)) (fun _ hk => hk.2) (.slice Ao36 t360.length co36)) (fun _ h_ => h_.1))) hb); have n5_ := aS (Kd.R_below (sR (Kd.R_mono (Kd.R_far (p := ⟨gb364, 1, none⟩) (Kd.R_far (p := ⟨gb364, 0, none⟩) (Kd.R_types HO356.out BK364.out (by decide)) (fun _ hk => hk.2) (.slice Ao33 t357.length co33)) (fun _ hk => hk.2) (.slice Ao36 t360.length co36)) (fun _ h_ => h_.1))) hb); have n6_ := aS (Kd.R_below (sR (Kd.R_mono (Kd.R_far (p := ⟨gb364, 1, none⟩) (Kd.R_far (p := ⟨gb364, 0, none⟩) (Kd.R_types HO359.out BK364.out (by decide)) (fun _ hk => hk.2) (.slice Ao33 t357.length co33)) (fun _ hk => hk.2) (.slice Ao36 t360.length co36)) (fun _ h_ => h_.1))) hb); have n7_ := aS (Kd.R_below (sR (Kd.R_mono (Kd.R_far (p := ⟨gb364, 1, none⟩) (Kd.R_far (p := ⟨gb364, 0, none⟩) (Kd.R_types HO362.out BK364.out (by decide)) (fun _ hk => hk.2) (.slice Ao33 t357.length co33)) (fun _ hk => hk.2) (.slice Ao36 t360.length co36)) (fun _ h_ => h_.1))) hb); have n8_ := aS (blk_below (g := gb350) (o := .cells #[.slice Ao24 t343.length co24, .slice Ao26 t346.length co26] 29 (0, 0)) (by (with_reducible repeat (first | refine blk_drewN ?_ _ | refine blk_drew ?_ | refine blk_alloc ?_ _)); refine blk_far ?_ NB350_364.out _; (with_reducible repeat (first | refine blk_drewN ?_ _ | refine blk_drew ?_ | refine blk_alloc ?_ _)); refine blk_far ?_ NB350_364.out _; (with_reducible repeat (first | refine blk_drewN ?_ _ | refine blk_drew ?_ | refine blk_alloc ?_ _)); exact BK350.out) hb); have n9_ := aS (blk_below (g := gb364) (o := .cells #[.slice Ao33 t357.length co33, .slice Ao36 t360.length co36] 29 (0, 0)) (by (with_reducible repeat (first | refine blk_drewN ?_ _ | refine blk_drew ?_ | refine blk_alloc ?_ _)); refine blk_put (cs := #[.slice Ao33 t357.length co33, .slice none 0 0]) ?_ 1 _ rfl; (with_reducible repeat (first | refine blk_drewN ?_ _ | refine blk_drew ?_ | refine blk_alloc ?_ _)); refine blk_put (cs := #[.slice none 0 0, .slice none 0 0]) ?_ 0 _ rfl; (with_reducible repeat (first | refine blk_drewN ?_ _ | refine blk_drew ?_ | refine blk_alloc ?_ _)); exact BK364.out) hb); have n10_ := aS (below_step (sW HB.out) hb); clear HO339 HO342 HO345 HO348 HO353 HO356 HO359 HO362 BK350 BK364 HB; have HO339 := n0_; have HO342 := n1_; have HO345 := n2_; have HO348 := n3_; have HO353 := n4_; have HO356 := n5_; have HO359 := n6_; have HO362 := n7_; have BK350 := n8_; have BK364 := n9_; have HB := n10_; clear n0_ n1_ n2_ n3_ n4_ n5_ n6_ n7_ n8_ n9_ n10_; (try clear hb); (try clear hb2); (try clear hk); (try clear hi)))
     go_meet
     case rel => exact ⟨_, ((t363 != t349)), (by first | rfl | (simp; done) | (simp [*]; done) | (simp only [i64_w]; done) | (simp [i64_w]; done)), H', ⟨by first | omega | exact Nat.le_refl _⟩, ⟨by (with_reducible repeat (first | apply Kd.R_alloc | apply Kd.R_drewN | apply Kd.R_drew)); exact Kd.R_mono HO353.out (fun _ hk => trivial)⟩, ⟨by (with_reducible repeat (first | apply Kd.R_alloc | apply Kd.R_drewN | apply Kd.R_drew)); exact Kd.R_mono HO356.out (fun _ hk => ⟨hk.1.2, hk.2⟩)⟩, ⟨by (with_reducible repeat (first | apply Kd.R_alloc | apply Kd.R_drewN | apply Kd.R_drew)); exact Kd.R_mono HO345.out (fun _ hk => ⟨hk.1.2, hk.2⟩)⟩, ⟨by (with_reducible repeat (first | apply Kd.R_alloc | apply Kd.R_drewN | apply Kd.R_drew)); exact Kd.R_mono HO348.out (fun _ hk => hk.2)⟩, ⟨by (with_reducible repeat (first | apply Kd.R_alloc | apply Kd.R_drewN | apply Kd.R_drew)); exact Kd.R_mono HO359.out (fun _ hk => ⟨hk.2, hk.1.2⟩)⟩, ⟨by (with_reducible repeat (first | apply Kd.R_alloc | apply Kd.R_drewN | apply Kd.R_drew)); exact Kd.R_mono HO362.out (fun _ hk => hk.2)⟩, ⟨by (with_reducible repeat (first | refine blk_drewN ?_ _ | refine blk_drew ?_ | refine blk_alloc ?_ _)); exact BK350.out⟩, ⟨by (with_reducible repeat (first | refine blk_drewN ?_ _ | refine blk_drew ?_ | refine blk_alloc ?_ _)); exact BK364.out⟩, ⟨by repeat (first | (with_reducible first | exact HB.out | apply below_alloc | apply pw_below_drewN | apply below_drew1 | refine below_set ?_ GE350.out | refine below_set ?_ GE364.out) | exact HB.out)⟩⟩
    replace c38 := Bool.eq_false_iff.mpr c38
    subst c38
    have H1 : (laws_FnExactLongestLine.j0 k l0 l1 a2 t349 t351 t354 t363 true t343 t346 t357 t360) = some r := by rw [if_neg (show ¬ (false = true) by decide)] at H; exact H
    clear H
    have H := H1
    clear H1
    have H' := aS H
    clear H
    have hnb43 := NB364_350.out
    have hnc43 := NB350_364.out
    have hcz44_0 : w32.cell? ⟨gb364, 0, none⟩ = some (.slice none 0 0) := (blk_cell BK364.out 0).trans rfl
    have hcz44_1 : w32.cell? ⟨gb364, 1, none⟩ = some (.slice none 0 0) := (blk_cell BK364.out 1).trans rfl
    have hfz44_0 := blk_frozen BK364.out 0
    have hfz44_1 := blk_frozen BK364.out 1
    have hcz45_0 : w32.cell? ⟨gb350, 0, none⟩ = some (.slice Ao24 t343.length co24) := (blk_cell BK350.out 0).trans rfl
    have hcz45_1 : w32.cell? ⟨gb350, 1, none⟩ = some (.slice Ao26 t346.length co26) := (blk_cell BK350.out 1).trans rfl
    have hfz45_0 := blk_frozen BK350.out 0
    have hfz45_1 := blk_frozen BK350.out 1
    go_wp2_with (first | ((with_reducible refine gate_callee (f := 13) rfl ?_); refine goesL_ (some 51) rfl rfl Try.func13 (by kernel_rfl) rfl #[.agg #[.slice Ao33 t357.length co33, .slice Ao36 t360.length co36], .agg #[.slice Ao24 t343.length co24, .slice Ao26 t346.length co26]] rfl sG ?_; (with_reducible refine (laws_eqLine.calls k _ _ t357 _ _ t360 _ _ t343 _ _ t346 false _ ?side1 ?side2 ?side3 ?side4 ?side5 ?side6 ?side7 ?side8 A37.out).mono ?_); (case side1 => refine (Kd.R_reads' (e := 45) (base := w.heap.size) (ok := fun k_ => (((True ∧ some k_ ≠ (.slice Ao21 t340.length co21 : Value).ownBlock) ∧ some k_ ≠ (.slice Ao24 t343.length co24 : Value).ownBlock) ∧ some k_ ≠ (.slice Ao30 t354.length co30 : Value).ownBlock)) (n := t357.length) (c := co33) ?_).2.2; exact (sR (Kd.R_mono (Kd.R_far (p := ⟨gb364, 1, none⟩) (Kd.R_far (p := ⟨gb364, 0, none⟩) (Kd.R_types HO359.out BK364.out (by decide)) (fun _ hk => hk.2) (.slice Ao33 t357.length co33)) (fun _ hk => hk.2) (.slice Ao36 t360.length co36)) (fun _ h_ => h_.1)))); (case side2 => exact (Kd.R_reads' HO359.out).2.1); (case side3 => refine (Kd.R_reads' (e := 2) (base := w.heap.size) (ok := fun k_ => (True ∧ some k_ ≠ (.slice Ao26 t346.length co26 : Value).ownBlock)) (n := t360.length) (c := co36) ?_).2.2; exact (sR (Kd.R_mono (Kd.R_far (p := ⟨gb364, 1, none⟩) (Kd.R_far (p := ⟨gb364, 0, none⟩) (Kd.R_types HO362.out BK364.out (by decide)) (fun _ hk => hk.2) (.slice Ao33 t357.length co33)) (fun _ hk => hk.2) (.slice Ao36 t360.length co36)) (fun _ h_ => h_.1)))); (case side4 => exact (Kd.R_reads' HO362.out).2.1); (case side5 => refine (Kd.R_reads' (e := 45) (base := w.heap.size) (ok := fun k_ => (((True ∧ some k_ ≠ (.slice Ao21 t340.length co21 : Value).ownBlock) ∧ some k_ ≠ (.slice Ao30 t354.length co30 : Value).ownBlock) ∧ some k_ ≠ (.slice Ao33 t357.length co33 : Value).ownBlock)) (n := t343.length) (c := co24) ?_).2.2; exact (sR (Kd.R_mono (Kd.R_far (p := ⟨gb364, 1, none⟩) (Kd.R_far (p := ⟨gb364, 0, none⟩) (Kd.R_types HO345.out BK364.out (by decide)) (fun _ hk => hk.2) (.slice Ao33 t357.length co33)) (fun _ hk => hk.2) (.slice Ao36 t360.length co36)) (fun _ h_ => h_.1)))); (case side6 => exact (Kd.R_reads' HO345.out).2.1); (case side7 => refine (Kd.R_reads' (e := 2) (base := w.heap.size) (ok := fun k_ => (True ∧ some k_ ≠ (.slice Ao36 t360.length co36 : Value).ownBlock)) (n := t346.length) (c := co26) ?_).2.2; exact (sR (Kd.R_mono (Kd.R_far (p := ⟨gb364, 1, none⟩) (Kd.R_far (p := ⟨gb364, 0, none⟩) (Kd.R_types HO348.out BK364.out (by decide)) (fun _ hk => hk.2) (.slice Ao33 t357.length co33)) (fun _ hk => hk.2) (.slice Ao36 t360.length co36)) (fun _ h_ => h_.1)))); (case side8 => exact (Kd.R_reads' HO348.out).2.1); rintro e w46 ⟨rfl, hb⟩; refine ⟨_, rfl, ?_⟩; have n0_ := aS (Kd.R_below (sR (Kd.R_mono (Kd.R_far (p := ⟨gb364, 1, none⟩) (Kd.R_far (p := ⟨gb364, 0, none⟩) (Kd.R_types HO339.out BK364.out (by decide)) (fun _ hk => hk.2) (.slice Ao33 t357.length co33)) (fun _ hk => hk.2) (.slice Ao36 t360.length co36)) (fun _ h_ => h_.1))) hb); have n1_ := aS (Kd.R_below (sR (Kd.R_mono (Kd.R_far (p := ⟨gb364, 1, none⟩) (Kd.R_far (p := ⟨gb364, 0, none⟩) (Kd.R_types HO342.out BK364.out (by decide)) (fun _ hk => hk.2) (.slice Ao33 t357.length co33)) (fun _ hk => hk.2) (.slice Ao36 t360.length co36)) (fun _ h_ => h_.1))) hb); have n2_ := aS (Kd.R_below (sR (Kd.R_mono (Kd.R_far (p := ⟨gb364, 1, none⟩) (Kd.R_far (p := ⟨gb364, 0, none⟩) (Kd.R_types HO345.out BK364.out (by decide)) (fun _ hk => hk.2) (.slice Ao33 t357.length co33)) (fun _ hk => hk.2) (.slice Ao36 t360.length co36)) (fun _ h_ => h_.1))) hb); have n3_ := aS (Kd.R_below (sR (Kd.R_mono (Kd.R_far (p := ⟨gb364, 1, none⟩) (Kd.R_far (p := ⟨gb364, 0, none⟩) (Kd.R_types HO348.out BK364.out (by decide)) (fun _ hk => hk.2) (.slice Ao33 t357.length co33)) (fun _ hk => hk.2) (.slice Ao36 t360.length co36)) (fun _ h_ => h_.1))) hb); have n4_ := aS (Kd.R_below (sR (Kd.R_mono (Kd.R_far (p := ⟨gb364, 1, none⟩) (Kd.R_far (p := ⟨gb364, 0, none⟩) (Kd.R_types HO353.out BK364.out (by decide)) (fun _ hk => hk.2) (.slice Ao33 t357.length co33)) (fun _ hk => hk.2) (.slice Ao36 t360.length co36)) (fun _ h_ => h_.1))) hb); have n5_ := aS (Kd.R_below (sR (Kd.R_mono (Kd.R_far (p := ⟨gb364, 1, none⟩) (Kd.R_far (p := ⟨gb364, 0, none⟩) (Kd.R_types HO356.out BK364.out (by decide)) (fun _ hk => hk.2) (.slice Ao33 t357.length co33)) (fun _ hk => hk.2) (.slice Ao36 t360.length co36)) (fun _ h_ => h_.1))) hb); have n6_ := aS (Kd.R_below (sR (Kd.R_mono (Kd.R_far (p := ⟨gb364, 1, none⟩) (Kd.R_far (p := ⟨gb364, 0, none⟩) (Kd.R_types HO359.out BK364.out (by decide)) (fun _ hk => hk.2) (.slice Ao33 t357.length co33)) (fun _ hk => hk.2) (.slice Ao36 t360.length co36)) (fun _ h_ => h_.1))) hb); have n7_ := aS (Kd.R_below (sR (Kd.R_mono (Kd.R_far (p := ⟨gb364, 1, none⟩) (Kd.R_far (p := ⟨gb364, 0, none⟩) (Kd.R_types HO362.out BK364.out (by decide)) (fun _ hk => hk.2) (.slice Ao33 t357.length co33)) (fun _ hk => hk.2) (.slice Ao36 t360.length co36)) (fun _ h_ => h_.1))) hb); have n8_ := aS (blk_below (g := gb350) (o := .cells #[.slice Ao24 t343.length co24, .slice Ao26 t346.length co26] 29 (0, 0)) (by (with_reducible repeat (first | refine blk_drewN ?_ _ | refine blk_drew ?_ | refine blk_alloc ?_ _)); refine blk_far ?_ NB350_364.out _; (with_reducible repeat (first | refine blk_drewN ?_ _ | refine blk_drew ?_ | refine blk_alloc ?_ _)); refine blk_far ?_ NB350_364.out _; (with_reducible repeat (first | refine blk_drewN ?_ _ | refine blk_drew ?_ | refine blk_alloc ?_ _)); exact BK350.out) hb); have n9_ := aS (blk_below (g := gb364) (o := .cells #[.slice Ao33 t357.length co33, .slice Ao36 t360.length co36] 29 (0, 0)) (by (with_reducible repeat (first | refine blk_drewN ?_ _ | refine blk_drew ?_ | refine blk_alloc ?_ _)); refine blk_put (cs := #[.slice Ao33 t357.length co33, .slice none 0 0]) ?_ 1 _ rfl; (with_reducible repeat (first | refine blk_drewN ?_ _ | refine blk_drew ?_ | refine blk_alloc ?_ _)); refine blk_put (cs := #[.slice none 0 0, .slice none 0 0]) ?_ 0 _ rfl; (with_reducible repeat (first | refine blk_drewN ?_ _ | refine blk_drew ?_ | refine blk_alloc ?_ _)); exact BK364.out) hb); have n10_ := aS (below_step (sW HB.out) hb); clear HO339 HO342 HO345 HO348 HO353 HO356 HO359 HO362 BK350 BK364 HB; have HO339 := n0_; have HO342 := n1_; have HO345 := n2_; have HO348 := n3_; have HO353 := n4_; have HO356 := n5_; have HO359 := n6_; have HO362 := n7_; have BK350 := n8_; have BK364 := n9_; have HB := n10_; clear n0_ n1_ n2_ n3_ n4_ n5_ n6_ n7_ n8_ n9_ n10_; (try clear hb); (try clear hb2); (try clear hk); (try clear hi)))
    go_meet
    case rel => exact ⟨_, (true), (by first | rfl | (simp; done) | (simp [*]; done) | (simp only [i64_w]; done) | (simp [i64_w]; done)), H', ⟨by first | omega | exact Nat.le_refl _⟩, ⟨by (with_reducible repeat (first | apply Kd.R_alloc | apply Kd.R_drewN | apply Kd.R_drew)); exact Kd.R_mono HO353.out (fun _ hk => trivial)⟩, ⟨by (with_reducible repeat (first | apply Kd.R_alloc | apply Kd.R_drewN | apply Kd.R_drew)); exact Kd.R_mono HO356.out (fun _ hk => ⟨hk.1.2, hk.2⟩)⟩, ⟨by (with_reducible repeat (first | apply Kd.R_alloc | apply Kd.R_drewN | apply Kd.R_drew)); exact Kd.R_mono HO345.out (fun _ hk => ⟨hk.1.2, hk.2⟩)⟩, ⟨by (with_reducible repeat (first | apply Kd.R_alloc | apply Kd.R_drewN | apply Kd.R_drew)); exact Kd.R_mono HO348.out (fun _ hk => hk.2)⟩, ⟨by (with_reducible repeat (first | apply Kd.R_alloc | apply Kd.R_drewN | apply Kd.R_drew)); exact Kd.R_mono HO359.out (fun _ hk => ⟨hk.2, hk.1.2⟩)⟩, ⟨by (with_reducible repeat (first | apply Kd.R_alloc | apply Kd.R_drewN | apply Kd.R_drew)); exact Kd.R_mono HO362.out (fun _ hk => hk.2)⟩, ⟨by (with_reducible repeat (first | refine blk_drewN ?_ _ | refine blk_drew ?_ | refine blk_alloc ?_ _)); exact BK350.out⟩, ⟨by (with_reducible repeat (first | refine blk_drewN ?_ _ | refine blk_drew ?_ | refine blk_alloc ?_ _)); exact BK364.out⟩, ⟨by repeat (first | (with_reducible first | exact HB.out | apply below_alloc | apply pw_below_drewN | apply below_drew1 | refine below_set ?_ GE350.out | refine below_set ?_ GE364.out) | exact HB.out)⟩⟩
   case rest =>
    clear HC17
    (try clear c1); (try clear p2); (try clear c3); (try clear c4); (try clear c7); (try clear c7b0); (try clear c7b2); (try clear c8); (try clear c9); (try clear c10); (try clear c10b0); (try clear c10b2); (try clear c11); (try clear c12); (try clear c13); (try clear c34); (try clear c38); (try clear c39); (try clear c43); (try clear hcz25_0); (try clear hcz25_1); (try clear hcz35_0); (try clear hcz35_1); (try clear hcz40_0); (try clear hcz40_1); (try clear hcz41_0); (try clear hcz41_1); (try clear hcz44_0); (try clear hcz44_1); (try clear hcz45_0); (try clear hcz45_1); (try clear hfz25_0); (try clear hfz25_1); (try clear hfz35_0); (try clear hfz35_1); (try clear hfz40_0); (try clear hfz40_1); (try clear hfz41_0); (try clear hfz41_1); (try clear hfz44_0); (try clear hfz44_1); (try clear hfz45_0); (try clear hfz45_1)
    obtain ⟨kq, x57_16, rfl, HA, HJ16, HO_10, HO_11, HO_351000, HO_351001, HO_365000, HO_365001, BK350, BK364, HB⟩ := hcut
    cases kq with
    | zero => exact absurd HA.out (by simp [laws_FnExactLongestLine.j0])
    | succ kj16 =>
     have H := HA.out
     clear HA
     simp only [laws_FnExactLongestLine.j0] at H
     by_cases c47 : x57_16 = true
     ·
      subst c47
      have H1 : (some false) = some r := by rw [if_pos rfl] at H; exact H
      clear H
      have H := H1
      clear H1
      obtain rfl := Option.some.inj H
      go_wp2
      go_ret
      exact ⟨by first | rfl | (simp [errW_none, errW_some, i64_w]; done) | (simp [errW_none, errW_some] <;> rfl) | (simp [*, errW_none, errW_some] <;> rfl), by repeat (first | (with_reducible first | exact HB.out | apply below_alloc | apply pw_below_drewN | apply below_drew1) | exact HB.out)⟩
     ·
      replace c47 := Bool.eq_false_iff.mpr c47
      subst c47
      have H1 : ((laws_toJoinS.f kj16 l0).bind fun t366 => ((laws_eqJoinS.f kj16 t351 t366).bind fun t369 => (if t369 = true then ((laws_toLinePieceS.f kj16 l1).bind fun t370 => ((laws_eqLinePieceS.f kj16 t354 t370).bind fun t373 => (if t373 = true then ((laws_markJoinS.f kj16 t351 1).bind fun bt374 => ((laws_markLinePieceS.f kj16 t354 bt374.1).bind fun bt376 => (if bt376.1 < 0 then (laws_FnExactLongestLine.j1 kj16 l0 l1 a2 t349 true t343 t346 t357 t360) else ((laws_eqLine.f kj16 t357 t360 t343 t346).bind fun t378 => (if t378 = true then (laws_FnExactLongestLine.j1 kj16 l0 l1 a2 t349 (t363 != t349) t343 t346 t357 t360) else (laws_FnExactLongestLine.j1 kj16 l0 l1 a2 t349 true t343 t346 t357 t360)))))) else (some false)))) else (some false)))) = some r := by rw [if_neg (show ¬ (false = true) by decide)] at H; exact H
      clear H
      have H := H1
      clear H1
      replace H := Option.bind_eq_some_iff.mp H
      obtain ⟨t366, A480, H⟩ := H
      replace H : ((laws_eqJoinS.f kj16 t351 t366).bind fun t369 => (if t369 = true then ((laws_toLinePieceS.f kj16 l1).bind fun t370 => ((laws_eqLinePieceS.f kj16 t354 t370).bind fun t373 => (if t373 = true then ((laws_markJoinS.f kj16 t351 1).bind fun bt374 => ((laws_markLinePieceS.f kj16 t354 bt374.1).bind fun bt376 => (if bt376.1 < 0 then (laws_FnExactLongestLine.j1 kj16 l0 l1 a2 t349 true t343 t346 t357 t360) else ((laws_eqLine.f kj16 t357 t360 t343 t346).bind fun t378 => (if t378 = true then (laws_FnExactLongestLine.j1 kj16 l0 l1 a2 t349 (t363 != t349) t343 t346 t357 t360) else (laws_FnExactLongestLine.j1 kj16 l0 l1 a2 t349 true t343 t346 t357 t360)))))) else (some false)))) else (some false))) = some r := H
      have A48 := aS A480
      clear A480
      replace H := Option.bind_eq_some_iff.mp H
      obtain ⟨t369, A490, H⟩ := H
      replace H : (if t369 = true then ((laws_toLinePieceS.f kj16 l1).bind fun t370 => ((laws_eqLinePieceS.f kj16 t354 t370).bind fun t373 => (if t373 = true then ((laws_markJoinS.f kj16 t351 1).bind fun bt374 => ((laws_markLinePieceS.f kj16 t354 bt374.1).bind fun bt376 => (if bt376.1 < 0 then (laws_FnExactLongestLine.j1 kj16 l0 l1 a2 t349 true t343 t346 t357 t360) else ((laws_eqLine.f kj16 t357 t360 t343 t346).bind fun t378 => (if t378 = true then (laws_FnExactLongestLine.j1 kj16 l0 l1 a2 t349 (t363 != t349) t343 t346 t357 t360) else (laws_FnExactLongestLine.j1 kj16 l0 l1 a2 t349 true t343 t346 t357 t360)))))) else (some false)))) else (some false)) = some r := H
      have A49 := aS A490
      clear A490
      have HC50 := aS H
      clear H
      go_upto_if 62 with (first | ((with_reducible refine gate_callee (f := 10) rfl ?_); refine goesL_ (some 60) rfl rfl Try.func10 (by kernel_rfl) rfl #[.slice A0 l0.length c0] rfl sG ?_; (with_reducible refine (laws_toJoinS.calls kj16 _ _ l0 t366 _ ?side1 ?side2 A48.out).mono ?_); (case side1 => exact sC (Kd.C_below HR0.out HB.out)); (case side2 => exact HC0.out); rintro e w51 ⟨v367, rfl, ho0, hb⟩; refine ⟨_, rfl, ?_⟩; have n0_ := aS (Kd.R_elder' (sR HO_10.out) (Kd.R_base ho0) hb); have n1_ := aS (Kd.R_below (sR HO_11.out) hb); have n2_ := aS (Kd.R_below (sR HO_351000.out) hb); have n3_ := aS (Kd.R_below (sR HO_351001.out) hb); have n4_ := aS (Kd.R_below (sR HO_365000.out) hb); have n5_ := aS (Kd.R_below (sR HO_365001.out) hb); have n6_ := aS (Kd.R_lower (Kd.R_new' ho0 (Kd.R_lt (sR HO_10.out))) (below_size (sW HB.out))); have n7_ := aS (blk_below (g := gb350) (o := .cells #[.slice Ao24 t343.length co24, .slice Ao26 t346.length co26] 29 (0, 0)) (sB BK350.out) hb); have n8_ := aS (blk_below (g := gb364) (o := .cells #[.slice Ao33 t357.length co33, .slice Ao36 t360.length co36] 29 (0, 0)) (sB BK364.out) hb); have n9_ := aS (below_step (sW HB.out) hb); clear HO_10 HO_11 HO_351000 HO_351001 HO_365000 HO_365001 BK350 BK364 HB; have HO_10 := n0_; have HO_11 := n1_; have HO_351000 := n2_; have HO_351001 := n3_; have HO_365000 := n4_; have HO_365001 := n5_; have HO368 := n6_; have BK350 := n7_; have BK364 := n8_; have HB := n9_; clear n0_ n1_ n2_ n3_ n4_ n5_ n6_ n7_ n8_ n9_; (try clear hb); (try clear hb2); (try clear hk); (try clear hi); (try clear ho0); obtain ⟨Ao52, co52, eo52⟩ := Kd.R_slice HO368.out; subst eo52) | ((with_reducible refine gate_callee (f := 14) rfl ?_); refine goesL_ (some 61) rfl rfl Try.func14 (by kernel_rfl) rfl #[.slice Ao29 t351.length co29, .slice Ao52 t366.length co52] rfl sG ?_; (with_reducible refine (laws_eqJoinS.calls kj16 _ _ t351 _ _ t366 t369 _ ?side1 ?side2 ?side3 ?side4 A49.out).mono ?_); (case side1 => exact sC (Kd.R_reads' HO_10.out).2.2); (case side2 => exact (Kd.R_reads' HO_10.out).2.1); (case side3 => exact sC (Kd.R_reads' HO368.out).2.2); (case side4 => exact (Kd.R_reads' HO368.out).2.1); rintro e w53 ⟨rfl, hb⟩; refine ⟨_, rfl, ?_⟩; have n0_ := aS (Kd.R_below (sR HO_10.out) hb); have n1_ := aS (Kd.R_below (sR HO_11.out) hb); have n2_ := aS (Kd.R_below (sR HO_351000.out) hb); have n3_ := aS (Kd.R_below (sR HO_351001.out) hb); have n4_ := aS (Kd.R_below (sR HO_365000.out) hb); have n5_ := aS (Kd.R_below (sR HO_365001.out) hb); have n6_ := aS (Kd.R_below (sR HO368.out) hb); have n7_ := aS (blk_below (g := gb350) (o := .cells #[.slice Ao24 t343.length co24, .slice Ao26 t346.length co26] 29 (0, 0)) (sB BK350.out) hb); have n8_ := aS (blk_below (g := gb364) (o := .cells #[.slice Ao33 t357.length co33, .slice Ao36 t360.length co36] 29 (0, 0)) (sB BK364.out) hb); have n9_ := aS (below_step (sW HB.out) hb); clear HO_10 HO_11 HO_351000 HO_351001 HO_365000 HO_365001 HO368 BK350 BK364 HB; have HO_10 := n0_; have HO_11 := n1_; have HO_351000 := n2_; have HO_351001 := n3_; have HO_365000 := n4_; have HO_365001 := n5_; have HO368 := n6_; have BK350 := n7_; have BK364 := n8_; have HB := n9_; clear n0_ n1_ n2_ n3_ n4_ n5_ n6_ n7_ n8_ n9_; (try clear hb); (try clear hb2); (try clear hk); (try clear hi)))
      (try simp only [Act.put, List.setIfInBounds_toArray, List.set_cons_zero, List.set_cons_succ])
      have H := HC50.out
      clear HC50
      by_cases c54 : t369 = true
      ·
       subst c54
       have H1 : ((laws_toLinePieceS.f kj16 l1).bind fun t370 => ((laws_eqLinePieceS.f kj16 t354 t370).bind fun t373 => (if t373 = true then ((laws_markJoinS.f kj16 t351 1).bind fun bt374 => ((laws_markLinePieceS.f kj16 t354 bt374.1).bind fun bt376 => (if bt376.1 < 0 then (laws_FnExactLongestLine.j1 kj16 l0 l1 a2 t349 true t343 t346 t357 t360) else ((laws_eqLine.f kj16 t357 t360 t343 t346).bind fun t378 => (if t378 = true then (laws_FnExactLongestLine.j1 kj16 l0 l1 a2 t349 (t363 != t349) t343 t346 t357 t360) else (laws_FnExactLongestLine.j1 kj16 l0 l1 a2 t349 true t343 t346 t357 t360)))))) else (some false)))) = some r := by rw [if_pos rfl] at H; exact H
       clear H
       have H := H1
       clear H1
       replace H := Option.bind_eq_some_iff.mp H
       obtain ⟨t370, A550, H⟩ := H
       replace H : ((laws_eqLinePieceS.f kj16 t354 t370).bind fun t373 => (if t373 = true then ((laws_markJoinS.f kj16 t351 1).bind fun bt374 => ((laws_markLinePieceS.f kj16 t354 bt374.1).bind fun bt376 => (if bt376.1 < 0 then (laws_FnExactLongestLine.j1 kj16 l0 l1 a2 t349 true t343 t346 t357 t360) else ((laws_eqLine.f kj16 t357 t360 t343 t346).bind fun t378 => (if t378 = true then (laws_FnExactLongestLine.j1 kj16 l0 l1 a2 t349 (t363 != t349) t343 t346 t357 t360) else (laws_FnExactLongestLine.j1 kj16 l0 l1 a2 t349 true t343 t346 t357 t360)))))) else (some false))) = some r := H
       have A55 := aS A550
       clear A550
       replace H := Option.bind_eq_some_iff.mp H
       obtain ⟨t373, A560, H⟩ := H
       replace H : (if t373 = true then ((laws_markJoinS.f kj16 t351 1).bind fun bt374 => ((laws_markLinePieceS.f kj16 t354 bt374.1).bind fun bt376 => (if bt376.1 < 0 then (laws_FnExactLongestLine.j1 kj16 l0 l1 a2 t349 true t343 t346 t357 t360) else ((laws_eqLine.f kj16 t357 t360 t343 t346).bind fun t378 => (if t378 = true then (laws_FnExactLongestLine.j1 kj16 l0 l1 a2 t349 (t363 != t349) t343 t346 t357 t360) else (laws_FnExactLongestLine.j1 kj16 l0 l1 a2 t349 true t343 t346 t357 t360)))))) else (some false)) = some r := H
       have A56 := aS A560
       clear A560
       have HC57 := aS H
       clear H
       go_upto_if 67 with (first | ((with_reducible refine gate_callee (f := 11) rfl ?_); refine goesL_ (some 65) rfl rfl Try.func11 (by kernel_rfl) rfl #[.slice A1 l1.length c1] rfl sG ?_; (with_reducible refine (laws_toLinePieceS.calls kj16 _ _ l1 t370 _ ?side1 ?side2 A55.out).mono ?_); (case side1 => exact sC (Kd.C_below HR1.out HB.out)); (case side2 => exact HC1.out); rintro e w58 ⟨v371, rfl, ho0, hb⟩; refine ⟨_, rfl, ?_⟩; have n0_ := aS (Kd.R_below (sR HO_10.out) hb); have n1_ := aS (Kd.R_elder' (sR HO_11.out) (Kd.R_base ho0) hb); have n2_ := aS (Kd.R_elder' (sR HO_351000.out) (Kd.R_base ho0) hb); have n3_ := aS (Kd.R_below (sR HO_351001.out) hb); have n4_ := aS (Kd.R_elder' (sR HO_365000.out) (Kd.R_base ho0) hb); have n5_ := aS (Kd.R_below (sR HO_365001.out) hb); have n6_ := aS (Kd.R_below (sR HO368.out) hb); have n7_ := aS (Kd.R_lower (Kd.R_new' (Kd.R_new' (Kd.R_new' ho0 (Kd.R_lt (sR HO_11.out))) (Kd.R_lt (sR HO_351000.out))) (Kd.R_lt (sR HO_365000.out))) (below_size (sW HB.out))); have n8_ := aS (blk_below (g := gb350) (o := .cells #[.slice Ao24 t343.length co24, .slice Ao26 t346.length co26] 29 (0, 0)) (sB BK350.out) hb); have n9_ := aS (blk_below (g := gb364) (o := .cells #[.slice Ao33 t357.length co33, .slice Ao36 t360.length co36] 29 (0, 0)) (sB BK364.out) hb); have n10_ := aS (below_step (sW HB.out) hb); clear HO_10 HO_11 HO_351000 HO_351001 HO_365000 HO_365001 HO368 BK350 BK364 HB; have HO_10 := n0_; have HO_11 := n1_; have HO_351000 := n2_; have HO_351001 := n3_; have HO_365000 := n4_; have HO_365001 := n5_; have HO368 := n6_; have HO372 := n7_; have BK350 := n8_; have BK364 := n9_; have HB := n10_; clear n0_ n1_ n2_ n3_ n4_ n5_ n6_ n7_ n8_ n9_ n10_; (try clear hb); (try clear hb2); (try clear hk); (try clear hi); (try clear ho0); obtain ⟨Ao59, co59, eo59⟩ := Kd.R_slice HO372.out; subst eo59) | ((with_reducible refine gate_callee (f := 15) rfl ?_); refine goesL_ (some 66) rfl rfl Try.func15 (by kernel_rfl) rfl #[.slice Ao30 t354.length co30, .slice Ao59 t370.length co59] rfl sG ?_; (with_reducible refine (laws_eqLinePieceS.calls kj16 _ _ t354 _ _ t370 t373 _ ?side1 ?side2 ?side3 ?side4 A56.out).mono ?_); (case side1 => exact sC (Kd.R_reads' HO_11.out).2.2); (case side2 => exact (Kd.R_reads' HO_11.out).2.1); (case side3 => exact sC (Kd.R_reads' HO372.out).2.2); (case side4 => exact (Kd.R_reads' HO372.out).2.1); rintro e w60 ⟨rfl, hb⟩; refine ⟨_, rfl, ?_⟩; have n0_ := aS (Kd.R_below (sR HO_10.out) hb); have n1_ := aS (Kd.R_below (sR HO_11.out) hb); have n2_ := aS (Kd.R_below (sR HO_351000.out) hb); have n3_ := aS (Kd.R_below (sR HO_351001.out) hb); have n4_ := aS (Kd.R_below (sR HO_365000.out) hb); have n5_ := aS (Kd.R_below (sR HO_365001.out) hb); have n6_ := aS (Kd.R_below (sR HO368.out) hb); have n7_ := aS (Kd.R_below (sR HO372.out) hb); have n8_ := aS (blk_below (g := gb350) (o := .cells #[.slice Ao24 t343.length co24, .slice Ao26 t346.length co26] 29 (0, 0)) (sB BK350.out) hb); have n9_ := aS (blk_below (g := gb364) (o := .cells #[.slice Ao33 t357.length co33, .slice Ao36 t360.length co36] 29 (0, 0)) (sB BK364.out) hb); have n10_ := aS (below_step (sW HB.out) hb); clear HO_10 HO_11 HO_351000 HO_351001 HO_365000 HO_365001 HO368 HO372 BK350 BK364 HB; have HO_10 := n0_; have HO_11 := n1_; have HO_351000 := n2_; have HO_351001 := n3_; have HO_365000 := n4_; have HO_365001 := n5_; have HO368 := n6_; have HO372 := n7_; have BK350 := n8_; have BK364 := n9_; have HB := n10_; clear n0_ n1_ n2_ n3_ n4_ n5_ n6_ n7_ n8_ n9_ n10_; (try clear hb); (try clear hb2); (try clear hk); (try clear hi)))
       (try simp only [Act.put, List.setIfInBounds_toArray, List.set_cons_zero, List.set_cons_succ])
       have H := HC57.out
       clear HC57
       by_cases c61 : t373 = true
       rotate_left
       ·
        replace c61 := Bool.eq_false_iff.mpr c61
        subst c61
        have H1 : (some false) = some r := by rw [if_neg (show ¬ (false = true) by decide)] at H; exact H
        clear H
        have H := H1
        clear H1
        obtain rfl := Option.some.inj H
        go_wp2
        go_ret
        exact ⟨by first | rfl | (simp [errW_none, errW_some, i64_w]; done) | (simp [errW_none, errW_some] <;> rfl) | (simp [*, errW_none, errW_some] <;> rfl), by repeat (first | (with_reducible first | exact HB.out | apply below_alloc | apply pw_below_drewN | apply below_drew1) | exact HB.out)⟩
       subst c61
       have H1 : ((laws_markJoinS.f kj16 t351 1).bind fun bt374 => ((laws_markLinePieceS.f kj16 t354 bt374.1).bind fun bt376 => (if bt376.1 < 0 then (laws_FnExactLongestLine.j1 kj16 l0 l1 a2 t349 true t343 t346 t357 t360) else ((laws_eqLine.f kj16 t357 t360 t343 t346).bind fun t378 => (if t378 = true then (laws_FnExactLongestLine.j1 kj16 l0 l1 a2 t349 (t363 != t349) t343 t346 t357 t360) else (laws_FnExactLongestLine.j1 kj16 l0 l1 a2 t349 true t343 t346 t357 t360)))))) = some r := by rw [if_pos rfl] at H; exact H
       clear H
       have H := H1
       clear H1
       replace H := Option.bind_eq_some_iff.mp H
       obtain ⟨⟨t374, t375⟩, A620, H⟩ := H
       replace H : ((laws_markLinePieceS.f kj16 t354 t374).bind fun bt376 => (if bt376.1 < 0 then (laws_FnExactLongestLine.j1 kj16 l0 l1 a2 t349 true t343 t346 t357 t360) else ((laws_eqLine.f kj16 t357 t360 t343 t346).bind fun t378 => (if t378 = true then (laws_FnExactLongestLine.j1 kj16 l0 l1 a2 t349 (t363 != t349) t343 t346 t357 t360) else (laws_FnExactLongestLine.j1 kj16 l0 l1 a2 t349 true t343 t346 t357 t360))))) = some r := H
       have A62 := aS A620
       clear A620
       replace H := Option.bind_eq_some_iff.mp H
       obtain ⟨⟨t376, t377⟩, A630, H⟩ := H
       replace H : (if t376 < 0 then (laws_FnExactLongestLine.j1 kj16 l0 l1 a2 t349 true t343 t346 t357 t360) else ((laws_eqLine.f kj16 t357 t360 t343 t346).bind fun t378 => (if t378 = true then (laws_FnExactLongestLine.j1 kj16 l0 l1 a2 t349 (t363 != t349) t343 t346 t357 t360) else (laws_FnExactLongestLine.j1 kj16 l0 l1 a2 t349 true t343 t346 t357 t360)))) = some r := H
       have A63 := aS A630
       clear A630
       have HC64 := aS H
       clear H
       go_upto_region 21 with (first | ((with_reducible refine gate_callee (f := 16) rfl ?_); refine goesL_ (some 70) rfl rfl Try.func16 (by kernel_rfl) rfl #[.slice Ao29 t351.length co29, .int .i64 1] rfl sG ?_; (with_reducible refine (laws_markJoinS.calls kj16 (fun k_ => some k_ = (.slice Ao29 t351.length co29 : Value).ownBlock) (.slice Ao29 t351.length co29) t351 1 t374 t375 w _ ?side1 ?side2 A62.out).mono ?_); (case side1 => repeat (first | (with_reducible first | exact HB.out | apply below_alloc | apply pw_below_drewN | apply below_drew1 | refine below_set ?_ GE350.out | refine below_set ?_ GE364.out) | exact HB.out)); (case side2 => exact Kd.R_tight rfl HO_10.out); rintro e w65 ⟨rfl, hy0, hb, hkp⟩; refine ⟨_, rfl, ?_⟩; have n0_ := aS (Kd.R_reok rfl hy0 (fun k_ e_ => HO_10.out.1 k_ e_)); have n1_ := aS (Kd.R_mono (ok' := fun k_ => some k_ ≠ (.slice Ao24 t343.length co24 : Value).ownBlock ∧ some k_ ≠ (.slice Ao33 t357.length co33 : Value).ownBlock ∧ some k_ ≠ (.slice Ao59 t370.length co59 : Value).ownBlock) (Kd.R_keptB ((Kd.R_apart' HO_11.out (Kd.R_typed HO_10.out) (by decide))) hkp (fun k_ hk_ hs_ => (hk_.2) hs_)) (fun k_ hk_ => ⟨hk_.1.1.1.1, hk_.1.1.1.2, hk_.1.1.2⟩)); have n2_ := aS (Kd.R_mono (ok' := fun k_ => some k_ ≠ (.slice Ao30 t354.length co30 : Value).ownBlock ∧ some k_ ≠ (.slice Ao33 t357.length co33 : Value).ownBlock ∧ some k_ ≠ (.slice Ao59 t370.length co59 : Value).ownBlock) (Kd.R_keptB ((Kd.R_apart' HO_351000.out (Kd.R_typed HO_10.out) (by decide))) hkp (fun k_ hk_ hs_ => (hk_.2) hs_)) (fun k_ hk_ => ⟨hk_.1.1.1.1, hk_.1.1.1.2, hk_.1.1.2⟩)); have n3_ := aS (Kd.R_mono (ok' := fun k_ => some k_ ≠ (.slice Ao36 t360.length co36 : Value).ownBlock) (Kd.R_keptB ((Kd.R_apart' HO_351001.out (Kd.R_typed HO_10.out) (by decide))) hkp (fun k_ hk_ hs_ => (hk_.2) hs_)) (fun k_ hk_ => hk_.1.1)); have n4_ := aS (Kd.R_mono (ok' := fun k_ => some k_ ≠ (.slice Ao30 t354.length co30 : Value).ownBlock ∧ some k_ ≠ (.slice Ao24 t343.length co24 : Value).ownBlock ∧ some k_ ≠ (.slice Ao59 t370.length co59 : Value).ownBlock) (Kd.R_keptB ((Kd.R_apart' HO_365000.out (Kd.R_typed HO_10.out) (by decide))) hkp (fun k_ hk_ hs_ => (hk_.2) hs_)) (fun k_ hk_ => ⟨hk_.1.1.1.1, hk_.1.1.1.2, hk_.1.1.2⟩)); have n5_ := aS (Kd.R_mono (ok' := fun k_ => some k_ ≠ (.slice Ao26 t346.length co26 : Value).ownBlock) (Kd.R_keptB ((Kd.R_apart' HO_365001.out (Kd.R_typed HO_10.out) (by decide))) hkp (fun k_ hk_ hs_ => (hk_.2) hs_)) (fun k_ hk_ => hk_.1.1)); have n6_ := aS (blk_kept (sB BK350.out) hkp (fun hs_ => (fun e_ => (Kd.R_ne HO_10.out BK350.out (by decide)) e_) hs_)); have n7_ := aS (blk_kept (sB BK364.out) hkp (fun hs_ => (fun e_ => (Kd.R_ne HO_10.out BK364.out (by decide)) e_) hs_)); have n8_ := aS (Kd.R_mono (ok' := fun k_ => some k_ ≠ (.slice Ao29 t351.length co29 : Value).ownBlock) (Kd.R_keptB (HO368.out) hkp (fun k_ hk_ hs_ => (hk_.2) hs_)) (fun k_ hk_ => hk_.1.2)); have n9_ := aS (Kd.R_mono (ok' := fun k_ => some k_ ≠ (.slice Ao30 t354.length co30 : Value).ownBlock ∧ some k_ ≠ (.slice Ao24 t343.length co24 : Value).ownBlock ∧ some k_ ≠ (.slice Ao33 t357.length co33 : Value).ownBlock) (Kd.R_keptB ((Kd.R_apart' HO372.out (Kd.R_typed HO_10.out) (by decide))) hkp (fun k_ hk_ hs_ => (hk_.2) hs_)) (fun k_ hk_ => ⟨hk_.1.1.1.1.2, hk_.1.1.1.2, hk_.1.1.2⟩)); have n10_ := aS (hb); clear HO_10 HO_11 HO_351000 HO_351001 HO_365000 HO_365001 BK350 BK364 HO368 HO372 HB; have HO_10 := n0_; have HO_11 := n1_; have HO_351000 := n2_; have HO_351001 := n3_; have HO_365000 := n4_; have HO_365001 := n5_; have BK350 := n6_; have BK364 := n7_; have HO368 := n8_; have HO372 := n9_; have HB := n10_; clear n0_ n1_ n2_ n3_ n4_ n5_ n6_ n7_ n8_ n9_ n10_; (try clear hb); (try clear hkp); (try clear hy0)) | ((with_reducible refine gate_callee (f := 17) rfl ?_); refine goesL_ (some 73) rfl rfl Try.func17 (by kernel_rfl) rfl #[.slice Ao30 t354.length co30, .int .i64 t374] rfl sG ?_; (with_reducible refine (laws_markLinePieceS.calls kj16 (fun k_ => some k_ = (.slice Ao30 t354.length co30 : Value).ownBlock) (.slice Ao30 t354.length co30) t354 t374 t376 t377 w _ ?side1 ?side2 A63.out).mono ?_); (case side1 => repeat (first | (with_reducible first | exact HB.out | apply below_alloc | apply pw_below_drewN | apply below_drew1 | refine below_set ?_ GE350.out | refine below_set ?_ GE364.out) | exact HB.out)); (case side2 => exact Kd.R_tight rfl HO_11.out); rintro e w66 ⟨rfl, hy0, hb, hkp⟩; refine ⟨_, rfl, ?_⟩; have n0_ := aS (Kd.R_mono (ok' := fun k_ => some k_ ≠ (.slice Ao52 t366.length co52 : Value).ownBlock) (Kd.R_keptB ((Kd.R_apart' HO_10.out (Kd.R_typed HO_11.out) (by decide))) hkp (fun k_ hk_ hs_ => (hk_.2) hs_)) (fun k_ hk_ => hk_.1.1.2)); have n1_ := aS (Kd.R_reok rfl hy0 (fun k_ e_ => HO_11.out.1 k_ e_)); have n2_ := aS (Kd.R_mono (ok' := fun k_ => some k_ ≠ (.slice Ao30 t354.length co30 : Value).ownBlock ∧ some k_ ≠ (.slice Ao33 t357.length co33 : Value).ownBlock ∧ some k_ ≠ (.slice Ao59 t370.length co59 : Value).ownBlock) (Kd.R_keptB (HO_351000.out) hkp (fun k_ hk_ hs_ => (hk_.1) hs_)) (fun k_ hk_ => ⟨hk_.1.1, hk_.1.2.1, hk_.1.2.2⟩)); have n3_ := aS (Kd.R_mono (ok' := fun k_ => some k_ ≠ (.slice Ao36 t360.length co36 : Value).ownBlock) (Kd.R_keptB ((Kd.R_apart' HO_351001.out (Kd.R_typed HO_11.out) (by decide))) hkp (fun k_ hk_ hs_ => (hk_.2) hs_)) (fun k_ hk_ => hk_.1.1)); have n4_ := aS (Kd.R_mono (ok' := fun k_ => some k_ ≠ (.slice Ao30 t354.length co30 : Value).ownBlock ∧ some k_ ≠ (.slice Ao24 t343.length co24 : Value).ownBlock ∧ some k_ ≠ (.slice Ao59 t370.length co59 : Value).ownBlock) (Kd.R_keptB (HO_365000.out) hkp (fun k_ hk_ hs_ => (hk_.1) hs_)) (fun k_ hk_ => ⟨hk_.1.1, hk_.1.2.1, hk_.1.2.2⟩)); have n5_ := aS (Kd.R_mono (ok' := fun k_ => some k_ ≠ (.slice Ao26 t346.length co26 : Value).ownBlock) (Kd.R_keptB ((Kd.R_apart' HO_365001.out (Kd.R_typed HO_11.out) (by decide))) hkp (fun k_ hk_ hs_ => (hk_.2) hs_)) (fun k_ hk_ => hk_.1.1)); have n6_ := aS (blk_kept (sB BK350.out) hkp (fun hs_ => (fun e_ => (Kd.R_ne HO_11.out BK350.out (by decide)) e_) hs_)); have n7_ := aS (blk_kept (sB BK364.out) hkp (fun hs_ => (fun e_ => (Kd.R_ne HO_11.out BK364.out (by decide)) e_) hs_)); have n8_ := aS (Kd.R_mono (ok' := fun k_ => some k_ ≠ (.slice Ao29 t351.length co29 : Value).ownBlock) (Kd.R_keptB ((Kd.R_apart' HO368.out (Kd.R_typed HO_11.out) (by decide))) hkp (fun k_ hk_ hs_ => (hk_.2) hs_)) (fun k_ hk_ => hk_.1.1)); have n9_ := aS (Kd.R_mono (ok' := fun k_ => some k_ ≠ (.slice Ao30 t354.length co30 : Value).ownBlock ∧ some k_ ≠ (.slice Ao24 t343.length co24 : Value).ownBlock ∧ some k_ ≠ (.slice Ao33 t357.length co33 : Value).ownBlock) (Kd.R_keptB (HO372.out) hkp (fun k_ hk_ hs_ => (hk_.1) hs_)) (fun k_ hk_ => ⟨hk_.1.1, hk_.1.2.1, hk_.1.2.2⟩)); have n10_ := aS (hb); clear HO_10 HO_11 HO_351000 HO_351001 HO_365000 HO_365001 BK350 BK364 HO368 HO372 HB; have HO_10 := n0_; have HO_11 := n1_; have HO_351000 := n2_; have HO_351001 := n3_; have HO_365000 := n4_; have HO_365001 := n5_; have BK350 := n6_; have BK364 := n7_; have HO368 := n8_; have HO372 := n9_; have HB := n10_; clear n0_ n1_ n2_ n3_ n4_ n5_ n6_ n7_ n8_ n9_ n10_; (try clear hb); (try clear hkp); (try clear hy0)))
       (try simp only [Act.put, List.setIfInBounds_toArray, List.set_cons_zero, List.set_cons_succ])
       go_cut [86] (fun v86 wc => ∃ (kq : Nat) (x86_63 : Bool), v86 = .bool x86_63 ∧ Aside0 (laws_FnExactLongestLine.j1 kq l0 l1 a2 t349 x86_63 t343 t346 t357 t360 = some r) ∧ Aside0 (kq ≤ kj16) ∧ Aside0 (Kd.R k45 45 wc w.heap.size (fun k_ => some k_ ≠ ((.slice Ao33 t357.length co33) : Value).ownBlock) (.slice Ao24 t343.length co24) t343) ∧ Aside0 (Kd.R (Kd.int .i64) 2 wc w.heap.size (fun k_ => some k_ ≠ ((.slice Ao36 t360.length co36) : Value).ownBlock) (.slice Ao26 t346.length co26) t346) ∧ Aside0 (Kd.R k45 45 wc w.heap.size (fun k_ => some k_ ≠ ((.slice Ao24 t343.length co24) : Value).ownBlock) (.slice Ao33 t357.length co33) t357) ∧ Aside0 (Kd.R (Kd.int .i64) 2 wc w.heap.size (fun k_ => some k_ ≠ ((.slice Ao26 t346.length co26) : Value).ownBlock) (.slice Ao36 t360.length co36) t360) ∧ Aside0 (wc.heap[gb350]? = some (.cells #[(.slice Ao24 t343.length co24), (.slice Ao26 t346.length co26)] 29 (0, 0))) ∧ Aside0 (wc.heap[gb364]? = some (.cells #[(.slice Ao33 t357.length co33), (.slice Ao36 t360.length co36)] 29 (0, 0))) ∧ Aside0 (Below w.heap.size w wc))
       case first =>
        have H := HC64.out
        clear HC64
        by_cases c67 : t376 < 0
        ·
         rw [if_pos c67] at H
         have c67b0 : decide (t376 < 0) = true := decide_eq_true c67
         clear c67
         (first | rw [c67b0] | (simp only [i64_w, i32_w]; rw [c67b0]) | (rw [c67b2]; simp only [Bool.not_false, Bool.not_true]) | skip)
         have H' := aS H
         clear H
         go_wp2
         go_meet
         case rel => exact ⟨_, (true), (by first | rfl | (simp; done) | (simp [*]; done) | (simp only [i64_w]; done) | (simp [i64_w]; done)), H', ⟨by have := HJ16.out; first | omega | exact Nat.le_refl _⟩, ⟨by (with_reducible repeat (first | apply Kd.R_alloc | apply Kd.R_drewN | apply Kd.R_drew)); exact Kd.R_mono HO_351000.out (fun _ hk => hk.2.1)⟩, ⟨by (with_reducible repeat (first | apply Kd.R_alloc | apply Kd.R_drewN | apply Kd.R_drew)); exact HO_351001.out⟩, ⟨by (with_reducible repeat (first | apply Kd.R_alloc | apply Kd.R_drewN | apply Kd.R_drew)); exact Kd.R_mono HO_365000.out (fun _ hk => hk.2.1)⟩, ⟨by (with_reducible repeat (first | apply Kd.R_alloc | apply Kd.R_drewN | apply Kd.R_drew)); exact HO_365001.out⟩, ⟨by (with_reducible repeat (first | refine blk_drewN ?_ _ | refine blk_drew ?_ | refine blk_alloc ?_ _)); exact BK350.out⟩, ⟨by (with_reducible repeat (first | refine blk_drewN ?_ _ | refine blk_drew ?_ | refine blk_alloc ?_ _)); exact BK364.out⟩, ⟨by repeat (first | (with_reducible first | exact HB.out | apply below_alloc | apply pw_below_drewN | apply below_drew1 | refine below_set ?_ GE350.out | refine below_set ?_ GE364.out) | exact HB.out)⟩⟩
        rw [if_neg c67] at H
        have c67b0 : decide (t376 < 0) = false := decide_eq_false c67
        clear c67
        (first | rw [c67b0] | (simp only [i64_w, i32_w]; rw [c67b0]) | (rw [c67b2]; simp only [Bool.not_false, Bool.not_true]) | skip)
        replace H := Option.bind_eq_some_iff.mp H
        obtain ⟨t378, A680, H⟩ := H
        replace H : (if t378 = true then (laws_FnExactLongestLine.j1 kj16 l0 l1 a2 t349 (t363 != t349) t343 t346 t357 t360) else (laws_FnExactLongestLine.j1 kj16 l0 l1 a2 t349 true t343 t346 t357 t360)) = some r := H
        have A68 := aS A680
        clear A680
        by_cases c69 : t378 = true
        ·
         subst c69
         have H1 : (laws_FnExactLongestLine.j1 kj16 l0 l1 a2 t349 (t363 != t349) t343 t346 t357 t360) = some r := by rw [if_pos rfl] at H; exact H
         clear H
         have H := H1
         clear H1
         have H' := aS H
         clear H
         have hnb70 := NB364_350.out
         have hnc70 := NB350_364.out
         have hcz71_0 : w66.cell? ⟨gb364, 0, none⟩ = some (.slice Ao33 t357.length co33) := (blk_cell BK364.out 0).trans rfl
         have hcz71_1 : w66.cell? ⟨gb364, 1, none⟩ = some (.slice Ao36 t360.length co36) := (blk_cell BK364.out 1).trans rfl
         have hfz71_0 := blk_frozen BK364.out 0
         have hfz71_1 := blk_frozen BK364.out 1
         have hcz72_0 : w66.cell? ⟨gb350, 0, none⟩ = some (.slice Ao24 t343.length co24) := (blk_cell BK350.out 0).trans rfl
         have hcz72_1 : w66.cell? ⟨gb350, 1, none⟩ = some (.slice Ao26 t346.length co26) := (blk_cell BK350.out 1).trans rfl
         have hfz72_0 := blk_frozen BK350.out 0
         have hfz72_1 := blk_frozen BK350.out 1
         go_wp2_with (first | (go_at_call 13; (with_reducible refine (laws_eqLine.calls kj16 _ _ t357 _ _ t360 _ _ t343 _ _ t346 true _ ?side1 ?side2 ?side3 ?side4 ?side5 ?side6 ?side7 ?side8 A68.out).mono ?_); (case side1 => exact sC (Kd.R_reads' HO_365000.out).2.2); (case side2 => exact (Kd.R_reads' HO_365000.out).2.1); (case side3 => exact sC (Kd.R_reads' HO_365001.out).2.2); (case side4 => exact (Kd.R_reads' HO_365001.out).2.1); (case side5 => exact sC (Kd.R_reads' HO_351000.out).2.2); (case side6 => exact (Kd.R_reads' HO_351000.out).2.1); (case side7 => exact sC (Kd.R_reads' HO_351001.out).2.2); (case side8 => exact (Kd.R_reads' HO_351001.out).2.1); rintro e w73 ⟨rfl, hb⟩; have n0_ := aS (Kd.R_below (sR HO_10.out) hb); have n1_ := aS (Kd.R_below (sR HO_11.out) hb); have n2_ := aS (Kd.R_below (sR HO_351000.out) hb); have n3_ := aS (Kd.R_below (sR HO_351001.out) hb); have n4_ := aS (Kd.R_below (sR HO_365000.out) hb); have n5_ := aS (Kd.R_below (sR HO_365001.out) hb); have n6_ := aS (Kd.R_below (sR HO368.out) hb); have n7_ := aS (Kd.R_below (sR HO372.out) hb); have n8_ := aS (blk_below (g := gb350) (o := .cells #[.slice Ao24 t343.length co24, .slice Ao26 t346.length co26] 29 (0, 0)) (sB BK350.out) hb); have n9_ := aS (blk_below (g := gb364) (o := .cells #[.slice Ao33 t357.length co33, .slice Ao36 t360.length co36] 29 (0, 0)) (sB BK364.out) hb); have n10_ := aS (below_step (sW HB.out) hb); clear HO_10 HO_11 HO_351000 HO_351001 HO_365000 HO_365001 HO368 HO372 BK350 BK364 HB; have HO_10 := n0_; have HO_11 := n1_; have HO_351000 := n2_; have HO_351001 := n3_; have HO_365000 := n4_; have HO_365001 := n5_; have HO368 := n6_; have HO372 := n7_; have BK350 := n8_; have BK364 := n9_; have HB := n10_; clear n0_ n1_ n2_ n3_ n4_ n5_ n6_ n7_ n8_ n9_ n10_; (try clear hb); (try clear hb2); (try clear hk); (try clear hi)))
         go_meet
         case rel => exact ⟨_, ((t363 != t349)), (by first | rfl | (simp; done) | (simp [*]; done) | (simp only [i64_w]; done) | (simp [i64_w]; done)), H', ⟨by have := HJ16.out; first | omega | exact Nat.le_refl _⟩, ⟨by (with_reducible repeat (first | apply Kd.R_alloc | apply Kd.R_drewN | apply Kd.R_drew)); exact Kd.R_mono HO_351000.out (fun _ hk => hk.2.1)⟩, ⟨by (with_reducible repeat (first | apply Kd.R_alloc | apply Kd.R_drewN | apply Kd.R_drew)); exact HO_351001.out⟩, ⟨by (with_reducible repeat (first | apply Kd.R_alloc | apply Kd.R_drewN | apply Kd.R_drew)); exact Kd.R_mono HO_365000.out (fun _ hk => hk.2.1)⟩, ⟨by (with_reducible repeat (first | apply Kd.R_alloc | apply Kd.R_drewN | apply Kd.R_drew)); exact HO_365001.out⟩, ⟨by (with_reducible repeat (first | refine blk_drewN ?_ _ | refine blk_drew ?_ | refine blk_alloc ?_ _)); exact BK350.out⟩, ⟨by (with_reducible repeat (first | refine blk_drewN ?_ _ | refine blk_drew ?_ | refine blk_alloc ?_ _)); exact BK364.out⟩, ⟨by repeat (first | (with_reducible first | exact HB.out | apply below_alloc | apply pw_below_drewN | apply below_drew1 | refine below_set ?_ GE350.out | refine below_set ?_ GE364.out) | exact HB.out)⟩⟩
        replace c69 := Bool.eq_false_iff.mpr c69
        subst c69
        have H1 : (laws_FnExactLongestLine.j1 kj16 l0 l1 a2 t349 true t343 t346 t357 t360) = some r := by rw [if_neg (show ¬ (false = true) by decide)] at H; exact H
        clear H
        have H := H1
        clear H1
        have H' := aS H
        clear H
        have hnb74 := NB364_350.out
        have hnc74 := NB350_364.out
        have hcz75_0 : w66.cell? ⟨gb364, 0, none⟩ = some (.slice Ao33 t357.length co33) := (blk_cell BK364.out 0).trans rfl
        have hcz75_1 : w66.cell? ⟨gb364, 1, none⟩ = some (.slice Ao36 t360.length co36) := (blk_cell BK364.out 1).trans rfl
        have hfz75_0 := blk_frozen BK364.out 0
        have hfz75_1 := blk_frozen BK364.out 1
        have hcz76_0 : w66.cell? ⟨gb350, 0, none⟩ = some (.slice Ao24 t343.length co24) := (blk_cell BK350.out 0).trans rfl
        have hcz76_1 : w66.cell? ⟨gb350, 1, none⟩ = some (.slice Ao26 t346.length co26) := (blk_cell BK350.out 1).trans rfl
        have hfz76_0 := blk_frozen BK350.out 0
        have hfz76_1 := blk_frozen BK350.out 1
        go_wp2_with (first | (go_at_call 13; (with_reducible refine (laws_eqLine.calls kj16 _ _ t357 _ _ t360 _ _ t343 _ _ t346 false _ ?side1 ?side2 ?side3 ?side4 ?side5 ?side6 ?side7 ?side8 A68.out).mono ?_); (case side1 => exact sC (Kd.R_reads' HO_365000.out).2.2); (case side2 => exact (Kd.R_reads' HO_365000.out).2.1); (case side3 => exact sC (Kd.R_reads' HO_365001.out).2.2); (case side4 => exact (Kd.R_reads' HO_365001.out).2.1); (case side5 => exact sC (Kd.R_reads' HO_351000.out).2.2); (case side6 => exact (Kd.R_reads' HO_351000.out).2.1); (case side7 => exact sC (Kd.R_reads' HO_351001.out).2.2); (case side8 => exact (Kd.R_reads' HO_351001.out).2.1); rintro e w77 ⟨rfl, hb⟩; have n0_ := aS (Kd.R_below (sR HO_10.out) hb); have n1_ := aS (Kd.R_below (sR HO_11.out) hb); have n2_ := aS (Kd.R_below (sR HO_351000.out) hb); have n3_ := aS (Kd.R_below (sR HO_351001.out) hb); have n4_ := aS (Kd.R_below (sR HO_365000.out) hb); have n5_ := aS (Kd.R_below (sR HO_365001.out) hb); have n6_ := aS (Kd.R_below (sR HO368.out) hb); have n7_ := aS (Kd.R_below (sR HO372.out) hb); have n8_ := aS (blk_below (g := gb350) (o := .cells #[.slice Ao24 t343.length co24, .slice Ao26 t346.length co26] 29 (0, 0)) (sB BK350.out) hb); have n9_ := aS (blk_below (g := gb364) (o := .cells #[.slice Ao33 t357.length co33, .slice Ao36 t360.length co36] 29 (0, 0)) (sB BK364.out) hb); have n10_ := aS (below_step (sW HB.out) hb); clear HO_10 HO_11 HO_351000 HO_351001 HO_365000 HO_365001 HO368 HO372 BK350 BK364 HB; have HO_10 := n0_; have HO_11 := n1_; have HO_351000 := n2_; have HO_351001 := n3_; have HO_365000 := n4_; have HO_365001 := n5_; have HO368 := n6_; have HO372 := n7_; have BK350 := n8_; have BK364 := n9_; have HB := n10_; clear n0_ n1_ n2_ n3_ n4_ n5_ n6_ n7_ n8_ n9_ n10_; (try clear hb); (try clear hb2); (try clear hk); (try clear hi)))
        go_meet
        case rel => exact ⟨_, (true), (by first | rfl | (simp; done) | (simp [*]; done) | (simp only [i64_w]; done) | (simp [i64_w]; done)), H', ⟨by have := HJ16.out; first | omega | exact Nat.le_refl _⟩, ⟨by (with_reducible repeat (first | apply Kd.R_alloc | apply Kd.R_drewN | apply Kd.R_drew)); exact Kd.R_mono HO_351000.out (fun _ hk => hk.2.1)⟩, ⟨by (with_reducible repeat (first | apply Kd.R_alloc | apply Kd.R_drewN | apply Kd.R_drew)); exact HO_351001.out⟩, ⟨by (with_reducible repeat (first | apply Kd.R_alloc | apply Kd.R_drewN | apply Kd.R_drew)); exact Kd.R_mono HO_365000.out (fun _ hk => hk.2.1)⟩, ⟨by (with_reducible repeat (first | apply Kd.R_alloc | apply Kd.R_drewN | apply Kd.R_drew)); exact HO_365001.out⟩, ⟨by (with_reducible repeat (first | refine blk_drewN ?_ _ | refine blk_drew ?_ | refine blk_alloc ?_ _)); exact BK350.out⟩, ⟨by (with_reducible repeat (first | refine blk_drewN ?_ _ | refine blk_drew ?_ | refine blk_alloc ?_ _)); exact BK364.out⟩, ⟨by repeat (first | (with_reducible first | exact HB.out | apply below_alloc | apply pw_below_drewN | apply below_drew1 | refine below_set ?_ GE350.out | refine below_set ?_ GE364.out) | exact HB.out)⟩⟩
       case rest =>
        clear HC64
        (try clear c1); (try clear p2); (try clear c3); (try clear c4); (try clear c5); (try clear c6); (try clear c7); (try clear c7b0); (try clear c7b2); (try clear c8); (try clear c9); (try clear c10); (try clear c10b0); (try clear c10b2); (try clear c11); (try clear c12); (try clear c13); (try clear c14); (try clear c15); (try clear c16); (try clear c17); (try clear c34); (try clear c38); (try clear c39); (try clear c43); (try clear c47); (try clear c54); (try clear c61); (try clear c67); (try clear c67b0); (try clear c67b2); (try clear c69); (try clear c70); (try clear c74); (try clear hcz25_0); (try clear hcz25_1); (try clear hcz35_0); (try clear hcz35_1); (try clear hcz40_0); (try clear hcz40_1); (try clear hcz41_0); (try clear hcz41_1); (try clear hcz44_0); (try clear hcz44_1); (try clear hcz45_0); (try clear hcz45_1); (try clear hcz71_0); (try clear hcz71_1); (try clear hcz72_0); (try clear hcz72_1); (try clear hcz75_0); (try clear hcz75_1); (try clear hcz76_0); (try clear hcz76_1); (try clear hfz25_0); (try clear hfz25_1); (try clear hfz35_0); (try clear hfz35_1); (try clear hfz40_0); (try clear hfz40_1); (try clear hfz41_0); (try clear hfz41_1); (try clear hfz44_0); (try clear hfz44_1); (try clear hfz45_0); (try clear hfz45_1); (try clear hfz71_0); (try clear hfz71_1); (try clear hfz72_0); (try clear hfz72_1); (try clear hfz75_0); (try clear hfz75_1); (try clear hfz76_0); (try clear hfz76_1); (try clear p2)
        obtain ⟨kq, x86_63, rfl, HA, HJ63, HO_351000, HO_351001, HO_365000, HO_365001, BK350, BK364, HB⟩ := hcut
        cases kq with
        | zero => exact absurd HA.out (by simp [laws_FnExactLongestLine.j1])
        | succ kj63 =>
         have H := HA.out
         clear HA
         simp only [laws_FnExactLongestLine.j1] at H
         by_cases c78 : x86_63 = true
         ·
          subst c78
          have H1 : (some false) = some r := by rw [if_pos rfl] at H; exact H
          clear H
          have H := H1
          clear H1
          obtain rfl := Option.some.inj H
          go_wp2
          go_ret
          exact ⟨by first | rfl | (simp [errW_none, errW_some, i64_w]; done) | (simp [errW_none, errW_some] <;> rfl) | (simp [*, errW_none, errW_some] <;> rfl), by repeat (first | (with_reducible first | exact HB.out | apply below_alloc | apply pw_below_drewN | apply below_drew1) | exact HB.out)⟩
         replace c78 := Bool.eq_false_iff.mpr c78
         subst c78
         have H1 : ((laws_markLine.f kj63 t357 t360 1).bind fun bt379 => ((laws_heldLine.f kj63 bt379.2.1 bt379.2.2 1).bind fun t382 => (if t382 < 0 then (some false) else (if t382 = bt379.1 then ((laws_toJoinS.f kj63 l0).bind fun t383 => ((laws_toLinePieceS.f kj63 l1).bind fun t386 => ((impl_LongestLine.f kj63 t383 t386 a2).bind fun bt389 => ((laws_eqLine.f kj63 bt389.1 bt389.2.1 t343 t346).bind fun t397 => (if t397 = true then (laws_FnExactLongestLine.j2 kj63 bt379.1 (bt389.2.2 != t349) bt379.2.1 bt379.2.2) else (laws_FnExactLongestLine.j2 kj63 bt379.1 true bt379.2.1 bt379.2.2)))))) else (some false))))) = some r := by rw [if_neg (show ¬ (false = true) by decide)] at H; exact H
         clear H
         have H := H1
         clear H1
         replace H := Option.bind_eq_some_iff.mp H
         obtain ⟨⟨t379, t380, t381⟩, A790, H⟩ := H
         replace H : ((laws_heldLine.f kj63 t380 t381 1).bind fun t382 => (if t382 < 0 then (some false) else (if t382 = t379 then ((laws_toJoinS.f kj63 l0).bind fun t383 => ((laws_toLinePieceS.f kj63 l1).bind fun t386 => ((impl_LongestLine.f kj63 t383 t386 a2).bind fun bt389 => ((laws_eqLine.f kj63 bt389.1 bt389.2.1 t343 t346).bind fun t397 => (if t397 = true then (laws_FnExactLongestLine.j2 kj63 t379 (bt389.2.2 != t349) t380 t381) else (laws_FnExactLongestLine.j2 kj63 t379 true t380 t381)))))) else (some false)))) = some r := H
         have A79 := aS A790
         clear A790
         replace H := Option.bind_eq_some_iff.mp H
         obtain ⟨t382, A800, H⟩ := H
         replace H : (if t382 < 0 then (some false) else (if t382 = t379 then ((laws_toJoinS.f kj63 l0).bind fun t383 => ((laws_toLinePieceS.f kj63 l1).bind fun t386 => ((impl_LongestLine.f kj63 t383 t386 a2).bind fun bt389 => ((laws_eqLine.f kj63 bt389.1 bt389.2.1 t343 t346).bind fun t397 => (if t397 = true then (laws_FnExactLongestLine.j2 kj63 t379 (bt389.2.2 != t349) t380 t381) else (laws_FnExactLongestLine.j2 kj63 t379 true t380 t381)))))) else (some false))) = some r := H
         have A80 := aS A800
         clear A800
         have HC81 := aS H
         clear H
         have hnb82 := NB364_350.out
         have hnc82 := NB350_364.out
         have hcz83_0 : wc.cell? ⟨gb364, 0, none⟩ = some (.slice Ao33 t357.length co33) := (blk_cell BK364.out 0).trans rfl
         have hcz83_1 : wc.cell? ⟨gb364, 1, none⟩ = some (.slice Ao36 t360.length co36) := (blk_cell BK364.out 1).trans rfl
         have hfz83_0 := blk_frozen BK364.out 0
         have hfz83_1 := blk_frozen BK364.out 1
         go_upto_if 94 with (first | ((with_reducible refine gate_callee (f := 18) rfl ?_); refine goesL_ (some 89) rfl rfl Try.func18 (by kernel_rfl) rfl #[.agg #[.slice Ao33 t357.length co33, .slice Ao36 t360.length co36], .int .i64 1] rfl sG ?_; (with_reducible refine (laws_markLine.calls kj63 (fun k_ => some k_ = (.slice Ao33 t357.length co33 : Value).ownBlock) (.slice Ao33 t357.length co33) t357 (fun k_ => some k_ = (.slice Ao36 t360.length co36 : Value).ownBlock) (.slice Ao36 t360.length co36) t360 1 t379 t380 t381 w _ ?side1 ?side2 ?side3 A79.out).mono ?_); (case side1 => repeat (first | (with_reducible first | exact HB.out | apply below_alloc | apply pw_below_drewN | apply below_drew1 | refine below_set ?_ GE350.out | refine below_set ?_ GE364.out) | exact HB.out)); (case side2 => exact Kd.R_tight rfl HO_365000.out); (case side3 => exact Kd.R_tight rfl HO_365001.out); rintro e w84 ⟨rfl, hy0, hy1, hb, hkp⟩; refine ⟨_, rfl, ?_⟩; have n0_ := aS (Kd.R_mono (ok' := fun k_ => some k_ ≠ (.slice Ao33 t357.length co33 : Value).ownBlock) (Kd.R_keptB ((Kd.R_apart' HO_351000.out (Kd.R_typed HO_365001.out) (by decide))) hkp (fun k_ hk_ hs_ => Or.elim hs_ (fun e_ => (hk_.1) e_) (fun e_ => (hk_.2) e_))) (fun k_ hk_ => hk_.1.1)); have n1_ := aS (Kd.R_mono (ok' := fun k_ => some k_ ≠ (.slice Ao36 t360.length co36 : Value).ownBlock) (Kd.R_keptB ((Kd.R_apart' HO_351001.out (Kd.R_typed HO_365000.out) (by decide))) hkp (fun k_ hk_ hs_ => Or.elim hs_ (fun e_ => (hk_.2) e_) (fun e_ => (hk_.1) e_))) (fun k_ hk_ => hk_.1.1)); have n2_ := aS (Kd.R_reok rfl hy0 (fun k_ e_ => HO_365000.out.1 k_ e_)); have n3_ := aS (Kd.R_reok rfl hy1 (fun k_ e_ => HO_365001.out.1 k_ e_)); have n4_ := aS (blk_kept (sB BK350.out) hkp (fun hs_ => Or.elim hs_ (fun e_ => (fun e_ => (Kd.R_ne HO_365000.out BK350.out (by decide)) e_) e_) (fun e_ => (fun e_ => (Kd.R_ne HO_365001.out BK350.out (by decide)) e_) e_))); have n5_ := aS (blk_kept (sB BK364.out) hkp (fun hs_ => Or.elim hs_ (fun e_ => (fun e_ => (Kd.R_ne HO_365000.out BK364.out (by decide)) e_) e_) (fun e_ => (fun e_ => (Kd.R_ne HO_365001.out BK364.out (by decide)) e_) e_))); have n6_ := aS (hb); clear HO_351000 HO_351001 HO_365000 HO_365001 BK350 BK364 HB; have HO_351000 := n0_; have HO_351001 := n1_; have HO_365000 := n2_; have HO_365001 := n3_; have BK350 := n4_; have BK364 := n5_; have HB := n6_; clear n0_ n1_ n2_ n3_ n4_ n5_ n6_; (try clear hb); (try clear hkp); (try clear hy0); (try clear hy1); have hcz85_0 : w84.cell? ⟨gb364, 0, none⟩ = some (.slice Ao33 t357.length co33) := (blk_cell BK364.out 0).trans rfl; have hcz85_1 : w84.cell? ⟨gb364, 1, none⟩ = some (.slice Ao36 t360.length co36) := (blk_cell BK364.out 1).trans rfl; have hfz85_0 := blk_frozen BK364.out 0; have hfz85_1 := blk_frozen BK364.out 1) | ((with_reducible refine gate_callee (f := 19) rfl ?_); refine goesL_ (some 92) rfl rfl Try.func19 (by kernel_rfl) rfl #[.agg #[.slice Ao33 t380.length co33, .slice Ao36 t381.length co36], .int .i64 1] rfl (by (try simp only [List.map_toArray, List.map_cons, List.map_nil]); first | done | (rw [show t380.length = t357.length from (Kd.R_reads' HO_365000.out).1.symm, show t381.length = t360.length from (Kd.R_reads' HO_365001.out).1.symm] <;> rfl) | rfl | (simp only [List.length_drop, List.length_take]; rfl)) ?_; (with_reducible refine (laws_heldLine.calls kj63 _ _ t380 _ _ t381 1 t382 _ ?side1 ?side2 ?side3 ?side4 A80.out).mono ?_); (case side1 => exact sC (Kd.R_reads' HO_365000.out).2.2); (case side2 => rw [show t380.length = t357.length from (Kd.R_reads' HO_365000.out).1.symm]; exact (Kd.R_reads' HO_365000.out).2.1); (case side3 => exact sC (Kd.R_reads' HO_365001.out).2.2); (case side4 => rw [show t381.length = t360.length from (Kd.R_reads' HO_365001.out).1.symm]; exact (Kd.R_reads' HO_365001.out).2.1); rintro e w86 ⟨rfl, hb⟩; refine ⟨_, rfl, ?_⟩; have n0_ := aS (Kd.R_below (sR HO_351000.out) hb); have n1_ := aS (Kd.R_below (sR HO_351001.out) hb); have n2_ := aS (Kd.R_below (sR HO_365000.out) hb); have n3_ := aS (Kd.R_below (sR HO_365001.out) hb); have n4_ := aS (blk_below (g := gb350) (o := .cells #[.slice Ao24 t343.length co24, .slice Ao26 t346.length co26] 29 (0, 0)) (sB BK350.out) hb); have n5_ := aS (blk_below (g := gb364) (o := .cells #[.slice Ao33 t357.length co33, .slice Ao36 t360.length co36] 29 (0, 0)) (sB BK364.out) hb); have n6_ := aS (below_step (sW HB.out) hb); clear HO_351000 HO_351001 HO_365000 HO_365001 BK350 BK364 HB; have HO_351000 := n0_; have HO_351001 := n1_; have HO_365000 := n2_; have HO_365001 := n3_; have BK350 := n4_; have BK364 := n5_; have HB := n6_; clear n0_ n1_ n2_ n3_ n4_ n5_ n6_; (try clear hb); (try clear hb2); (try clear hk); (try clear hi)))
         (try simp only [Act.put, List.setIfInBounds_toArray, List.set_cons_zero, List.set_cons_succ])
         have H := HC81.out
         clear HC81
         by_cases c87 : t382 < 0
         ·
          rw [if_pos c87] at H
          have c87b0 : decide (t382 < 0) = true := decide_eq_true c87
          clear c87
          (first | rw [c87b0] | (simp only [i64_w, i32_w]; rw [c87b0]) | (rw [c87b2]; simp only [Bool.not_false, Bool.not_true]) | skip)
          obtain rfl := Option.some.inj H
          go_wp2
          go_ret
          exact ⟨by first | rfl | (simp [errW_none, errW_some, i64_w]; done) | (simp [errW_none, errW_some] <;> rfl) | (simp [*, errW_none, errW_some] <;> rfl), by repeat (first | (with_reducible first | exact HB.out | apply below_alloc | apply pw_below_drewN | apply below_drew1) | exact HB.out)⟩
         rw [if_neg c87] at H
         have c87b0 : decide (t382 < 0) = false := decide_eq_false c87
         clear c87
         (first | rw [c87b0] | (simp only [i64_w, i32_w]; rw [c87b0]) | (rw [c87b2]; simp only [Bool.not_false, Bool.not_true]) | skip)
         by_cases c88 : t382 = t379
         rotate_left
         ·
          rw [if_neg c88] at H
          have c88b0 : (t382 == t379) = false := beq_eq_false_iff_ne.mpr c88
          have c88b1 : (t382 != t379) = true := bne_iff_ne.mpr c88
          obtain rfl := Option.some.inj H
          go_wp2
          go_ret
          exact ⟨by first | rfl | (simp [errW_none, errW_some, i64_w]; done) | (simp [errW_none, errW_some] <;> rfl) | (simp [*, errW_none, errW_some] <;> rfl), by repeat (first | (with_reducible first | exact HB.out | apply below_alloc | apply pw_below_drewN | apply below_drew1) | exact HB.out)⟩
         rw [if_pos c88] at H
         have c88b0 : (t382 == t379) = true := beq_iff_eq.mpr c88
         have c88b1 : (t382 != t379) = false := bne_eq_false_iff_eq.mpr c88
         clear c88
         replace H := Option.bind_eq_some_iff.mp H
         obtain ⟨t383, A890, H⟩ := H
         replace H : ((laws_toLinePieceS.f kj63 l1).bind fun t386 => ((impl_LongestLine.f kj63 t383 t386 a2).bind fun bt389 => ((laws_eqLine.f kj63 bt389.1 bt389.2.1 t343 t346).bind fun t397 => (if t397 = true then (laws_FnExactLongestLine.j2 kj63 t379 (bt389.2.2 != t349) t380 t381) else (laws_FnExactLongestLine.j2 kj63 t379 true t380 t381))))) = some r := H
         have A89 := aS A890
         clear A890
         replace H := Option.bind_eq_some_iff.mp H
         obtain ⟨t386, A900, H⟩ := H
         replace H : ((impl_LongestLine.f kj63 t383 t386 a2).bind fun bt389 => ((laws_eqLine.f kj63 bt389.1 bt389.2.1 t343 t346).bind fun t397 => (if t397 = true then (laws_FnExactLongestLine.j2 kj63 t379 (bt389.2.2 != t349) t380 t381) else (laws_FnExactLongestLine.j2 kj63 t379 true t380 t381)))) = some r := H
         have A90 := aS A900
         clear A900
         replace H := Option.bind_eq_some_iff.mp H
         obtain ⟨⟨t389, t392, t395⟩, A910, H⟩ := H
         replace H : ((laws_eqLine.f kj63 t389 t392 t343 t346).bind fun t397 => (if t397 = true then (laws_FnExactLongestLine.j2 kj63 t379 (t395 != t349) t380 t381) else (laws_FnExactLongestLine.j2 kj63 t379 true t380 t381))) = some r := H
         have A91 := aS A910
         clear A910
         have HC92 := aS H
         clear H
         go_upto_region 32 with (first | ((with_reducible refine gate_callee (f := 10) rfl ?_); refine goesL_ (some 100) rfl rfl Try.func10 (by kernel_rfl) rfl #[.slice A0 l0.length c0] rfl sG ?_; (with_reducible refine (laws_toJoinS.calls kj63 _ _ l0 t383 _ ?side1 ?side2 A89.out).mono ?_); (case side1 => exact sC (Kd.C_below HR0.out HB.out)); (case side2 => exact HC0.out); rintro e w93 ⟨v384, rfl, ho0, hb⟩; refine ⟨_, rfl, ?_⟩; have n0_ := aS (Kd.R_below (sR HO_351000.out) hb); have n1_ := aS (Kd.R_below (sR HO_351001.out) hb); have n2_ := aS (Kd.R_below (sR HO_365000.out) hb); have n3_ := aS (Kd.R_below (sR HO_365001.out) hb); have n4_ := aS (Kd.R_lower ho0 (below_size (sW HB.out))); have n5_ := aS (blk_below (g := gb350) (o := .cells #[.slice Ao24 t343.length co24, .slice Ao26 t346.length co26] 29 (0, 0)) (sB BK350.out) hb); have n6_ := aS (blk_below (g := gb364) (o := .cells #[.slice Ao33 t357.length co33, .slice Ao36 t360.length co36] 29 (0, 0)) (sB BK364.out) hb); have n7_ := aS (below_step (sW HB.out) hb); clear HO_351000 HO_351001 HO_365000 HO_365001 BK350 BK364 HB; have HO_351000 := n0_; have HO_351001 := n1_; have HO_365000 := n2_; have HO_365001 := n3_; have HO385 := n4_; have BK350 := n5_; have BK364 := n6_; have HB := n7_; clear n0_ n1_ n2_ n3_ n4_ n5_ n6_ n7_; (try clear hb); (try clear hb2); (try clear hk); (try clear hi); (try clear ho0)) | ((with_reducible refine gate_callee (f := 11) rfl ?_); refine goesL_ (some 102) rfl rfl Try.func11 (by kernel_rfl) rfl #[.slice A1 l1.length c1] rfl sG ?_; (with_reducible refine (laws_toLinePieceS.calls kj63 _ _ l1 t386 _ ?side1 ?side2 A90.out).mono ?_); (case side1 => exact sC (Kd.C_below HR1.out HB.out)); (case side2 => exact HC1.out); rintro e w94 ⟨v387, rfl, ho0, hb⟩; refine ⟨_, rfl, ?_⟩; have n0_ := aS (Kd.R_elder' (sR HO_351000.out) (Kd.R_base ho0) hb); have n1_ := aS (Kd.R_below (sR HO_351001.out) hb); have n2_ := aS (Kd.R_elder' (sR HO_365000.out) (Kd.R_base ho0) hb); have n3_ := aS (Kd.R_below (sR HO_365001.out) hb); have n4_ := aS (Kd.R_below (sR HO385.out) hb); have n5_ := aS (Kd.R_lower (Kd.R_new' (Kd.R_new' ho0 (Kd.R_lt (sR HO_351000.out))) (Kd.R_lt (sR HO_365000.out))) (below_size (sW HB.out))); have n6_ := aS (blk_below (g := gb350) (o := .cells #[.slice Ao24 t343.length co24, .slice Ao26 t346.length co26] 29 (0, 0)) (sB BK350.out) hb); have n7_ := aS (blk_below (g := gb364) (o := .cells #[.slice Ao33 t357.length co33, .slice Ao36 t360.length co36] 29 (0, 0)) (sB BK364.out) hb); have n8_ := aS (below_step (sW HB.out) hb); clear HO_351000 HO_351001 HO_365000 HO_365001 HO385 BK350 BK364 HB; have HO_351000 := n0_; have HO_351001 := n1_; have HO_365000 := n2_; have HO_365001 := n3_; have HO385 := n4_; have HO388 := n5_; have BK350 := n6_; have BK364 := n7_; have HB := n8_; clear n0_ n1_ n2_ n3_ n4_ n5_ n6_ n7_ n8_; (try clear hb); (try clear hb2); (try clear hk); (try clear hi); (try clear ho0); obtain ⟨Ao95, co95, eo95⟩ := Kd.R_slice HO385.out; subst eo95; obtain ⟨Ao96, co96, eo96⟩ := Kd.R_slice HO388.out; subst eo96) | ((with_reducible refine gate_callee (f := 12) rfl ?_); refine goesL_ (some 104) rfl rfl Try.func12 (by kernel_rfl) rfl #[.slice Ao95 t383.length co95, .slice Ao96 t386.length co96, .int .i64 a2] rfl sG ?_; (with_reducible refine (impl_LongestLine.calls kj63 _ _ t383 _ _ t386 a2 t389 t392 t395 _ ?side1 ?side2 ?side3 ?side4 A91.out).mono ?_); (case side1 => exact sC (Kd.R_reads' HO385.out).2.2); (case side2 => exact (Kd.R_reads' HO385.out).2.1); (case side3 => exact sC (Kd.R_reads' HO388.out).2.2); (case side4 => exact (Kd.R_reads' HO388.out).2.1); rintro e w97 ⟨v390, v393, rfl, ho0, ho1, hb⟩; refine ⟨_, rfl, ?_⟩; have n0_ := aS (Kd.R_elder' (sR HO_351000.out) (Kd.R_base ho0) hb); have n1_ := aS (Kd.R_elder' (sR HO_351001.out) (Kd.R_base ho1) hb); have n2_ := aS (Kd.R_elder' (sR HO_365000.out) (Kd.R_base ho0) hb); have n3_ := aS (Kd.R_elder' (sR HO_365001.out) (Kd.R_base ho1) hb); have n4_ := aS (Kd.R_below (sR HO385.out) hb); have n5_ := aS (Kd.R_elder' (sR HO388.out) (Kd.R_base ho0) hb); have n6_ := aS (Kd.R_lower (Kd.R_new' (Kd.R_new' (Kd.R_new' ho0 (Kd.R_lt (sR HO_351000.out))) (Kd.R_lt (sR HO_365000.out))) (Kd.R_lt (sR HO388.out))) (below_size (sW HB.out))); have n7_ := aS (Kd.R_lower (Kd.R_new' (Kd.R_new' ho1 (Kd.R_lt (sR HO_351001.out))) (Kd.R_lt (sR HO_365001.out))) (below_size (sW HB.out))); have n8_ := aS (blk_below (g := gb350) (o := .cells #[.slice Ao24 t343.length co24, .slice Ao26 t346.length co26] 29 (0, 0)) (sB BK350.out) hb); have n9_ := aS (blk_below (g := gb364) (o := .cells #[.slice Ao33 t357.length co33, .slice Ao36 t360.length co36] 29 (0, 0)) (sB BK364.out) hb); have n10_ := aS (below_step (sW HB.out) hb); clear HO_351000 HO_351001 HO_365000 HO_365001 HO385 HO388 BK350 BK364 HB; have HO_351000 := n0_; have HO_351001 := n1_; have HO_365000 := n2_; have HO_365001 := n3_; have HO385 := n4_; have HO388 := n5_; have HO391 := n6_; have HO394 := n7_; have BK350 := n8_; have BK364 := n9_; have HB := n10_; clear n0_ n1_ n2_ n3_ n4_ n5_ n6_ n7_ n8_ n9_ n10_; (try clear hb); (try clear hb2); (try clear hk); (try clear hi); (try clear ho0); (try clear ho1)) | ((with_reducible refine gate_dst (N := 17) rfl ?_); refine box_event ?hg (N := 17) ?hd (cs := #[.slice none 0 0, .slice none 0 0]) (t := 29) ?hr ?_; (case hd => rfl); (case hg => rfl); (case hr => first | (go_simp; done) | (go_simp; rfl)); intro gb396 hg w98 hbox hb; have n0_ := aS (Kd.R_below (sR HO_351000.out) hb); have n1_ := aS (Kd.R_below (sR HO_351001.out) hb); have n2_ := aS (Kd.R_below (sR HO_365000.out) hb); have n3_ := aS (Kd.R_below (sR HO_365001.out) hb); have n4_ := aS (Kd.R_below (sR HO385.out) hb); have n5_ := aS (Kd.R_below (sR HO388.out) hb); have n6_ := aS (Kd.R_below (sR HO391.out) hb); have n7_ := aS (Kd.R_below (sR HO394.out) hb); have n8_ := aS (blk_below (g := gb350) (o := .cells #[.slice Ao24 t343.length co24, .slice Ao26 t346.length co26] 29 (0, 0)) (sB BK350.out) hb); have n9_ := aS (blk_below (g := gb364) (o := .cells #[.slice Ao33 t357.length co33, .slice Ao36 t360.length co36] 29 (0, 0)) (sB BK364.out) hb); have n10_ := aS (below_step (sW HB.out) hb); have n11_ := aS (hbox); have n12_ := aS ((by rw [hg]; exact (below_size (sW HB.out)) : w.heap.size ≤ gb396)); have n13_ := aS ((by rw [hg]; exact (below_size (sW HB.out)) : w.heap.size ≤ gb396)); have n14_ := aS ((by rw [hg]; exact Nat.ne_of_lt (blk_lt (g := gb350) (o := .cells #[.slice Ao24 t343.length co24, .slice Ao26 t346.length co26] 29 (0, 0)) (sB BK350.out)) : gb350 ≠ gb396)); have n15_ := aS ((by rw [hg]; exact Nat.ne_of_gt (blk_lt (g := gb350) (o := .cells #[.slice Ao24 t343.length co24, .slice Ao26 t346.length co26] 29 (0, 0)) (sB BK350.out)) : gb396 ≠ gb350)); have n16_ := aS ((by rw [hg]; exact Nat.ne_of_lt (blk_lt (g := gb364) (o := .cells #[.slice Ao33 t357.length co33, .slice Ao36 t360.length co36] 29 (0, 0)) (sB BK364.out)) : gb364 ≠ gb396)); have n17_ := aS ((by rw [hg]; exact Nat.ne_of_gt (blk_lt (g := gb364) (o := .cells #[.slice Ao33 t357.length co33, .slice Ao36 t360.length co36] 29 (0, 0)) (sB BK364.out)) : gb396 ≠ gb364)); clear HO_351000 HO_351001 HO_365000 HO_365001 HO385 HO388 HO391 HO394 BK350 BK364 HB; have HO_351000 := n0_; have HO_351001 := n1_; have HO_365000 := n2_; have HO_365001 := n3_; have HO385 := n4_; have HO388 := n5_; have HO391 := n6_; have HO394 := n7_; have BK350 := n8_; have BK364 := n9_; have HB := n10_; have BK396 := n11_; have GW396 := n12_; have GE396 := n13_; have NB350_396 := n14_; have NB396_350 := n15_; have NB364_396 := n16_; have NB396_364 := n17_; clear n0_ n1_ n2_ n3_ n4_ n5_ n6_ n7_ n8_ n9_ n10_ n11_ n12_ n13_ n14_ n15_ n16_ n17_; clear hb hbox hg; obtain ⟨Ao99, co99, eo99⟩ := Kd.R_slice HO391.out; subst eo99; have hnb100 := NB396_350.out; have hnc100 := NB350_396.out; have hnb101 := NB396_364.out; have hnc101 := NB364_396.out; have hcz102_0 : w98.cell? ⟨gb396, 0, none⟩ = some (.slice none 0 0) := (blk_cell BK396.out 0).trans rfl; have hcz102_1 : w98.cell? ⟨gb396, 1, none⟩ = some (.slice none 0 0) := (blk_cell BK396.out 1).trans rfl; have hfz102_0 := blk_frozen BK396.out 0; have hfz102_1 := blk_frozen BK396.out 1; obtain ⟨Ao103, co103, eo103⟩ := Kd.R_slice HO394.out; subst eo103))
         (try simp only [Act.put, List.setIfInBounds_toArray, List.set_cons_zero, List.set_cons_succ])
         go_cut [115] (fun v115 wc => ∃ (kq : Nat) (x115_91 : Bool), v115 = .bool x115_91 ∧ Aside0 (laws_FnExactLongestLine.j2 kq t379 x115_91 t380 t381 = some r) ∧ Aside0 (kq ≤ kj63) ∧ Aside0 (Kd.R k45 45 wc w.heap.size (fun _ => True) (.slice Ao33 t357.length co33) t380) ∧ Aside0 (Kd.R (Kd.int .i64) 2 wc w.heap.size (fun _ => True) (.slice Ao36 t360.length co36) t381) ∧ Aside0 (wc.heap[gb364]? = some (.cells #[(.slice Ao33 t357.length co33), (.slice Ao36 t360.length co36)] 29 (0, 0))) ∧ Aside0 (Below w.heap.size w wc))
         case first =>
          have H := HC92.out
          clear HC92
          replace H := Option.bind_eq_some_iff.mp H
          obtain ⟨t397, A1040, H⟩ := H
          replace H : (if t397 = true then (laws_FnExactLongestLine.j2 kj63 t379 (t395 != t349) t380 t381) else (laws_FnExactLongestLine.j2 kj63 t379 true t380 t381)) = some r := H
          have A104 := aS A1040
          clear A1040
          by_cases c105 : t397 = true
          ·
           subst c105
           have H1 : (laws_FnExactLongestLine.j2 kj63 t379 (t395 != t349) t380 t381) = some r := by rw [if_pos rfl] at H; exact H
           clear H
           have H := H1
           clear H1
           have H' := aS H
           clear H
           have hnb106 := NB396_350.out
           have hnc106 := NB350_396.out
           have hnb107 := NB396_364.out
           have hnc107 := NB364_396.out
           have hcz108_0 : w98.cell? ⟨gb396, 0, none⟩ = some (.slice none 0 0) := (blk_cell BK396.out 0).trans rfl
           have hcz108_1 : w98.cell? ⟨gb396, 1, none⟩ = some (.slice none 0 0) := (blk_cell BK396.out 1).trans rfl
           have hfz108_0 := blk_frozen BK396.out 0
           have hfz108_1 := blk_frozen BK396.out 1
           have hnb109 := NB350_364.out
           have hnc109 := NB364_350.out
           have hcz110_0 : w98.cell? ⟨gb350, 0, none⟩ = some (.slice Ao24 t343.length co24) := (blk_cell BK350.out 0).trans rfl
           have hcz110_1 : w98.cell? ⟨gb350, 1, none⟩ = some (.slice Ao26 t346.length co26) := (blk_cell BK350.out 1).trans rfl
           have hfz110_0 := blk_frozen BK350.out 0
           have hfz110_1 := blk_frozen BK350.out 1
           go_wp2_with (first | ((with_reducible refine gate_callee (f := 13) rfl ?_); refine goesL_ (some 109) rfl rfl Try.func13 (by kernel_rfl) rfl #[.agg #[.slice Ao99 t389.length co99, .slice Ao103 t392.length co103], .agg #[.slice Ao24 t343.length co24, .slice Ao26 t346.length co26]] rfl sG ?_; (with_reducible refine (laws_eqLine.calls kj63 _ _ t389 _ _ t392 _ _ t343 _ _ t346 true _ ?side1 ?side2 ?side3 ?side4 ?side5 ?side6 ?side7 ?side8 A104.out).mono ?_); (case side1 => refine (Kd.R_reads' (e := 45) (base := w.heap.size) (ok := fun k_ => (((True ∧ some k_ ≠ (.slice Ao24 t343.length co24 : Value).ownBlock) ∧ some k_ ≠ (.slice Ao33 t357.length co33 : Value).ownBlock) ∧ some k_ ≠ (.slice Ao96 t386.length co96 : Value).ownBlock)) (n := t389.length) (c := co99) ?_).2.2; exact (sR (Kd.R_mono (Kd.R_far (p := ⟨gb396, 1, none⟩) (Kd.R_far (p := ⟨gb396, 0, none⟩) (Kd.R_types HO391.out BK396.out (by decide)) (fun _ hk => hk.2) (.slice Ao99 t389.length co99)) (fun _ hk => hk.2) (.slice Ao103 t392.length co103)) (fun _ h_ => h_.1)))); (case side2 => exact (Kd.R_reads' HO391.out).2.1); (case side3 => refine (Kd.R_reads' (e := 2) (base := w.heap.size) (ok := fun k_ => ((True ∧ some k_ ≠ (.slice Ao26 t346.length co26 : Value).ownBlock) ∧ some k_ ≠ (.slice Ao36 t360.length co36 : Value).ownBlock)) (n := t392.length) (c := co103) ?_).2.2; exact (sR (Kd.R_mono (Kd.R_far (p := ⟨gb396, 1, none⟩) (Kd.R_far (p := ⟨gb396, 0, none⟩) (Kd.R_types HO394.out BK396.out (by decide)) (fun _ hk => hk.2) (.slice Ao99 t389.length co99)) (fun _ hk => hk.2) (.slice Ao103 t392.length co103)) (fun _ h_ => h_.1)))); (case side4 => exact (Kd.R_reads' HO394.out).2.1); (case side5 => refine (Kd.R_reads' (e := 45) (base := w.heap.size) (ok := fun k_ => ((some k_ ≠ (.slice Ao33 t357.length co33 : Value).ownBlock ∧ some k_ ≠ (.slice Ao96 t386.length co96 : Value).ownBlock) ∧ some k_ ≠ (.slice Ao99 t389.length co99 : Value).ownBlock)) (n := t343.length) (c := co24) ?_).2.2; exact (sR (Kd.R_mono (Kd.R_far (p := ⟨gb396, 1, none⟩) (Kd.R_far (p := ⟨gb396, 0, none⟩) (Kd.R_types HO_351000.out BK396.out (by decide)) (fun _ hk => hk.2) (.slice Ao99 t389.length co99)) (fun _ hk => hk.2) (.slice Ao103 t392.length co103)) (fun _ h_ => h_.1)))); (case side6 => exact (Kd.R_reads' HO_351000.out).2.1); (case side7 => refine (Kd.R_reads' (e := 2) (base := w.heap.size) (ok := fun k_ => (some k_ ≠ (.slice Ao36 t360.length co36 : Value).ownBlock ∧ some k_ ≠ (.slice Ao103 t392.length co103 : Value).ownBlock)) (n := t346.length) (c := co26) ?_).2.2; exact (sR (Kd.R_mono (Kd.R_far (p := ⟨gb396, 1, none⟩) (Kd.R_far (p := ⟨gb396, 0, none⟩) (Kd.R_types HO_351001.out BK396.out (by decide)) (fun _ hk => hk.2) (.slice Ao99 t389.length co99)) (fun _ hk => hk.2) (.slice Ao103 t392.length co103)) (fun _ h_ => h_.1)))); (case side8 => exact (Kd.R_reads' HO_351001.out).2.1); rintro e w111 ⟨rfl, hb⟩; refine ⟨_, rfl, ?_⟩; have n0_ := aS (Kd.R_below (sR (Kd.R_mono (Kd.R_far (p := ⟨gb396, 1, none⟩) (Kd.R_far (p := ⟨gb396, 0, none⟩) (Kd.R_types HO_351000.out BK396.out (by decide)) (fun _ hk => hk.2) (.slice Ao99 t389.length co99)) (fun _ hk => hk.2) (.slice Ao103 t392.length co103)) (fun _ h_ => h_.1))) hb); have n1_ := aS (Kd.R_below (sR (Kd.R_mono (Kd.R_far (p := ⟨gb396, 1, none⟩) (Kd.R_far (p := ⟨gb396, 0, none⟩) (Kd.R_types HO_351001.out BK396.out (by decide)) (fun _ hk => hk.2) (.slice Ao99 t389.length co99)) (fun _ hk => hk.2) (.slice Ao103 t392.length co103)) (fun _ h_ => h_.1))) hb); have n2_ := aS (Kd.R_below (sR (Kd.R_mono (Kd.R_far (p := ⟨gb396, 1, none⟩) (Kd.R_far (p := ⟨gb396, 0, none⟩) (Kd.R_types HO_365000.out BK396.out (by decide)) (fun _ hk => hk.2) (.slice Ao99 t389.length co99)) (fun _ hk => hk.2) (.slice Ao103 t392.length co103)) (fun _ h_ => h_.1))) hb); have n3_ := aS (Kd.R_below (sR (Kd.R_mono (Kd.R_far (p := ⟨gb396, 1, none⟩) (Kd.R_far (p := ⟨gb396, 0, none⟩) (Kd.R_types HO_365001.out BK396.out (by decide)) (fun _ hk => hk.2) (.slice Ao99 t389.length co99)) (fun _ hk => hk.2) (.slice Ao103 t392.length co103)) (fun _ h_ => h_.1))) hb); have n4_ := aS (Kd.R_below (sR (Kd.R_mono (Kd.R_far (p := ⟨gb396, 1, none⟩) (Kd.R_far (p := ⟨gb396, 0, none⟩) (Kd.R_types HO385.out BK396.out (by decide)) (fun _ hk => hk.2) (.slice Ao99 t389.length co99)) (fun _ hk => hk.2) (.slice Ao103 t392.length co103)) (fun _ h_ => h_.1))) hb); have n5_ := aS (Kd.R_below (sR (Kd.R_mono (Kd.R_far (p := ⟨gb396, 1, none⟩) (Kd.R_far (p := ⟨gb396, 0, none⟩) (Kd.R_types HO388.out BK396.out (by decide)) (fun _ hk => hk.2) (.slice Ao99 t389.length co99)) (fun _ hk => hk.2) (.slice Ao103 t392.length co103)) (fun _ h_ => h_.1))) hb); have n6_ := aS (Kd.R_below (sR (Kd.R_mono (Kd.R_far (p := ⟨gb396, 1, none⟩) (Kd.R_far (p := ⟨gb396, 0, none⟩) (Kd.R_types HO391.out BK396.out (by decide)) (fun _ hk => hk.2) (.slice Ao99 t389.length co99)) (fun _ hk => hk.2) (.slice Ao103 t392.length co103)) (fun _ h_ => h_.1))) hb); have n7_ := aS (Kd.R_below (sR (Kd.R_mono (Kd.R_far (p := ⟨gb396, 1, none⟩) (Kd.R_far (p := ⟨gb396, 0, none⟩) (Kd.R_types HO394.out BK396.out (by decide)) (fun _ hk => hk.2) (.slice Ao99 t389.length co99)) (fun _ hk => hk.2) (.slice Ao103 t392.length co103)) (fun _ h_ => h_.1))) hb); have n8_ := aS (blk_below (g := gb350) (o := .cells #[.slice Ao24 t343.length co24, .slice Ao26 t346.length co26] 29 (0, 0)) (by (with_reducible repeat (first | refine blk_drewN ?_ _ | refine blk_drew ?_ | refine blk_alloc ?_ _)); refine blk_far ?_ NB350_396.out _; (with_reducible repeat (first | refine blk_drewN ?_ _ | refine blk_drew ?_ | refine blk_alloc ?_ _)); refine blk_far ?_ NB350_396.out _; (with_reducible repeat (first | refine blk_drewN ?_ _ | refine blk_drew ?_ | refine blk_alloc ?_ _)); exact BK350.out) hb); have n9_ := aS (blk_below (g := gb364) (o := .cells #[.slice Ao33 t357.length co33, .slice Ao36 t360.length co36] 29 (0, 0)) (by (with_reducible repeat (first | refine blk_drewN ?_ _ | refine blk_drew ?_ | refine blk_alloc ?_ _)); refine blk_far ?_ NB364_396.out _; (with_reducible repeat (first | refine blk_drewN ?_ _ | refine blk_drew ?_ | refine blk_alloc ?_ _)); refine blk_far ?_ NB364_396.out _; (with_reducible repeat (first | refine blk_drewN ?_ _ | refine blk_drew ?_ | refine blk_alloc ?_ _)); exact BK364.out) hb); have n10_ := aS (blk_below (g := gb396) (o := .cells #[.slice Ao99 t389.length co99, .slice Ao103 t392.length co103] 29 (0, 0)) (by (with_reducible repeat (first | refine blk_drewN ?_ _ | refine blk_drew ?_ | refine blk_alloc ?_ _)); refine blk_put (cs := #[.slice Ao99 t389.length co99, .slice none 0 0]) ?_ 1 _ rfl; (with_reducible repeat (first | refine blk_drewN ?_ _ | refine blk_drew ?_ | refine blk_alloc ?_ _)); refine blk_put (cs := #[.slice none 0 0, .slice none 0 0]) ?_ 0 _ rfl; (with_reducible repeat (first | refine blk_drewN ?_ _ | refine blk_drew ?_ | refine blk_alloc ?_ _)); exact BK396.out) hb); have n11_ := aS (below_step (sW HB.out) hb); clear HO_351000 HO_351001 HO_365000 HO_365001 HO385 HO388 HO391 HO394 BK350 BK364 BK396 HB; have HO_351000 := n0_; have HO_351001 := n1_; have HO_365000 := n2_; have HO_365001 := n3_; have HO385 := n4_; have HO388 := n5_; have HO391 := n6_; have HO394 := n7_; have BK350 := n8_; have BK364 := n9_; have BK396 := n10_; have HB := n11_; clear n0_ n1_ n2_ n3_ n4_ n5_ n6_ n7_ n8_ n9_ n10_ n11_; (try clear hb); (try clear hb2); (try clear hk); (try clear hi)))
           go_meet
           case rel => exact ⟨_, ((t395 != t349)), (by first | rfl | (simp; done) | (simp [*]; done) | (simp only [i64_w]; done) | (simp [i64_w]; done)), H', ⟨by have := HJ16.out; have := HJ63.out; first | omega | exact Nat.le_refl _⟩, ⟨by (with_reducible repeat (first | apply Kd.R_alloc | apply Kd.R_drewN | apply Kd.R_drew)); exact Kd.R_mono HO_365000.out (fun _ hk => trivial)⟩, ⟨by (with_reducible repeat (first | apply Kd.R_alloc | apply Kd.R_drewN | apply Kd.R_drew)); exact Kd.R_mono HO_365001.out (fun _ hk => trivial)⟩, ⟨by (with_reducible repeat (first | refine blk_drewN ?_ _ | refine blk_drew ?_ | refine blk_alloc ?_ _)); exact BK364.out⟩, ⟨by repeat (first | (with_reducible first | exact HB.out | apply below_alloc | apply pw_below_drewN | apply below_drew1 | refine below_set ?_ GE364.out) | exact HB.out)⟩⟩
          replace c105 := Bool.eq_false_iff.mpr c105
          subst c105
          have H1 : (laws_FnExactLongestLine.j2 kj63 t379 true t380 t381) = some r := by rw [if_neg (show ¬ (false = true) by decide)] at H; exact H
          clear H
          have H := H1
          clear H1
          have H' := aS H
          clear H
          have hnb112 := NB396_350.out
          have hnc112 := NB350_396.out
          have hnb113 := NB396_364.out
          have hnc113 := NB364_396.out
          have hcz114_0 : w98.cell? ⟨gb396, 0, none⟩ = some (.slice none 0 0) := (blk_cell BK396.out 0).trans rfl
          have hcz114_1 : w98.cell? ⟨gb396, 1, none⟩ = some (.slice none 0 0) := (blk_cell BK396.out 1).trans rfl
          have hfz114_0 := blk_frozen BK396.out 0
          have hfz114_1 := blk_frozen BK396.out 1
          have hnb115 := NB350_364.out
          have hnc115 := NB364_350.out
          have hcz116_0 : w98.cell? ⟨gb350, 0, none⟩ = some (.slice Ao24 t343.length co24) := (blk_cell BK350.out 0).trans rfl
          have hcz116_1 : w98.cell? ⟨gb350, 1, none⟩ = some (.slice Ao26 t346.length co26) := (blk_cell BK350.out 1).trans rfl
          have hfz116_0 := blk_frozen BK350.out 0
          have hfz116_1 := blk_frozen BK350.out 1
          go_wp2_with (first | ((with_reducible refine gate_callee (f := 13) rfl ?_); refine goesL_ (some 109) rfl rfl Try.func13 (by kernel_rfl) rfl #[.agg #[.slice Ao99 t389.length co99, .slice Ao103 t392.length co103], .agg #[.slice Ao24 t343.length co24, .slice Ao26 t346.length co26]] rfl sG ?_; (with_reducible refine (laws_eqLine.calls kj63 _ _ t389 _ _ t392 _ _ t343 _ _ t346 false _ ?side1 ?side2 ?side3 ?side4 ?side5 ?side6 ?side7 ?side8 A104.out).mono ?_); (case side1 => refine (Kd.R_reads' (e := 45) (base := w.heap.size) (ok := fun k_ => (((True ∧ some k_ ≠ (.slice Ao24 t343.length co24 : Value).ownBlock) ∧ some k_ ≠ (.slice Ao33 t357.length co33 : Value).ownBlock) ∧ some k_ ≠ (.slice Ao96 t386.length co96 : Value).ownBlock)) (n := t389.length) (c := co99) ?_).2.2; exact (sR (Kd.R_mono (Kd.R_far (p := ⟨gb396, 1, none⟩) (Kd.R_far (p := ⟨gb396, 0, none⟩) (Kd.R_types HO391.out BK396.out (by decide)) (fun _ hk => hk.2) (.slice Ao99 t389.length co99)) (fun _ hk => hk.2) (.slice Ao103 t392.length co103)) (fun _ h_ => h_.1)))); (case side2 => exact (Kd.R_reads' HO391.out).2.1); (case side3 => refine (Kd.R_reads' (e := 2) (base := w.heap.size) (ok := fun k_ => ((True ∧ some k_ ≠ (.slice Ao26 t346.length co26 : Value).ownBlock) ∧ some k_ ≠ (.slice Ao36 t360.length co36 : Value).ownBlock)) (n := t392.length) (c := co103) ?_).2.2; exact (sR (Kd.R_mono (Kd.R_far (p := ⟨gb396, 1, none⟩) (Kd.R_far (p := ⟨gb396, 0, none⟩) (Kd.R_types HO394.out BK396.out (by decide)) (fun _ hk => hk.2) (.slice Ao99 t389.length co99)) (fun _ hk => hk.2) (.slice Ao103 t392.length co103)) (fun _ h_ => h_.1)))); (case side4 => exact (Kd.R_reads' HO394.out).2.1); (case side5 => refine (Kd.R_reads' (e := 45) (base := w.heap.size) (ok := fun k_ => ((some k_ ≠ (.slice Ao33 t357.length co33 : Value).ownBlock ∧ some k_ ≠ (.slice Ao96 t386.length co96 : Value).ownBlock) ∧ some k_ ≠ (.slice Ao99 t389.length co99 : Value).ownBlock)) (n := t343.length) (c := co24) ?_).2.2; exact (sR (Kd.R_mono (Kd.R_far (p := ⟨gb396, 1, none⟩) (Kd.R_far (p := ⟨gb396, 0, none⟩) (Kd.R_types HO_351000.out BK396.out (by decide)) (fun _ hk => hk.2) (.slice Ao99 t389.length co99)) (fun _ hk => hk.2) (.slice Ao103 t392.length co103)) (fun _ h_ => h_.1)))); (case side6 => exact (Kd.R_reads' HO_351000.out).2.1); (case side7 => refine (Kd.R_reads' (e := 2) (base := w.heap.size) (ok := fun k_ => (some k_ ≠ (.slice Ao36 t360.length co36 : Value).ownBlock ∧ some k_ ≠ (.slice Ao103 t392.length co103 : Value).ownBlock)) (n := t346.length) (c := co26) ?_).2.2; exact (sR (Kd.R_mono (Kd.R_far (p := ⟨gb396, 1, none⟩) (Kd.R_far (p := ⟨gb396, 0, none⟩) (Kd.R_types HO_351001.out BK396.out (by decide)) (fun _ hk => hk.2) (.slice Ao99 t389.length co99)) (fun _ hk => hk.2) (.slice Ao103 t392.length co103)) (fun _ h_ => h_.1)))); (case side8 => exact (Kd.R_reads' HO_351001.out).2.1); rintro e w117 ⟨rfl, hb⟩; refine ⟨_, rfl, ?_⟩; have n0_ := aS (Kd.R_below (sR (Kd.R_mono (Kd.R_far (p := ⟨gb396, 1, none⟩) (Kd.R_far (p := ⟨gb396, 0, none⟩) (Kd.R_types HO_351000.out BK396.out (by decide)) (fun _ hk => hk.2) (.slice Ao99 t389.length co99)) (fun _ hk => hk.2) (.slice Ao103 t392.length co103)) (fun _ h_ => h_.1))) hb); have n1_ := aS (Kd.R_below (sR (Kd.R_mono (Kd.R_far (p := ⟨gb396, 1, none⟩) (Kd.R_far (p := ⟨gb396, 0, none⟩) (Kd.R_types HO_351001.out BK396.out (by decide)) (fun _ hk => hk.2) (.slice Ao99 t389.length co99)) (fun _ hk => hk.2) (.slice Ao103 t392.length co103)) (fun _ h_ => h_.1))) hb); have n2_ := aS (Kd.R_below (sR (Kd.R_mono (Kd.R_far (p := ⟨gb396, 1, none⟩) (Kd.R_far (p := ⟨gb396, 0, none⟩) (Kd.R_types HO_365000.out BK396.out (by decide)) (fun _ hk => hk.2) (.slice Ao99 t389.length co99)) (fun _ hk => hk.2) (.slice Ao103 t392.length co103)) (fun _ h_ => h_.1))) hb); have n3_ := aS (Kd.R_below (sR (Kd.R_mono (Kd.R_far (p := ⟨gb396, 1, none⟩) (Kd.R_far (p := ⟨gb396, 0, none⟩) (Kd.R_types HO_365001.out BK396.out (by decide)) (fun _ hk => hk.2) (.slice Ao99 t389.length co99)) (fun _ hk => hk.2) (.slice Ao103 t392.length co103)) (fun _ h_ => h_.1))) hb); have n4_ := aS (Kd.R_below (sR (Kd.R_mono (Kd.R_far (p := ⟨gb396, 1, none⟩) (Kd.R_far (p := ⟨gb396, 0, none⟩) (Kd.R_types HO385.out BK396.out (by decide)) (fun _ hk => hk.2) (.slice Ao99 t389.length co99)) (fun _ hk => hk.2) (.slice Ao103 t392.length co103)) (fun _ h_ => h_.1))) hb); have n5_ := aS (Kd.R_below (sR (Kd.R_mono (Kd.R_far (p := ⟨gb396, 1, none⟩) (Kd.R_far (p := ⟨gb396, 0, none⟩) (Kd.R_types HO388.out BK396.out (by decide)) (fun _ hk => hk.2) (.slice Ao99 t389.length co99)) (fun _ hk => hk.2) (.slice Ao103 t392.length co103)) (fun _ h_ => h_.1))) hb); have n6_ := aS (Kd.R_below (sR (Kd.R_mono (Kd.R_far (p := ⟨gb396, 1, none⟩) (Kd.R_far (p := ⟨gb396, 0, none⟩) (Kd.R_types HO391.out BK396.out (by decide)) (fun _ hk => hk.2) (.slice Ao99 t389.length co99)) (fun _ hk => hk.2) (.slice Ao103 t392.length co103)) (fun _ h_ => h_.1))) hb); have n7_ := aS (Kd.R_below (sR (Kd.R_mono (Kd.R_far (p := ⟨gb396, 1, none⟩) (Kd.R_far (p := ⟨gb396, 0, none⟩) (Kd.R_types HO394.out BK396.out (by decide)) (fun _ hk => hk.2) (.slice Ao99 t389.length co99)) (fun _ hk => hk.2) (.slice Ao103 t392.length co103)) (fun _ h_ => h_.1))) hb); have n8_ := aS (blk_below (g := gb350) (o := .cells #[.slice Ao24 t343.length co24, .slice Ao26 t346.length co26] 29 (0, 0)) (by (with_reducible repeat (first | refine blk_drewN ?_ _ | refine blk_drew ?_ | refine blk_alloc ?_ _)); refine blk_far ?_ NB350_396.out _; (with_reducible repeat (first | refine blk_drewN ?_ _ | refine blk_drew ?_ | refine blk_alloc ?_ _)); refine blk_far ?_ NB350_396.out _; (with_reducible repeat (first | refine blk_drewN ?_ _ | refine blk_drew ?_ | refine blk_alloc ?_ _)); exact BK350.out) hb); have n9_ := aS (blk_below (g := gb364) (o := .cells #[.slice Ao33 t357.length co33, .slice Ao36 t360.length co36] 29 (0, 0)) (by (with_reducible repeat (first | refine blk_drewN ?_ _ | refine blk_drew ?_ | refine blk_alloc ?_ _)); refine blk_far ?_ NB364_396.out _; (with_reducible repeat (first | refine blk_drewN ?_ _ | refine blk_drew ?_ | refine blk_alloc ?_ _)); refine blk_far ?_ NB364_396.out _; (with_reducible repeat (first | refine blk_drewN ?_ _ | refine blk_drew ?_ | refine blk_alloc ?_ _)); exact BK364.out) hb); have n10_ := aS (blk_below (g := gb396) (o := .cells #[.slice Ao99 t389.length co99, .slice Ao103 t392.length co103] 29 (0, 0)) (by (with_reducible repeat (first | refine blk_drewN ?_ _ | refine blk_drew ?_ | refine blk_alloc ?_ _)); refine blk_put (cs := #[.slice Ao99 t389.length co99, .slice none 0 0]) ?_ 1 _ rfl; (with_reducible repeat (first | refine blk_drewN ?_ _ | refine blk_drew ?_ | refine blk_alloc ?_ _)); refine blk_put (cs := #[.slice none 0 0, .slice none 0 0]) ?_ 0 _ rfl; (with_reducible repeat (first | refine blk_drewN ?_ _ | refine blk_drew ?_ | refine blk_alloc ?_ _)); exact BK396.out) hb); have n11_ := aS (below_step (sW HB.out) hb); clear HO_351000 HO_351001 HO_365000 HO_365001 HO385 HO388 HO391 HO394 BK350 BK364 BK396 HB; have HO_351000 := n0_; have HO_351001 := n1_; have HO_365000 := n2_; have HO_365001 := n3_; have HO385 := n4_; have HO388 := n5_; have HO391 := n6_; have HO394 := n7_; have BK350 := n8_; have BK364 := n9_; have BK396 := n10_; have HB := n11_; clear n0_ n1_ n2_ n3_ n4_ n5_ n6_ n7_ n8_ n9_ n10_ n11_; (try clear hb); (try clear hb2); (try clear hk); (try clear hi)))
          go_meet
          case rel => exact ⟨_, (true), (by first | rfl | (simp; done) | (simp [*]; done) | (simp only [i64_w]; done) | (simp [i64_w]; done)), H', ⟨by have := HJ16.out; have := HJ63.out; first | omega | exact Nat.le_refl _⟩, ⟨by (with_reducible repeat (first | apply Kd.R_alloc | apply Kd.R_drewN | apply Kd.R_drew)); exact Kd.R_mono HO_365000.out (fun _ hk => trivial)⟩, ⟨by (with_reducible repeat (first | apply Kd.R_alloc | apply Kd.R_drewN | apply Kd.R_drew)); exact Kd.R_mono HO_365001.out (fun _ hk => trivial)⟩, ⟨by (with_reducible repeat (first | refine blk_drewN ?_ _ | refine blk_drew ?_ | refine blk_alloc ?_ _)); exact BK364.out⟩, ⟨by repeat (first | (with_reducible first | exact HB.out | apply below_alloc | apply pw_below_drewN | apply below_drew1 | refine below_set ?_ GE364.out) | exact HB.out)⟩⟩
         case rest =>
          clear HC92
          (try clear c1); (try clear p2); (try clear c3); (try clear c4); (try clear c5); (try clear c6); (try clear c7); (try clear c7b0); (try clear c7b2); (try clear c8); (try clear c9); (try clear c10); (try clear c10b0); (try clear c10b2); (try clear c11); (try clear c12); (try clear c13); (try clear c14); (try clear c15); (try clear c16); (try clear c17); (try clear c18); (try clear c19); (try clear c34); (try clear c38); (try clear c39); (try clear c43); (try clear c47); (try clear c54); (try clear c61); (try clear c67); (try clear c67b0); (try clear c67b2); (try clear c69); (try clear c70); (try clear c74); (try clear c78); (try clear c82); (try clear c87); (try clear c87b0); (try clear c87b2); (try clear c88); (try clear c88b0); (try clear c88b1); (try clear c100); (try clear c101); (try clear c105); (try clear c106); (try clear c107); (try clear c109); (try clear c112); (try clear c113); (try clear c115); (try clear hcz102_0); (try clear hcz102_1); (try clear hcz108_0); (try clear hcz108_1); (try clear hcz110_0); (try clear hcz110_1); (try clear hcz114_0); (try clear hcz114_1); (try clear hcz116_0); (try clear hcz116_1); (try clear hcz25_0); (try clear hcz25_1); (try clear hcz35_0); (try clear hcz35_1); (try clear hcz40_0); (try clear hcz40_1); (try clear hcz41_0); (try clear hcz41_1); (try clear hcz44_0); (try clear hcz44_1); (try clear hcz45_0); (try clear hcz45_1); (try clear hcz71_0); (try clear hcz71_1); (try clear hcz72_0); (try clear hcz72_1); (try clear hcz75_0); (try clear hcz75_1); (try clear hcz76_0); (try clear hcz76_1); (try clear hcz83_0); (try clear hcz83_1); (try clear hcz85_0); (try clear hcz85_1); (try clear hfz102_0); (try clear hfz102_1); (try clear hfz108_0); (try clear hfz108_1); (try clear hfz110_0); (try clear hfz110_1); (try clear hfz114_0); (try clear hfz114_1); (try clear hfz116_0); (try clear hfz116_1); (try clear hfz25_0); (try clear hfz25_1); (try clear hfz35_0); (try clear hfz35_1); (try clear hfz40_0); (try clear hfz40_1); (try clear hfz41_0); (try clear hfz41_1); (try clear hfz44_0); (try clear hfz44_1); (try clear hfz45_0); (try clear hfz45_1); (try clear hfz71_0); (try clear hfz71_1); (try clear hfz72_0); (try clear hfz72_1); (try clear hfz75_0); (try clear hfz75_1); (try clear hfz76_0); (try clear hfz76_1); (try clear hfz83_0); (try clear hfz83_1); (try clear hfz85_0); (try clear hfz85_1); (try clear p2)
          obtain ⟨kq, x115_91, rfl, HA, HJ91, HO_365000, HO_365001, BK364, HB⟩ := hcut
          have hl365000_91 := (Kd.R_reads' HO_365000.out).1
          rw [hl365000_91] at HO_365000
          (try simp only [hl365000_91])
          (try simp only [hl365000_91] at BK364)
          (try simp only [hl365000_91] at HO_365001)
          have hl365001_91 := (Kd.R_reads' HO_365001.out).1
          rw [hl365001_91] at HO_365001
          (try simp only [hl365001_91])
          (try simp only [hl365001_91] at BK364)
          (try simp only [hl365001_91] at HO_365000)
          cases kq with
          | zero => exact absurd HA.out (by simp [laws_FnExactLongestLine.j2])
          | succ kj91 =>
           have H := HA.out
           clear HA
           simp only [laws_FnExactLongestLine.j2] at H
           by_cases c118 : x115_91 = true
           ·
            subst c118
            have H1 : (some false) = some r := by rw [if_pos rfl] at H; exact H
            clear H
            have H := H1
            clear H1
            obtain rfl := Option.some.inj H
            go_wp2
            go_ret
            exact ⟨by first | rfl | (simp [errW_none, errW_some, i64_w]; done) | (simp [errW_none, errW_some] <;> rfl) | (simp [*, errW_none, errW_some] <;> rfl), by repeat (first | (with_reducible first | exact HB.out | apply below_alloc | apply pw_below_drewN | apply below_drew1) | exact HB.out)⟩
           replace c118 := Bool.eq_false_iff.mpr c118
           subst c118
           have H1 : ((laws_heldLine.f kj91 t380 t381 1).bind fun t398 => (if t398 < 0 then (some false) else (if t398 = t379 then (some true) else (some false)))) = some r := by rw [if_neg (show ¬ (false = true) by decide)] at H; exact H
           clear H
           have H := H1
           clear H1
           replace H := Option.bind_eq_some_iff.mp H
           obtain ⟨t398, A1190, H⟩ := H
           replace H : (if t398 < 0 then (some false) else (if t398 = t379 then (some true) else (some false))) = some r := H
           have A119 := aS A1190
           clear A1190
           have HC120 := aS H
           clear H
           have hcz121_0 : wc.cell? ⟨gb364, 0, none⟩ = some (.slice Ao33 t380.length co33) := (blk_cell BK364.out 0).trans rfl
           have hcz121_1 : wc.cell? ⟨gb364, 1, none⟩ = some (.slice Ao36 t381.length co36) := (blk_cell BK364.out 1).trans rfl
           have hfz121_0 := blk_frozen BK364.out 0
           have hfz121_1 := blk_frozen BK364.out 1
           go_upto_if 120 with (first | ((with_reducible refine gate_callee (f := 19) rfl ?_); refine goesL_ (some 118) rfl rfl Try.func19 (by kernel_rfl) rfl #[.agg #[.slice Ao33 t380.length co33, .slice Ao36 t381.length co36], .int .i64 1] rfl sG ?_; (with_reducible refine (laws_heldLine.calls kj91 _ _ t380 _ _ t381 1 t398 _ ?side1 ?side2 ?side3 ?side4 A119.out).mono ?_); (case side1 => exact sC (Kd.R_reads' HO_365000.out).2.2); (case side2 => exact (Kd.R_reads' HO_365000.out).2.1); (case side3 => exact sC (Kd.R_reads' HO_365001.out).2.2); (case side4 => exact (Kd.R_reads' HO_365001.out).2.1); rintro e w122 ⟨rfl, hb⟩; refine ⟨_, rfl, ?_⟩; have n0_ := aS (Kd.R_below (sR HO_365000.out) hb); have n1_ := aS (Kd.R_below (sR HO_365001.out) hb); have n2_ := aS (blk_below (g := gb364) (o := .cells #[.slice Ao33 t380.length co33, .slice Ao36 t381.length co36] 29 (0, 0)) (sB BK364.out) hb); have n3_ := aS (below_step (sW HB.out) hb); clear HO_365000 HO_365001 BK364 HB; have HO_365000 := n0_; have HO_365001 := n1_; have BK364 := n2_; have HB := n3_; clear n0_ n1_ n2_ n3_; (try clear hb); (try clear hb2); (try clear hk); (try clear hi)))
           (try simp only [Act.put, List.setIfInBounds_toArray, List.set_cons_zero, List.set_cons_succ])
           have H := HC120.out
           clear HC120
           by_cases c123 : t398 < 0
           ·
            rw [if_pos c123] at H
            have c123b0 : decide (t398 < 0) = true := decide_eq_true c123
            clear c123
            (first | rw [c123b0] | (simp only [i64_w, i32_w]; rw [c123b0]) | (rw [c123b2]; simp only [Bool.not_false, Bool.not_true]) | skip)
            obtain rfl := Option.some.inj H
            go_wp2
            go_ret
            exact ⟨by first | rfl | (simp [errW_none, errW_some, i64_w]; done) | (simp [errW_none, errW_some] <;> rfl) | (simp [*, errW_none, errW_some] <;> rfl), by repeat (first | (with_reducible first | exact HB.out | apply below_alloc | apply pw_below_drewN | apply below_drew1) | exact HB.out)⟩
           rw [if_neg c123] at H
           have c123b0 : decide (t398 < 0) = false := decide_eq_false c123
           clear c123
           (first | rw [c123b0] | (simp only [i64_w, i32_w]; rw [c123b0]) | (rw [c123b2]; simp only [Bool.not_false, Bool.not_true]) | skip)
           by_cases c124 : t398 = t379
           rotate_left
           ·
            rw [if_neg c124] at H
            have c124b0 : (t398 == t379) = false := beq_eq_false_iff_ne.mpr c124
            have c124b1 : (t398 != t379) = true := bne_iff_ne.mpr c124
            obtain rfl := Option.some.inj H
            go_wp2
            go_ret
            exact ⟨by first | rfl | (simp [errW_none, errW_some, i64_w]; done) | (simp [errW_none, errW_some] <;> rfl) | (simp [*, errW_none, errW_some] <;> rfl), by repeat (first | (with_reducible first | exact HB.out | apply below_alloc | apply pw_below_drewN | apply below_drew1) | exact HB.out)⟩
           rw [if_pos c124] at H
           have c124b0 : (t398 == t379) = true := beq_iff_eq.mpr c124
           have c124b1 : (t398 != t379) = false := bne_eq_false_iff_eq.mpr c124
           clear c124
           obtain rfl := Option.some.inj H
           go_wp2
           go_ret
           exact ⟨by first | rfl | (simp [errW_none, errW_some, i64_w]; done) | (simp [errW_none, errW_some] <;> rfl) | (simp [*, errW_none, errW_some] <;> rfl), by repeat (first | (with_reducible first | exact HB.out | apply below_alloc | apply pw_below_drewN | apply below_drew1) | exact HB.out)⟩
      ·
       replace c54 := Bool.eq_false_iff.mpr c54
       subst c54
       have H1 : (some false) = some r := by rw [if_neg (show ¬ (false = true) by decide)] at H; exact H
       clear H
       have H := H1
       clear H1
       obtain rfl := Option.some.inj H
       go_wp2
       go_ret
       exact ⟨by first | rfl | (simp [errW_none, errW_some, i64_w]; done) | (simp [errW_none, errW_some] <;> rfl) | (simp [*, errW_none, errW_some] <;> rfl), by repeat (first | (with_reducible first | exact HB.out | apply below_alloc | apply pw_below_drewN | apply below_drew1) | exact HB.out)⟩

/-- THE ONE PURE STATEMENT of laws_FnExactLongestLine. -/
def laws_FnExactLongestLine.Pure : Prop := ∀ (l0 : List (S78)) (l1 : List (S83)) (a2 : Int), (l0.length * 32 ≤ 140737488351232 ∧ l0.length ≤ maxLen ∧ (∀ y0 ∈ l0, (y0.f0.size ≤ 140737488351232) ∧ ((Lit.int .i64 y0.f1).wf = true) ∧ ((Lit.int .i64 y0.f2).wf = true))) → (l1.length * 16 ≤ 140737488351232 ∧ l1.length ≤ maxLen ∧ (∀ y0 ∈ l1, ((Lit.int .i64 y0.f0).wf = true) ∧ ((Lit.int .i64 y0.f1).wf = true))) → ((Lit.int .i64 a2).wf = true) → ∃ k, laws_FnExactLongestLine.f k l0 l1 a2 = some true
theorem laws_FnExactLongestLine.walk : True := trivial

end Go.Proofs.Ytginmioklkcgbaa.QFnExactLongestLine

/- What the Go functions of this law compute, each as a Lean function, and that each call comes to that answer; written by a program of this session. No condition. -/
import Derived.Test.YtjhlliacgkjhaaaQFnSpringsx0
import Derived.Test.YtjhlliacgkjhaaaQFnSpringsx1
import Derived.Test.YtjhlliacgkjhaaaQFnSpringsx2
import Derived.Test.YtjhlliacgkjhaaaQFnSpringsx3
import Derived.Test.YtjhlliacgkjhaaaQFnSpringsx4
namespace Go.Proofs.Ytjhlliacgkjhaaa.QFnSprings
open Go.RowKit Go.Proofs.YtjhlliacgkjhaaaW.PrintWords Go.Proofs.YtjhlliacgkjhaaaW.PrintLast Go.Proofs.YtjhlliacgkjhaaaW.PrintMore
attribute [local go_sem] max2_int min2_int max_two min_two max_three min_three max_four min_four   -- for this text's walks alone
set_option linter.unusedVariables false
set_option linter.unusedSimpArgs false

attribute [local go_sem high] eqA30
/-! ### laws_FnSprings: function 3 -/
mutual
def laws_FnSprings.j0 : Nat → List Int → Int → Bool → Int → Int → Option (Bool)
 | 0, _, _, _, _, _ => none
 | k + 1, x1, x7, x84, x206000, x206001 => if x84 = true then (some false) else ((laws_a2At.f x1 1 130).bind fun t219 => ((impl_SpringForce.f k x206000 x206001 t219).bind fun bt220 => (if bt220.2.2 = 0 then (if bt220.2.1 < 1 then (laws_FnSprings.j1 k x7 t219 true x206000 x206001 bt220.1 bt220.2.1) else (if bt220.2.1 > 60 then (laws_FnSprings.j1 k x7 t219 true x206000 x206001 bt220.1 bt220.2.1) else (laws_FnSprings.j1 k x7 t219 (decide (bt220.1 < 0)) x206000 x206001 bt220.1 bt220.2.1))) else (laws_FnSprings.j1 k x7 t219 true x206000 x206001 bt220.1 bt220.2.1))))
def laws_FnSprings.j1 : Nat → Int → Int → Bool → Int → Int → Int → Int → Option (Bool)
 | 0, _, _, _, _, _, _, _ => none
 | k + 1, x7, x12, x109, x206000, x206001, x224000, x224001 => if x109 = true then (some false) else (if x12 ≤ x206000 then (if x224000 = 0 then (if x12 > x206000 then (laws_FnSprings.j2 k x7 x12 ((wrap64 (x224000 * x206000)) != (wrap64 ((wrap64 (x206001 * (wrap64 (x12 - x206000)))) * x224001))) x206000 x206001) else (laws_FnSprings.j2 k x7 x12 false x206000 x206001)) else (laws_FnSprings.j2 k x7 x12 true x206000 x206001)) else (if x12 > x206000 then (laws_FnSprings.j2 k x7 x12 ((wrap64 (x224000 * x206000)) != (wrap64 ((wrap64 (x206001 * (wrap64 (x12 - x206000)))) * x224001))) x206000 x206001) else (laws_FnSprings.j2 k x7 x12 false x206000 x206001)))
def laws_FnSprings.j2 : Nat → Int → Int → Bool → Int → Int → Option (Bool)
 | 0, _, _, _, _, _ => none
 | k + 1, x7, x12, x142, x206000, x206001 => if x142 = true then (some false) else ((impl_EvenStiff.f k x206000 x7 (wrap64 (x12 + 1))).bind fun bt224 => (if bt224.2 = 0 then (if bt224.1 ≥ 1 then (if bt224.1 ≤ 1000 then (if (mx 0 (wrap64 (bt224.1 * (wrap64 ((wrap64 (x12 + 1)) - x206000))))) ≥ (wrap64 (x7 * x206000)) then (if bt224.1 = 1 then (some true) else (some (decide ((mx 0 (wrap64 ((wrap64 (bt224.1 - 1)) * (wrap64 ((wrap64 (x12 + 1)) - x206000))))) < (wrap64 (x7 * x206000)))))) else (some false)) else (some false)) else (some false)) else (if bt224.2 = 3 then (some (decide ((mx 0 (wrap64 (1000 * (wrap64 ((wrap64 (x12 + 1)) - x206000))))) < (wrap64 (x7 * x206000))))) else (some false))))
end
def laws_FnSprings.f (k : Nat) (l0 : List Int) (l1 : List Int) : Option (Bool) := (laws_a2Long.f l0 l1).bind fun t200 => (if t200 = true then (some true) else ((spec_A2Springs.f k l0).bind fun t201 => (if 0 < (t201.length : Int) then ((laws_a2At.f l1 0 200).bind fun t206 => ((impl_SpringLength.f k ((rd_T27 t201 0).f0) ((rd_T27 t201 0).f1) (wrap64 (t206 * 5))).bind fun bt207 => (if 1 ≤ (t201.length : Int) then ((impl_SeriesLength.f k (t201.take 1) (wrap64 (t206 * 5))).bind fun bt215 => (if bt207.2.2 = 0 then (if bt207.2.1 < 1 then (laws_FnSprings.j0 k l1 (wrap64 (t206 * 5)) true ((rd_T27 t201 0).f0) ((rd_T27 t201 0).f1)) else (if bt207.2.1 > 1000 then (laws_FnSprings.j0 k l1 (wrap64 (t206 * 5)) true ((rd_T27 t201 0).f0) ((rd_T27 t201 0).f1)) else (if bt207.1 > 100000000 then (laws_FnSprings.j0 k l1 (wrap64 (t206 * 5)) true ((rd_T27 t201 0).f0) ((rd_T27 t201 0).f1)) else (if (wrap64 (bt207.1 * ((rd_T27 t201 0).f1))) = (wrap64 ((wrap64 (((rd_T27 t201 0).f0) * (wrap64 (((rd_T27 t201 0).f1) + (wrap64 (t206 * 5)))))) * bt207.2.1)) then (if bt215.2.2 = 0 then (laws_FnSprings.j0 k l1 (wrap64 (t206 * 5)) (!(bt215.1 == bt207.1) || (!(bt215.2.1 == bt207.2.1))) ((rd_T27 t201 0).f0) ((rd_T27 t201 0).f1)) else (laws_FnSprings.j0 k l1 (wrap64 (t206 * 5)) true ((rd_T27 t201 0).f0) ((rd_T27 t201 0).f1))) else (laws_FnSprings.j0 k l1 (wrap64 (t206 * 5)) true ((rd_T27 t201 0).f0) ((rd_T27 t201 0).f1)))))) else (laws_FnSprings.j0 k l1 (wrap64 (t206 * 5)) true ((rd_T27 t201 0).f0) ((rd_T27 t201 0).f1)))) else (none)))) else (none))))
theorem laws_FnSprings.mono_l : ∀ k, (∀ y0 y1 y2 y3 y4, LeO (laws_FnSprings.j0 k y0 y1 y2 y3 y4) (laws_FnSprings.j0 (k + 1) y0 y1 y2 y3 y4)) ∧ (∀ y0 y1 y2 y3 y4 y5 y6, LeO (laws_FnSprings.j1 k y0 y1 y2 y3 y4 y5 y6) (laws_FnSprings.j1 (k + 1) y0 y1 y2 y3 y4 y5 y6)) ∧ (∀ y0 y1 y2 y3 y4, LeO (laws_FnSprings.j2 k y0 y1 y2 y3 y4) (laws_FnSprings.j2 (k + 1) y0 y1 y2 y3 y4))
 | 0 => ⟨fun _ _ _ _ _ r h => by simp [laws_FnSprings.j0] at h, fun _ _ _ _ _ _ _ r h => by simp [laws_FnSprings.j1] at h, fun _ _ _ _ _ r h => by simp [laws_FnSprings.j2] at h⟩
 | k + 1 => by
  obtain ⟨ih0, ih1, ih2⟩ := laws_FnSprings.mono_l k
  refine ⟨?_, ?_, ?_⟩
  ·
   intro y0 y1 y2 y3 y4
   unfold laws_FnSprings.j0
   repeat' first
   | (with_reducible exact ih0 _ _ _ _ _)
   | (with_reducible exact ih1 _ _ _ _ _ _ _)
   | (with_reducible exact ih2 _ _ _ _ _)
   | (with_reducible exact impl_EvenStiff.mono _ _ _ _)
   | (with_reducible exact impl_SeriesLength.mono _ _ _)
   | (with_reducible exact impl_SpringForce.mono _ _ _ _)
   | (with_reducible exact impl_SpringLength.mono _ _ _ _)
   | (with_reducible exact spec_A2Springs.mono _ _)
   | (with_reducible exact LeO.refl _)
   | (with_reducible exact LeO.none _)
   | (with_reducible refine LeO.ite ?_ ?_)
   | (with_reducible refine LeO.bind ?_ (fun _ => ?_))
   | exact ih0 _ _ _ _ _
   | exact ih1 _ _ _ _ _ _ _
   | exact ih2 _ _ _ _ _
   | exact impl_EvenStiff.mono _ _ _ _
   | exact impl_SeriesLength.mono _ _ _
   | exact impl_SpringForce.mono _ _ _ _
   | exact impl_SpringLength.mono _ _ _ _
   | exact spec_A2Springs.mono _ _
   | exact LeO.none _
   | refine LeO.ite ?_ ?_
   | refine LeO.bind ?_ (fun _ => ?_)
  ·
   intro y0 y1 y2 y3 y4 y5 y6
   unfold laws_FnSprings.j1
   repeat' first
   | (with_reducible exact ih0 _ _ _ _ _)
   | (with_reducible exact ih1 _ _ _ _ _ _ _)
   | (with_reducible exact ih2 _ _ _ _ _)
   | (with_reducible exact impl_EvenStiff.mono _ _ _ _)
   | (with_reducible exact impl_SeriesLength.mono _ _ _)
   | (with_reducible exact impl_SpringForce.mono _ _ _ _)
   | (with_reducible exact impl_SpringLength.mono _ _ _ _)
   | (with_reducible exact spec_A2Springs.mono _ _)
   | (with_reducible exact LeO.refl _)
   | (with_reducible exact LeO.none _)
   | (with_reducible refine LeO.ite ?_ ?_)
   | (with_reducible refine LeO.bind ?_ (fun _ => ?_))
   | exact ih0 _ _ _ _ _
   | exact ih1 _ _ _ _ _ _ _
   | exact ih2 _ _ _ _ _
   | exact impl_EvenStiff.mono _ _ _ _
   | exact impl_SeriesLength.mono _ _ _
   | exact impl_SpringForce.mono _ _ _ _
   | exact impl_SpringLength.mono _ _ _ _
   | exact spec_A2Springs.mono _ _
   | exact LeO.none _
   | refine LeO.ite ?_ ?_
   | refine LeO.bind ?_ (fun _ => ?_)
  ·
   intro y0 y1 y2 y3 y4
   unfold laws_FnSprings.j2
   repeat' first
   | (with_reducible exact ih0 _ _ _ _ _)
   | (with_reducible exact ih1 _ _ _ _ _ _ _)
   | (with_reducible exact ih2 _ _ _ _ _)
   | (with_reducible exact impl_EvenStiff.mono _ _ _ _)
   | (with_reducible exact impl_SeriesLength.mono _ _ _)
   | (with_reducible exact impl_SpringForce.mono _ _ _ _)
   | (with_reducible exact impl_SpringLength.mono _ _ _ _)
   | (with_reducible exact spec_A2Springs.mono _ _)
   | (with_reducible exact LeO.refl _)
   | (with_reducible exact LeO.none _)
   | (with_reducible refine LeO.ite ?_ ?_)
   | (with_reducible refine LeO.bind ?_ (fun _ => ?_))
   | exact ih0 _ _ _ _ _
   | exact ih1 _ _ _ _ _ _ _
   | exact ih2 _ _ _ _ _
   | exact impl_EvenStiff.mono _ _ _ _
   | exact impl_SeriesLength.mono _ _ _
   | exact impl_SpringForce.mono _ _ _ _
   | exact impl_SpringLength.mono _ _ _ _
   | exact spec_A2Springs.mono _ _
   | exact LeO.none _
   | refine LeO.ite ?_ ?_
   | refine LeO.bind ?_ (fun _ => ?_)
theorem laws_FnSprings.mono : ∀ a0 a1 k, LeO (laws_FnSprings.f k a0 a1) (laws_FnSprings.f (k + 1) a0 a1) := by
 intro a0 a1 k
 obtain ⟨ih0, ih1, ih2⟩ := laws_FnSprings.mono_l k
 unfold laws_FnSprings.f
 repeat' first
   | (with_reducible exact ih0 _ _ _ _ _)
   | (with_reducible exact ih1 _ _ _ _ _ _ _)
   | (with_reducible exact ih2 _ _ _ _ _)
   | (with_reducible exact impl_EvenStiff.mono _ _ _ _)
   | (with_reducible exact impl_SeriesLength.mono _ _ _)
   | (with_reducible exact impl_SpringForce.mono _ _ _ _)
   | (with_reducible exact impl_SpringLength.mono _ _ _ _)
   | (with_reducible exact spec_A2Springs.mono _ _)
   | (with_reducible exact LeO.refl _)
   | (with_reducible exact LeO.none _)
   | (with_reducible refine LeO.ite ?_ ?_)
   | (with_reducible refine LeO.bind ?_ (fun _ => ?_))
   | exact ih0 _ _ _ _ _
   | exact ih1 _ _ _ _ _ _ _
   | exact ih2 _ _ _ _ _
   | exact impl_EvenStiff.mono _ _ _ _
   | exact impl_SeriesLength.mono _ _ _
   | exact impl_SpringForce.mono _ _ _ _
   | exact impl_SpringLength.mono _ _ _ _
   | exact spec_A2Springs.mono _ _
   | exact LeO.none _
   | refine LeO.ite ?_ ?_
   | refine LeO.bind ?_ (fun _ => ?_)
def laws_FnSprings.bF (n k : Nat) : Array Bool := ((List.range n).map fun i => k.testBit i).toArray
set_option maxHeartbeats 8000000 in
set_option maxRecDepth 100000 in
theorem laws_FnSprings.calls (k : Nat) (A0 : Option Addr) (c0 : Nat) (l0 : List Int) (A1 : Option Addr) (c1 : Nat) (l1 : List Int) (r : Bool) (w : World) (hr0 : Kd.C (Kd.int .u8) w A0 l0.length l0) (hc0 : l0.length ≤ c0) (hr1 : Kd.C (Kd.int .u8) w A1 l1.length l1) (hc1 : l1.length ≤ c1) (h : laws_FnSprings.f k l0 l1 = some r) :
  Calls Try.prog 3 #[.slice A0 l0.length c0, .slice A1 l1.length c1] w fun e w' => e = .returned (.bool r) ∧ Below w.heap.size w w' := by
 have hu27 := Try.underlying27
 have hu30 := Try.underlying30
 have HR0 := aS hr0
 have HC0 := aS hc0
 clear hr0 hc0
 have HR1 := aS hr1
 have HC1 := aS hc1
 clear hr1 hc1
 have HB := aS (Below.refl w.heap.size w)
 have H : ((laws_a2Long.f l0 l1).bind fun t200 => (if t200 = true then (some true) else ((spec_A2Springs.f k l0).bind fun t201 => (if 0 < (t201.length : Int) then ((laws_a2At.f l1 0 200).bind fun t206 => ((impl_SpringLength.f k ((rd_T27 t201 0).f0) ((rd_T27 t201 0).f1) (wrap64 (t206 * 5))).bind fun bt207 => (if 1 ≤ (t201.length : Int) then ((impl_SeriesLength.f k (t201.take 1) (wrap64 (t206 * 5))).bind fun bt215 => (if bt207.2.2 = 0 then (if bt207.2.1 < 1 then (laws_FnSprings.j0 k l1 (wrap64 (t206 * 5)) true ((rd_T27 t201 0).f0) ((rd_T27 t201 0).f1)) else (if bt207.2.1 > 1000 then (laws_FnSprings.j0 k l1 (wrap64 (t206 * 5)) true ((rd_T27 t201 0).f0) ((rd_T27 t201 0).f1)) else (if bt207.1 > 100000000 then (laws_FnSprings.j0 k l1 (wrap64 (t206 * 5)) true ((rd_T27 t201 0).f0) ((rd_T27 t201 0).f1)) else (if (wrap64 (bt207.1 * ((rd_T27 t201 0).f1))) = (wrap64 ((wrap64 (((rd_T27 t201 0).f0) * (wrap64 (((rd_T27 t201 0).f1) + (wrap64 (t206 * 5)))))) * bt207.2.1)) then (if bt215.2.2 = 0 then (laws_FnSprings.j0 k l1 (wrap64 (t206 * 5)) (!(bt215.1 == bt207.1) || (!(bt215.2.1 == bt207.2.1))) ((rd_T27 t201 0).f0) ((rd_T27 t201 0).f1)) else (laws_FnSprings.j0 k l1 (wrap64 (t206 * 5)) true ((rd_T27 t201 0).f0) ((rd_T27 t201 0).f1))) else (laws_FnSprings.j0 k l1 (wrap64 (t206 * 5)) true ((rd_T27 t201 0).f0) ((rd_T27 t201 0).f1)))))) else (laws_FnSprings.j0 k l1 (wrap64 (t206 * 5)) true ((rd_T27 t201 0).f0) ((rd_T27 t201 0).f1)))) else (none)))) else (none))))) = some r := h
 clear h
 replace H := Option.bind_eq_some_iff.mp H
 obtain ⟨t200, A30, H⟩ := H
 replace H : (if t200 = true then (some true) else ((spec_A2Springs.f k l0).bind fun t201 => (if 0 < (t201.length : Int) then ((laws_a2At.f l1 0 200).bind fun t206 => ((impl_SpringLength.f k ((rd_T27 t201 0).f0) ((rd_T27 t201 0).f1) (wrap64 (t206 * 5))).bind fun bt207 => (if 1 ≤ (t201.length : Int) then ((impl_SeriesLength.f k (t201.take 1) (wrap64 (t206 * 5))).bind fun bt215 => (if bt207.2.2 = 0 then (if bt207.2.1 < 1 then (laws_FnSprings.j0 k l1 (wrap64 (t206 * 5)) true ((rd_T27 t201 0).f0) ((rd_T27 t201 0).f1)) else (if bt207.2.1 > 1000 then (laws_FnSprings.j0 k l1 (wrap64 (t206 * 5)) true ((rd_T27 t201 0).f0) ((rd_T27 t201 0).f1)) else (if bt207.1 > 100000000 then (laws_FnSprings.j0 k l1 (wrap64 (t206 * 5)) true ((rd_T27 t201 0).f0) ((rd_T27 t201 0).f1)) else (if (wrap64 (bt207.1 * ((rd_T27 t201 0).f1))) = (wrap64 ((wrap64 (((rd_T27 t201 0).f0) * (wrap64 (((rd_T27 t201 0).f1) + (wrap64 (t206 * 5)))))) * bt207.2.1)) then (if bt215.2.2 = 0 then (laws_FnSprings.j0 k l1 (wrap64 (t206 * 5)) (!(bt215.1 == bt207.1) || (!(bt215.2.1 == bt207.2.1))) ((rd_T27 t201 0).f0) ((rd_T27 t201 0).f1)) else (laws_FnSprings.j0 k l1 (wrap64 (t206 * 5)) true ((rd_T27 t201 0).f0) ((rd_T27 t201 0).f1))) else (laws_FnSprings.j0 k l1 (wrap64 (t206 * 5)) true ((rd_T27 t201 0).f0) ((rd_T27 t201 0).f1)))))) else (laws_FnSprings.j0 k l1 (wrap64 (t206 * 5)) true ((rd_T27 t201 0).f0) ((rd_T27 t201 0).f1)))) else (none)))) else (none)))) = some r := H
 have A3 := aS A30
 clear A30
 have HC4 := aS H
 clear H
 go_enter Try.func3, Try.ntmps3
 go_upto_if 19 with (first | ((with_reducible refine gate_callee (f := 5) rfl ?_); refine goesL_ (some 19) rfl rfl Try.func5 (by kernel_rfl) rfl #[.slice A0 l0.length c0, .slice A1 l1.length c1] rfl sG ?_; (with_reducible refine (laws_a2Long.calls _ _ l0 _ _ l1 t200 _ ?side1 ?side2 ?side3 ?side4 A3.out).mono ?_); (case side1 => exact sC HR0.out); (case side2 => exact HC0.out); (case side3 => exact sC HR1.out); (case side4 => exact HC1.out); rintro e w' ⟨rfl, ⟨nd, rfl⟩⟩; refine ⟨_, rfl, ?_⟩))
 (try simp only [Act.put, List.setIfInBounds_toArray, List.set_cons_zero, List.set_cons_succ])
 have H := HC4.out
 clear HC4
 by_cases c5 : t200 = true
 ·
  subst c5
  have H1 : (some true) = some r := by rw [if_pos rfl] at H; exact H
  clear H
  have H := H1
  clear H1
  obtain rfl := Option.some.inj H
  go_wp2
  go_ret
  exact ⟨by first | rfl | (simp [errW_none, errW_some, i64_w]; done) | (simp [errW_none, errW_some] <;> rfl) | (simp [*, errW_none, errW_some] <;> rfl), by repeat (first | (with_reducible first | exact HB.out | apply below_alloc | apply pw_below_drewN | apply below_drew1) | exact HB.out)⟩
 ·
  replace c5 := Bool.eq_false_iff.mpr c5
  subst c5
  have H1 : ((spec_A2Springs.f k l0).bind fun t201 => (if 0 < (t201.length : Int) then ((laws_a2At.f l1 0 200).bind fun t206 => ((impl_SpringLength.f k ((rd_T27 t201 0).f0) ((rd_T27 t201 0).f1) (wrap64 (t206 * 5))).bind fun bt207 => (if 1 ≤ (t201.length : Int) then ((impl_SeriesLength.f k (t201.take 1) (wrap64 (t206 * 5))).bind fun bt215 => (if bt207.2.2 = 0 then (if bt207.2.1 < 1 then (laws_FnSprings.j0 k l1 (wrap64 (t206 * 5)) true ((rd_T27 t201 0).f0) ((rd_T27 t201 0).f1)) else (if bt207.2.1 > 1000 then (laws_FnSprings.j0 k l1 (wrap64 (t206 * 5)) true ((rd_T27 t201 0).f0) ((rd_T27 t201 0).f1)) else (if bt207.1 > 100000000 then (laws_FnSprings.j0 k l1 (wrap64 (t206 * 5)) true ((rd_T27 t201 0).f0) ((rd_T27 t201 0).f1)) else (if (wrap64 (bt207.1 * ((rd_T27 t201 0).f1))) = (wrap64 ((wrap64 (((rd_T27 t201 0).f0) * (wrap64 (((rd_T27 t201 0).f1) + (wrap64 (t206 * 5)))))) * bt207.2.1)) then (if bt215.2.2 = 0 then (laws_FnSprings.j0 k l1 (wrap64 (t206 * 5)) (!(bt215.1 == bt207.1) || (!(bt215.2.1 == bt207.2.1))) ((rd_T27 t201 0).f0) ((rd_T27 t201 0).f1)) else (laws_FnSprings.j0 k l1 (wrap64 (t206 * 5)) true ((rd_T27 t201 0).f0) ((rd_T27 t201 0).f1))) else (laws_FnSprings.j0 k l1 (wrap64 (t206 * 5)) true ((rd_T27 t201 0).f0) ((rd_T27 t201 0).f1)))))) else (laws_FnSprings.j0 k l1 (wrap64 (t206 * 5)) true ((rd_T27 t201 0).f0) ((rd_T27 t201 0).f1)))) else (none)))) else (none))) = some r := by rw [if_neg (show ¬ (false = true) by decide)] at H; exact H
  clear H
  have H := H1
  clear H1
  replace H := Option.bind_eq_some_iff.mp H
  obtain ⟨t201, A60, H⟩ := H
  replace H : (if 0 < (t201.length : Int) then ((laws_a2At.f l1 0 200).bind fun t206 => ((impl_SpringLength.f k ((rd_T27 t201 0).f0) ((rd_T27 t201 0).f1) (wrap64 (t206 * 5))).bind fun bt207 => (if 1 ≤ (t201.length : Int) then ((impl_SeriesLength.f k (t201.take 1) (wrap64 (t206 * 5))).bind fun bt215 => (if bt207.2.2 = 0 then (if bt207.2.1 < 1 then (laws_FnSprings.j0 k l1 (wrap64 (t206 * 5)) true ((rd_T27 t201 0).f0) ((rd_T27 t201 0).f1)) else (if bt207.2.1 > 1000 then (laws_FnSprings.j0 k l1 (wrap64 (t206 * 5)) true ((rd_T27 t201 0).f0) ((rd_T27 t201 0).f1)) else (if bt207.1 > 100000000 then (laws_FnSprings.j0 k l1 (wrap64 (t206 * 5)) true ((rd_T27 t201 0).f0) ((rd_T27 t201 0).f1)) else (if (wrap64 (bt207.1 * ((rd_T27 t201 0).f1))) = (wrap64 ((wrap64 (((rd_T27 t201 0).f0) * (wrap64 (((rd_T27 t201 0).f1) + (wrap64 (t206 * 5)))))) * bt207.2.1)) then (if bt215.2.2 = 0 then (laws_FnSprings.j0 k l1 (wrap64 (t206 * 5)) (!(bt215.1 == bt207.1) || (!(bt215.2.1 == bt207.2.1))) ((rd_T27 t201 0).f0) ((rd_T27 t201 0).f1)) else (laws_FnSprings.j0 k l1 (wrap64 (t206 * 5)) true ((rd_T27 t201 0).f0) ((rd_T27 t201 0).f1))) else (laws_FnSprings.j0 k l1 (wrap64 (t206 * 5)) true ((rd_T27 t201 0).f0) ((rd_T27 t201 0).f1)))))) else (laws_FnSprings.j0 k l1 (wrap64 (t206 * 5)) true ((rd_T27 t201 0).f0) ((rd_T27 t201 0).f1)))) else (none)))) else (none)) = some r := H
  have A6 := aS A60
  clear A60
  by_cases c7 : 0 < (t201.length : Int)
  ·
   rw [if_pos c7] at H
   have c7b0 : decide (0 < (t201.length : Int)) = true := decide_eq_true c7
   have c7b1 : decide (0 < t201.length) = true := decide_eq_true (by omega)
   clear c7
   (first | rw [c7b0] | (simp only [i64_w, i32_w]; rw [c7b0]) | (rw [c7b2]; simp only [Bool.not_false, Bool.not_true]) | skip)
   replace H := Option.bind_eq_some_iff.mp H
   obtain ⟨t206, A80, H⟩ := H
   replace H : ((impl_SpringLength.f k ((rd_T27 t201 0).f0) ((rd_T27 t201 0).f1) (wrap64 (t206 * 5))).bind fun bt207 => (if 1 ≤ (t201.length : Int) then ((impl_SeriesLength.f k (t201.take 1) (wrap64 (t206 * 5))).bind fun bt215 => (if bt207.2.2 = 0 then (if bt207.2.1 < 1 then (laws_FnSprings.j0 k l1 (wrap64 (t206 * 5)) true ((rd_T27 t201 0).f0) ((rd_T27 t201 0).f1)) else (if bt207.2.1 > 1000 then (laws_FnSprings.j0 k l1 (wrap64 (t206 * 5)) true ((rd_T27 t201 0).f0) ((rd_T27 t201 0).f1)) else (if bt207.1 > 100000000 then (laws_FnSprings.j0 k l1 (wrap64 (t206 * 5)) true ((rd_T27 t201 0).f0) ((rd_T27 t201 0).f1)) else (if (wrap64 (bt207.1 * ((rd_T27 t201 0).f1))) = (wrap64 ((wrap64 (((rd_T27 t201 0).f0) * (wrap64 (((rd_T27 t201 0).f1) + (wrap64 (t206 * 5)))))) * bt207.2.1)) then (if bt215.2.2 = 0 then (laws_FnSprings.j0 k l1 (wrap64 (t206 * 5)) (!(bt215.1 == bt207.1) || (!(bt215.2.1 == bt207.2.1))) ((rd_T27 t201 0).f0) ((rd_T27 t201 0).f1)) else (laws_FnSprings.j0 k l1 (wrap64 (t206 * 5)) true ((rd_T27 t201 0).f0) ((rd_T27 t201 0).f1))) else (laws_FnSprings.j0 k l1 (wrap64 (t206 * 5)) true ((rd_T27 t201 0).f0) ((rd_T27 t201 0).f1)))))) else (laws_FnSprings.j0 k l1 (wrap64 (t206 * 5)) true ((rd_T27 t201 0).f0) ((rd_T27 t201 0).f1)))) else (none))) = some r := H
   have A8 := aS A80
   clear A80
   replace H := Option.bind_eq_some_iff.mp H
   obtain ⟨⟨t207, t208, t209⟩, A90, H⟩ := H
   replace H : (if 1 ≤ (t201.length : Int) then ((impl_SeriesLength.f k (t201.take 1) (wrap64 (t206 * 5))).bind fun bt215 => (if t209 = 0 then (if t208 < 1 then (laws_FnSprings.j0 k l1 (wrap64 (t206 * 5)) true ((rd_T27 t201 0).f0) ((rd_T27 t201 0).f1)) else (if t208 > 1000 then (laws_FnSprings.j0 k l1 (wrap64 (t206 * 5)) true ((rd_T27 t201 0).f0) ((rd_T27 t201 0).f1)) else (if t207 > 100000000 then (laws_FnSprings.j0 k l1 (wrap64 (t206 * 5)) true ((rd_T27 t201 0).f0) ((rd_T27 t201 0).f1)) else (if (wrap64 (t207 * ((rd_T27 t201 0).f1))) = (wrap64 ((wrap64 (((rd_T27 t201 0).f0) * (wrap64 (((rd_T27 t201 0).f1) + (wrap64 (t206 * 5)))))) * t208)) then (if bt215.2.2 = 0 then (laws_FnSprings.j0 k l1 (wrap64 (t206 * 5)) (!(bt215.1 == t207) || (!(bt215.2.1 == t208))) ((rd_T27 t201 0).f0) ((rd_T27 t201 0).f1)) else (laws_FnSprings.j0 k l1 (wrap64 (t206 * 5)) true ((rd_T27 t201 0).f0) ((rd_T27 t201 0).f1))) else (laws_FnSprings.j0 k l1 (wrap64 (t206 * 5)) true ((rd_T27 t201 0).f0) ((rd_T27 t201 0).f1)))))) else (laws_FnSprings.j0 k l1 (wrap64 (t206 * 5)) true ((rd_T27 t201 0).f0) ((rd_T27 t201 0).f1)))) else (none)) = some r := H
   have A9 := aS A90
   clear A90
   by_cases c10 : 1 ≤ (t201.length : Int)
   rotate_left
   ·
    rw [if_neg c10] at H
    exact absurd H (by simp)
   rw [if_pos c10] at H
   have c10b0 := eq_true c10
   have c10b1 : decide (1 ≤ (t201.length : Int)) = true := decide_eq_true c10
   clear c10
   obtain ⟨y211, hy211⟩ : ∃ y_ : List (S27), y_ = (t201.take 1) := ⟨_, rfl⟩
   replace H : ((impl_SeriesLength.f k y211 (wrap64 (t206 * 5))).bind fun bt215 => (if t209 = 0 then (if t208 < 1 then (laws_FnSprings.j0 k l1 (wrap64 (t206 * 5)) true ((rd_T27 t201 0).f0) ((rd_T27 t201 0).f1)) else (if t208 > 1000 then (laws_FnSprings.j0 k l1 (wrap64 (t206 * 5)) true ((rd_T27 t201 0).f0) ((rd_T27 t201 0).f1)) else (if t207 > 100000000 then (laws_FnSprings.j0 k l1 (wrap64 (t206 * 5)) true ((rd_T27 t201 0).f0) ((rd_T27 t201 0).f1)) else (if (wrap64 (t207 * ((rd_T27 t201 0).f1))) = (wrap64 ((wrap64 (((rd_T27 t201 0).f0) * (wrap64 (((rd_T27 t201 0).f1) + (wrap64 (t206 * 5)))))) * t208)) then (if bt215.2.2 = 0 then (laws_FnSprings.j0 k l1 (wrap64 (t206 * 5)) (!(bt215.1 == t207) || (!(bt215.2.1 == t208))) ((rd_T27 t201 0).f0) ((rd_T27 t201 0).f1)) else (laws_FnSprings.j0 k l1 (wrap64 (t206 * 5)) true ((rd_T27 t201 0).f0) ((rd_T27 t201 0).f1))) else (laws_FnSprings.j0 k l1 (wrap64 (t206 * 5)) true ((rd_T27 t201 0).f0) ((rd_T27 t201 0).f1)))))) else (laws_FnSprings.j0 k l1 (wrap64 (t206 * 5)) true ((rd_T27 t201 0).f0) ((rd_T27 t201 0).f1)))) = some r := by first | (rw [hy211]; with_reducible exact H) | (have H2_ := (Option.bind_some _ _).symm.trans H; rw [hy211]; with_reducible exact H2_) | (have H2_ := (Option.bind_some _ _).symm.trans H; with_reducible exact H2_) | with_reducible exact H | (rw [hy211]; exact H) | exact H
   have Ny211 := aS hy211
   clear hy211
   replace H := Option.bind_eq_some_iff.mp H
   obtain ⟨⟨t215, t216, t217⟩, A110, H⟩ := H
   replace H : (if t209 = 0 then (if t208 < 1 then (laws_FnSprings.j0 k l1 (wrap64 (t206 * 5)) true ((rd_T27 t201 0).f0) ((rd_T27 t201 0).f1)) else (if t208 > 1000 then (laws_FnSprings.j0 k l1 (wrap64 (t206 * 5)) true ((rd_T27 t201 0).f0) ((rd_T27 t201 0).f1)) else (if t207 > 100000000 then (laws_FnSprings.j0 k l1 (wrap64 (t206 * 5)) true ((rd_T27 t201 0).f0) ((rd_T27 t201 0).f1)) else (if (wrap64 (t207 * ((rd_T27 t201 0).f1))) = (wrap64 ((wrap64 (((rd_T27 t201 0).f0) * (wrap64 (((rd_T27 t201 0).f1) + (wrap64 (t206 * 5)))))) * t208)) then (if t217 = 0 then (laws_FnSprings.j0 k l1 (wrap64 (t206 * 5)) (!(t215 == t207) || (!(t216 == t208))) ((rd_T27 t201 0).f0) ((rd_T27 t201 0).f1)) else (laws_FnSprings.j0 k l1 (wrap64 (t206 * 5)) true ((rd_T27 t201 0).f0) ((rd_T27 t201 0).f1))) else (laws_FnSprings.j0 k l1 (wrap64 (t206 * 5)) true ((rd_T27 t201 0).f0) ((rd_T27 t201 0).f1)))))) else (laws_FnSprings.j0 k l1 (wrap64 (t206 * 5)) true ((rd_T27 t201 0).f0) ((rd_T27 t201 0).f1))) = some r := H
   have A11 := aS A110
   clear A110
   have HC12 := aS H
   clear H
   go_upto_region 8 with (first | ((with_reducible refine gate_callee (f := 6) rfl ?_); refine goesL_ (some 21) rfl rfl Try.func6 (by kernel_rfl) rfl #[.slice A0 l0.length c0] rfl sG ?_; (with_reducible refine (spec_A2Springs.calls k _ _ l0 t201 _ ?side1 ?side2 A6.out).mono ?_); (case side1 => exact sC (Kd.C_below HR0.out HB.out)); (case side2 => exact HC0.out); rintro e w13 ⟨v202, rfl, ho0, hb⟩; refine ⟨_, rfl, ?_⟩; have n0_ := aS (Kd.R_lower ho0 (below_size (sW HB.out))); have n1_ := aS (below_step (sW HB.out) hb); clear HB; have HO203 := n0_; have HB := n1_; clear n0_ n1_; (try clear hb); (try clear hb2); (try clear hk); (try clear hi); (try clear ho0); obtain ⟨Ao14, co14, eo14⟩ := Kd.R_slice HO203.out; subst eo14; have p204 : 0 ≤ (0 : Int) := (by omega); have q204 : 0 < (t201.length : Int) := of_decide_eq_true (by first | (with_reducible assumption) | assumption); obtain ⟨ad204, e204, hx204_0, hx204_1⟩ := at_T27 (Kd.R_reads' HO203.out).2.2 0 p204 q204; cases e204; have qi204 : (0 < t201.length) = True := eq_true (by omega); (try rw [show ((0 : Int)).toNat = 0 from rfl] at hx204_0); (try rw [show 0 * 2 = 0 from rfl] at hx204_0); (try rw [Addr.add_zero'] at hx204_0); (try rw [show ((0 : Int)).toNat = 0 from rfl] at hx204_1); (try rw [show 0 * 2 = 0 from rfl] at hx204_1); (try rw [Addr.add_zero'] at hx204_1); replace p204 := eq_true p204; replace q204 := eq_true q204) | ((with_reducible refine gate_dst (N := 6) rfl ?_); (try (refine gate_guard (by rfl) ?_; dsimp only)); refine box_event ?hg (N := 6) ?hd (cs := #[.int .i64 0, .int .i64 0]) (t := 27) ?hr ?_; (case hd => rfl); (case hg => rfl); (case hr => first | (go_simp; done) | (go_simp; rfl)); intro gb205 hg w15 hbox hb; have n0_ := aS (Kd.R_below (Kd.R_elderB (sR HO203.out) gb205 (Nat.le_of_eq hg.symm)) hb); have n1_ := aS (below_step (sW HB.out) hb); have n2_ := aS (hbox); have n3_ := aS ((by rw [hg]; exact (below_size (sW HB.out)) : w.heap.size ≤ gb205)); have n4_ := aS ((by rw [hg]; exact (below_size (sW HB.out)) : w.heap.size ≤ gb205)); clear HO203 HB; have HO203 := n0_; have HB := n1_; have BK205 := n2_; have GW205 := n3_; have GE205 := n4_; clear n0_ n1_ n2_ n3_ n4_; clear hb hbox hg; have hcz16_0 : w15.cell? ⟨gb205, 0, none⟩ = some (.int .i64 0) := (blk_cell BK205.out 0).trans rfl; have hcz16_1 : w15.cell? ⟨gb205, 1, none⟩ = some (.int .i64 0) := (blk_cell BK205.out 1).trans rfl; have hfz16_0 := blk_frozen BK205.out 0; have hfz16_1 := blk_frozen BK205.out 1) | ((with_reducible refine gate_callee (f := 7) rfl ?_); refine goesL_ (some 26) rfl rfl Try.func7 (by kernel_rfl) rfl #[.slice A1 l1.length c1, .int .i64 0, .int .i64 200] rfl sG ?_; (with_reducible refine (laws_a2At.calls _ _ l1 0 200 t206 _ ?side1 ?side2 A8.out).mono ?_); (case side1 => exact Kd.C_below HR1.out (sW HB.out)); (case side2 => exact HC1.out); rintro e w' ⟨rfl, ⟨nd, rfl⟩⟩; refine ⟨_, rfl, ?_⟩) | ((with_reducible refine gate_callee (f := 8) rfl ?_); refine goesL_ (some 31) rfl rfl Try.func8 (by kernel_rfl) rfl #[.agg #[.int .i64 ((rd_T27 t201 0).f0), .int .i64 ((rd_T27 t201 0).f1)], .int .i64 (wrap64 (t206 * 5))] rfl sG ?_; (with_reducible refine (impl_SpringLength.calls k ((rd_T27 t201 0).f0) ((rd_T27 t201 0).f1) (wrap64 (t206 * 5)) t207 t208 t209 _ A9.out).mono ?_); rintro e w17 ⟨rfl, hb⟩; refine ⟨_, rfl, ?_⟩; have n0_ := aS (Kd.R_below (sR (Kd.R_mono (Kd.R_far (p := ⟨gb205, 1, none⟩) (Kd.R_far (p := ⟨gb205, 0, none⟩) (Kd.R_mono HO203.out (fun k_ hk => (⟨hk, hk.2⟩ : _ ∧ k_ ≠ gb205))) (fun _ hk => hk.2) (.int .i64 ((rd_T27 t201 0).f0))) (fun _ hk => hk.2) (.int .i64 ((rd_T27 t201 0).f1))) (fun _ h_ => h_.1))) hb); have n1_ := aS (blk_below (g := gb205) (o := .cells #[.int .i64 ((rd_T27 t201 0).f0), .int .i64 ((rd_T27 t201 0).f1)] 27 (0, 0)) (by (with_reducible repeat (first | refine blk_drewN ?_ _ | refine blk_drew ?_ | refine blk_alloc ?_ _)); refine blk_put (cs := #[.int .i64 ((rd_T27 t201 0).f0), .int .i64 0]) ?_ 1 _ rfl; (with_reducible repeat (first | refine blk_drewN ?_ _ | refine blk_drew ?_ | refine blk_alloc ?_ _)); refine blk_put (cs := #[.int .i64 0, .int .i64 0]) ?_ 0 _ rfl; (with_reducible repeat (first | refine blk_drewN ?_ _ | refine blk_drew ?_ | refine blk_alloc ?_ _)); exact BK205.out) hb); have n2_ := aS (below_step (sW HB.out) hb); clear HO203 BK205 HB; have HO203 := n0_; have BK205 := n1_; have HB := n2_; clear n0_ n1_ n2_; (try clear hb); (try clear hb2); (try clear hk); (try clear hi)) | ((with_reducible refine gate_dst (N := 8) rfl ?_); (try (refine gate_guard (by rfl) ?_; dsimp only)); refine box_event ?hg (N := 8) ?hd (cs := #[.int .i64 0, .int .i64 0]) (t := 30) ?hr ?_; (case hd => rfl); (case hg => rfl); (case hr => first | (go_simp; done) | (go_simp; rfl)); intro gb210 hg w18 hbox hb; have n0_ := aS (Kd.R_below (sR HO203.out) hb); have n1_ := aS (blk_below (g := gb205) (o := .cells #[.int .i64 ((rd_T27 t201 0).f0), .int .i64 ((rd_T27 t201 0).f1)] 27 (0, 0)) (sB BK205.out) hb); have n2_ := aS (below_step (sW HB.out) hb); have n3_ := aS (hbox); have n4_ := aS ((by rw [hg]; exact (below_size (sW HB.out)) : w.heap.size ≤ gb210)); have n5_ := aS ((by rw [hg]; exact (below_size (sW HB.out)) : w.heap.size ≤ gb210)); have n6_ := aS ((by rw [hg]; exact Nat.ne_of_lt (blk_lt (g := gb205) (o := .cells #[.int .i64 ((rd_T27 t201 0).f0), .int .i64 ((rd_T27 t201 0).f1)] 27 (0, 0)) (sB BK205.out)) : gb205 ≠ gb210)); have n7_ := aS ((by rw [hg]; exact Nat.ne_of_gt (blk_lt (g := gb205) (o := .cells #[.int .i64 ((rd_T27 t201 0).f0), .int .i64 ((rd_T27 t201 0).f1)] 27 (0, 0)) (sB BK205.out)) : gb210 ≠ gb205)); clear HO203 BK205 HB; have HO203 := n0_; have BK205 := n1_; have HB := n2_; have BK210 := n3_; have GW210 := n4_; have GE210 := n5_; have NB205_210 := n6_; have NB210_205 := n7_; clear n0_ n1_ n2_ n3_ n4_ n5_ n6_ n7_; clear hb hbox hg; have hnb19 := NB210_205.out; have hnc19 := NB205_210.out; have hcz20_0 : w18.cell? ⟨gb210, 0, none⟩ = some (.int .i64 0) := (blk_cell BK210.out 0).trans rfl; have hcz20_1 : w18.cell? ⟨gb210, 1, none⟩ = some (.int .i64 0) := (blk_cell BK210.out 1).trans rfl; have hfz20_0 := blk_frozen BK210.out 0; have hfz20_1 := blk_frozen BK210.out 1) | ((with_reducible refine gate_store (t := 30) (p := 8) rfl ?_); refine store_event (t := 30) (p := 8) (v := ?vo_w21) (w1 := ((w18.setCell ⟨gb210, 0, none⟩ (.int .i64 t207)).setCell ⟨gb210, 1, none⟩ (.int .i64 t208))) ?hg ?ho ?hn ?hr ?_; (case ho => rfl); (case hg => rfl); (case hn => rfl); (case hr => first | (go_simp; done) | (go_simp; rfl)); intro w21 hw; have n0_ : Aside0 (Kd.R k27 27 w21 w.heap.size (fun k_ => k_ ≠ gb205) (.slice (some ad204) t201.length co14) t201) := ⟨(by rw [hw]; exact (sR (Kd.R_mono (Kd.R_far (p := ⟨gb210, 1, none⟩) (Kd.R_far (p := ⟨gb210, 0, none⟩) (Kd.R_types HO203.out BK210.out (by decide)) (fun _ hk => hk.2) (.int .i64 t207)) (fun _ hk => hk.2) (.int .i64 t208)) (fun _ hk => hk.1.2))))⟩; have n1_ : Aside0 (w21.heap[gb205]? = some (.cells #[.int .i64 ((rd_T27 t201 0).f0), .int .i64 ((rd_T27 t201 0).f1)] 27 (0, 0))) := ⟨(by rw [hw]; exact (by (with_reducible repeat (first | refine blk_drewN ?_ _ | refine blk_drew ?_ | refine blk_alloc ?_ _)); refine blk_far ?_ NB205_210.out _; (with_reducible repeat (first | refine blk_drewN ?_ _ | refine blk_drew ?_ | refine blk_alloc ?_ _)); refine blk_far ?_ NB205_210.out _; (with_reducible repeat (first | refine blk_drewN ?_ _ | refine blk_drew ?_ | refine blk_alloc ?_ _)); exact BK205.out))⟩; have n2_ : Aside0 (w21.heap[gb210]? = some (.cells #[.int .i64 t207, .int .i64 t208] 30 (0, 0))) := ⟨(by rw [hw]; exact (by (with_reducible repeat (first | refine blk_drewN ?_ _ | refine blk_drew ?_ | refine blk_alloc ?_ _)); refine blk_put (cs := #[.int .i64 t207, .int .i64 0]) ?_ 1 _ rfl; (with_reducible repeat (first | refine blk_drewN ?_ _ | refine blk_drew ?_ | refine blk_alloc ?_ _)); refine blk_put (cs := #[.int .i64 0, .int .i64 0]) ?_ 0 _ rfl; (with_reducible repeat (first | refine blk_drewN ?_ _ | refine blk_drew ?_ | refine blk_alloc ?_ _)); exact BK210.out))⟩; have n3_ : Aside0 (Below w.heap.size w w21) := ⟨(by rw [hw]; exact (sW HB.out))⟩; clear hw HO203 BK205 BK210 HB; have HO203 := n0_; have BK205 := n1_; have BK210 := n2_; have HB := n3_; clear n0_ n1_ n2_ n3_; have q22 : (1 : Int) ≤ ((t201.length : Int) : Int) := of_decide_eq_true (by first | (with_reducible assumption) | assumption); obtain ⟨i022, hi022, _, hsz22, _⟩ := info_parts info27; have hroom22 : t201.length ≤ co14 := (Kd.R_reads' HO203.out).2.1; have hC22 : Kd.C k27 _ (some ad204) t201.length t201 := (Kd.R_reads' HO203.out).2.2; have hcut22 := cut_to (P := Try.prog) 24 27 .i64 Try.underlying24 hi022 (some ad204) t201.length co14 1 (by omega) q22 hroom22; have hr22 := Kd.C_take (m := 1) hC22 (by omega); have hy22 : y211.length = (1 : Int).toNat := (by rw [Ny211.out, List.length_take]; omega); rw [← Ny211.out] at hr22; rw [← hy22] at hcut22; have HR214 := aS hr22; have HC214 := aS (show y211.length ≤ co14 from by omega); clear hr22 hC22 hroom22 hi022 hsz22; have KY22 := aS hy22; clear hy22; have KL22 := aS (show 1 ≤ t201.length from by omega); replace q22 := eq_true q22) | ((with_reducible refine gate_callee (f := 9) rfl ?_); refine goesL_ (some 38) rfl rfl Try.func9 (by kernel_rfl) rfl #[.slice (some ad204) y211.length co14, .int .i64 (wrap64 (t206 * 5))] rfl sG ?_; (with_reducible refine (impl_SeriesLength.calls k _ _ y211 (wrap64 (t206 * 5)) t215 t216 t217 _ ?side1 ?side2 A11.out).mono ?_); (case side1 => repeat (first | exact (by repeat (first | (with_reducible exact HR214.out) | (with_reducible refine Kd.C_alloc ?_ _) | (with_reducible refine Kd.C_drewN ?_ _) | (with_reducible refine Kd.C_drew ?_) | exact HR214.out)) | (with_reducible refine Kd.C_alloc ?_ _) | (with_reducible refine Kd.C_drewN ?_ _) | (with_reducible refine Kd.C_drew ?_))); (case side2 => exact HC214.out); rintro e w23 ⟨rfl, hb⟩; refine ⟨_, rfl, ?_⟩; have n0_ := aS (Kd.R_below (sR HO203.out) hb); have n1_ := aS (blk_below (g := gb205) (o := .cells #[.int .i64 ((rd_T27 t201 0).f0), .int .i64 ((rd_T27 t201 0).f1)] 27 (0, 0)) (sB BK205.out) hb); have n2_ := aS (blk_below (g := gb210) (o := .cells #[.int .i64 t207, .int .i64 t208] 30 (0, 0)) (sB BK210.out) hb); have n3_ := aS (Kd.C_below (by repeat (first | (with_reducible exact HR214.out) | (with_reducible refine Kd.C_alloc ?_ _) | (with_reducible refine Kd.C_drewN ?_ _) | (with_reducible refine Kd.C_drew ?_) | exact HR214.out)) hb); have n4_ := aS (below_step (sW HB.out) hb); clear HO203 BK205 BK210 HR214 HB; have HO203 := n0_; have BK205 := n1_; have BK210 := n2_; have HR214 := n3_; have HB := n4_; clear n0_ n1_ n2_ n3_ n4_; (try clear hb); (try clear hb2); (try clear hk); (try clear hi)) | ((with_reducible refine gate_dst (N := 10) rfl ?_); (try (refine gate_guard (by rfl) ?_; dsimp only)); refine box_event ?hg (N := 10) ?hd (cs := #[.int .i64 0, .int .i64 0]) (t := 30) ?hr ?_; (case hd => rfl); (case hg => rfl); (case hr => first | (go_simp; done) | (go_simp; rfl)); intro gb218 hg w24 hbox hb; have n0_ := aS (Kd.R_below (sR HO203.out) hb); have n1_ := aS (blk_below (g := gb205) (o := .cells #[.int .i64 ((rd_T27 t201 0).f0), .int .i64 ((rd_T27 t201 0).f1)] 27 (0, 0)) (sB BK205.out) hb); have n2_ := aS (blk_below (g := gb210) (o := .cells #[.int .i64 t207, .int .i64 t208] 30 (0, 0)) (sB BK210.out) hb); have n3_ := aS (Kd.C_below (by repeat (first | (with_reducible exact HR214.out) | (with_reducible refine Kd.C_alloc ?_ _) | (with_reducible refine Kd.C_drewN ?_ _) | (with_reducible refine Kd.C_drew ?_) | exact HR214.out)) hb); have n4_ := aS (below_step (sW HB.out) hb); have n5_ := aS (hbox); have n6_ := aS ((by rw [hg]; exact (below_size (sW HB.out)) : w.heap.size ≤ gb218)); have n7_ := aS ((by rw [hg]; exact (below_size (sW HB.out)) : w.heap.size ≤ gb218)); have n8_ := aS ((by rw [hg]; exact Nat.ne_of_lt (blk_lt (g := gb205) (o := .cells #[.int .i64 ((rd_T27 t201 0).f0), .int .i64 ((rd_T27 t201 0).f1)] 27 (0, 0)) (sB BK205.out)) : gb205 ≠ gb218)); have n9_ := aS ((by rw [hg]; exact Nat.ne_of_gt (blk_lt (g := gb205) (o := .cells #[.int .i64 ((rd_T27 t201 0).f0), .int .i64 ((rd_T27 t201 0).f1)] 27 (0, 0)) (sB BK205.out)) : gb218 ≠ gb205)); have n10_ := aS ((by rw [hg]; exact Nat.ne_of_lt (blk_lt (g := gb210) (o := .cells #[.int .i64 t207, .int .i64 t208] 30 (0, 0)) (sB BK210.out)) : gb210 ≠ gb218)); have n11_ := aS ((by rw [hg]; exact Nat.ne_of_gt (blk_lt (g := gb210) (o := .cells #[.int .i64 t207, .int .i64 t208] 30 (0, 0)) (sB BK210.out)) : gb218 ≠ gb210)); clear HO203 BK205 BK210 HR214 HB; have HO203 := n0_; have BK205 := n1_; have BK210 := n2_; have HR214 := n3_; have HB := n4_; have BK218 := n5_; have GW218 := n6_; have GE218 := n7_; have NB205_218 := n8_; have NB218_205 := n9_; have NB210_218 := n10_; have NB218_210 := n11_; clear n0_ n1_ n2_ n3_ n4_ n5_ n6_ n7_ n8_ n9_ n10_ n11_; clear hb hbox hg; have hnb25 := NB218_205.out; have hnc25 := NB205_218.out; have hnb26 := NB218_210.out; have hnc26 := NB210_218.out; have hcz27_0 : w24.cell? ⟨gb218, 0, none⟩ = some (.int .i64 0) := (blk_cell BK218.out 0).trans rfl; have hcz27_1 : w24.cell? ⟨gb218, 1, none⟩ = some (.int .i64 0) := (blk_cell BK218.out 1).trans rfl; have hfz27_0 := blk_frozen BK218.out 0; have hfz27_1 := blk_frozen BK218.out 1))
   (try simp only [Act.put, List.setIfInBounds_toArray, List.set_cons_zero, List.set_cons_succ])
   go_cut [84] (fun v84 wc => ∃ (kq : Nat) (x84_11 : Bool), v84 = .bool x84_11 ∧ Aside0 (laws_FnSprings.j0 kq l1 (wrap64 (t206 * 5)) x84_11 ((rd_T27 t201 0).f0) ((rd_T27 t201 0).f1) = some r) ∧ Aside0 (kq ≤ k) ∧ Aside0 (wc.heap[gb205]? = some (.cells #[.int .i64 ((rd_T27 t201 0).f0), .int .i64 ((rd_T27 t201 0).f1)] 27 (0, 0))) ∧ Aside0 (Below w.heap.size w wc))
   case first =>
    as_aux_lemma =>
     have H := HC12.out
     clear HC12
     by_cases c28 : t209 = 0
     rotate_left
     ·
      rw [if_neg c28] at H
      have c28b0 : (t209 == 0) = false := beq_eq_false_iff_ne.mpr c28
      have c28b1 : (t209 != 0) = true := bne_iff_ne.mpr c28
      (first | rw [c28b0] | (simp only [i64_w, i32_w]; rw [c28b0]) | (rw [c28b2]; simp only [Bool.not_false, Bool.not_true]) | skip)
      have H' := aS H
      clear H
      go_wp2
      go_meet
      case rel => exact ⟨_, (true), (by first | rfl | (simp; done) | (simp [*]; done) | (simp only [i64_w]; done) | (simp [i64_w]; done)), H', ⟨by first | omega | exact Nat.le_refl _⟩, ⟨by (with_reducible repeat (first | refine blk_drewN ?_ _ | refine blk_drew ?_ | refine blk_alloc ?_ _)); refine blk_far ?_ NB205_218.out _; (with_reducible repeat (first | refine blk_drewN ?_ _ | refine blk_drew ?_ | refine blk_alloc ?_ _)); refine blk_far ?_ NB205_218.out _; (with_reducible repeat (first | refine blk_drewN ?_ _ | refine blk_drew ?_ | refine blk_alloc ?_ _)); exact BK205.out⟩, ⟨by repeat (first | (with_reducible first | exact HB.out | apply below_alloc | apply pw_below_drewN | apply below_drew1 | refine below_set ?_ GE205.out | refine below_set ?_ GE210.out | refine below_set ?_ GE218.out) | exact HB.out)⟩⟩
     rw [if_pos c28] at H
     have c28b0 : (t209 == 0) = true := beq_iff_eq.mpr c28
     have c28b1 : (t209 != 0) = false := bne_eq_false_iff_eq.mpr c28
     clear c28
     (first | rw [c28b0] | (simp only [i64_w, i32_w]; rw [c28b0]) | (rw [c28b2]; simp only [Bool.not_false, Bool.not_true]) | skip)
     by_cases c29 : t208 < 1
     ·
      rw [if_pos c29] at H
      have c29b0 : decide (t208 < 1) = true := decide_eq_true c29
      clear c29
      have H' := aS H
      clear H
      have hnb30 := NB210_205.out
      have hnc30 := NB205_210.out
      have hnb31 := NB210_218.out
      have hnc31 := NB218_210.out
      have hcz32_0 : w24.cell? ⟨gb210, 0, none⟩ = some (.int .i64 t207) := (blk_cell BK210.out 0).trans rfl
      have hcz32_1 : w24.cell? ⟨gb210, 1, none⟩ = some (.int .i64 t208) := (blk_cell BK210.out 1).trans rfl
      have hfz32_0 := blk_frozen BK210.out 0
      have hfz32_1 := blk_frozen BK210.out 1
      go_wp2
      go_meet
      case rel => exact ⟨_, (true), (by first | rfl | (simp; done) | (simp [*]; done) | (simp only [i64_w]; done) | (simp [i64_w]; done)), H', ⟨by first | omega | exact Nat.le_refl _⟩, ⟨by (with_reducible repeat (first | refine blk_drewN ?_ _ | refine blk_drew ?_ | refine blk_alloc ?_ _)); refine blk_far ?_ NB205_218.out _; (with_reducible repeat (first | refine blk_drewN ?_ _ | refine blk_drew ?_ | refine blk_alloc ?_ _)); refine blk_far ?_ NB205_218.out _; (with_reducible repeat (first | refine blk_drewN ?_ _ | refine blk_drew ?_ | refine blk_alloc ?_ _)); exact BK205.out⟩, ⟨by repeat (first | (with_reducible first | exact HB.out | apply below_alloc | apply pw_below_drewN | apply below_drew1 | refine below_set ?_ GE205.out | refine below_set ?_ GE210.out | refine below_set ?_ GE218.out) | exact HB.out)⟩⟩
     rw [if_neg c29] at H
     have c29b0 : decide (t208 < 1) = false := decide_eq_false c29
     clear c29
     by_cases c33 : t208 > 1000
     ·
      rw [if_pos c33] at H
      have c33b0 : decide (1000 < t208) = true := decide_eq_true c33
      clear c33
      have H' := aS H
      clear H
      have hnb34 := NB210_205.out
      have hnc34 := NB205_210.out
      have hnb35 := NB210_218.out
      have hnc35 := NB218_210.out
      have hcz36_0 : w24.cell? ⟨gb210, 0, none⟩ = some (.int .i64 t207) := (blk_cell BK210.out 0).trans rfl
      have hcz36_1 : w24.cell? ⟨gb210, 1, none⟩ = some (.int .i64 t208) := (blk_cell BK210.out 1).trans rfl
      have hfz36_0 := blk_frozen BK210.out 0
      have hfz36_1 := blk_frozen BK210.out 1
      go_wp2
      go_meet
      case rel => exact ⟨_, (true), (by first | rfl | (simp; done) | (simp [*]; done) | (simp only [i64_w]; done) | (simp [i64_w]; done)), H', ⟨by first | omega | exact Nat.le_refl _⟩, ⟨by (with_reducible repeat (first | refine blk_drewN ?_ _ | refine blk_drew ?_ | refine blk_alloc ?_ _)); refine blk_far ?_ NB205_218.out _; (with_reducible repeat (first | refine blk_drewN ?_ _ | refine blk_drew ?_ | refine blk_alloc ?_ _)); refine blk_far ?_ NB205_218.out _; (with_reducible repeat (first | refine blk_drewN ?_ _ | refine blk_drew ?_ | refine blk_alloc ?_ _)); exact BK205.out⟩, ⟨by repeat (first | (with_reducible first | exact HB.out | apply below_alloc | apply pw_below_drewN | apply below_drew1 | refine below_set ?_ GE205.out | refine below_set ?_ GE210.out | refine below_set ?_ GE218.out) | exact HB.out)⟩⟩
     rw [if_neg c33] at H
     have c33b0 : decide (1000 < t208) = false := decide_eq_false c33
     clear c33
     by_cases c37 : t207 > 100000000
     ·
      rw [if_pos c37] at H
      have c37b0 : decide (100000000 < t207) = true := decide_eq_true c37
      clear c37
      have H' := aS H
      clear H
      have hnb38 := NB210_205.out
      have hnc38 := NB205_210.out
      have hnb39 := NB210_218.out
      have hnc39 := NB218_210.out
      have hcz40_0 : w24.cell? ⟨gb210, 0, none⟩ = some (.int .i64 t207) := (blk_cell BK210.out 0).trans rfl
      have hcz40_1 : w24.cell? ⟨gb210, 1, none⟩ = some (.int .i64 t208) := (blk_cell BK210.out 1).trans rfl
      have hfz40_0 := blk_frozen BK210.out 0
      have hfz40_1 := blk_frozen BK210.out 1
      go_wp2
      go_meet
      case rel => exact ⟨_, (true), (by first | rfl | (simp; done) | (simp [*]; done) | (simp only [i64_w]; done) | (simp [i64_w]; done)), H', ⟨by first | omega | exact Nat.le_refl _⟩, ⟨by (with_reducible repeat (first | refine blk_drewN ?_ _ | refine blk_drew ?_ | refine blk_alloc ?_ _)); refine blk_far ?_ NB205_218.out _; (with_reducible repeat (first | refine blk_drewN ?_ _ | refine blk_drew ?_ | refine blk_alloc ?_ _)); refine blk_far ?_ NB205_218.out _; (with_reducible repeat (first | refine blk_drewN ?_ _ | refine blk_drew ?_ | refine blk_alloc ?_ _)); exact BK205.out⟩, ⟨by repeat (first | (with_reducible first | exact HB.out | apply below_alloc | apply pw_below_drewN | apply below_drew1 | refine below_set ?_ GE205.out | refine below_set ?_ GE210.out | refine below_set ?_ GE218.out) | exact HB.out)⟩⟩
     rw [if_neg c37] at H
     have c37b0 : decide (100000000 < t207) = false := decide_eq_false c37
     clear c37
     by_cases c41 : (wrap64 (t207 * ((rd_T27 t201 0).f1))) = (wrap64 ((wrap64 (((rd_T27 t201 0).f0) * (wrap64 (((rd_T27 t201 0).f1) + (wrap64 (t206 * 5)))))) * t208))
     rotate_left
     ·
      rw [if_neg c41] at H
      have c41b0 : ((wrap64 (t207 * ((rd_T27 t201 0).f1))) == (wrap64 ((wrap64 (((rd_T27 t201 0).f0) * (wrap64 (((rd_T27 t201 0).f1) + (wrap64 (t206 * 5)))))) * t208))) = false := beq_eq_false_iff_ne.mpr c41
      have c41b1 : ((wrap64 (t207 * ((rd_T27 t201 0).f1))) != (wrap64 ((wrap64 (((rd_T27 t201 0).f0) * (wrap64 (((rd_T27 t201 0).f1) + (wrap64 (t206 * 5)))))) * t208))) = true := bne_iff_ne.mpr c41
      have H' := aS H
      clear H
      have hnb54 := NB210_205.out
      have hnc54 := NB205_210.out
      have hnb55 := NB210_218.out
      have hnc55 := NB218_210.out
      have hcz56_0 : w24.cell? ⟨gb210, 0, none⟩ = some (.int .i64 t207) := (blk_cell BK210.out 0).trans rfl
      have hcz56_1 : w24.cell? ⟨gb210, 1, none⟩ = some (.int .i64 t208) := (blk_cell BK210.out 1).trans rfl
      have hfz56_0 := blk_frozen BK210.out 0
      have hfz56_1 := blk_frozen BK210.out 1
      have hnb57 := NB205_218.out
      have hnc57 := NB218_205.out
      have hcz58_0 : w24.cell? ⟨gb205, 0, none⟩ = some (.int .i64 ((rd_T27 t201 0).f0)) := (blk_cell BK205.out 0).trans rfl
      have hcz58_1 : w24.cell? ⟨gb205, 1, none⟩ = some (.int .i64 ((rd_T27 t201 0).f1)) := (blk_cell BK205.out 1).trans rfl
      have hfz58_0 := blk_frozen BK205.out 0
      have hfz58_1 := blk_frozen BK205.out 1
      go_wp2
      go_meet
      case rel => exact ⟨_, (true), (by first | rfl | (simp; done) | (simp [*]; done) | (simp only [i64_w]; done) | (simp [i64_w]; done)), H', ⟨by first | omega | exact Nat.le_refl _⟩, ⟨by (with_reducible repeat (first | refine blk_drewN ?_ _ | refine blk_drew ?_ | refine blk_alloc ?_ _)); refine blk_far ?_ NB205_218.out _; (with_reducible repeat (first | refine blk_drewN ?_ _ | refine blk_drew ?_ | refine blk_alloc ?_ _)); refine blk_far ?_ NB205_218.out _; (with_reducible repeat (first | refine blk_drewN ?_ _ | refine blk_drew ?_ | refine blk_alloc ?_ _)); exact BK205.out⟩, ⟨by repeat (first | (with_reducible first | exact HB.out | apply below_alloc | apply pw_below_drewN | apply below_drew1 | refine below_set ?_ GE205.out | refine below_set ?_ GE210.out | refine below_set ?_ GE218.out) | exact HB.out)⟩⟩
     rw [if_pos c41] at H
     have c41b0 : ((wrap64 (t207 * ((rd_T27 t201 0).f1))) == (wrap64 ((wrap64 (((rd_T27 t201 0).f0) * (wrap64 (((rd_T27 t201 0).f1) + (wrap64 (t206 * 5)))))) * t208))) = true := beq_iff_eq.mpr c41
     have c41b1 : ((wrap64 (t207 * ((rd_T27 t201 0).f1))) != (wrap64 ((wrap64 (((rd_T27 t201 0).f0) * (wrap64 (((rd_T27 t201 0).f1) + (wrap64 (t206 * 5)))))) * t208))) = false := bne_eq_false_iff_eq.mpr c41
     clear c41
     by_cases c42 : t217 = 0
     rotate_left
     ·
      rw [if_neg c42] at H
      have c42b0 : (t217 == 0) = false := beq_eq_false_iff_ne.mpr c42
      have c42b1 : (t217 != 0) = true := bne_iff_ne.mpr c42
      have H' := aS H
      clear H
      have hnb49 := NB210_205.out
      have hnc49 := NB205_210.out
      have hnb50 := NB210_218.out
      have hnc50 := NB218_210.out
      have hcz51_0 : w24.cell? ⟨gb210, 0, none⟩ = some (.int .i64 t207) := (blk_cell BK210.out 0).trans rfl
      have hcz51_1 : w24.cell? ⟨gb210, 1, none⟩ = some (.int .i64 t208) := (blk_cell BK210.out 1).trans rfl
      have hfz51_0 := blk_frozen BK210.out 0
      have hfz51_1 := blk_frozen BK210.out 1
      have hnb52 := NB205_218.out
      have hnc52 := NB218_205.out
      have hcz53_0 : w24.cell? ⟨gb205, 0, none⟩ = some (.int .i64 ((rd_T27 t201 0).f0)) := (blk_cell BK205.out 0).trans rfl
      have hcz53_1 : w24.cell? ⟨gb205, 1, none⟩ = some (.int .i64 ((rd_T27 t201 0).f1)) := (blk_cell BK205.out 1).trans rfl
      have hfz53_0 := blk_frozen BK205.out 0
      have hfz53_1 := blk_frozen BK205.out 1
      go_wp2
      go_meet
      case rel => exact ⟨_, (true), (by first | rfl | (simp; done) | (simp [*]; done) | (simp only [i64_w]; done) | (simp [i64_w]; done)), H', ⟨by first | omega | exact Nat.le_refl _⟩, ⟨by (with_reducible repeat (first | refine blk_drewN ?_ _ | refine blk_drew ?_ | refine blk_alloc ?_ _)); refine blk_far ?_ NB205_218.out _; (with_reducible repeat (first | refine blk_drewN ?_ _ | refine blk_drew ?_ | refine blk_alloc ?_ _)); refine blk_far ?_ NB205_218.out _; (with_reducible repeat (first | refine blk_drewN ?_ _ | refine blk_drew ?_ | refine blk_alloc ?_ _)); exact BK205.out⟩, ⟨by repeat (first | (with_reducible first | exact HB.out | apply below_alloc | apply pw_below_drewN | apply below_drew1 | refine below_set ?_ GE205.out | refine below_set ?_ GE210.out | refine below_set ?_ GE218.out) | exact HB.out)⟩⟩
     rw [if_pos c42] at H
     have c42b0 : (t217 == 0) = true := beq_iff_eq.mpr c42
     have c42b1 : (t217 != 0) = false := bne_eq_false_iff_eq.mpr c42
     clear c42
     have H' := aS H
     clear H
     have hnb43 := NB210_205.out
     have hnc43 := NB205_210.out
     have hnb44 := NB210_218.out
     have hnc44 := NB218_210.out
     have hcz45_0 : w24.cell? ⟨gb210, 0, none⟩ = some (.int .i64 t207) := (blk_cell BK210.out 0).trans rfl
     have hcz45_1 : w24.cell? ⟨gb210, 1, none⟩ = some (.int .i64 t208) := (blk_cell BK210.out 1).trans rfl
     have hfz45_0 := blk_frozen BK210.out 0
     have hfz45_1 := blk_frozen BK210.out 1
     have hnb46 := NB205_218.out
     have hnc46 := NB218_205.out
     have hcz47_0 : w24.cell? ⟨gb205, 0, none⟩ = some (.int .i64 ((rd_T27 t201 0).f0)) := (blk_cell BK205.out 0).trans rfl
     have hcz47_1 : w24.cell? ⟨gb205, 1, none⟩ = some (.int .i64 ((rd_T27 t201 0).f1)) := (blk_cell BK205.out 1).trans rfl
     have hfz47_0 := blk_frozen BK205.out 0
     have hfz47_1 := blk_frozen BK205.out 1
     have hcz48_0 : w24.cell? ⟨gb218, 0, none⟩ = some (.int .i64 0) := (blk_cell BK218.out 0).trans rfl
     have hcz48_1 : w24.cell? ⟨gb218, 1, none⟩ = some (.int .i64 0) := (blk_cell BK218.out 1).trans rfl
     have hfz48_0 := blk_frozen BK218.out 0
     have hfz48_1 := blk_frozen BK218.out 1
     go_wp2
     go_meet
     case rel => exact ⟨_, ((!(t215 == t207) || (!(t216 == t208)))), (by first | rfl | (simp; done) | (simp [*]; done) | (simp only [i64_w]; done) | (simp [i64_w]; done)), H', ⟨by first | omega | exact Nat.le_refl _⟩, ⟨by (with_reducible repeat (first | refine blk_drewN ?_ _ | refine blk_drew ?_ | refine blk_alloc ?_ _)); refine blk_far ?_ NB205_218.out _; (with_reducible repeat (first | refine blk_drewN ?_ _ | refine blk_drew ?_ | refine blk_alloc ?_ _)); refine blk_far ?_ NB205_218.out _; (with_reducible repeat (first | refine blk_drewN ?_ _ | refine blk_drew ?_ | refine blk_alloc ?_ _)); exact BK205.out⟩, ⟨by repeat (first | (with_reducible first | exact HB.out | apply below_alloc | apply pw_below_drewN | apply below_drew1 | refine below_set ?_ GE205.out | refine below_set ?_ GE210.out | refine below_set ?_ GE218.out) | exact HB.out)⟩⟩
   case rest =>
    as_aux_lemma =>
     clear HC12
     (try clear c1); (try clear c2); (try clear p2); (try clear q2); (try clear hx2); (try clear qi2); (try clear c3); (try clear c4); (try clear c5); (try clear c6); (try clear p6); (try clear c7); (try clear c7b0); (try clear c7b1); (try clear c7b2); (try clear c8); (try clear c9); (try clear c10); (try clear c10b0); (try clear c10b1); (try clear c19); (try clear p20); (try clear q20); (try clear hx20); (try clear qi20); (try clear q22); (try clear c25); (try clear c26); (try clear c28); (try clear c28b0); (try clear c28b1); (try clear c28b2); (try clear c29); (try clear c29b0); (try clear c30); (try clear c31); (try clear c33); (try clear c33b0); (try clear c34); (try clear c35); (try clear c37); (try clear c37b0); (try clear c38); (try clear c39); (try clear c41); (try clear c41b0); (try clear c41b1); (try clear c42); (try clear c42b0); (try clear c42b1); (try clear c43); (try clear c44); (try clear c46); (try clear c49); (try clear c50); (try clear c52); (try clear c54); (try clear c55); (try clear c57); (try clear hcz16_0); (try clear hcz16_1); (try clear hcz20_0); (try clear hcz20_1); (try clear hcz27_0); (try clear hcz27_1); (try clear hcz32_0); (try clear hcz32_1); (try clear hcz36_0); (try clear hcz36_1); (try clear hcz40_0); (try clear hcz40_1); (try clear hcz45_0); (try clear hcz45_1); (try clear hcz47_0); (try clear hcz47_1); (try clear hcz48_0); (try clear hcz48_1); (try clear hcz51_0); (try clear hcz51_1); (try clear hcz53_0); (try clear hcz53_1); (try clear hcz56_0); (try clear hcz56_1); (try clear hcz58_0); (try clear hcz58_1); (try clear hfz16_0); (try clear hfz16_1); (try clear hfz20_0); (try clear hfz20_1); (try clear hfz27_0); (try clear hfz27_1); (try clear hfz32_0); (try clear hfz32_1); (try clear hfz36_0); (try clear hfz36_1); (try clear hfz40_0); (try clear hfz40_1); (try clear hfz45_0); (try clear hfz45_1); (try clear hfz47_0); (try clear hfz47_1); (try clear hfz48_0); (try clear hfz48_1); (try clear hfz51_0); (try clear hfz51_1); (try clear hfz53_0); (try clear hfz53_1); (try clear hfz56_0); (try clear hfz56_1); (try clear hfz58_0); (try clear hfz58_1); (try clear hx204_0); (try clear hx204_1); (try clear p204); (try clear q204); (try clear q22)
     obtain ⟨kq, x84_11, rfl, HA, HJ11, BK205, HB⟩ := hcut
     cases kq with
     | zero => exact absurd HA.out (by simp [laws_FnSprings.j0])
     | succ kj11 =>
      have H := HA.out
      clear HA
      simp only [laws_FnSprings.j0] at H
      by_cases c59 : x84_11 = true
      ·
       subst c59
       have H1 : (some false) = some r := by rw [if_pos rfl] at H; exact H
       clear H
       have H := H1
       clear H1
       obtain rfl := Option.some.inj H
       go_wp2
       go_ret
       exact ⟨by first | rfl | (simp [errW_none, errW_some, i64_w]; done) | (simp [errW_none, errW_some] <;> rfl) | (simp [*, errW_none, errW_some] <;> rfl), by repeat (first | (with_reducible first | exact HB.out | apply below_alloc | apply pw_below_drewN | apply below_drew1) | exact HB.out)⟩
      replace c59 := Bool.eq_false_iff.mpr c59
      subst c59
      have H1 : ((laws_a2At.f l1 1 130).bind fun t219 => ((impl_SpringForce.f kj11 ((rd_T27 t201 0).f0) ((rd_T27 t201 0).f1) t219).bind fun bt220 => (if bt220.2.2 = 0 then (if bt220.2.1 < 1 then (laws_FnSprings.j1 kj11 (wrap64 (t206 * 5)) t219 true ((rd_T27 t201 0).f0) ((rd_T27 t201 0).f1) bt220.1 bt220.2.1) else (if bt220.2.1 > 60 then (laws_FnSprings.j1 kj11 (wrap64 (t206 * 5)) t219 true ((rd_T27 t201 0).f0) ((rd_T27 t201 0).f1) bt220.1 bt220.2.1) else (laws_FnSprings.j1 kj11 (wrap64 (t206 * 5)) t219 (decide (bt220.1 < 0)) ((rd_T27 t201 0).f0) ((rd_T27 t201 0).f1) bt220.1 bt220.2.1))) else (laws_FnSprings.j1 kj11 (wrap64 (t206 * 5)) t219 true ((rd_T27 t201 0).f0) ((rd_T27 t201 0).f1) bt220.1 bt220.2.1)))) = some r := by rw [if_neg (show ¬ (false = true) by decide)] at H; exact H
      clear H
      have H := H1
      clear H1
      replace H := Option.bind_eq_some_iff.mp H
      obtain ⟨t219, A600, H⟩ := H
      replace H : ((impl_SpringForce.f kj11 ((rd_T27 t201 0).f0) ((rd_T27 t201 0).f1) t219).bind fun bt220 => (if bt220.2.2 = 0 then (if bt220.2.1 < 1 then (laws_FnSprings.j1 kj11 (wrap64 (t206 * 5)) t219 true ((rd_T27 t201 0).f0) ((rd_T27 t201 0).f1) bt220.1 bt220.2.1) else (if bt220.2.1 > 60 then (laws_FnSprings.j1 kj11 (wrap64 (t206 * 5)) t219 true ((rd_T27 t201 0).f0) ((rd_T27 t201 0).f1) bt220.1 bt220.2.1) else (laws_FnSprings.j1 kj11 (wrap64 (t206 * 5)) t219 (decide (bt220.1 < 0)) ((rd_T27 t201 0).f0) ((rd_T27 t201 0).f1) bt220.1 bt220.2.1))) else (laws_FnSprings.j1 kj11 (wrap64 (t206 * 5)) t219 true ((rd_T27 t201 0).f0) ((rd_T27 t201 0).f1) bt220.1 bt220.2.1))) = some r := H
      have A60 := aS A600
      clear A600
      replace H := Option.bind_eq_some_iff.mp H
      obtain ⟨⟨t220, t221, t222⟩, A610, H⟩ := H
      replace H : (if t222 = 0 then (if t221 < 1 then (laws_FnSprings.j1 kj11 (wrap64 (t206 * 5)) t219 true ((rd_T27 t201 0).f0) ((rd_T27 t201 0).f1) t220 t221) else (if t221 > 60 then (laws_FnSprings.j1 kj11 (wrap64 (t206 * 5)) t219 true ((rd_T27 t201 0).f0) ((rd_T27 t201 0).f1) t220 t221) else (laws_FnSprings.j1 kj11 (wrap64 (t206 * 5)) t219 (decide (t220 < 0)) ((rd_T27 t201 0).f0) ((rd_T27 t201 0).f1) t220 t221))) else (laws_FnSprings.j1 kj11 (wrap64 (t206 * 5)) t219 true ((rd_T27 t201 0).f0) ((rd_T27 t201 0).f1) t220 t221)) = some r := H
      have A61 := aS A610
      clear A610
      have HC62 := aS H
      clear H
      go_upto_region 12 with (first | ((with_reducible refine gate_callee (f := 7) rfl ?_); refine goesL_ (some 86) rfl rfl Try.func7 (by kernel_rfl) rfl #[.slice A1 l1.length c1, .int .i64 1, .int .i64 130] rfl sG ?_; (with_reducible refine (laws_a2At.calls _ _ l1 1 130 t219 _ ?side1 ?side2 A60.out).mono ?_); (case side1 => exact sC (Kd.C_below HR1.out HB.out)); (case side2 => exact HC1.out); rintro e w' ⟨rfl, ⟨nd, rfl⟩⟩; refine ⟨_, rfl, ?_⟩; (try (rw [drewN_self wc]; generalize hq_ : World.drewN wc _ = wc; have n0_ : Aside0 (wc.heap[gb205]? = some (.cells #[.int .i64 ((rd_T27 t201 0).f0), .int .i64 ((rd_T27 t201 0).f1)] 27 (0, 0))) := ⟨by rw [← hq_]; exact (sB BK205.out)⟩; have n1_ : Aside0 (Below w.heap.size w wc) := ⟨by rw [← hq_]; exact (sW HB.out)⟩; clear BK205 HB hq_; have BK205 := n0_; have HB := n1_; clear n0_ n1_)); (try (have hcu63_0 : wc.cell? ⟨gb205, 0, none⟩ = some (.int .i64 ((rd_T27 t201 0).f0)) := (blk_cell BK205.out 0).trans rfl; have hfu63_0 := blk_frozen BK205.out 0; have hcu63_1 : wc.cell? ⟨gb205, 1, none⟩ = some (.int .i64 ((rd_T27 t201 0).f1)) := (blk_cell BK205.out 1).trans rfl; have hfu63_1 := blk_frozen BK205.out 1)); have hcz64_0 : wc.cell? ⟨gb205, 0, none⟩ = some (.int .i64 ((rd_T27 t201 0).f0)) := (blk_cell BK205.out 0).trans rfl; have hcz64_1 : wc.cell? ⟨gb205, 1, none⟩ = some (.int .i64 ((rd_T27 t201 0).f1)) := (blk_cell BK205.out 1).trans rfl; have hfz64_0 := blk_frozen BK205.out 0; have hfz64_1 := blk_frozen BK205.out 1) | ((with_reducible refine gate_callee (f := 10) rfl ?_); refine goesL_ (some 90) rfl rfl Try.func10 (by kernel_rfl) rfl #[.agg #[.int .i64 ((rd_T27 t201 0).f0), .int .i64 ((rd_T27 t201 0).f1)], .int .i64 t219] rfl sG ?_; (with_reducible refine (impl_SpringForce.calls kj11 ((rd_T27 t201 0).f0) ((rd_T27 t201 0).f1) t219 t220 t221 t222 _ A61.out).mono ?_); rintro e w65 ⟨rfl, hb⟩; refine ⟨_, rfl, ?_⟩; have n0_ := aS (blk_below (g := gb205) (o := .cells #[.int .i64 ((rd_T27 t201 0).f0), .int .i64 ((rd_T27 t201 0).f1)] 27 (0, 0)) (sB BK205.out) hb); have n1_ := aS (below_step (sW HB.out) hb); clear BK205 HB; have BK205 := n0_; have HB := n1_; clear n0_ n1_; (try clear hb); (try clear hb2); (try clear hk); (try clear hi)) | ((with_reducible refine gate_dst (N := 13) rfl ?_); (try (refine gate_guard (by rfl) ?_; dsimp only)); refine box_event ?hg (N := 13) ?hd (cs := #[.int .i64 0, .int .i64 0]) (t := 30) ?hr ?_; (case hd => rfl); (case hg => rfl); (case hr => first | (go_simp; done) | (go_simp; rfl)); intro gb223 hg w66 hbox hb; have n0_ := aS (blk_below (g := gb205) (o := .cells #[.int .i64 ((rd_T27 t201 0).f0), .int .i64 ((rd_T27 t201 0).f1)] 27 (0, 0)) (sB BK205.out) hb); have n1_ := aS (below_step (sW HB.out) hb); have n2_ := aS (hbox); have n3_ := aS ((by rw [hg]; exact (below_size (sW HB.out)) : w.heap.size ≤ gb223)); have n4_ := aS ((by rw [hg]; exact (below_size (sW HB.out)) : w.heap.size ≤ gb223)); have n5_ := aS ((by rw [hg]; exact Nat.ne_of_lt (blk_lt (g := gb205) (o := .cells #[.int .i64 ((rd_T27 t201 0).f0), .int .i64 ((rd_T27 t201 0).f1)] 27 (0, 0)) (sB BK205.out)) : gb205 ≠ gb223)); have n6_ := aS ((by rw [hg]; exact Nat.ne_of_gt (blk_lt (g := gb205) (o := .cells #[.int .i64 ((rd_T27 t201 0).f0), .int .i64 ((rd_T27 t201 0).f1)] 27 (0, 0)) (sB BK205.out)) : gb223 ≠ gb205)); clear BK205 HB; have BK205 := n0_; have HB := n1_; have BK223 := n2_; have GW223 := n3_; have GE223 := n4_; have NB205_223 := n5_; have NB223_205 := n6_; clear n0_ n1_ n2_ n3_ n4_ n5_ n6_; clear hb hbox hg; have hnb67 := NB223_205.out; have hnc67 := NB205_223.out; have hcz68_0 : w66.cell? ⟨gb223, 0, none⟩ = some (.int .i64 0) := (blk_cell BK223.out 0).trans rfl; have hcz68_1 : w66.cell? ⟨gb223, 1, none⟩ = some (.int .i64 0) := (blk_cell BK223.out 1).trans rfl; have hfz68_0 := blk_frozen BK223.out 0; have hfz68_1 := blk_frozen BK223.out 1))
      (try simp only [Act.put, List.setIfInBounds_toArray, List.set_cons_zero, List.set_cons_succ])
      go_cut [109] (fun v109 wc => ∃ (kq : Nat) (x109_61 : Bool), v109 = .bool x109_61 ∧ Aside0 (laws_FnSprings.j1 kq (wrap64 (t206 * 5)) t219 x109_61 ((rd_T27 t201 0).f0) ((rd_T27 t201 0).f1) t220 t221 = some r) ∧ Aside0 (kq ≤ kj11) ∧ Aside0 (wc.heap[gb205]? = some (.cells #[.int .i64 ((rd_T27 t201 0).f0), .int .i64 ((rd_T27 t201 0).f1)] 27 (0, 0))) ∧ Aside0 (wc.heap[gb223]? = some (.cells #[.int .i64 t220, .int .i64 t221] 30 (0, 0))) ∧ Aside0 (Below w.heap.size w wc))
      case first =>
       as_aux_lemma =>
        have H := HC62.out
        clear HC62
        by_cases c69 : t222 = 0
        rotate_left
        ·
         rw [if_neg c69] at H
         have c69b0 : (t222 == 0) = false := beq_eq_false_iff_ne.mpr c69
         have c69b1 : (t222 != 0) = true := bne_iff_ne.mpr c69
         (first | rw [c69b0] | (simp only [i64_w, i32_w]; rw [c69b0]) | (rw [c69b2]; simp only [Bool.not_false, Bool.not_true]) | skip)
         have H' := aS H
         clear H
         go_wp2
         go_meet
         case rel => exact ⟨_, (true), (by first | rfl | (simp; done) | (simp [*]; done) | (simp only [i64_w]; done) | (simp [i64_w]; done)), H', ⟨by have := HJ11.out; first | omega | exact Nat.le_refl _⟩, ⟨by (with_reducible repeat (first | refine blk_drewN ?_ _ | refine blk_drew ?_ | refine blk_alloc ?_ _)); refine blk_far ?_ NB205_223.out _; (with_reducible repeat (first | refine blk_drewN ?_ _ | refine blk_drew ?_ | refine blk_alloc ?_ _)); refine blk_far ?_ NB205_223.out _; (with_reducible repeat (first | refine blk_drewN ?_ _ | refine blk_drew ?_ | refine blk_alloc ?_ _)); exact BK205.out⟩, ⟨by (with_reducible repeat (first | refine blk_drewN ?_ _ | refine blk_drew ?_ | refine blk_alloc ?_ _)); refine blk_put (cs := #[.int .i64 t220, .int .i64 0]) ?_ 1 _ rfl; (with_reducible repeat (first | refine blk_drewN ?_ _ | refine blk_drew ?_ | refine blk_alloc ?_ _)); refine blk_put (cs := #[.int .i64 0, .int .i64 0]) ?_ 0 _ rfl; (with_reducible repeat (first | refine blk_drewN ?_ _ | refine blk_drew ?_ | refine blk_alloc ?_ _)); exact BK223.out⟩, ⟨by repeat (first | (with_reducible first | exact HB.out | apply below_alloc | apply pw_below_drewN | apply below_drew1 | refine below_set ?_ GE205.out | refine below_set ?_ GE223.out) | exact HB.out)⟩⟩
        rw [if_pos c69] at H
        have c69b0 : (t222 == 0) = true := beq_iff_eq.mpr c69
        have c69b1 : (t222 != 0) = false := bne_eq_false_iff_eq.mpr c69
        clear c69
        (first | rw [c69b0] | (simp only [i64_w, i32_w]; rw [c69b0]) | (rw [c69b2]; simp only [Bool.not_false, Bool.not_true]) | skip)
        by_cases c70 : t221 < 1
        ·
         rw [if_pos c70] at H
         have c70b0 : decide (t221 < 1) = true := decide_eq_true c70
         clear c70
         have H' := aS H
         clear H
         have hnb71 := NB223_205.out
         have hnc71 := NB205_223.out
         have hcz72_0 : w66.cell? ⟨gb223, 0, none⟩ = some (.int .i64 0) := (blk_cell BK223.out 0).trans rfl
         have hcz72_1 : w66.cell? ⟨gb223, 1, none⟩ = some (.int .i64 0) := (blk_cell BK223.out 1).trans rfl
         have hfz72_0 := blk_frozen BK223.out 0
         have hfz72_1 := blk_frozen BK223.out 1
         go_wp2
         go_meet
         case rel => exact ⟨_, (true), (by first | rfl | (simp; done) | (simp [*]; done) | (simp only [i64_w]; done) | (simp [i64_w]; done)), H', ⟨by have := HJ11.out; first | omega | exact Nat.le_refl _⟩, ⟨by (with_reducible repeat (first | refine blk_drewN ?_ _ | refine blk_drew ?_ | refine blk_alloc ?_ _)); refine blk_far ?_ NB205_223.out _; (with_reducible repeat (first | refine blk_drewN ?_ _ | refine blk_drew ?_ | refine blk_alloc ?_ _)); refine blk_far ?_ NB205_223.out _; (with_reducible repeat (first | refine blk_drewN ?_ _ | refine blk_drew ?_ | refine blk_alloc ?_ _)); exact BK205.out⟩, ⟨by (with_reducible repeat (first | refine blk_drewN ?_ _ | refine blk_drew ?_ | refine blk_alloc ?_ _)); refine blk_put (cs := #[.int .i64 t220, .int .i64 0]) ?_ 1 _ rfl; (with_reducible repeat (first | refine blk_drewN ?_ _ | refine blk_drew ?_ | refine blk_alloc ?_ _)); refine blk_put (cs := #[.int .i64 0, .int .i64 0]) ?_ 0 _ rfl; (with_reducible repeat (first | refine blk_drewN ?_ _ | refine blk_drew ?_ | refine blk_alloc ?_ _)); exact BK223.out⟩, ⟨by repeat (first | (with_reducible first | exact HB.out | apply below_alloc | apply pw_below_drewN | apply below_drew1 | refine below_set ?_ GE205.out | refine below_set ?_ GE223.out) | exact HB.out)⟩⟩
        rw [if_neg c70] at H
        have c70b0 : decide (t221 < 1) = false := decide_eq_false c70
        clear c70
        by_cases c73 : t221 > 60
        ·
         rw [if_pos c73] at H
         have c73b0 : decide (60 < t221) = true := decide_eq_true c73
         clear c73
         have H' := aS H
         clear H
         have hnb74 := NB223_205.out
         have hnc74 := NB205_223.out
         have hcz75_0 : w66.cell? ⟨gb223, 0, none⟩ = some (.int .i64 0) := (blk_cell BK223.out 0).trans rfl
         have hcz75_1 : w66.cell? ⟨gb223, 1, none⟩ = some (.int .i64 0) := (blk_cell BK223.out 1).trans rfl
         have hfz75_0 := blk_frozen BK223.out 0
         have hfz75_1 := blk_frozen BK223.out 1
         go_wp2
         go_meet
         case rel => exact ⟨_, (true), (by first | rfl | (simp; done) | (simp [*]; done) | (simp only [i64_w]; done) | (simp [i64_w]; done)), H', ⟨by have := HJ11.out; first | omega | exact Nat.le_refl _⟩, ⟨by (with_reducible repeat (first | refine blk_drewN ?_ _ | refine blk_drew ?_ | refine blk_alloc ?_ _)); refine blk_far ?_ NB205_223.out _; (with_reducible repeat (first | refine blk_drewN ?_ _ | refine blk_drew ?_ | refine blk_alloc ?_ _)); refine blk_far ?_ NB205_223.out _; (with_reducible repeat (first | refine blk_drewN ?_ _ | refine blk_drew ?_ | refine blk_alloc ?_ _)); exact BK205.out⟩, ⟨by (with_reducible repeat (first | refine blk_drewN ?_ _ | refine blk_drew ?_ | refine blk_alloc ?_ _)); refine blk_put (cs := #[.int .i64 t220, .int .i64 0]) ?_ 1 _ rfl; (with_reducible repeat (first | refine blk_drewN ?_ _ | refine blk_drew ?_ | refine blk_alloc ?_ _)); refine blk_put (cs := #[.int .i64 0, .int .i64 0]) ?_ 0 _ rfl; (with_reducible repeat (first | refine blk_drewN ?_ _ | refine blk_drew ?_ | refine blk_alloc ?_ _)); exact BK223.out⟩, ⟨by repeat (first | (with_reducible first | exact HB.out | apply below_alloc | apply pw_below_drewN | apply below_drew1 | refine below_set ?_ GE205.out | refine below_set ?_ GE223.out) | exact HB.out)⟩⟩
        rw [if_neg c73] at H
        have c73b0 : decide (60 < t221) = false := decide_eq_false c73
        clear c73
        have H' := aS H
        clear H
        have hnb76 := NB223_205.out
        have hnc76 := NB205_223.out
        have hcz77_0 : w66.cell? ⟨gb223, 0, none⟩ = some (.int .i64 0) := (blk_cell BK223.out 0).trans rfl
        have hcz77_1 : w66.cell? ⟨gb223, 1, none⟩ = some (.int .i64 0) := (blk_cell BK223.out 1).trans rfl
        have hfz77_0 := blk_frozen BK223.out 0
        have hfz77_1 := blk_frozen BK223.out 1
        go_wp2
        go_meet
        case rel => exact ⟨_, (decide (t220 < 0)), (by first | rfl | (simp; done) | (simp [*]; done) | (simp only [i64_w]; done) | (simp [i64_w]; done)), H', ⟨by have := HJ11.out; first | omega | exact Nat.le_refl _⟩, ⟨by (with_reducible repeat (first | refine blk_drewN ?_ _ | refine blk_drew ?_ | refine blk_alloc ?_ _)); refine blk_far ?_ NB205_223.out _; (with_reducible repeat (first | refine blk_drewN ?_ _ | refine blk_drew ?_ | refine blk_alloc ?_ _)); refine blk_far ?_ NB205_223.out _; (with_reducible repeat (first | refine blk_drewN ?_ _ | refine blk_drew ?_ | refine blk_alloc ?_ _)); exact BK205.out⟩, ⟨by (with_reducible repeat (first | refine blk_drewN ?_ _ | refine blk_drew ?_ | refine blk_alloc ?_ _)); refine blk_put (cs := #[.int .i64 t220, .int .i64 0]) ?_ 1 _ rfl; (with_reducible repeat (first | refine blk_drewN ?_ _ | refine blk_drew ?_ | refine blk_alloc ?_ _)); refine blk_put (cs := #[.int .i64 0, .int .i64 0]) ?_ 0 _ rfl; (with_reducible repeat (first | refine blk_drewN ?_ _ | refine blk_drew ?_ | refine blk_alloc ?_ _)); exact BK223.out⟩, ⟨by repeat (first | (with_reducible first | exact HB.out | apply below_alloc | apply pw_below_drewN | apply below_drew1 | refine below_set ?_ GE205.out | refine below_set ?_ GE223.out) | exact HB.out)⟩⟩
      case rest =>
       as_aux_lemma =>
        clear HC62
        (try clear c1); (try clear c2); (try clear p2); (try clear q2); (try clear hx2); (try clear qi2); (try clear c3); (try clear c4); (try clear c5); (try clear c6); (try clear p6); (try clear c7); (try clear c7b0); (try clear c7b1); (try clear c7b2); (try clear c8); (try clear c9); (try clear c10); (try clear c10b0); (try clear c10b1); (try clear c19); (try clear p20); (try clear q20); (try clear hx20); (try clear qi20); (try clear q22); (try clear c25); (try clear c26); (try clear c28); (try clear c28b0); (try clear c28b1); (try clear c28b2); (try clear c29); (try clear c29b0); (try clear c30); (try clear c31); (try clear c33); (try clear c33b0); (try clear c34); (try clear c35); (try clear c37); (try clear c37b0); (try clear c38); (try clear c39); (try clear c41); (try clear c41b0); (try clear c41b1); (try clear c42); (try clear c42b0); (try clear c42b1); (try clear c43); (try clear c44); (try clear c46); (try clear c49); (try clear c50); (try clear c52); (try clear c54); (try clear c55); (try clear c57); (try clear c59); (try clear p64); (try clear c67); (try clear c69); (try clear c69b0); (try clear c69b1); (try clear c69b2); (try clear c70); (try clear c70b0); (try clear c71); (try clear c73); (try clear c73b0); (try clear c74); (try clear c76); (try clear hcz16_0); (try clear hcz16_1); (try clear hcz20_0); (try clear hcz20_1); (try clear hcz27_0); (try clear hcz27_1); (try clear hcz32_0); (try clear hcz32_1); (try clear hcz36_0); (try clear hcz36_1); (try clear hcz40_0); (try clear hcz40_1); (try clear hcz45_0); (try clear hcz45_1); (try clear hcz47_0); (try clear hcz47_1); (try clear hcz48_0); (try clear hcz48_1); (try clear hcz51_0); (try clear hcz51_1); (try clear hcz53_0); (try clear hcz53_1); (try clear hcz56_0); (try clear hcz56_1); (try clear hcz58_0); (try clear hcz58_1); (try clear hcz64_0); (try clear hcz64_1); (try clear hcz68_0); (try clear hcz68_1); (try clear hcz72_0); (try clear hcz72_1); (try clear hcz75_0); (try clear hcz75_1); (try clear hcz77_0); (try clear hcz77_1); (try clear hfz16_0); (try clear hfz16_1); (try clear hfz20_0); (try clear hfz20_1); (try clear hfz27_0); (try clear hfz27_1); (try clear hfz32_0); (try clear hfz32_1); (try clear hfz36_0); (try clear hfz36_1); (try clear hfz40_0); (try clear hfz40_1); (try clear hfz45_0); (try clear hfz45_1); (try clear hfz47_0); (try clear hfz47_1); (try clear hfz48_0); (try clear hfz48_1); (try clear hfz51_0); (try clear hfz51_1); (try clear hfz53_0); (try clear hfz53_1); (try clear hfz56_0); (try clear hfz56_1); (try clear hfz58_0); (try clear hfz58_1); (try clear hfz64_0); (try clear hfz64_1); (try clear hfz68_0); (try clear hfz68_1); (try clear hfz72_0); (try clear hfz72_1); (try clear hfz75_0); (try clear hfz75_1); (try clear hfz77_0); (try clear hfz77_1); (try clear hx204_0); (try clear hx204_1); (try clear p2); (try clear p20); (try clear p204); (try clear p6); (try clear q2); (try clear q20); (try clear q204); (try clear q22)
        obtain ⟨kq, x109_61, rfl, HA, HJ61, BK205, BK223, HB⟩ := hcut
        cases kq with
        | zero => exact absurd HA.out (by simp [laws_FnSprings.j1])
        | succ kj61 =>
         have H := HA.out
         clear HA
         simp only [laws_FnSprings.j1] at H
         by_cases c78 : x109_61 = true
         ·
          subst c78
          have H1 : (some false) = some r := by rw [if_pos rfl] at H; exact H
          clear H
          have H := H1
          clear H1
          obtain rfl := Option.some.inj H
          go_wp2
          go_ret
          exact ⟨by first | rfl | (simp [errW_none, errW_some, i64_w]; done) | (simp [errW_none, errW_some] <;> rfl) | (simp [*, errW_none, errW_some] <;> rfl), by repeat (first | (with_reducible first | exact HB.out | apply below_alloc | apply pw_below_drewN | apply below_drew1) | exact HB.out)⟩
         replace c78 := Bool.eq_false_iff.mpr c78
         subst c78
         have H1 : (if t219 ≤ ((rd_T27 t201 0).f0) then (if t220 = 0 then (if t219 > ((rd_T27 t201 0).f0) then (laws_FnSprings.j2 kj61 (wrap64 (t206 * 5)) t219 ((wrap64 (t220 * ((rd_T27 t201 0).f0))) != (wrap64 ((wrap64 (((rd_T27 t201 0).f1) * (wrap64 (t219 - ((rd_T27 t201 0).f0))))) * t221))) ((rd_T27 t201 0).f0) ((rd_T27 t201 0).f1)) else (laws_FnSprings.j2 kj61 (wrap64 (t206 * 5)) t219 false ((rd_T27 t201 0).f0) ((rd_T27 t201 0).f1))) else (laws_FnSprings.j2 kj61 (wrap64 (t206 * 5)) t219 true ((rd_T27 t201 0).f0) ((rd_T27 t201 0).f1))) else (if t219 > ((rd_T27 t201 0).f0) then (laws_FnSprings.j2 kj61 (wrap64 (t206 * 5)) t219 ((wrap64 (t220 * ((rd_T27 t201 0).f0))) != (wrap64 ((wrap64 (((rd_T27 t201 0).f1) * (wrap64 (t219 - ((rd_T27 t201 0).f0))))) * t221))) ((rd_T27 t201 0).f0) ((rd_T27 t201 0).f1)) else (laws_FnSprings.j2 kj61 (wrap64 (t206 * 5)) t219 false ((rd_T27 t201 0).f0) ((rd_T27 t201 0).f1)))) = some r := by rw [if_neg (show ¬ (false = true) by decide)] at H; exact H
         clear H
         have H := H1
         clear H1
         have HC79 := aS H
         clear H
         go_upto_region 14 with (fail)
         go_cut [142] (fun v142 wc => ∃ (kq : Nat) (x142_78 : Bool), v142 = .bool x142_78 ∧ Aside0 (laws_FnSprings.j2 kq (wrap64 (t206 * 5)) t219 x142_78 ((rd_T27 t201 0).f0) ((rd_T27 t201 0).f1) = some r) ∧ Aside0 (kq ≤ kj61) ∧ Aside0 (wc.heap[gb205]? = some (.cells #[.int .i64 ((rd_T27 t201 0).f0), .int .i64 ((rd_T27 t201 0).f1)] 27 (0, 0))) ∧ Aside0 (Below w.heap.size w wc))
         case first =>
          as_aux_lemma =>
           have H := HC79.out
           clear HC79
           by_cases c80 : t219 ≤ ((rd_T27 t201 0).f0)
           rotate_left
           ·
            rw [if_neg c80] at H
            have c80b0 : decide (t219 ≤ ((rd_T27 t201 0).f0)) = false := decide_eq_false c80
            clear c80
            (first | rw [c80b0] | (simp only [i64_w, i32_w]; rw [c80b0]) | (rw [c80b2]; simp only [Bool.not_false, Bool.not_true]) | skip)
            by_cases c92 : t219 > ((rd_T27 t201 0).f0)
            rotate_left
            ·
             rw [if_neg c92] at H
             have c92b0 : decide (((rd_T27 t201 0).f0) < t219) = false := decide_eq_false c92
             clear c92
             have H' := aS H
             clear H
             have hnb96 := NB205_223.out
             have hnc96 := NB223_205.out
             have hcz97_0 : wc.cell? ⟨gb205, 0, none⟩ = some (.int .i64 ((rd_T27 t201 0).f0)) := (blk_cell BK205.out 0).trans rfl
             have hcz97_1 : wc.cell? ⟨gb205, 1, none⟩ = some (.int .i64 ((rd_T27 t201 0).f1)) := (blk_cell BK205.out 1).trans rfl
             have hfz97_0 := blk_frozen BK205.out 0
             have hfz97_1 := blk_frozen BK205.out 1
             go_wp2
             go_meet
             case rel => exact ⟨_, (false), (by first | rfl | (simp; done) | (simp [*]; done) | (simp only [i64_w]; done) | (simp [i64_w]; done)), H', ⟨by have := HJ11.out; have := HJ61.out; first | omega | exact Nat.le_refl _⟩, ⟨by (with_reducible repeat (first | refine blk_drewN ?_ _ | refine blk_drew ?_ | refine blk_alloc ?_ _)); exact BK205.out⟩, ⟨by repeat (first | (with_reducible first | exact HB.out | apply below_alloc | apply pw_below_drewN | apply below_drew1 | refine below_set ?_ GE205.out) | exact HB.out)⟩⟩
            rw [if_pos c92] at H
            have c92b0 : decide (((rd_T27 t201 0).f0) < t219) = true := decide_eq_true c92
            clear c92
            have H' := aS H
            clear H
            have hnb93 := NB205_223.out
            have hnc93 := NB223_205.out
            have hcz94_0 : wc.cell? ⟨gb205, 0, none⟩ = some (.int .i64 ((rd_T27 t201 0).f0)) := (blk_cell BK205.out 0).trans rfl
            have hcz94_1 : wc.cell? ⟨gb205, 1, none⟩ = some (.int .i64 ((rd_T27 t201 0).f1)) := (blk_cell BK205.out 1).trans rfl
            have hfz94_0 := blk_frozen BK205.out 0
            have hfz94_1 := blk_frozen BK205.out 1
            have hcz95_0 : wc.cell? ⟨gb223, 0, none⟩ = some (.int .i64 t220) := (blk_cell BK223.out 0).trans rfl
            have hcz95_1 : wc.cell? ⟨gb223, 1, none⟩ = some (.int .i64 t221) := (blk_cell BK223.out 1).trans rfl
            have hfz95_0 := blk_frozen BK223.out 0
            have hfz95_1 := blk_frozen BK223.out 1
            go_wp2
            go_meet
            case rel => exact ⟨_, (((wrap64 (t220 * ((rd_T27 t201 0).f0))) != (wrap64 ((wrap64 (((rd_T27 t201 0).f1) * (wrap64 (t219 - ((rd_T27 t201 0).f0))))) * t221)))), (by first | rfl | (simp; done) | (simp [*]; done) | (simp only [i64_w]; done) | (simp [i64_w]; done)), H', ⟨by have := HJ11.out; have := HJ61.out; first | omega | exact Nat.le_refl _⟩, ⟨by (with_reducible repeat (first | refine blk_drewN ?_ _ | refine blk_drew ?_ | refine blk_alloc ?_ _)); exact BK205.out⟩, ⟨by repeat (first | (with_reducible first | exact HB.out | apply below_alloc | apply pw_below_drewN | apply below_drew1 | refine below_set ?_ GE205.out) | exact HB.out)⟩⟩
           rw [if_pos c80] at H
           have c80b0 : decide (t219 ≤ ((rd_T27 t201 0).f0)) = true := decide_eq_true c80
           clear c80
           (first | rw [c80b0] | (simp only [i64_w, i32_w]; rw [c80b0]) | (rw [c80b2]; simp only [Bool.not_false, Bool.not_true]) | skip)
           by_cases c81 : t220 = 0
           rotate_left
           ·
            rw [if_neg c81] at H
            have c81b0 : (t220 == 0) = false := beq_eq_false_iff_ne.mpr c81
            have c81b1 : (t220 != 0) = true := bne_iff_ne.mpr c81
            have H' := aS H
            clear H
            have hnb89 := NB205_223.out
            have hnc89 := NB223_205.out
            have hcz90_0 : wc.cell? ⟨gb205, 0, none⟩ = some (.int .i64 ((rd_T27 t201 0).f0)) := (blk_cell BK205.out 0).trans rfl
            have hcz90_1 : wc.cell? ⟨gb205, 1, none⟩ = some (.int .i64 ((rd_T27 t201 0).f1)) := (blk_cell BK205.out 1).trans rfl
            have hfz90_0 := blk_frozen BK205.out 0
            have hfz90_1 := blk_frozen BK205.out 1
            have hcz91_0 : wc.cell? ⟨gb223, 0, none⟩ = some (.int .i64 t220) := (blk_cell BK223.out 0).trans rfl
            have hcz91_1 : wc.cell? ⟨gb223, 1, none⟩ = some (.int .i64 t221) := (blk_cell BK223.out 1).trans rfl
            have hfz91_0 := blk_frozen BK223.out 0
            have hfz91_1 := blk_frozen BK223.out 1
            go_wp2
            go_meet
            case rel => exact ⟨_, (true), (by first | rfl | (simp; done) | (simp [*]; done) | (simp only [i64_w]; done) | (simp [i64_w]; done)), H', ⟨by have := HJ11.out; have := HJ61.out; first | omega | exact Nat.le_refl _⟩, ⟨by (with_reducible repeat (first | refine blk_drewN ?_ _ | refine blk_drew ?_ | refine blk_alloc ?_ _)); exact BK205.out⟩, ⟨by repeat (first | (with_reducible first | exact HB.out | apply below_alloc | apply pw_below_drewN | apply below_drew1 | refine below_set ?_ GE205.out) | exact HB.out)⟩⟩
           rw [if_pos c81] at H
           have c81b0 : (t220 == 0) = true := beq_iff_eq.mpr c81
           have c81b1 : (t220 != 0) = false := bne_eq_false_iff_eq.mpr c81
           clear c81
           by_cases c82 : t219 > ((rd_T27 t201 0).f0)
           rotate_left
           ·
            rw [if_neg c82] at H
            have c82b0 : decide (((rd_T27 t201 0).f0) < t219) = false := decide_eq_false c82
            clear c82
            have H' := aS H
            clear H
            have hnb86 := NB205_223.out
            have hnc86 := NB223_205.out
            have hcz87_0 : wc.cell? ⟨gb205, 0, none⟩ = some (.int .i64 ((rd_T27 t201 0).f0)) := (blk_cell BK205.out 0).trans rfl
            have hcz87_1 : wc.cell? ⟨gb205, 1, none⟩ = some (.int .i64 ((rd_T27 t201 0).f1)) := (blk_cell BK205.out 1).trans rfl
            have hfz87_0 := blk_frozen BK205.out 0
            have hfz87_1 := blk_frozen BK205.out 1
            have hcz88_0 : wc.cell? ⟨gb223, 0, none⟩ = some (.int .i64 t220) := (blk_cell BK223.out 0).trans rfl
            have hcz88_1 : wc.cell? ⟨gb223, 1, none⟩ = some (.int .i64 t221) := (blk_cell BK223.out 1).trans rfl
            have hfz88_0 := blk_frozen BK223.out 0
            have hfz88_1 := blk_frozen BK223.out 1
            go_wp2
            go_meet
            case rel => exact ⟨_, (false), (by first | rfl | (simp; done) | (simp [*]; done) | (simp only [i64_w]; done) | (simp [i64_w]; done)), H', ⟨by have := HJ11.out; have := HJ61.out; first | omega | exact Nat.le_refl _⟩, ⟨by (with_reducible repeat (first | refine blk_drewN ?_ _ | refine blk_drew ?_ | refine blk_alloc ?_ _)); exact BK205.out⟩, ⟨by repeat (first | (with_reducible first | exact HB.out | apply below_alloc | apply pw_below_drewN | apply below_drew1 | refine below_set ?_ GE205.out) | exact HB.out)⟩⟩
           rw [if_pos c82] at H
           have c82b0 : decide (((rd_T27 t201 0).f0) < t219) = true := decide_eq_true c82
           clear c82
           have H' := aS H
           clear H
           have hnb83 := NB205_223.out
           have hnc83 := NB223_205.out
           have hcz84_0 : wc.cell? ⟨gb205, 0, none⟩ = some (.int .i64 ((rd_T27 t201 0).f0)) := (blk_cell BK205.out 0).trans rfl
           have hcz84_1 : wc.cell? ⟨gb205, 1, none⟩ = some (.int .i64 ((rd_T27 t201 0).f1)) := (blk_cell BK205.out 1).trans rfl
           have hfz84_0 := blk_frozen BK205.out 0
           have hfz84_1 := blk_frozen BK205.out 1
           have hcz85_0 : wc.cell? ⟨gb223, 0, none⟩ = some (.int .i64 t220) := (blk_cell BK223.out 0).trans rfl
           have hcz85_1 : wc.cell? ⟨gb223, 1, none⟩ = some (.int .i64 t221) := (blk_cell BK223.out 1).trans rfl
           have hfz85_0 := blk_frozen BK223.out 0
           have hfz85_1 := blk_frozen BK223.out 1
           go_wp2
           go_meet
           case rel => exact ⟨_, (((wrap64 (t220 * ((rd_T27 t201 0).f0))) != (wrap64 ((wrap64 (((rd_T27 t201 0).f1) * (wrap64 (t219 - ((rd_T27 t201 0).f0))))) * t221)))), (by first | rfl | (simp; done) | (simp [*]; done) | (simp only [i64_w]; done) | (simp [i64_w]; done)), H', ⟨by have := HJ11.out; have := HJ61.out; first | omega | exact Nat.le_refl _⟩, ⟨by (with_reducible repeat (first | refine blk_drewN ?_ _ | refine blk_drew ?_ | refine blk_alloc ?_ _)); exact BK205.out⟩, ⟨by repeat (first | (with_reducible first | exact HB.out | apply below_alloc | apply pw_below_drewN | apply below_drew1 | refine below_set ?_ GE205.out) | exact HB.out)⟩⟩
         case rest =>
          as_aux_lemma =>
           clear HC79
           (try clear c1); (try clear c2); (try clear p2); (try clear q2); (try clear hx2); (try clear qi2); (try clear c3); (try clear c4); (try clear c5); (try clear c6); (try clear p6); (try clear c7); (try clear c7b0); (try clear c7b1); (try clear c7b2); (try clear c8); (try clear c9); (try clear c10); (try clear c10b0); (try clear c10b1); (try clear c19); (try clear p20); (try clear q20); (try clear hx20); (try clear qi20); (try clear q22); (try clear c25); (try clear c26); (try clear c28); (try clear c28b0); (try clear c28b1); (try clear c28b2); (try clear c29); (try clear c29b0); (try clear c30); (try clear c31); (try clear c33); (try clear c33b0); (try clear c34); (try clear c35); (try clear c37); (try clear c37b0); (try clear c38); (try clear c39); (try clear c41); (try clear c41b0); (try clear c41b1); (try clear c42); (try clear c42b0); (try clear c42b1); (try clear c43); (try clear c44); (try clear c46); (try clear c49); (try clear c50); (try clear c52); (try clear c54); (try clear c55); (try clear c57); (try clear c59); (try clear p64); (try clear c67); (try clear c69); (try clear c69b0); (try clear c69b1); (try clear c69b2); (try clear c70); (try clear c70b0); (try clear c71); (try clear c73); (try clear c73b0); (try clear c74); (try clear c76); (try clear c78); (try clear c80); (try clear c80b0); (try clear c80b2); (try clear c81); (try clear c81b0); (try clear c81b1); (try clear c82); (try clear c82b0); (try clear c83); (try clear c86); (try clear c89); (try clear c92); (try clear c92b0); (try clear c93); (try clear c96); (try clear hcz16_0); (try clear hcz16_1); (try clear hcz20_0); (try clear hcz20_1); (try clear hcz27_0); (try clear hcz27_1); (try clear hcz32_0); (try clear hcz32_1); (try clear hcz36_0); (try clear hcz36_1); (try clear hcz40_0); (try clear hcz40_1); (try clear hcz45_0); (try clear hcz45_1); (try clear hcz47_0); (try clear hcz47_1); (try clear hcz48_0); (try clear hcz48_1); (try clear hcz51_0); (try clear hcz51_1); (try clear hcz53_0); (try clear hcz53_1); (try clear hcz56_0); (try clear hcz56_1); (try clear hcz58_0); (try clear hcz58_1); (try clear hcz64_0); (try clear hcz64_1); (try clear hcz68_0); (try clear hcz68_1); (try clear hcz72_0); (try clear hcz72_1); (try clear hcz75_0); (try clear hcz75_1); (try clear hcz77_0); (try clear hcz77_1); (try clear hcz84_0); (try clear hcz84_1); (try clear hcz85_0); (try clear hcz85_1); (try clear hcz87_0); (try clear hcz87_1); (try clear hcz88_0); (try clear hcz88_1); (try clear hcz90_0); (try clear hcz90_1); (try clear hcz91_0); (try clear hcz91_1); (try clear hcz94_0); (try clear hcz94_1); (try clear hcz95_0); (try clear hcz95_1); (try clear hcz97_0); (try clear hcz97_1); (try clear hfz16_0); (try clear hfz16_1); (try clear hfz20_0); (try clear hfz20_1); (try clear hfz27_0); (try clear hfz27_1); (try clear hfz32_0); (try clear hfz32_1); (try clear hfz36_0); (try clear hfz36_1); (try clear hfz40_0); (try clear hfz40_1); (try clear hfz45_0); (try clear hfz45_1); (try clear hfz47_0); (try clear hfz47_1); (try clear hfz48_0); (try clear hfz48_1); (try clear hfz51_0); (try clear hfz51_1); (try clear hfz53_0); (try clear hfz53_1); (try clear hfz56_0); (try clear hfz56_1); (try clear hfz58_0); (try clear hfz58_1); (try clear hfz64_0); (try clear hfz64_1); (try clear hfz68_0); (try clear hfz68_1); (try clear hfz72_0); (try clear hfz72_1); (try clear hfz75_0); (try clear hfz75_1); (try clear hfz77_0); (try clear hfz77_1); (try clear hfz84_0); (try clear hfz84_1); (try clear hfz85_0); (try clear hfz85_1); (try clear hfz87_0); (try clear hfz87_1); (try clear hfz88_0); (try clear hfz88_1); (try clear hfz90_0); (try clear hfz90_1); (try clear hfz91_0); (try clear hfz91_1); (try clear hfz94_0); (try clear hfz94_1); (try clear hfz95_0); (try clear hfz95_1); (try clear hfz97_0); (try clear hfz97_1); (try clear hx204_0); (try clear hx204_1); (try clear p2); (try clear p20); (try clear p204); (try clear p6); (try clear p64); (try clear q2); (try clear q20); (try clear q204); (try clear q22)
           obtain ⟨kq, x142_78, rfl, HA, HJ78, BK205, HB⟩ := hcut
           cases kq with
           | zero => exact absurd HA.out (by simp [laws_FnSprings.j2])
           | succ kj78 =>
            have H := HA.out
            clear HA
            simp only [laws_FnSprings.j2] at H
            by_cases c98 : x142_78 = true
            ·
             subst c98
             have H1 : (some false) = some r := by rw [if_pos rfl] at H; exact H
             clear H
             have H := H1
             clear H1
             obtain rfl := Option.some.inj H
             go_wp2
             go_ret
             exact ⟨by first | rfl | (simp [errW_none, errW_some, i64_w]; done) | (simp [errW_none, errW_some] <;> rfl) | (simp [*, errW_none, errW_some] <;> rfl), by repeat (first | (with_reducible first | exact HB.out | apply below_alloc | apply pw_below_drewN | apply below_drew1) | exact HB.out)⟩
            replace c98 := Bool.eq_false_iff.mpr c98
            subst c98
            have H1 : ((impl_EvenStiff.f kj78 ((rd_T27 t201 0).f0) (wrap64 (t206 * 5)) (wrap64 (t219 + 1))).bind fun bt224 => (if bt224.2 = 0 then (if bt224.1 ≥ 1 then (if bt224.1 ≤ 1000 then (if (mx 0 (wrap64 (bt224.1 * (wrap64 ((wrap64 (t219 + 1)) - ((rd_T27 t201 0).f0)))))) ≥ (wrap64 ((wrap64 (t206 * 5)) * ((rd_T27 t201 0).f0))) then (if bt224.1 = 1 then (some true) else (some (decide ((mx 0 (wrap64 ((wrap64 (bt224.1 - 1)) * (wrap64 ((wrap64 (t219 + 1)) - ((rd_T27 t201 0).f0)))))) < (wrap64 ((wrap64 (t206 * 5)) * ((rd_T27 t201 0).f0))))))) else (some false)) else (some false)) else (some false)) else (if bt224.2 = 3 then (some (decide ((mx 0 (wrap64 (1000 * (wrap64 ((wrap64 (t219 + 1)) - ((rd_T27 t201 0).f0)))))) < (wrap64 ((wrap64 (t206 * 5)) * ((rd_T27 t201 0).f0)))))) else (some false)))) = some r := by rw [if_neg (show ¬ (false = true) by decide)] at H; exact H
            clear H
            have H := H1
            clear H1
            replace H := Option.bind_eq_some_iff.mp H
            obtain ⟨⟨t224, t225⟩, A990, H⟩ := H
            replace H : (if t225 = 0 then (if t224 ≥ 1 then (if t224 ≤ 1000 then (if (mx 0 (wrap64 (t224 * (wrap64 ((wrap64 (t219 + 1)) - ((rd_T27 t201 0).f0)))))) ≥ (wrap64 ((wrap64 (t206 * 5)) * ((rd_T27 t201 0).f0))) then (if t224 = 1 then (some true) else (some (decide ((mx 0 (wrap64 ((wrap64 (t224 - 1)) * (wrap64 ((wrap64 (t219 + 1)) - ((rd_T27 t201 0).f0)))))) < (wrap64 ((wrap64 (t206 * 5)) * ((rd_T27 t201 0).f0))))))) else (some false)) else (some false)) else (some false)) else (if t225 = 3 then (some (decide ((mx 0 (wrap64 (1000 * (wrap64 ((wrap64 (t219 + 1)) - ((rd_T27 t201 0).f0)))))) < (wrap64 ((wrap64 (t206 * 5)) * ((rd_T27 t201 0).f0)))))) else (some false))) = some r := H
            have A99 := aS A990
            clear A990
            have HC100 := aS H
            clear H
            have hcz101_0 : wc.cell? ⟨gb205, 0, none⟩ = some (.int .i64 ((rd_T27 t201 0).f0)) := (blk_cell BK205.out 0).trans rfl
            have hcz101_1 : wc.cell? ⟨gb205, 1, none⟩ = some (.int .i64 ((rd_T27 t201 0).f1)) := (blk_cell BK205.out 1).trans rfl
            have hfz101_0 := blk_frozen BK205.out 0
            have hfz101_1 := blk_frozen BK205.out 1
            go_upto_if 153 with (first | ((with_reducible refine gate_callee (f := 11) rfl ?_); refine goesL_ (some 149) rfl rfl Try.func11 (by kernel_rfl) rfl #[.int .i64 ((rd_T27 t201 0).f0), .int .i64 (wrap64 (t206 * 5)), .int .i64 (wrap64 (t219 + 1))] rfl sG ?_; (with_reducible refine (impl_EvenStiff.calls kj78 ((rd_T27 t201 0).f0) (wrap64 (t206 * 5)) (wrap64 (t219 + 1)) t224 t225 _ A99.out).mono ?_); rintro e w' ⟨rfl, ⟨nd, rfl⟩⟩; refine ⟨_, rfl, ?_⟩))
            (try simp only [Act.put, List.setIfInBounds_toArray, List.set_cons_zero, List.set_cons_succ])
            have H := HC100.out
            clear HC100
            by_cases c102 : t225 = 0
            rotate_left
            ·
             rw [if_neg c102] at H
             have c102b0 : (t225 == 0) = false := beq_eq_false_iff_ne.mpr c102
             have c102b1 : (t225 != 0) = true := bne_iff_ne.mpr c102
             (first | rw [c102b0] | (simp only [i64_w, i32_w]; rw [c102b0]) | (rw [c102b2]; simp only [Bool.not_false, Bool.not_true]) | skip)
             by_cases c112 : t225 = 3
             rotate_left
             ·
              rw [if_neg c112] at H
              have c112b0 : (t225 == 3) = false := beq_eq_false_iff_ne.mpr c112
              have c112b1 : (t225 != 3) = true := bne_iff_ne.mpr c112
              obtain rfl := Option.some.inj H
              go_wp2
              go_ret
              exact ⟨by first | rfl | (simp [errW_none, errW_some, i64_w]; done) | (simp [errW_none, errW_some] <;> rfl) | (simp [*, errW_none, errW_some] <;> rfl), by repeat (first | (with_reducible first | exact HB.out | apply below_alloc | apply pw_below_drewN | apply below_drew1) | exact HB.out)⟩
             rw [if_pos c112] at H
             have c112b0 : (t225 == 3) = true := beq_iff_eq.mpr c112
             have c112b1 : (t225 != 3) = false := bne_eq_false_iff_eq.mpr c112
             clear c112
             obtain ⟨ji113, hji113⟩ : ∃ j_ : Int, (mx 0 (wrap64 (1000 * (wrap64 ((wrap64 (t219 + 1)) - ((rd_T27 t201 0).f0)))))) = j_ := ⟨_, rfl⟩
             replace H : (some (decide ((ji113) < (wrap64 ((wrap64 (t206 * 5)) * ((rd_T27 t201 0).f0)))))) = some r := by first | (rw [hji113] at H; exact H) | (simp only [hji113] at H ⊢; exact H)
             have hji113_ : (if 0 < (wrap64 (1000 * (wrap64 ((wrap64 (t219 + 1)) - ((rd_T27 t201 0).f0))))) then (wrap64 (1000 * (wrap64 ((wrap64 (t219 + 1)) - ((rd_T27 t201 0).f0))))) else 0) = ji113 := hji113
             obtain rfl := Option.some.inj H
             have hcz114_0 : wc.cell? ⟨gb205, 0, none⟩ = some (.int .i64 ((rd_T27 t201 0).f0)) := (blk_cell BK205.out 0).trans rfl
             have hcz114_1 : wc.cell? ⟨gb205, 1, none⟩ = some (.int .i64 ((rd_T27 t201 0).f1)) := (blk_cell BK205.out 1).trans rfl
             have hfz114_0 := blk_frozen BK205.out 0
             have hfz114_1 := blk_frozen BK205.out 1
             go_wp2
             go_ret
             exact ⟨by first | rfl | (simp [errW_none, errW_some, i64_w]; done) | (simp [errW_none, errW_some] <;> rfl) | (simp only [← hji113]; first | rfl | (simp [errW_none, errW_some] <;> rfl)) | (simp [*, errW_none, errW_some] <;> rfl), by repeat (first | (with_reducible first | exact HB.out | apply below_alloc | apply pw_below_drewN | apply below_drew1) | exact HB.out)⟩
            rw [if_pos c102] at H
            have c102b0 : (t225 == 0) = true := beq_iff_eq.mpr c102
            have c102b1 : (t225 != 0) = false := bne_eq_false_iff_eq.mpr c102
            clear c102
            (first | rw [c102b0] | (simp only [i64_w, i32_w]; rw [c102b0]) | (rw [c102b2]; simp only [Bool.not_false, Bool.not_true]) | skip)
            by_cases c103 : t224 ≥ 1
            rotate_left
            ·
             rw [if_neg c103] at H
             have c103b0 : decide (1 ≤ t224) = false := decide_eq_false c103
             clear c103
             obtain rfl := Option.some.inj H
             go_wp2
             go_ret
             exact ⟨by first | rfl | (simp [errW_none, errW_some, i64_w]; done) | (simp [errW_none, errW_some] <;> rfl) | (simp [*, errW_none, errW_some] <;> rfl), by repeat (first | (with_reducible first | exact HB.out | apply below_alloc | apply pw_below_drewN | apply below_drew1) | exact HB.out)⟩
            rw [if_pos c103] at H
            have c103b0 : decide (1 ≤ t224) = true := decide_eq_true c103
            clear c103
            by_cases c104 : t224 ≤ 1000
            rotate_left
            ·
             rw [if_neg c104] at H
             have c104b0 : decide (t224 ≤ 1000) = false := decide_eq_false c104
             clear c104
             obtain rfl := Option.some.inj H
             go_wp2
             go_ret
             exact ⟨by first | rfl | (simp [errW_none, errW_some, i64_w]; done) | (simp [errW_none, errW_some] <;> rfl) | (simp [*, errW_none, errW_some] <;> rfl), by repeat (first | (with_reducible first | exact HB.out | apply below_alloc | apply pw_below_drewN | apply below_drew1) | exact HB.out)⟩
            rw [if_pos c104] at H
            have c104b0 : decide (t224 ≤ 1000) = true := decide_eq_true c104
            clear c104
            obtain ⟨ji105, hji105⟩ : ∃ j_ : Int, (mx 0 (wrap64 (t224 * (wrap64 ((wrap64 (t219 + 1)) - ((rd_T27 t201 0).f0)))))) = j_ := ⟨_, rfl⟩
            replace H : (if (ji105) ≥ (wrap64 ((wrap64 (t206 * 5)) * ((rd_T27 t201 0).f0))) then (if t224 = 1 then (some true) else (some (decide ((mx 0 (wrap64 ((wrap64 (t224 - 1)) * (wrap64 ((wrap64 (t219 + 1)) - ((rd_T27 t201 0).f0)))))) < (wrap64 ((wrap64 (t206 * 5)) * ((rd_T27 t201 0).f0))))))) else (some false)) = some r := by first | (rw [hji105] at H; exact H) | (simp only [hji105] at H ⊢; exact H)
            have hji105_ : (if 0 < (wrap64 (t224 * (wrap64 ((wrap64 (t219 + 1)) - ((rd_T27 t201 0).f0))))) then (wrap64 (t224 * (wrap64 ((wrap64 (t219 + 1)) - ((rd_T27 t201 0).f0))))) else 0) = ji105 := hji105
            by_cases c106 : (ji105) ≥ (wrap64 ((wrap64 (t206 * 5)) * ((rd_T27 t201 0).f0)))
            rotate_left
            ·
             rw [if_neg c106] at H
             have c106b0 : decide ((wrap64 ((wrap64 (t206 * 5)) * ((rd_T27 t201 0).f0))) ≤ (ji105)) = false := decide_eq_false c106
             clear c106
             obtain rfl := Option.some.inj H
             have hcz111_0 : wc.cell? ⟨gb205, 0, none⟩ = some (.int .i64 ((rd_T27 t201 0).f0)) := (blk_cell BK205.out 0).trans rfl
             have hcz111_1 : wc.cell? ⟨gb205, 1, none⟩ = some (.int .i64 ((rd_T27 t201 0).f1)) := (blk_cell BK205.out 1).trans rfl
             have hfz111_0 := blk_frozen BK205.out 0
             have hfz111_1 := blk_frozen BK205.out 1
             go_wp2
             go_ret
             exact ⟨by first | rfl | (simp [errW_none, errW_some, i64_w]; done) | (simp [errW_none, errW_some] <;> rfl) | (simp only [← hji105]; first | rfl | (simp [errW_none, errW_some] <;> rfl)) | (simp [*, errW_none, errW_some] <;> rfl), by repeat (first | (with_reducible first | exact HB.out | apply below_alloc | apply pw_below_drewN | apply below_drew1) | exact HB.out)⟩
            rw [if_pos c106] at H
            have c106b0 : decide ((wrap64 ((wrap64 (t206 * 5)) * ((rd_T27 t201 0).f0))) ≤ (ji105)) = true := decide_eq_true c106
            clear c106
            by_cases c107 : t224 = 1
            ·
             rw [if_pos c107] at H
             have c107b0 : (t224 == 1) = true := beq_iff_eq.mpr c107
             have c107b1 : (t224 != 1) = false := bne_eq_false_iff_eq.mpr c107
             clear c107
             obtain rfl := Option.some.inj H
             have hcz108_0 : wc.cell? ⟨gb205, 0, none⟩ = some (.int .i64 ((rd_T27 t201 0).f0)) := (blk_cell BK205.out 0).trans rfl
             have hcz108_1 : wc.cell? ⟨gb205, 1, none⟩ = some (.int .i64 ((rd_T27 t201 0).f1)) := (blk_cell BK205.out 1).trans rfl
             have hfz108_0 := blk_frozen BK205.out 0
             have hfz108_1 := blk_frozen BK205.out 1
             go_wp2
             go_ret
             exact ⟨by first | rfl | (simp [errW_none, errW_some, i64_w]; done) | (simp [errW_none, errW_some] <;> rfl) | (simp only [← hji105]; first | rfl | (simp [errW_none, errW_some] <;> rfl)) | (simp [*, errW_none, errW_some] <;> rfl), by repeat (first | (with_reducible first | exact HB.out | apply below_alloc | apply pw_below_drewN | apply below_drew1) | exact HB.out)⟩
            rw [if_neg c107] at H
            have c107b0 : (t224 == 1) = false := beq_eq_false_iff_ne.mpr c107
            have c107b1 : (t224 != 1) = true := bne_iff_ne.mpr c107
            obtain ⟨ji109, hji109⟩ : ∃ j_ : Int, (mx 0 (wrap64 ((wrap64 (t224 - 1)) * (wrap64 ((wrap64 (t219 + 1)) - ((rd_T27 t201 0).f0)))))) = j_ := ⟨_, rfl⟩
            replace H : (some (decide ((ji109) < (wrap64 ((wrap64 (t206 * 5)) * ((rd_T27 t201 0).f0)))))) = some r := by first | (rw [hji109] at H; exact H) | (simp only [hji109] at H ⊢; exact H)
            have hji109_ : (if 0 < (wrap64 ((wrap64 (t224 - 1)) * (wrap64 ((wrap64 (t219 + 1)) - ((rd_T27 t201 0).f0))))) then (wrap64 ((wrap64 (t224 - 1)) * (wrap64 ((wrap64 (t219 + 1)) - ((rd_T27 t201 0).f0))))) else 0) = ji109 := hji109
            obtain rfl := Option.some.inj H
            have hcz110_0 : wc.cell? ⟨gb205, 0, none⟩ = some (.int .i64 ((rd_T27 t201 0).f0)) := (blk_cell BK205.out 0).trans rfl
            have hcz110_1 : wc.cell? ⟨gb205, 1, none⟩ = some (.int .i64 ((rd_T27 t201 0).f1)) := (blk_cell BK205.out 1).trans rfl
            have hfz110_0 := blk_frozen BK205.out 0
            have hfz110_1 := blk_frozen BK205.out 1
            go_wp2
            go_ret
            exact ⟨by first | rfl | (simp [errW_none, errW_some, i64_w]; done) | (simp [errW_none, errW_some] <;> rfl) | (simp only [← hji105, ← hji109]; first | rfl | (simp [errW_none, errW_some] <;> rfl)) | (simp [*, errW_none, errW_some] <;> rfl), by repeat (first | (with_reducible first | exact HB.out | apply below_alloc | apply pw_below_drewN | apply below_drew1) | exact HB.out)⟩
  ·
   rw [if_neg c7] at H
   exact absurd H (by simp)

/-- THE ONE PURE STATEMENT of laws_FnSprings. -/
def laws_FnSprings.Pure : Prop := ∀ (l0 : List Int) (l1 : List Int), (l0.length * 1 ≤ 140737488351232 ∧ l0.length ≤ maxLen ∧ (∀ y0 ∈ l0, (Lit.int .u8 y0).wf = true)) → (l1.length * 1 ≤ 140737488351232 ∧ l1.length ≤ maxLen ∧ (∀ y0 ∈ l1, (Lit.int .u8 y0).wf = true)) → ∃ k, laws_FnSprings.f k l0 l1 = some true
theorem laws_FnSprings.walk : True := trivial

end Go.Proofs.Ytjhlliacgkjhaaa.QFnSprings

/- What the Go functions of this law compute, each as a Lean function, and that each call comes to that answer; written by a program of this session. No condition. -/
import Derived.Test.YtmokjfncblnfcaaVQFnExactSlackLinesx0
import Derived.Test.YtmokjfncblnfcaaVQFnExactSlackLinesx1
import Derived.Test.YtmokjfncblnfcaaVQFnExactSlackLinesx3
import Derived.Test.YtmokjfncblnfcaaVQFnExactSlackLinesx8
namespace Go.Proofs.Ytmokjfncblnfcaa.QFnExactSlackLines
open Go.RowKit Go.Proofs.YtmokjfncblnfcaaW.PrintWords Go.Proofs.YtmokjfncblnfcaaW.PrintLast Go.Proofs.YtmokjfncblnfcaaW.PrintMore
attribute [local go_sem] max2_int min2_int max_two min_two max_three min_three max_four min_four   -- for this text's walks alone
set_option linter.unusedVariables false
set_option linter.unusedSimpArgs false

/-! ### laws_FnExactSlackLines: function 9 -/
mutual
def laws_FnExactSlackLines.j0 : Nat → List (S23) → Int → List Int → Int → List (S28) → List Int → Int → Bool → Option (Bool)
 | 0, _, _, _, _, _, _, _, _ => none
 | k + 1, x0, x1, x6, x7, x8, x9, x10, x44 => if x44 = true then (some false) else ((laws_toSpringS.f k x0).bind fun t302 => ((laws_eqSpringS.f k x8 t302).bind fun t305 => (if t305 = true then ((laws_markSpringS.f k x8 1).bind fun bt306 => (if bt306.1 < 0 then (laws_FnExactSlackLines.j1 k x0 x1 x6 x7 x9 true) else ((laws_eqInt64S.f k x9 x6).bind fun t308 => (if t308 = true then (laws_FnExactSlackLines.j1 k x0 x1 x6 x7 x9 (x10 != x7)) else (laws_FnExactSlackLines.j1 k x0 x1 x6 x7 x9 true))))) else (some false))))
def laws_FnExactSlackLines.j1 : Nat → List (S23) → Int → List Int → Int → List Int → Bool → Option (Bool)
 | 0, _, _, _, _, _, _ => none
 | k + 1, x0, x1, x6, x7, x9, x65 => if x65 = true then (some false) else ((laws_markInt64S.f k x9 1).bind fun bt309 => ((laws_heldInt64S.f k bt309.2 1).bind fun t311 => (if t311 < 0 then (some false) else (if t311 = bt309.1 then ((laws_toSpringS.f k x0).bind fun t312 => ((impl_SlackLines.f k t312 x1).bind fun bt315 => ((laws_eqInt64S.f k bt315.1 x6).bind fun t319 => (if t319 = true then (laws_FnExactSlackLines.j2 k bt309.2 bt309.1 (bt315.2 != x7)) else (laws_FnExactSlackLines.j2 k bt309.2 bt309.1 true))))) else (some false)))))
def laws_FnExactSlackLines.j2 : Nat → List Int → Int → Bool → Option (Bool)
 | 0, _, _, _ => none
 | k + 1, x9, x12, x92 => if x92 = true then (some false) else ((laws_heldInt64S.f k x9 1).bind fun t320 => (if t320 < 0 then (some false) else (if t320 = x12 then (some true) else (some false))))
end
def laws_FnExactSlackLines.f (k : Nat) (l0 : List (S23)) (a1 : Int) : Option (Bool) := (laws_szSpringS.f l0 1048576).bind fun t286 => (if t286 < 0 then (some true) else ((laws_toSpringS.f k l0).bind fun t287 => ((spec_SlackLines.f k t287 a1).bind fun bt290 => ((laws_toSpringS.f k l0).bind fun t294 => ((impl_SlackLines.f k t294 a1).bind fun bt297 => ((laws_eqInt64S.f k bt297.1 bt290.1).bind fun t301 => (if t301 = true then (laws_FnExactSlackLines.j0 k l0 a1 bt290.1 bt290.2 t294 bt297.1 bt297.2 (bt297.2 != bt290.2)) else (laws_FnExactSlackLines.j0 k l0 a1 bt290.1 bt290.2 t294 bt297.1 bt297.2 true))))))))
theorem laws_FnExactSlackLines.mono_l : ∀ k, (∀ y0 y1 y2 y3 y4 y5 y6 y7, LeO (laws_FnExactSlackLines.j0 k y0 y1 y2 y3 y4 y5 y6 y7) (laws_FnExactSlackLines.j0 (k + 1) y0 y1 y2 y3 y4 y5 y6 y7)) ∧ (∀ y0 y1 y2 y3 y4 y5, LeO (laws_FnExactSlackLines.j1 k y0 y1 y2 y3 y4 y5) (laws_FnExactSlackLines.j1 (k + 1) y0 y1 y2 y3 y4 y5)) ∧ (∀ y0 y1 y2, LeO (laws_FnExactSlackLines.j2 k y0 y1 y2) (laws_FnExactSlackLines.j2 (k + 1) y0 y1 y2))
 | 0 => ⟨fun _ _ _ _ _ _ _ _ r h => by simp [laws_FnExactSlackLines.j0] at h, fun _ _ _ _ _ _ r h => by simp [laws_FnExactSlackLines.j1] at h, fun _ _ _ r h => by simp [laws_FnExactSlackLines.j2] at h⟩
 | k + 1 => by
  obtain ⟨ih0, ih1, ih2⟩ := laws_FnExactSlackLines.mono_l k
  refine ⟨?_, ?_, ?_⟩
  ·
   intro y0 y1 y2 y3 y4 y5 y6 y7
   unfold laws_FnExactSlackLines.j0
   repeat' first
   | (with_reducible exact ih0 _ _ _ _ _ _ _ _)
   | (with_reducible exact ih1 _ _ _ _ _ _)
   | (with_reducible exact ih2 _ _ _)
   | (with_reducible exact impl_SlackLines.mono _ _ _)
   | (with_reducible exact laws_eqInt64S.mono _ _ _)
   | (with_reducible exact laws_eqSpringS.mono _ _ _)
   | (with_reducible exact laws_heldInt64S.mono _ _ _)
   | (with_reducible exact laws_markInt64S.mono _ _ _)
   | (with_reducible exact laws_markSpringS.mono _ _ _)
   | (with_reducible exact laws_toSpringS.mono _ _)
   | (with_reducible exact spec_SlackLines.mono _ _ _)
   | (with_reducible exact LeO.refl _)
   | (with_reducible exact LeO.none _)
   | (with_reducible refine LeO.ite ?_ ?_)
   | (with_reducible refine LeO.bind ?_ (fun _ => ?_))
   | exact ih0 _ _ _ _ _ _ _ _
   | exact ih1 _ _ _ _ _ _
   | exact ih2 _ _ _
   | exact impl_SlackLines.mono _ _ _
   | exact laws_eqInt64S.mono _ _ _
   | exact laws_eqSpringS.mono _ _ _
   | exact laws_heldInt64S.mono _ _ _
   | exact laws_markInt64S.mono _ _ _
   | exact laws_markSpringS.mono _ _ _
   | exact laws_toSpringS.mono _ _
   | exact spec_SlackLines.mono _ _ _
   | exact LeO.none _
   | refine LeO.ite ?_ ?_
   | refine LeO.bind ?_ (fun _ => ?_)
  ·
   intro y0 y1 y2 y3 y4 y5
   unfold laws_FnExactSlackLines.j1
   repeat' first
   | (with_reducible exact ih0 _ _ _ _ _ _ _ _)
   | (with_reducible exact ih1 _ _ _ _ _ _)
   | (with_reducible exact ih2 _ _ _)
   | (with_reducible exact impl_SlackLines.mono _ _ _)
   | (with_reducible exact laws_eqInt64S.mono _ _ _)
   | (with_reducible exact laws_eqSpringS.mono _ _ _)
   | (with_reducible exact laws_heldInt64S.mono _ _ _)
   | (with_reducible exact laws_markInt64S.mono _ _ _)
   | (with_reducible exact laws_markSpringS.mono _ _ _)
   | (with_reducible exact laws_toSpringS.mono _ _)
   | (with_reducible exact spec_SlackLines.mono _ _ _)
   | (with_reducible exact LeO.refl _)
   | (with_reducible exact LeO.none _)
   | (with_reducible refine LeO.ite ?_ ?_)
   | (with_reducible refine LeO.bind ?_ (fun _ => ?_))
   | exact ih0 _ _ _ _ _ _ _ _
   | exact ih1 _ _ _ _ _ _
   | exact ih2 _ _ _
   | exact impl_SlackLines.mono _ _ _
   | exact laws_eqInt64S.mono _ _ _
   | exact laws_eqSpringS.mono _ _ _
   | exact laws_heldInt64S.mono _ _ _
   | exact laws_markInt64S.mono _ _ _
   | exact laws_markSpringS.mono _ _ _
   | exact laws_toSpringS.mono _ _
   | exact spec_SlackLines.mono _ _ _
   | exact LeO.none _
   | refine LeO.ite ?_ ?_
   | refine LeO.bind ?_ (fun _ => ?_)
  ·
   intro y0 y1 y2
   unfold laws_FnExactSlackLines.j2
   repeat' first
   | (with_reducible exact ih0 _ _ _ _ _ _ _ _)
   | (with_reducible exact ih1 _ _ _ _ _ _)
   | (with_reducible exact ih2 _ _ _)
   | (with_reducible exact impl_SlackLines.mono _ _ _)
   | (with_reducible exact laws_eqInt64S.mono _ _ _)
   | (with_reducible exact laws_eqSpringS.mono _ _ _)
   | (with_reducible exact laws_heldInt64S.mono _ _ _)
   | (with_reducible exact laws_markInt64S.mono _ _ _)
   | (with_reducible exact laws_markSpringS.mono _ _ _)
   | (with_reducible exact laws_toSpringS.mono _ _)
   | (with_reducible exact spec_SlackLines.mono _ _ _)
   | (with_reducible exact LeO.refl _)
   | (with_reducible exact LeO.none _)
   | (with_reducible refine LeO.ite ?_ ?_)
   | (with_reducible refine LeO.bind ?_ (fun _ => ?_))
   | exact ih0 _ _ _ _ _ _ _ _
   | exact ih1 _ _ _ _ _ _
   | exact ih2 _ _ _
   | exact impl_SlackLines.mono _ _ _
   | exact laws_eqInt64S.mono _ _ _
   | exact laws_eqSpringS.mono _ _ _
   | exact laws_heldInt64S.mono _ _ _
   | exact laws_markInt64S.mono _ _ _
   | exact laws_markSpringS.mono _ _ _
   | exact laws_toSpringS.mono _ _
   | exact spec_SlackLines.mono _ _ _
   | exact LeO.none _
   | refine LeO.ite ?_ ?_
   | refine LeO.bind ?_ (fun _ => ?_)
theorem laws_FnExactSlackLines.mono : ∀ a0 a1 k, LeO (laws_FnExactSlackLines.f k a0 a1) (laws_FnExactSlackLines.f (k + 1) a0 a1) := by
 intro a0 a1 k
 obtain ⟨ih0, ih1, ih2⟩ := laws_FnExactSlackLines.mono_l k
 unfold laws_FnExactSlackLines.f
 repeat' first
   | (with_reducible exact ih0 _ _ _ _ _ _ _ _)
   | (with_reducible exact ih1 _ _ _ _ _ _)
   | (with_reducible exact ih2 _ _ _)
   | (with_reducible exact impl_SlackLines.mono _ _ _)
   | (with_reducible exact laws_eqInt64S.mono _ _ _)
   | (with_reducible exact laws_eqSpringS.mono _ _ _)
   | (with_reducible exact laws_heldInt64S.mono _ _ _)
   | (with_reducible exact laws_markInt64S.mono _ _ _)
   | (with_reducible exact laws_markSpringS.mono _ _ _)
   | (with_reducible exact laws_toSpringS.mono _ _)
   | (with_reducible exact spec_SlackLines.mono _ _ _)
   | (with_reducible exact LeO.refl _)
   | (with_reducible exact LeO.none _)
   | (with_reducible refine LeO.ite ?_ ?_)
   | (with_reducible refine LeO.bind ?_ (fun _ => ?_))
   | exact ih0 _ _ _ _ _ _ _ _
   | exact ih1 _ _ _ _ _ _
   | exact ih2 _ _ _
   | exact impl_SlackLines.mono _ _ _
   | exact laws_eqInt64S.mono _ _ _
   | exact laws_eqSpringS.mono _ _ _
   | exact laws_heldInt64S.mono _ _ _
   | exact laws_markInt64S.mono _ _ _
   | exact laws_markSpringS.mono _ _ _
   | exact laws_toSpringS.mono _ _
   | exact spec_SlackLines.mono _ _ _
   | exact LeO.none _
   | refine LeO.ite ?_ ?_
   | refine LeO.bind ?_ (fun _ => ?_)
set_option maxHeartbeats 8000000 in
set_option maxRecDepth 100000 in
theorem laws_FnExactSlackLines.calls (k : Nat) (A0 : Option Addr) (c0 : Nat) (l0 : List (S23)) (a1 : Int) (r : Bool) (w : World) (hr0 : Kd.C k23 w A0 l0.length l0) (hc0 : l0.length ≤ c0) (h : laws_FnExactSlackLines.f k l0 a1 = some r) :
  Calls Try.prog 9 #[.slice A0 l0.length c0, .int .i64 a1] w fun e w' => e = .returned (.bool r) ∧ Below w.heap.size w w' := by
 have HR0 := aS hr0
 have HC0 := aS hc0
 clear hr0 hc0
 have HB := aS (Below.refl w.heap.size w)
 have H : ((laws_szSpringS.f l0 1048576).bind fun t286 => (if t286 < 0 then (some true) else ((laws_toSpringS.f k l0).bind fun t287 => ((spec_SlackLines.f k t287 a1).bind fun bt290 => ((laws_toSpringS.f k l0).bind fun t294 => ((impl_SlackLines.f k t294 a1).bind fun bt297 => ((laws_eqInt64S.f k bt297.1 bt290.1).bind fun t301 => (if t301 = true then (laws_FnExactSlackLines.j0 k l0 a1 bt290.1 bt290.2 t294 bt297.1 bt297.2 (bt297.2 != bt290.2)) else (laws_FnExactSlackLines.j0 k l0 a1 bt290.1 bt290.2 t294 bt297.1 bt297.2 true))))))))) = some r := h
 clear h
 replace H := Option.bind_eq_some_iff.mp H
 obtain ⟨t286, A30, H⟩ := H
 replace H : (if t286 < 0 then (some true) else ((laws_toSpringS.f k l0).bind fun t287 => ((spec_SlackLines.f k t287 a1).bind fun bt290 => ((laws_toSpringS.f k l0).bind fun t294 => ((impl_SlackLines.f k t294 a1).bind fun bt297 => ((laws_eqInt64S.f k bt297.1 bt290.1).bind fun t301 => (if t301 = true then (laws_FnExactSlackLines.j0 k l0 a1 bt290.1 bt290.2 t294 bt297.1 bt297.2 (bt297.2 != bt290.2)) else (laws_FnExactSlackLines.j0 k l0 a1 bt290.1 bt290.2 t294 bt297.1 bt297.2 true)))))))) = some r := H
 have A3 := aS A30
 clear A30
 have HC4 := aS H
 clear H
 go_enter Try.func9, Try.ntmps9
 go_upto_if 20 with (first | ((with_reducible refine gate_callee (f := 23) rfl ?_); refine goesL_ (some 18) rfl rfl Try.func23 (by kernel_rfl) rfl #[.slice A0 l0.length c0, .int .i64 1048576] rfl sG ?_; (with_reducible refine (laws_szSpringS.calls _ _ l0 1048576 t286 _ ?side1 ?side2 A3.out).mono ?_); (case side1 => exact sC HR0.out); (case side2 => exact HC0.out); rintro e w' ⟨rfl, ⟨nd, rfl⟩⟩; refine ⟨_, rfl, ?_⟩))
 (try simp only [Act.put, List.setIfInBounds_toArray, List.set_cons_zero, List.set_cons_succ])
 have H := HC4.out
 clear HC4
 by_cases c5 : t286 < 0
 ·
  rw [if_pos c5] at H
  have c5b0 : decide (t286 < 0) = true := decide_eq_true c5
  clear c5
  (first | rw [c5b0] | (simp only [i64_w, i32_w]; rw [c5b0]) | (rw [c5b2]; simp only [Bool.not_false, Bool.not_true]) | skip)
  obtain rfl := Option.some.inj H
  go_wp2
  go_ret
  exact ⟨by first | rfl | (simp [errW_none, errW_some, i64_w]; done) | (simp [errW_none, errW_some] <;> rfl) | (simp [*, errW_none, errW_some] <;> rfl), by repeat (first | (with_reducible first | exact HB.out | apply below_alloc | apply pw_below_drewN | apply below_drew1) | exact HB.out)⟩
 ·
  rw [if_neg c5] at H
  have c5b0 : decide (t286 < 0) = false := decide_eq_false c5
  clear c5
  (first | rw [c5b0] | (simp only [i64_w, i32_w]; rw [c5b0]) | (rw [c5b2]; simp only [Bool.not_false, Bool.not_true]) | skip)
  replace H := Option.bind_eq_some_iff.mp H
  obtain ⟨t287, A60, H⟩ := H
  replace H : ((spec_SlackLines.f k t287 a1).bind fun bt290 => ((laws_toSpringS.f k l0).bind fun t294 => ((impl_SlackLines.f k t294 a1).bind fun bt297 => ((laws_eqInt64S.f k bt297.1 bt290.1).bind fun t301 => (if t301 = true then (laws_FnExactSlackLines.j0 k l0 a1 bt290.1 bt290.2 t294 bt297.1 bt297.2 (bt297.2 != bt290.2)) else (laws_FnExactSlackLines.j0 k l0 a1 bt290.1 bt290.2 t294 bt297.1 bt297.2 true)))))) = some r := H
  have A6 := aS A60
  clear A60
  replace H := Option.bind_eq_some_iff.mp H
  obtain ⟨⟨t290, t291⟩, A70, H⟩ := H
  replace H : ((laws_toSpringS.f k l0).bind fun t294 => ((impl_SlackLines.f k t294 a1).bind fun bt297 => ((laws_eqInt64S.f k bt297.1 t290).bind fun t301 => (if t301 = true then (laws_FnExactSlackLines.j0 k l0 a1 t290 t291 t294 bt297.1 bt297.2 (bt297.2 != t291)) else (laws_FnExactSlackLines.j0 k l0 a1 t290 t291 t294 bt297.1 bt297.2 true))))) = some r := H
  have A7 := aS A70
  clear A70
  replace H := Option.bind_eq_some_iff.mp H
  obtain ⟨t294, A80, H⟩ := H
  replace H : ((impl_SlackLines.f k t294 a1).bind fun bt297 => ((laws_eqInt64S.f k bt297.1 t290).bind fun t301 => (if t301 = true then (laws_FnExactSlackLines.j0 k l0 a1 t290 t291 t294 bt297.1 bt297.2 (bt297.2 != t291)) else (laws_FnExactSlackLines.j0 k l0 a1 t290 t291 t294 bt297.1 bt297.2 true)))) = some r := H
  have A8 := aS A80
  clear A80
  replace H := Option.bind_eq_some_iff.mp H
  obtain ⟨⟨t297, t298⟩, A90, H⟩ := H
  replace H : ((laws_eqInt64S.f k t297 t290).bind fun t301 => (if t301 = true then (laws_FnExactSlackLines.j0 k l0 a1 t290 t291 t294 t297 t298 (t298 != t291)) else (laws_FnExactSlackLines.j0 k l0 a1 t290 t291 t294 t297 t298 true))) = some r := H
  have A9 := aS A90
  clear A90
  have HC10 := aS H
  clear H
  go_upto_region 8 with (first | ((with_reducible refine gate_callee (f := 25) rfl ?_); refine goesL_ (some 23) rfl rfl Try.func25 (by kernel_rfl) rfl #[.slice A0 l0.length c0] rfl sG ?_; (with_reducible refine (laws_toSpringS.calls k _ _ l0 t287 _ ?side1 ?side2 A6.out).mono ?_); (case side1 => exact sC (Kd.C_below HR0.out HB.out)); (case side2 => exact HC0.out); rintro e w11 ⟨v288, rfl, ho0, hb⟩; refine ⟨_, rfl, ?_⟩; have n0_ := aS (Kd.R_lower ho0 (below_size (sW HB.out))); have n1_ := aS (below_step (sW HB.out) hb); clear HB; have HO289 := n0_; have HB := n1_; clear n0_ n1_; (try clear hb); (try clear hb2); (try clear hk); (try clear hi); (try clear ho0); obtain ⟨Ao12, co12, eo12⟩ := Kd.R_slice HO289.out; subst eo12) | ((with_reducible refine gate_callee (f := 31) rfl ?_); refine goesL_ (some 25) rfl rfl Try.func31 (by kernel_rfl) rfl #[.slice Ao12 t287.length co12, .int .i64 a1] rfl sG ?_; (with_reducible refine (spec_SlackLines.calls k _ _ t287 a1 t290 t291 _ ?side1 ?side2 A7.out).mono ?_); (case side1 => exact sC (Kd.R_reads' HO289.out).2.2); (case side2 => exact (Kd.R_reads' HO289.out).2.1); rintro e w13 ⟨v292, rfl, ho0, hb⟩; refine ⟨_, rfl, ?_⟩; have n0_ := aS (Kd.R_below (sR HO289.out) hb); have n1_ := aS (Kd.R_lower ho0 (below_size (sW HB.out))); have n2_ := aS (below_step (sW HB.out) hb); clear HO289 HB; have HO289 := n0_; have HO293 := n1_; have HB := n2_; clear n0_ n1_ n2_; (try clear hb); (try clear hb2); (try clear hk); (try clear hi); (try clear ho0)) | ((with_reducible refine gate_callee (f := 25) rfl ?_); refine goesL_ (some 29) rfl rfl Try.func25 (by kernel_rfl) rfl #[.slice A0 l0.length c0] rfl sG ?_; (with_reducible refine (laws_toSpringS.calls k _ _ l0 t294 _ ?side1 ?side2 A8.out).mono ?_); (case side1 => exact sC (Kd.C_below HR0.out HB.out)); (case side2 => exact HC0.out); rintro e w14 ⟨v295, rfl, ho0, hb⟩; refine ⟨_, rfl, ?_⟩; have n0_ := aS (Kd.R_elder' (sR HO289.out) (Kd.R_base ho0) hb); have n1_ := aS (Kd.R_below (sR HO293.out) hb); have n2_ := aS (Kd.R_lower (Kd.R_new' ho0 (Kd.R_lt (sR HO289.out))) (below_size (sW HB.out))); have n3_ := aS (below_step (sW HB.out) hb); clear HO289 HO293 HB; have HO289 := n0_; have HO293 := n1_; have HO296 := n2_; have HB := n3_; clear n0_ n1_ n2_ n3_; (try clear hb); (try clear hb2); (try clear hk); (try clear hi); (try clear ho0); obtain ⟨Ao15, co15, eo15⟩ := Kd.R_slice HO296.out; subst eo15) | ((with_reducible refine gate_callee (f := 32) rfl ?_); refine goesL_ (some 33) rfl rfl Try.func32 (by kernel_rfl) rfl #[.slice Ao15 t294.length co15, .int .i64 a1] rfl sG ?_; (with_reducible refine (impl_SlackLines.calls k _ _ t294 a1 t297 t298 _ ?side1 ?side2 A9.out).mono ?_); (case side1 => exact sC (Kd.R_reads' HO296.out).2.2); (case side2 => exact (Kd.R_reads' HO296.out).2.1); rintro e w16 ⟨v299, rfl, ho0, hb⟩; refine ⟨_, rfl, ?_⟩; have n0_ := aS (Kd.R_below (sR HO289.out) hb); have n1_ := aS (Kd.R_elder' (sR HO293.out) (Kd.R_base ho0) hb); have n2_ := aS (Kd.R_below (sR HO296.out) hb); have n3_ := aS (Kd.R_lower (Kd.R_new' ho0 (Kd.R_lt (sR HO293.out))) (below_size (sW HB.out))); have n4_ := aS (below_step (sW HB.out) hb); clear HO289 HO293 HO296 HB; have HO289 := n0_; have HO293 := n1_; have HO296 := n2_; have HO300 := n3_; have HB := n4_; clear n0_ n1_ n2_ n3_ n4_; (try clear hb); (try clear hb2); (try clear hk); (try clear hi); (try clear ho0)))
  (try simp only [Act.put, List.setIfInBounds_toArray, List.set_cons_zero, List.set_cons_succ])
  go_cut [44] (fun v44 wc => ∃ (kq : Nat) (x44_9 : Bool), v44 = .bool x44_9 ∧ Aside0 (laws_FnExactSlackLines.j0 kq l0 a1 t290 t291 t294 t297 t298 x44_9 = some r) ∧ Aside0 (kq ≤ k) ∧ Aside0 (Kd.R (Kd.int .i64) 2 wc w.heap.size (fun k_ => some k_ ≠ (v299 : Value).ownBlock) v292 t290) ∧ Aside0 (Kd.R k28 28 wc w.heap.size (fun _ => True) (.slice Ao15 t294.length co15) t294) ∧ Aside0 (Kd.R (Kd.int .i64) 2 wc w.heap.size (fun k_ => some k_ ≠ (v292 : Value).ownBlock) v299 t297) ∧ Aside0 (Below w.heap.size w wc))
  case first =>
   have H := HC10.out
   clear HC10
   replace H := Option.bind_eq_some_iff.mp H
   obtain ⟨t301, A170, H⟩ := H
   replace H : (if t301 = true then (laws_FnExactSlackLines.j0 k l0 a1 t290 t291 t294 t297 t298 (t298 != t291)) else (laws_FnExactSlackLines.j0 k l0 a1 t290 t291 t294 t297 t298 true)) = some r := H
   have A17 := aS A170
   clear A170
   by_cases c18 : t301 = true
   ·
    subst c18
    have H1 : (laws_FnExactSlackLines.j0 k l0 a1 t290 t291 t294 t297 t298 (t298 != t291)) = some r := by rw [if_pos rfl] at H; exact H
    clear H
    have H := H1
    clear H1
    have H' := aS H
    clear H
    obtain ⟨Ao19, co19, eo19⟩ := Kd.R_slice HO300.out
    subst eo19
    obtain ⟨Ao20, co20, eo20⟩ := Kd.R_slice HO293.out
    subst eo20
    go_wp2_with (first | ((with_reducible refine gate_callee (f := 33) rfl ?_); refine goesL_ (some 38) rfl rfl Try.func33 (by kernel_rfl) rfl #[.slice Ao19 t297.length co19, .slice Ao20 t290.length co20] rfl sG ?_; (with_reducible refine (laws_eqInt64S.calls k _ _ t297 _ _ t290 true _ ?side1 ?side2 ?side3 ?side4 A17.out).mono ?_); (case side1 => exact sC (Kd.R_reads' HO300.out).2.2); (case side2 => exact (Kd.R_reads' HO300.out).2.1); (case side3 => exact sC (Kd.R_reads' HO293.out).2.2); (case side4 => exact (Kd.R_reads' HO293.out).2.1); rintro e w' ⟨rfl, ⟨nd, rfl⟩⟩; refine ⟨_, rfl, ?_⟩))
    go_meet
    case rel => exact ⟨_, ((t298 != t291)), (by first | rfl | (simp; done) | (simp [*]; done) | (simp only [i64_w]; done) | (simp [i64_w]; done)), H', ⟨by first | omega | exact Nat.le_refl _⟩, ⟨by (with_reducible repeat (first | apply Kd.R_alloc | apply Kd.R_drewN | apply Kd.R_drew)); exact Kd.R_mono HO293.out (fun _ hk => hk.2)⟩, ⟨by (with_reducible repeat (first | apply Kd.R_alloc | apply Kd.R_drewN | apply Kd.R_drew)); exact Kd.R_mono HO296.out (fun _ hk => trivial)⟩, ⟨by (with_reducible repeat (first | apply Kd.R_alloc | apply Kd.R_drewN | apply Kd.R_drew)); exact Kd.R_mono HO300.out (fun _ hk => hk.2)⟩, ⟨by repeat (first | (with_reducible first | exact HB.out | apply below_alloc | apply pw_below_drewN | apply below_drew1) | exact HB.out)⟩⟩
   ·
    replace c18 := Bool.eq_false_iff.mpr c18
    subst c18
    have H1 : (laws_FnExactSlackLines.j0 k l0 a1 t290 t291 t294 t297 t298 true) = some r := by rw [if_neg (show ¬ (false = true) by decide)] at H; exact H
    clear H
    have H := H1
    clear H1
    have H' := aS H
    clear H
    obtain ⟨Ao21, co21, eo21⟩ := Kd.R_slice HO300.out
    subst eo21
    obtain ⟨Ao22, co22, eo22⟩ := Kd.R_slice HO293.out
    subst eo22
    go_wp2_with (first | ((with_reducible refine gate_callee (f := 33) rfl ?_); refine goesL_ (some 38) rfl rfl Try.func33 (by kernel_rfl) rfl #[.slice Ao21 t297.length co21, .slice Ao22 t290.length co22] rfl sG ?_; (with_reducible refine (laws_eqInt64S.calls k _ _ t297 _ _ t290 false _ ?side1 ?side2 ?side3 ?side4 A17.out).mono ?_); (case side1 => exact sC (Kd.R_reads' HO300.out).2.2); (case side2 => exact (Kd.R_reads' HO300.out).2.1); (case side3 => exact sC (Kd.R_reads' HO293.out).2.2); (case side4 => exact (Kd.R_reads' HO293.out).2.1); rintro e w' ⟨rfl, ⟨nd, rfl⟩⟩; refine ⟨_, rfl, ?_⟩))
    go_meet
    case rel => exact ⟨_, (true), (by first | rfl | (simp; done) | (simp [*]; done) | (simp only [i64_w]; done) | (simp [i64_w]; done)), H', ⟨by first | omega | exact Nat.le_refl _⟩, ⟨by (with_reducible repeat (first | apply Kd.R_alloc | apply Kd.R_drewN | apply Kd.R_drew)); exact Kd.R_mono HO293.out (fun _ hk => hk.2)⟩, ⟨by (with_reducible repeat (first | apply Kd.R_alloc | apply Kd.R_drewN | apply Kd.R_drew)); exact Kd.R_mono HO296.out (fun _ hk => trivial)⟩, ⟨by (with_reducible repeat (first | apply Kd.R_alloc | apply Kd.R_drewN | apply Kd.R_drew)); exact Kd.R_mono HO300.out (fun _ hk => hk.2)⟩, ⟨by repeat (first | (with_reducible first | exact HB.out | apply below_alloc | apply pw_below_drewN | apply below_drew1) | exact HB.out)⟩⟩
  case rest =>
   clear HC10
   (try clear c1); (try clear c2); (try clear p2); (try clear c3); (try clear c5); (try clear c5b0); (try clear c5b2); (try clear c9); (try clear c18)
   obtain ⟨kq, x44_9, rfl, HA, HJ9, HO_6, HO_8, HO_9, HB⟩ := hcut
   cases kq with
   | zero => exact absurd HA.out (by simp [laws_FnExactSlackLines.j0])
   | succ kj9 =>
    have H := HA.out
    clear HA
    simp only [laws_FnExactSlackLines.j0] at H
    by_cases c23 : x44_9 = true
    ·
     subst c23
     have H1 : (some false) = some r := by rw [if_pos rfl] at H; exact H
     clear H
     have H := H1
     clear H1
     obtain rfl := Option.some.inj H
     go_wp2
     go_ret
     exact ⟨by first | rfl | (simp [errW_none, errW_some, i64_w]; done) | (simp [errW_none, errW_some] <;> rfl) | (simp [*, errW_none, errW_some] <;> rfl), by repeat (first | (with_reducible first | exact HB.out | apply below_alloc | apply pw_below_drewN | apply below_drew1) | exact HB.out)⟩
    ·
     replace c23 := Bool.eq_false_iff.mpr c23
     subst c23
     have H1 : ((laws_toSpringS.f kj9 l0).bind fun t302 => ((laws_eqSpringS.f kj9 t294 t302).bind fun t305 => (if t305 = true then ((laws_markSpringS.f kj9 t294 1).bind fun bt306 => (if bt306.1 < 0 then (laws_FnExactSlackLines.j1 kj9 l0 a1 t290 t291 t297 true) else ((laws_eqInt64S.f kj9 t297 t290).bind fun t308 => (if t308 = true then (laws_FnExactSlackLines.j1 kj9 l0 a1 t290 t291 t297 (t298 != t291)) else (laws_FnExactSlackLines.j1 kj9 l0 a1 t290 t291 t297 true))))) else (some false)))) = some r := by rw [if_neg (show ¬ (false = true) by decide)] at H; exact H
     clear H
     have H := H1
     clear H1
     replace H := Option.bind_eq_some_iff.mp H
     obtain ⟨t302, A240, H⟩ := H
     replace H : ((laws_eqSpringS.f kj9 t294 t302).bind fun t305 => (if t305 = true then ((laws_markSpringS.f kj9 t294 1).bind fun bt306 => (if bt306.1 < 0 then (laws_FnExactSlackLines.j1 kj9 l0 a1 t290 t291 t297 true) else ((laws_eqInt64S.f kj9 t297 t290).bind fun t308 => (if t308 = true then (laws_FnExactSlackLines.j1 kj9 l0 a1 t290 t291 t297 (t298 != t291)) else (laws_FnExactSlackLines.j1 kj9 l0 a1 t290 t291 t297 true))))) else (some false))) = some r := H
     have A24 := aS A240
     clear A240
     replace H := Option.bind_eq_some_iff.mp H
     obtain ⟨t305, A250, H⟩ := H
     replace H : (if t305 = true then ((laws_markSpringS.f kj9 t294 1).bind fun bt306 => (if bt306.1 < 0 then (laws_FnExactSlackLines.j1 kj9 l0 a1 t290 t291 t297 true) else ((laws_eqInt64S.f kj9 t297 t290).bind fun t308 => (if t308 = true then (laws_FnExactSlackLines.j1 kj9 l0 a1 t290 t291 t297 (t298 != t291)) else (laws_FnExactSlackLines.j1 kj9 l0 a1 t290 t291 t297 true))))) else (some false)) = some r := H
     have A25 := aS A250
     clear A250
     have HC26 := aS H
     clear H
     go_upto_if 49 with (first | ((with_reducible refine gate_callee (f := 25) rfl ?_); refine goesL_ (some 47) rfl rfl Try.func25 (by kernel_rfl) rfl #[.slice A0 l0.length c0] rfl sG ?_; (with_reducible refine (laws_toSpringS.calls kj9 _ _ l0 t302 _ ?side1 ?side2 A24.out).mono ?_); (case side1 => exact sC (Kd.C_below HR0.out HB.out)); (case side2 => exact HC0.out); rintro e w27 ⟨v303, rfl, ho0, hb⟩; refine ⟨_, rfl, ?_⟩; have n0_ := aS (Kd.R_below (sR HO_6.out) hb); have n1_ := aS (Kd.R_elder' (sR HO_8.out) (Kd.R_base ho0) hb); have n2_ := aS (Kd.R_below (sR HO_9.out) hb); have n3_ := aS (Kd.R_lower (Kd.R_new' ho0 (Kd.R_lt (sR HO_8.out))) (below_size (sW HB.out))); have n4_ := aS (below_step (sW HB.out) hb); clear HO_6 HO_8 HO_9 HB; have HO_6 := n0_; have HO_8 := n1_; have HO_9 := n2_; have HO304 := n3_; have HB := n4_; clear n0_ n1_ n2_ n3_ n4_; (try clear hb); (try clear hb2); (try clear hk); (try clear hi); (try clear ho0); obtain ⟨Ao28, co28, eo28⟩ := Kd.R_slice HO304.out; subst eo28) | ((with_reducible refine gate_callee (f := 26) rfl ?_); refine goesL_ (some 48) rfl rfl Try.func26 (by kernel_rfl) rfl #[.slice Ao15 t294.length co15, .slice Ao28 t302.length co28] rfl sG ?_; (with_reducible refine (laws_eqSpringS.calls kj9 _ _ t294 _ _ t302 t305 _ ?side1 ?side2 ?side3 ?side4 A25.out).mono ?_); (case side1 => exact sC (Kd.R_reads' HO_8.out).2.2); (case side2 => exact (Kd.R_reads' HO_8.out).2.1); (case side3 => exact sC (Kd.R_reads' HO304.out).2.2); (case side4 => exact (Kd.R_reads' HO304.out).2.1); rintro e w29 ⟨rfl, hb⟩; refine ⟨_, rfl, ?_⟩; have n0_ := aS (Kd.R_below (sR HO_6.out) hb); have n1_ := aS (Kd.R_below (sR HO_8.out) hb); have n2_ := aS (Kd.R_below (sR HO_9.out) hb); have n3_ := aS (Kd.R_below (sR HO304.out) hb); have n4_ := aS (below_step (sW HB.out) hb); clear HO_6 HO_8 HO_9 HO304 HB; have HO_6 := n0_; have HO_8 := n1_; have HO_9 := n2_; have HO304 := n3_; have HB := n4_; clear n0_ n1_ n2_ n3_ n4_; (try clear hb); (try clear hb2); (try clear hk); (try clear hi)))
     (try simp only [Act.put, List.setIfInBounds_toArray, List.set_cons_zero, List.set_cons_succ])
     have H := HC26.out
     clear HC26
     by_cases c30 : t305 = true
     ·
      subst c30
      have H1 : ((laws_markSpringS.f kj9 t294 1).bind fun bt306 => (if bt306.1 < 0 then (laws_FnExactSlackLines.j1 kj9 l0 a1 t290 t291 t297 true) else ((laws_eqInt64S.f kj9 t297 t290).bind fun t308 => (if t308 = true then (laws_FnExactSlackLines.j1 kj9 l0 a1 t290 t291 t297 (t298 != t291)) else (laws_FnExactSlackLines.j1 kj9 l0 a1 t290 t291 t297 true))))) = some r := by rw [if_pos rfl] at H; exact H
      clear H
      have H := H1
      clear H1
      replace H := Option.bind_eq_some_iff.mp H
      obtain ⟨⟨t306, t307⟩, A310, H⟩ := H
      replace H : (if t306 < 0 then (laws_FnExactSlackLines.j1 kj9 l0 a1 t290 t291 t297 true) else ((laws_eqInt64S.f kj9 t297 t290).bind fun t308 => (if t308 = true then (laws_FnExactSlackLines.j1 kj9 l0 a1 t290 t291 t297 (t298 != t291)) else (laws_FnExactSlackLines.j1 kj9 l0 a1 t290 t291 t297 true)))) = some r := H
      have A31 := aS A310
      clear A310
      have HC32 := aS H
      clear H
      go_upto_region 14 with (first | ((with_reducible refine gate_callee (f := 34) rfl ?_); refine goesL_ (some 52) rfl rfl Try.func34 (by kernel_rfl) rfl #[.slice Ao15 t294.length co15, .int .i64 1] rfl sG ?_; (with_reducible refine (laws_markSpringS.calls kj9 (fun k_ => some k_ = (.slice Ao15 t294.length co15 : Value).ownBlock) (.slice Ao15 t294.length co15) t294 1 t306 t307 w _ ?side1 ?side2 A31.out).mono ?_); (case side1 => repeat (first | (with_reducible first | exact HB.out | apply below_alloc | apply pw_below_drewN | apply below_drew1) | exact HB.out)); (case side2 => exact Kd.R_tight rfl HO_8.out); rintro e w33 ⟨rfl, hy0, hb, hkp⟩; refine ⟨_, rfl, ?_⟩; have n0_ := aS (Kd.R_mono (ok' := fun k_ => some k_ ≠ (v299 : Value).ownBlock) (Kd.R_keptB ((Kd.R_apart' HO_6.out (Kd.R_typed HO_8.out) (by decide))) hkp (fun k_ hk_ hs_ => (hk_.2) hs_)) (fun k_ hk_ => hk_.1.1)); have n1_ := aS (Kd.R_reok rfl hy0 (fun k_ e_ => HO_8.out.1 k_ e_)); have n2_ := aS (Kd.R_mono (ok' := fun k_ => some k_ ≠ (v292 : Value).ownBlock) (Kd.R_keptB ((Kd.R_apart' HO_9.out (Kd.R_typed HO_8.out) (by decide))) hkp (fun k_ hk_ hs_ => (hk_.2) hs_)) (fun k_ hk_ => hk_.1.1)); have n3_ := aS (Kd.R_mono (ok' := fun k_ => some k_ ≠ (.slice Ao15 t294.length co15 : Value).ownBlock) (Kd.R_keptB (HO304.out) hkp (fun k_ hk_ hs_ => (hk_.2) hs_)) (fun k_ hk_ => hk_.1.2)); have n4_ := aS (hb); clear HO_6 HO_8 HO_9 HO304 HB; have HO_6 := n0_; have HO_8 := n1_; have HO_9 := n2_; have HO304 := n3_; have HB := n4_; clear n0_ n1_ n2_ n3_ n4_; (try clear hb); (try clear hkp); (try clear hy0)))
      (try simp only [Act.put, List.setIfInBounds_toArray, List.set_cons_zero, List.set_cons_succ])
      go_cut [65] (fun v65 wc => ∃ (kq : Nat) (x65_31 : Bool), v65 = .bool x65_31 ∧ Aside0 (laws_FnExactSlackLines.j1 kq l0 a1 t290 t291 t297 x65_31 = some r) ∧ Aside0 (kq ≤ kj9) ∧ Aside0 (Kd.R (Kd.int .i64) 2 wc w.heap.size (fun k_ => some k_ ≠ (v299 : Value).ownBlock) v292 t290) ∧ Aside0 (Kd.R (Kd.int .i64) 2 wc w.heap.size (fun k_ => some k_ ≠ (v292 : Value).ownBlock) v299 t297) ∧ Aside0 (Below w.heap.size w wc))
      case first =>
       have H := HC32.out
       clear HC32
       by_cases c34 : t306 < 0
       ·
        rw [if_pos c34] at H
        have c34b0 : decide (t306 < 0) = true := decide_eq_true c34
        clear c34
        (first | rw [c34b0] | (simp only [i64_w, i32_w]; rw [c34b0]) | (rw [c34b2]; simp only [Bool.not_false, Bool.not_true]) | skip)
        have H' := aS H
        clear H
        go_wp2
        go_meet
        case rel => exact ⟨_, (true), (by first | rfl | (simp; done) | (simp [*]; done) | (simp only [i64_w]; done) | (simp [i64_w]; done)), H', ⟨by have := HJ9.out; first | omega | exact Nat.le_refl _⟩, ⟨by (with_reducible repeat (first | apply Kd.R_alloc | apply Kd.R_drewN | apply Kd.R_drew)); exact HO_6.out⟩, ⟨by (with_reducible repeat (first | apply Kd.R_alloc | apply Kd.R_drewN | apply Kd.R_drew)); exact HO_9.out⟩, ⟨by repeat (first | (with_reducible first | exact HB.out | apply below_alloc | apply pw_below_drewN | apply below_drew1) | exact HB.out)⟩⟩
       ·
        rw [if_neg c34] at H
        have c34b0 : decide (t306 < 0) = false := decide_eq_false c34
        clear c34
        (first | rw [c34b0] | (simp only [i64_w, i32_w]; rw [c34b0]) | (rw [c34b2]; simp only [Bool.not_false, Bool.not_true]) | skip)
        replace H := Option.bind_eq_some_iff.mp H
        obtain ⟨t308, A350, H⟩ := H
        replace H : (if t308 = true then (laws_FnExactSlackLines.j1 kj9 l0 a1 t290 t291 t297 (t298 != t291)) else (laws_FnExactSlackLines.j1 kj9 l0 a1 t290 t291 t297 true)) = some r := H
        have A35 := aS A350
        clear A350
        by_cases c36 : t308 = true
        ·
         subst c36
         have H1 : (laws_FnExactSlackLines.j1 kj9 l0 a1 t290 t291 t297 (t298 != t291)) = some r := by rw [if_pos rfl] at H; exact H
         clear H
         have H := H1
         clear H1
         have H' := aS H
         clear H
         obtain ⟨Ao37, co37, eo37⟩ := Kd.R_slice HO_9.out
         subst eo37
         obtain ⟨Ao38, co38, eo38⟩ := Kd.R_slice HO_6.out
         subst eo38
         go_wp2_with (first | (go_at_call 33; (with_reducible refine (laws_eqInt64S.calls kj9 _ _ t297 _ _ t290 true _ ?side1 ?side2 ?side3 ?side4 A35.out).mono ?_); (case side1 => exact sC (Kd.R_reads' HO_9.out).2.2); (case side2 => exact (Kd.R_reads' HO_9.out).2.1); (case side3 => exact sC (Kd.R_reads' HO_6.out).2.2); (case side4 => exact (Kd.R_reads' HO_6.out).2.1); rintro e w' ⟨rfl, ⟨nd, rfl⟩⟩))
         go_meet
         case rel => exact ⟨_, ((t298 != t291)), (by first | rfl | (simp; done) | (simp [*]; done) | (simp only [i64_w]; done) | (simp [i64_w]; done)), H', ⟨by have := HJ9.out; first | omega | exact Nat.le_refl _⟩, ⟨by (with_reducible repeat (first | apply Kd.R_alloc | apply Kd.R_drewN | apply Kd.R_drew)); exact HO_6.out⟩, ⟨by (with_reducible repeat (first | apply Kd.R_alloc | apply Kd.R_drewN | apply Kd.R_drew)); exact HO_9.out⟩, ⟨by repeat (first | (with_reducible first | exact HB.out | apply below_alloc | apply pw_below_drewN | apply below_drew1) | exact HB.out)⟩⟩
        ·
         replace c36 := Bool.eq_false_iff.mpr c36
         subst c36
         have H1 : (laws_FnExactSlackLines.j1 kj9 l0 a1 t290 t291 t297 true) = some r := by rw [if_neg (show ¬ (false = true) by decide)] at H; exact H
         clear H
         have H := H1
         clear H1
         have H' := aS H
         clear H
         obtain ⟨Ao39, co39, eo39⟩ := Kd.R_slice HO_9.out
         subst eo39
         obtain ⟨Ao40, co40, eo40⟩ := Kd.R_slice HO_6.out
         subst eo40
         go_wp2_with (first | (go_at_call 33; (with_reducible refine (laws_eqInt64S.calls kj9 _ _ t297 _ _ t290 false _ ?side1 ?side2 ?side3 ?side4 A35.out).mono ?_); (case side1 => exact sC (Kd.R_reads' HO_9.out).2.2); (case side2 => exact (Kd.R_reads' HO_9.out).2.1); (case side3 => exact sC (Kd.R_reads' HO_6.out).2.2); (case side4 => exact (Kd.R_reads' HO_6.out).2.1); rintro e w' ⟨rfl, ⟨nd, rfl⟩⟩))
         go_meet
         case rel => exact ⟨_, (true), (by first | rfl | (simp; done) | (simp [*]; done) | (simp only [i64_w]; done) | (simp [i64_w]; done)), H', ⟨by have := HJ9.out; first | omega | exact Nat.le_refl _⟩, ⟨by (with_reducible repeat (first | apply Kd.R_alloc | apply Kd.R_drewN | apply Kd.R_drew)); exact HO_6.out⟩, ⟨by (with_reducible repeat (first | apply Kd.R_alloc | apply Kd.R_drewN | apply Kd.R_drew)); exact HO_9.out⟩, ⟨by repeat (first | (with_reducible first | exact HB.out | apply below_alloc | apply pw_below_drewN | apply below_drew1) | exact HB.out)⟩⟩
      case rest =>
       clear HC32
       (try clear c1); (try clear c2); (try clear p2); (try clear c3); (try clear c5); (try clear c5b0); (try clear c5b2); (try clear c9); (try clear c18); (try clear c23); (try clear c25); (try clear c26); (try clear c30); (try clear c31); (try clear c32); (try clear c33); (try clear c34); (try clear c34b0); (try clear c34b2); (try clear c36); (try clear p2)
       obtain ⟨kq, x65_31, rfl, HA, HJ31, HO_6, HO_9, HB⟩ := hcut
       cases kq with
       | zero => exact absurd HA.out (by simp [laws_FnExactSlackLines.j1])
       | succ kj31 =>
        have H := HA.out
        clear HA
        simp only [laws_FnExactSlackLines.j1] at H
        by_cases c41 : x65_31 = true
        ·
         subst c41
         have H1 : (some false) = some r := by rw [if_pos rfl] at H; exact H
         clear H
         have H := H1
         clear H1
         obtain rfl := Option.some.inj H
         go_wp2
         go_ret
         exact ⟨by first | rfl | (simp [errW_none, errW_some, i64_w]; done) | (simp [errW_none, errW_some] <;> rfl) | (simp [*, errW_none, errW_some] <;> rfl), by repeat (first | (with_reducible first | exact HB.out | apply below_alloc | apply pw_below_drewN | apply below_drew1) | exact HB.out)⟩
        ·
         replace c41 := Bool.eq_false_iff.mpr c41
         subst c41
         have H1 : ((laws_markInt64S.f kj31 t297 1).bind fun bt309 => ((laws_heldInt64S.f kj31 bt309.2 1).bind fun t311 => (if t311 < 0 then (some false) else (if t311 = bt309.1 then ((laws_toSpringS.f kj31 l0).bind fun t312 => ((impl_SlackLines.f kj31 t312 a1).bind fun bt315 => ((laws_eqInt64S.f kj31 bt315.1 t290).bind fun t319 => (if t319 = true then (laws_FnExactSlackLines.j2 kj31 bt309.2 bt309.1 (bt315.2 != t291)) else (laws_FnExactSlackLines.j2 kj31 bt309.2 bt309.1 true))))) else (some false))))) = some r := by rw [if_neg (show ¬ (false = true) by decide)] at H; exact H
         clear H
         have H := H1
         clear H1
         replace H := Option.bind_eq_some_iff.mp H
         obtain ⟨⟨t309, t310⟩, A420, H⟩ := H
         replace H : ((laws_heldInt64S.f kj31 t310 1).bind fun t311 => (if t311 < 0 then (some false) else (if t311 = t309 then ((laws_toSpringS.f kj31 l0).bind fun t312 => ((impl_SlackLines.f kj31 t312 a1).bind fun bt315 => ((laws_eqInt64S.f kj31 bt315.1 t290).bind fun t319 => (if t319 = true then (laws_FnExactSlackLines.j2 kj31 t310 t309 (bt315.2 != t291)) else (laws_FnExactSlackLines.j2 kj31 t310 t309 true))))) else (some false)))) = some r := H
         have A42 := aS A420
         clear A420
         replace H := Option.bind_eq_some_iff.mp H
         obtain ⟨t311, A430, H⟩ := H
         replace H : (if t311 < 0 then (some false) else (if t311 = t309 then ((laws_toSpringS.f kj31 l0).bind fun t312 => ((impl_SlackLines.f kj31 t312 a1).bind fun bt315 => ((laws_eqInt64S.f kj31 bt315.1 t290).bind fun t319 => (if t319 = true then (laws_FnExactSlackLines.j2 kj31 t310 t309 (bt315.2 != t291)) else (laws_FnExactSlackLines.j2 kj31 t310 t309 true))))) else (some false))) = some r := H
         have A43 := aS A430
         clear A430
         have HC44 := aS H
         clear H
         obtain ⟨Ao45, co45, eo45⟩ := Kd.R_slice HO_9.out
         subst eo45
         go_upto_if 73 with (first | ((with_reducible refine gate_callee (f := 35) rfl ?_); refine goesL_ (some 68) rfl rfl Try.func35 (by kernel_rfl) rfl #[.slice Ao45 t297.length co45, .int .i64 1] rfl sG ?_; (with_reducible refine (laws_markInt64S.calls kj31 (fun k_ => some k_ = (.slice Ao45 t297.length co45 : Value).ownBlock) (.slice Ao45 t297.length co45) t297 1 t309 t310 w _ ?side1 ?side2 A42.out).mono ?_); (case side1 => repeat (first | (with_reducible first | exact HB.out | apply below_alloc | apply pw_below_drewN | apply below_drew1) | exact HB.out)); (case side2 => exact Kd.R_tight rfl HO_9.out); rintro e w46 ⟨rfl, hy0, hb, hkp⟩; refine ⟨_, rfl, ?_⟩; have n0_ := aS (Kd.R_mono (ok' := fun k_ => some k_ ≠ (.slice Ao45 t297.length co45 : Value).ownBlock) (Kd.R_keptB (HO_6.out) hkp (fun k_ hk_ hs_ => (hk_) hs_)) (fun k_ hk_ => hk_.1)); have n1_ := aS (Kd.R_reok rfl hy0 (fun k_ e_ => HO_9.out.1 k_ e_)); have n2_ := aS (hb); clear HO_6 HO_9 HB; have HO_6 := n0_; have HO_9 := n1_; have HB := n2_; clear n0_ n1_ n2_; (try clear hb); (try clear hkp); (try clear hy0)) | ((with_reducible refine gate_callee (f := 36) rfl ?_); refine goesL_ (some 71) rfl rfl Try.func36 (by kernel_rfl) rfl #[.slice Ao45 t310.length co45, .int .i64 1] rfl (by (try simp only [List.map_toArray, List.map_cons, List.map_nil]); first | done | (rw [show t310.length = t297.length from (Kd.R_reads' HO_9.out).1.symm] <;> rfl) | rfl | (simp only [List.length_drop, List.length_take]; rfl)) ?_; (with_reducible refine (laws_heldInt64S.calls kj31 _ _ t310 1 t311 _ ?side1 ?side2 A43.out).mono ?_); (case side1 => exact sC (Kd.R_reads' HO_9.out).2.2); (case side2 => rw [show t310.length = t297.length from (Kd.R_reads' HO_9.out).1.symm]; exact (Kd.R_reads' HO_9.out).2.1); rintro e w' ⟨rfl, ⟨nd, rfl⟩⟩; refine ⟨_, rfl, ?_⟩))
         (try simp only [Act.put, List.setIfInBounds_toArray, List.set_cons_zero, List.set_cons_succ])
         have H := HC44.out
         clear HC44
         by_cases c47 : t311 < 0
         ·
          rw [if_pos c47] at H
          have c47b0 : decide (t311 < 0) = true := decide_eq_true c47
          clear c47
          (first | rw [c47b0] | (simp only [i64_w, i32_w]; rw [c47b0]) | (rw [c47b2]; simp only [Bool.not_false, Bool.not_true]) | skip)
          obtain rfl := Option.some.inj H
          go_wp2
          go_ret
          exact ⟨by first | rfl | (simp [errW_none, errW_some, i64_w]; done) | (simp [errW_none, errW_some] <;> rfl) | (simp [*, errW_none, errW_some] <;> rfl), by repeat (first | (with_reducible first | exact HB.out | apply below_alloc | apply pw_below_drewN | apply below_drew1) | exact HB.out)⟩
         ·
          rw [if_neg c47] at H
          have c47b0 : decide (t311 < 0) = false := decide_eq_false c47
          clear c47
          (first | rw [c47b0] | (simp only [i64_w, i32_w]; rw [c47b0]) | (rw [c47b2]; simp only [Bool.not_false, Bool.not_true]) | skip)
          by_cases c48 : t311 = t309
          ·
           rw [if_pos c48] at H
           have c48b0 : (t311 == t309) = true := beq_iff_eq.mpr c48
           have c48b1 : (t311 != t309) = false := bne_eq_false_iff_eq.mpr c48
           clear c48
           replace H := Option.bind_eq_some_iff.mp H
           obtain ⟨t312, A490, H⟩ := H
           replace H : ((impl_SlackLines.f kj31 t312 a1).bind fun bt315 => ((laws_eqInt64S.f kj31 bt315.1 t290).bind fun t319 => (if t319 = true then (laws_FnExactSlackLines.j2 kj31 t310 t309 (bt315.2 != t291)) else (laws_FnExactSlackLines.j2 kj31 t310 t309 true)))) = some r := H
           have A49 := aS A490
           clear A490
           replace H := Option.bind_eq_some_iff.mp H
           obtain ⟨⟨t315, t316⟩, A500, H⟩ := H
           replace H : ((laws_eqInt64S.f kj31 t315 t290).bind fun t319 => (if t319 = true then (laws_FnExactSlackLines.j2 kj31 t310 t309 (t316 != t291)) else (laws_FnExactSlackLines.j2 kj31 t310 t309 true))) = some r := H
           have A50 := aS A500
           clear A500
           have HC51 := aS H
           clear H
           go_upto_region 25 with (first | ((with_reducible refine gate_callee (f := 25) rfl ?_); refine goesL_ (some 79) rfl rfl Try.func25 (by kernel_rfl) rfl #[.slice A0 l0.length c0] rfl sG ?_; (with_reducible refine (laws_toSpringS.calls kj31 _ _ l0 t312 _ ?side1 ?side2 A49.out).mono ?_); (case side1 => exact sC (Kd.C_below HR0.out HB.out)); (case side2 => exact HC0.out); rintro e w52 ⟨v313, rfl, ho0, hb⟩; refine ⟨_, rfl, ?_⟩; have n0_ := aS (Kd.R_below (sR HO_6.out) hb); have n1_ := aS (Kd.R_below (sR HO_9.out) hb); have n2_ := aS (Kd.R_lower ho0 (below_size (sW HB.out))); have n3_ := aS (below_step (sW HB.out) hb); clear HO_6 HO_9 HB; have HO_6 := n0_; have HO_9 := n1_; have HO314 := n2_; have HB := n3_; clear n0_ n1_ n2_ n3_; (try clear hb); (try clear hb2); (try clear hk); (try clear hi); (try clear ho0); obtain ⟨Ao53, co53, eo53⟩ := Kd.R_slice HO314.out; subst eo53) | ((with_reducible refine gate_callee (f := 32) rfl ?_); refine goesL_ (some 81) rfl rfl Try.func32 (by kernel_rfl) rfl #[.slice Ao53 t312.length co53, .int .i64 a1] rfl sG ?_; (with_reducible refine (impl_SlackLines.calls kj31 _ _ t312 a1 t315 t316 _ ?side1 ?side2 A50.out).mono ?_); (case side1 => exact sC (Kd.R_reads' HO314.out).2.2); (case side2 => exact (Kd.R_reads' HO314.out).2.1); rintro e w54 ⟨v317, rfl, ho0, hb⟩; refine ⟨_, rfl, ?_⟩; have n0_ := aS (Kd.R_elder' (sR HO_6.out) (Kd.R_base ho0) hb); have n1_ := aS (Kd.R_elder' (sR HO_9.out) (Kd.R_base ho0) hb); have n2_ := aS (Kd.R_below (sR HO314.out) hb); have n3_ := aS (Kd.R_lower (Kd.R_new' (Kd.R_new' ho0 (Kd.R_lt (sR HO_6.out))) (Kd.R_lt (sR HO_9.out))) (below_size (sW HB.out))); have n4_ := aS (below_step (sW HB.out) hb); clear HO_6 HO_9 HO314 HB; have HO_6 := n0_; have HO_9 := n1_; have HO314 := n2_; have HO318 := n3_; have HB := n4_; clear n0_ n1_ n2_ n3_ n4_; (try clear hb); (try clear hb2); (try clear hk); (try clear hi); (try clear ho0)))
           (try simp only [Act.put, List.setIfInBounds_toArray, List.set_cons_zero, List.set_cons_succ])
           go_cut [92] (fun v92 wc => ∃ (kq : Nat) (x92_50 : Bool), v92 = .bool x92_50 ∧ Aside0 (laws_FnExactSlackLines.j2 kq t310 t309 x92_50 = some r) ∧ Aside0 (kq ≤ kj31) ∧ Aside0 (Kd.R (Kd.int .i64) 2 wc w.heap.size (fun _ => True) (.slice Ao45 t297.length co45) t310) ∧ Aside0 (Below w.heap.size w wc))
           case first =>
            have H := HC51.out
            clear HC51
            replace H := Option.bind_eq_some_iff.mp H
            obtain ⟨t319, A550, H⟩ := H
            replace H : (if t319 = true then (laws_FnExactSlackLines.j2 kj31 t310 t309 (t316 != t291)) else (laws_FnExactSlackLines.j2 kj31 t310 t309 true)) = some r := H
            have A55 := aS A550
            clear A550
            by_cases c56 : t319 = true
            ·
             subst c56
             have H1 : (laws_FnExactSlackLines.j2 kj31 t310 t309 (t316 != t291)) = some r := by rw [if_pos rfl] at H; exact H
             clear H
             have H := H1
             clear H1
             have H' := aS H
             clear H
             obtain ⟨Ao57, co57, eo57⟩ := Kd.R_slice HO318.out
             subst eo57
             obtain ⟨Ao58, co58, eo58⟩ := Kd.R_slice HO_6.out
             subst eo58
             go_wp2_with (first | ((with_reducible refine gate_callee (f := 33) rfl ?_); refine goesL_ (some 86) rfl rfl Try.func33 (by kernel_rfl) rfl #[.slice Ao57 t315.length co57, .slice Ao58 t290.length co58] rfl sG ?_; (with_reducible refine (laws_eqInt64S.calls kj31 _ _ t315 _ _ t290 true _ ?side1 ?side2 ?side3 ?side4 A55.out).mono ?_); (case side1 => exact sC (Kd.R_reads' HO318.out).2.2); (case side2 => exact (Kd.R_reads' HO318.out).2.1); (case side3 => exact sC (Kd.R_reads' HO_6.out).2.2); (case side4 => exact (Kd.R_reads' HO_6.out).2.1); rintro e w' ⟨rfl, ⟨nd, rfl⟩⟩; refine ⟨_, rfl, ?_⟩))
             go_meet
             case rel => exact ⟨_, ((t316 != t291)), (by first | rfl | (simp; done) | (simp [*]; done) | (simp only [i64_w]; done) | (simp [i64_w]; done)), H', ⟨by have := HJ9.out; have := HJ31.out; first | omega | exact Nat.le_refl _⟩, ⟨by (with_reducible repeat (first | apply Kd.R_alloc | apply Kd.R_drewN | apply Kd.R_drew)); exact Kd.R_mono HO_9.out (fun _ hk => trivial)⟩, ⟨by repeat (first | (with_reducible first | exact HB.out | apply below_alloc | apply pw_below_drewN | apply below_drew1) | exact HB.out)⟩⟩
            ·
             replace c56 := Bool.eq_false_iff.mpr c56
             subst c56
             have H1 : (laws_FnExactSlackLines.j2 kj31 t310 t309 true) = some r := by rw [if_neg (show ¬ (false = true) by decide)] at H; exact H
             clear H
             have H := H1
             clear H1
             have H' := aS H
             clear H
             obtain ⟨Ao59, co59, eo59⟩ := Kd.R_slice HO318.out
             subst eo59
             obtain ⟨Ao60, co60, eo60⟩ := Kd.R_slice HO_6.out
             subst eo60
             go_wp2_with (first | ((with_reducible refine gate_callee (f := 33) rfl ?_); refine goesL_ (some 86) rfl rfl Try.func33 (by kernel_rfl) rfl #[.slice Ao59 t315.length co59, .slice Ao60 t290.length co60] rfl sG ?_; (with_reducible refine (laws_eqInt64S.calls kj31 _ _ t315 _ _ t290 false _ ?side1 ?side2 ?side3 ?side4 A55.out).mono ?_); (case side1 => exact sC (Kd.R_reads' HO318.out).2.2); (case side2 => exact (Kd.R_reads' HO318.out).2.1); (case side3 => exact sC (Kd.R_reads' HO_6.out).2.2); (case side4 => exact (Kd.R_reads' HO_6.out).2.1); rintro e w' ⟨rfl, ⟨nd, rfl⟩⟩; refine ⟨_, rfl, ?_⟩))
             go_meet
             case rel => exact ⟨_, (true), (by first | rfl | (simp; done) | (simp [*]; done) | (simp only [i64_w]; done) | (simp [i64_w]; done)), H', ⟨by have := HJ9.out; have := HJ31.out; first | omega | exact Nat.le_refl _⟩, ⟨by (with_reducible repeat (first | apply Kd.R_alloc | apply Kd.R_drewN | apply Kd.R_drew)); exact Kd.R_mono HO_9.out (fun _ hk => trivial)⟩, ⟨by repeat (first | (with_reducible first | exact HB.out | apply below_alloc | apply pw_below_drewN | apply below_drew1) | exact HB.out)⟩⟩
           case rest =>
            clear HC51
            (try clear c1); (try clear c2); (try clear p2); (try clear c3); (try clear c4); (try clear c5); (try clear c5b0); (try clear c5b2); (try clear c9); (try clear c18); (try clear c23); (try clear c25); (try clear c26); (try clear c30); (try clear c31); (try clear c32); (try clear c33); (try clear c34); (try clear c34b0); (try clear c34b2); (try clear c35); (try clear c36); (try clear c41); (try clear c47); (try clear c47b0); (try clear c47b2); (try clear c48); (try clear c48b0); (try clear c48b1); (try clear c56); (try clear p2)
            obtain ⟨kq, x92_50, rfl, HA, HJ50, HO_9, HB⟩ := hcut
            have hl9_50 := (Kd.R_reads' HO_9.out).1
            rw [hl9_50] at HO_9
            (try simp only [hl9_50])
            cases kq with
            | zero => exact absurd HA.out (by simp [laws_FnExactSlackLines.j2])
            | succ kj50 =>
             have H := HA.out
             clear HA
             simp only [laws_FnExactSlackLines.j2] at H
             by_cases c61 : x92_50 = true
             ·
              subst c61
              have H1 : (some false) = some r := by rw [if_pos rfl] at H; exact H
              clear H
              have H := H1
              clear H1
              obtain rfl := Option.some.inj H
              go_wp2
              go_ret
              exact ⟨by first | rfl | (simp [errW_none, errW_some, i64_w]; done) | (simp [errW_none, errW_some] <;> rfl) | (simp [*, errW_none, errW_some] <;> rfl), by repeat (first | (with_reducible first | exact HB.out | apply below_alloc | apply pw_below_drewN | apply below_drew1) | exact HB.out)⟩
             ·
              replace c61 := Bool.eq_false_iff.mpr c61
              subst c61
              have H1 : ((laws_heldInt64S.f kj50 t310 1).bind fun t320 => (if t320 < 0 then (some false) else (if t320 = t309 then (some true) else (some false)))) = some r := by rw [if_neg (show ¬ (false = true) by decide)] at H; exact H
              clear H
              have H := H1
              clear H1
              replace H := Option.bind_eq_some_iff.mp H
              obtain ⟨t320, A620, H⟩ := H
              replace H : (if t320 < 0 then (some false) else (if t320 = t309 then (some true) else (some false))) = some r := H
              have A62 := aS A620
              clear A620
              have HC63 := aS H
              clear H
              go_upto_if 97 with (first | ((with_reducible refine gate_callee (f := 36) rfl ?_); refine goesL_ (some 95) rfl rfl Try.func36 (by kernel_rfl) rfl #[.slice Ao45 t310.length co45, .int .i64 1] rfl sG ?_; (with_reducible refine (laws_heldInt64S.calls kj50 _ _ t310 1 t320 _ ?side1 ?side2 A62.out).mono ?_); (case side1 => exact sC (Kd.R_reads' HO_9.out).2.2); (case side2 => exact (Kd.R_reads' HO_9.out).2.1); rintro e w' ⟨rfl, ⟨nd, rfl⟩⟩; refine ⟨_, rfl, ?_⟩))
              (try simp only [Act.put, List.setIfInBounds_toArray, List.set_cons_zero, List.set_cons_succ])
              have H := HC63.out
              clear HC63
              by_cases c64 : t320 < 0
              ·
               rw [if_pos c64] at H
               have c64b0 : decide (t320 < 0) = true := decide_eq_true c64
               clear c64
               (first | rw [c64b0] | (simp only [i64_w, i32_w]; rw [c64b0]) | (rw [c64b2]; simp only [Bool.not_false, Bool.not_true]) | skip)
               obtain rfl := Option.some.inj H
               go_wp2
               go_ret
               exact ⟨by first | rfl | (simp [errW_none, errW_some, i64_w]; done) | (simp [errW_none, errW_some] <;> rfl) | (simp [*, errW_none, errW_some] <;> rfl), by repeat (first | (with_reducible first | exact HB.out | apply below_alloc | apply pw_below_drewN | apply below_drew1) | exact HB.out)⟩
              ·
               rw [if_neg c64] at H
               have c64b0 : decide (t320 < 0) = false := decide_eq_false c64
               clear c64
               (first | rw [c64b0] | (simp only [i64_w, i32_w]; rw [c64b0]) | (rw [c64b2]; simp only [Bool.not_false, Bool.not_true]) | skip)
               by_cases c65 : t320 = t309
               ·
                rw [if_pos c65] at H
                have c65b0 : (t320 == t309) = true := beq_iff_eq.mpr c65
                have c65b1 : (t320 != t309) = false := bne_eq_false_iff_eq.mpr c65
                clear c65
                obtain rfl := Option.some.inj H
                go_wp2
                go_ret
                exact ⟨by first | rfl | (simp [errW_none, errW_some, i64_w]; done) | (simp [errW_none, errW_some] <;> rfl) | (simp [*, errW_none, errW_some] <;> rfl), by repeat (first | (with_reducible first | exact HB.out | apply below_alloc | apply pw_below_drewN | apply below_drew1) | exact HB.out)⟩
               ·
                rw [if_neg c65] at H
                have c65b0 : (t320 == t309) = false := beq_eq_false_iff_ne.mpr c65
                have c65b1 : (t320 != t309) = true := bne_iff_ne.mpr c65
                obtain rfl := Option.some.inj H
                go_wp2
                go_ret
                exact ⟨by first | rfl | (simp [errW_none, errW_some, i64_w]; done) | (simp [errW_none, errW_some] <;> rfl) | (simp [*, errW_none, errW_some] <;> rfl), by repeat (first | (with_reducible first | exact HB.out | apply below_alloc | apply pw_below_drewN | apply below_drew1) | exact HB.out)⟩
          ·
           rw [if_neg c48] at H
           have c48b0 : (t311 == t309) = false := beq_eq_false_iff_ne.mpr c48
           have c48b1 : (t311 != t309) = true := bne_iff_ne.mpr c48
           obtain rfl := Option.some.inj H
           go_wp2
           go_ret
           exact ⟨by first | rfl | (simp [errW_none, errW_some, i64_w]; done) | (simp [errW_none, errW_some] <;> rfl) | (simp [*, errW_none, errW_some] <;> rfl), by repeat (first | (with_reducible first | exact HB.out | apply below_alloc | apply pw_below_drewN | apply below_drew1) | exact HB.out)⟩
     ·
      replace c30 := Bool.eq_false_iff.mpr c30
      subst c30
      have H1 : (some false) = some r := by rw [if_neg (show ¬ (false = true) by decide)] at H; exact H
      clear H
      have H := H1
      clear H1
      obtain rfl := Option.some.inj H
      go_wp2
      go_ret
      exact ⟨by first | rfl | (simp [errW_none, errW_some, i64_w]; done) | (simp [errW_none, errW_some] <;> rfl) | (simp [*, errW_none, errW_some] <;> rfl), by repeat (first | (with_reducible first | exact HB.out | apply below_alloc | apply pw_below_drewN | apply below_drew1) | exact HB.out)⟩

/-- THE ONE PURE STATEMENT of laws_FnExactSlackLines. -/
def laws_FnExactSlackLines.Pure : Prop := ∀ (l0 : List (S23)) (a1 : Int), (l0.length * 16 ≤ 140737488351232 ∧ l0.length ≤ maxLen ∧ (∀ y0 ∈ l0, ((Lit.int .i64 y0.f0).wf = true) ∧ ((Lit.int .i64 y0.f1).wf = true))) → ((Lit.int .i64 a1).wf = true) → ∃ k, laws_FnExactSlackLines.f k l0 a1 = some true
theorem laws_FnExactSlackLines.walk : True := trivial

end Go.Proofs.Ytmokjfncblnfcaa.QFnExactSlackLines

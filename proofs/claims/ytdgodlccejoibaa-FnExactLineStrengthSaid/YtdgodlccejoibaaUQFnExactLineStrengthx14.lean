/- What the Go functions of this law compute, each as a Lean function, and that each call comes to that answer; written by a program of this session. No condition. -/
import Derived.Test.YtdgodlccejoibaaUQFnExactLineStrengthx0
import Derived.Test.YtdgodlccejoibaaUQFnExactLineStrengthx1
import Derived.Test.YtdgodlccejoibaaUQFnExactLineStrengthx2
import Derived.Test.YtdgodlccejoibaaUQFnExactLineStrengthx3
import Derived.Test.YtdgodlccejoibaaUQFnExactLineStrengthx9
import Derived.Test.YtdgodlccejoibaaUQFnExactLineStrengthx13
namespace Go.Proofs.Ytdgodlccejoibaa.QFnExactLineStrength
open Go.RowKit Go.Proofs.YtdgodlccejoibaaW.PrintWords Go.Proofs.YtdgodlccejoibaaW.PrintLast Go.Proofs.YtdgodlccejoibaaW.PrintMore
attribute [local go_sem] max2_int min2_int max_two min_two max_three min_three max_four min_four   -- for this text's walks alone
set_option linter.unusedVariables false
set_option linter.unusedSimpArgs false

/-! ### laws_FnExactLineStrength: function 12 -/
def laws_FnExactLineStrength.j0 : Nat → List (S67) → List (S68) → Bool → List (S41) → List Int → List (S44) → List Int → Option (Bool)
 | 0, _, _, _, _, _, _, _ => none
 | k + 1, x0, x8, x48, x346000, x346001, x371000, x371001 => if x48 = true then (some false) else ((laws_toJoinS.f k x0).bind fun t376 => ((laws_eqJoinS.f k x8 t376).bind fun t379 => (if t379 = true then ((laws_toLine.f k x346000 x346001).bind fun bt380 => ((laws_eqLine.f k x371000 x371001 bt380.1 bt380.2).bind fun t386 => (if t386 = true then (some true) else (some false)))) else (some false))))
def laws_FnExactLineStrength.f (k : Nat) (l0 : List (S67)) (l1_0 : List (S41)) (l1_1 : List Int) : Option (Bool) := (laws_szJoinS.f k l0 1048576).bind fun t346 => (if t346 < 0 then (some true) else ((laws_szLine.f l1_0 l1_1 t346).bind fun t347 => (if t347 < 0 then (some true) else ((laws_toJoinS.f k l0).bind fun t348 => ((laws_toLine.f k l1_0 l1_1).bind fun bt351 => ((spec_LineStrength.f k t348 bt351.1 bt351.2).bind fun bt357 => ((laws_toJoinS.f k l0).bind fun t361 => ((laws_toLine.f k l1_0 l1_1).bind fun bt364 => ((impl_LineStrength.f k t361 bt364.1 bt364.2).bind fun bt371 => ((laws_eqFraction.f bt371.1 bt371.2.1 bt357.1 bt357.2.1).bind fun t375 => (if t375 = true then (laws_FnExactLineStrength.j0 k l0 t361 (bt371.2.2 != bt357.2.2) l1_0 l1_1 bt364.1 bt364.2) else (laws_FnExactLineStrength.j0 k l0 t361 true l1_0 l1_1 bt364.1 bt364.2))))))))))))
theorem laws_FnExactLineStrength.mono_l : ∀ k, (∀ y0 y1 y2 y3 y4 y5 y6, LeO (laws_FnExactLineStrength.j0 k y0 y1 y2 y3 y4 y5 y6) (laws_FnExactLineStrength.j0 (k + 1) y0 y1 y2 y3 y4 y5 y6))
 | 0 => fun _ _ _ _ _ _ _ r h => by simp [laws_FnExactLineStrength.j0] at h
 | k + 1 => by
  have ih0 := laws_FnExactLineStrength.mono_l k
  ·
   intro y0 y1 y2 y3 y4 y5 y6
   unfold laws_FnExactLineStrength.j0
   repeat' first
   | (with_reducible exact ih0 _ _ _ _ _ _ _)
   | (with_reducible exact impl_LineStrength.mono _ _ _ _)
   | (with_reducible exact laws_eqJoinS.mono _ _ _)
   | (with_reducible exact laws_eqLine.mono _ _ _ _ _)
   | (with_reducible exact laws_szJoinS.mono _ _ _)
   | (with_reducible exact laws_toJoinS.mono _ _)
   | (with_reducible exact laws_toLine.mono _ _ _)
   | (with_reducible exact spec_LineStrength.mono _ _ _ _)
   | (with_reducible exact LeO.refl _)
   | (with_reducible exact LeO.none _)
   | (with_reducible refine LeO.ite ?_ ?_)
   | (with_reducible refine LeO.bind ?_ (fun _ => ?_))
   | exact ih0 _ _ _ _ _ _ _
   | exact impl_LineStrength.mono _ _ _ _
   | exact laws_eqJoinS.mono _ _ _
   | exact laws_eqLine.mono _ _ _ _ _
   | exact laws_szJoinS.mono _ _ _
   | exact laws_toJoinS.mono _ _
   | exact laws_toLine.mono _ _ _
   | exact spec_LineStrength.mono _ _ _ _
   | exact LeO.none _
   | refine LeO.ite ?_ ?_
   | refine LeO.bind ?_ (fun _ => ?_)
theorem laws_FnExactLineStrength.mono : ∀ a0 a1 a2 k, LeO (laws_FnExactLineStrength.f k a0 a1 a2) (laws_FnExactLineStrength.f (k + 1) a0 a1 a2) := by
 intro a0 a1 a2 k
 have ih0 := laws_FnExactLineStrength.mono_l k
 unfold laws_FnExactLineStrength.f
 repeat' first
   | (with_reducible exact ih0 _ _ _ _ _ _ _)
   | (with_reducible exact impl_LineStrength.mono _ _ _ _)
   | (with_reducible exact laws_eqJoinS.mono _ _ _)
   | (with_reducible exact laws_eqLine.mono _ _ _ _ _)
   | (with_reducible exact laws_szJoinS.mono _ _ _)
   | (with_reducible exact laws_toJoinS.mono _ _)
   | (with_reducible exact laws_toLine.mono _ _ _)
   | (with_reducible exact spec_LineStrength.mono _ _ _ _)
   | (with_reducible exact LeO.refl _)
   | (with_reducible exact LeO.none _)
   | (with_reducible refine LeO.ite ?_ ?_)
   | (with_reducible refine LeO.bind ?_ (fun _ => ?_))
   | exact ih0 _ _ _ _ _ _ _
   | exact impl_LineStrength.mono _ _ _ _
   | exact laws_eqJoinS.mono _ _ _
   | exact laws_eqLine.mono _ _ _ _ _
   | exact laws_szJoinS.mono _ _ _
   | exact laws_toJoinS.mono _ _
   | exact laws_toLine.mono _ _ _
   | exact spec_LineStrength.mono _ _ _ _
   | exact LeO.none _
   | refine LeO.ite ?_ ?_
   | refine LeO.bind ?_ (fun _ => ?_)
def laws_FnExactLineStrength.T8 : Bool × List (List Nat × List Nat) := (true, [([], []), ([0], [0]), ([], []), ([2, 1], [2]), ([1, 3, 3], [1, 3]), ([4], [4]), ([5], [5]), ([5], [5]), ([], []), ([8, 6, 4, 0, 1, 2, 3, 4, 5, 6, 8], [6, 8]), ([7, 9, 0, 1, 2, 3, 4, 5, 6, 7, 8, 9], [7])])
def laws_FnExactLineStrength.B8 : List Nat := [0, 1, 0, 7, 15, 31, 63, 63, 0, 383, 1023]
theorem laws_FnExactLineStrength.tab8 : rtab .any (opsOf Try.f12 8) = laws_FnExactLineStrength.T8 := by kernel_rfl
theorem laws_FnExactLineStrength.bits8 : waitsOk laws_FnExactLineStrength.T8.2 laws_FnExactLineStrength.B8 = true := by kernel_rfl
set_option maxHeartbeats 8000000 in
set_option maxRecDepth 100000 in
theorem laws_FnExactLineStrength.calls (k : Nat) (A0 : Option Addr) (c0 : Nat) (l0 : List (S67)) (A1_0 : Option Addr) (c1_0 : Nat) (l1_0 : List (S41)) (A1_1 : Option Addr) (c1_1 : Nat) (l1_1 : List Int) (r : Bool) (w : World) (hr0 : Kd.C k67 w A0 l0.length l0) (hc0 : l0.length ≤ c0) (hr1_0 : Kd.C k41 w A1_0 l1_0.length l1_0) (hc1_0 : l1_0.length ≤ c1_0) (hr1_1 : Kd.C (Kd.int .i64) w A1_1 l1_1.length l1_1) (hc1_1 : l1_1.length ≤ c1_1) (h : laws_FnExactLineStrength.f k l0 l1_0 l1_1 = some r) :
  Calls Try.prog 12 #[.slice A0 l0.length c0, .agg #[.slice A1_0 l1_0.length c1_0, .slice A1_1 l1_1.length c1_1]] w fun e w' => e = .returned (.bool r) ∧ Below w.heap.size w w' := by
 have hu32 := Try.underlying32
 have hu51 := Try.underlying51
 have hu37 := Try.underlying37
 have HR0 := aS hr0
 have HC0 := aS hc0
 clear hr0 hc0
 have HR1_0 := aS hr1_0
 have HC1_0 := aS hc1_0
 clear hr1_0 hc1_0
 have HR1_1 := aS hr1_1
 have HC1_1 := aS hc1_1
 clear hr1_1 hc1_1
 have HB := aS (Below.refl w.heap.size w)
 have H : ((laws_szJoinS.f k l0 1048576).bind fun t346 => (if t346 < 0 then (some true) else ((laws_szLine.f l1_0 l1_1 t346).bind fun t347 => (if t347 < 0 then (some true) else ((laws_toJoinS.f k l0).bind fun t348 => ((laws_toLine.f k l1_0 l1_1).bind fun bt351 => ((spec_LineStrength.f k t348 bt351.1 bt351.2).bind fun bt357 => ((laws_toJoinS.f k l0).bind fun t361 => ((laws_toLine.f k l1_0 l1_1).bind fun bt364 => ((impl_LineStrength.f k t361 bt364.1 bt364.2).bind fun bt371 => ((laws_eqFraction.f bt371.1 bt371.2.1 bt357.1 bt357.2.1).bind fun t375 => (if t375 = true then (laws_FnExactLineStrength.j0 k l0 t361 (bt371.2.2 != bt357.2.2) l1_0 l1_1 bt364.1 bt364.2) else (laws_FnExactLineStrength.j0 k l0 t361 true l1_0 l1_1 bt364.1 bt364.2))))))))))))) = some r := h
 clear h
 replace H := Option.bind_eq_some_iff.mp H
 obtain ⟨t346, A30, H⟩ := H
 replace H : (if t346 < 0 then (some true) else ((laws_szLine.f l1_0 l1_1 t346).bind fun t347 => (if t347 < 0 then (some true) else ((laws_toJoinS.f k l0).bind fun t348 => ((laws_toLine.f k l1_0 l1_1).bind fun bt351 => ((spec_LineStrength.f k t348 bt351.1 bt351.2).bind fun bt357 => ((laws_toJoinS.f k l0).bind fun t361 => ((laws_toLine.f k l1_0 l1_1).bind fun bt364 => ((impl_LineStrength.f k t361 bt364.1 bt364.2).bind fun bt371 => ((laws_eqFraction.f bt371.1 bt371.2.1 bt357.1 bt357.2.1).bind fun t375 => (if t375 = true then (laws_FnExactLineStrength.j0 k l0 t361 (bt371.2.2 != bt357.2.2) l1_0 l1_1 bt364.1 bt364.2) else (laws_FnExactLineStrength.j0 k l0 t361 true l1_0 l1_1 bt364.1 bt364.2)))))))))))) = some r := H
 have A3 := aS A30
 clear A30
 have HC4 := aS H
 clear H
 go_enter Try.func12, Try.ntmps12
 go_upto_if 16 with (first | ((with_reducible refine gate_dst (N := 3) rfl ?_); refine box_event ?hg (N := 3) ?hd (cs := #[.slice A1_0 l1_0.length c1_0, .slice A1_1 l1_1.length c1_1]) (t := 32) ?hr ?_; (case hd => rfl); (case hg => rfl); (case hr => first | (go_simp; done) | (go_simp; rfl)); intro gb345 hg w5 hbox hb; have n0_ := aS (below_step (sW HB.out) hb); have n1_ := aS (hbox); have n2_ := aS ((by rw [hg]; exact (below_size (sW HB.out)) : w.heap.size ≤ gb345)); have n3_ := aS ((by rw [hg]; exact (below_size (sW HB.out)) : w.heap.size ≤ gb345)); clear HB; have HB := n0_; have BK345 := n1_; have GW345 := n2_; have GE345 := n3_; clear n0_ n1_ n2_ n3_; clear hb hbox hg) | ((with_reducible refine gate_callee (f := 13) rfl ?_); refine goesL_ (some 14) rfl rfl Try.func13 (by kernel_rfl) rfl #[.slice A0 l0.length c0, .int .i64 1048576] rfl sG ?_; (with_reducible refine (laws_szJoinS.calls k _ _ l0 1048576 t346 _ ?side1 ?side2 A3.out).mono ?_); (case side1 => exact sC (Kd.C_below HR0.out HB.out)); (case side2 => exact HC0.out); rintro e w6 ⟨rfl, hb⟩; refine ⟨_, rfl, ?_⟩; have n0_ := aS (blk_below (g := gb345) (o := .cells #[.slice A1_0 l1_0.length c1_0, .slice A1_1 l1_1.length c1_1] 32 (0, 0)) (sB BK345.out) hb); have n1_ := aS (below_step (sW HB.out) hb); clear BK345 HB; have BK345 := n0_; have HB := n1_; clear n0_ n1_; (try clear hb); (try clear hb2); (try clear hk); (try clear hi)))
 (try simp only [Act.put, List.setIfInBounds_toArray, List.set_cons_zero, List.set_cons_succ])
 have H := HC4.out
 clear HC4
 by_cases c7 : t346 < 0
 ·
  rw [if_pos c7] at H
  have c7b0 : decide (t346 < 0) = true := decide_eq_true c7
  clear c7
  (first | rw [c7b0] | (simp only [i64_w, i32_w]; rw [c7b0]) | (rw [c7b2]; simp only [Bool.not_false, Bool.not_true]) | skip)
  obtain rfl := Option.some.inj H
  go_wp2
  go_ret
  exact ⟨by first | rfl | (simp [errW_none, errW_some, i64_w]; done) | (simp [errW_none, errW_some] <;> rfl) | (simp [*, errW_none, errW_some] <;> rfl), by repeat (first | (with_reducible first | exact HB.out | apply below_alloc | apply pw_below_drewN | apply below_drew1) | exact HB.out)⟩
 ·
  rw [if_neg c7] at H
  have c7b0 : decide (t346 < 0) = false := decide_eq_false c7
  clear c7
  (first | rw [c7b0] | (simp only [i64_w, i32_w]; rw [c7b0]) | (rw [c7b2]; simp only [Bool.not_false, Bool.not_true]) | skip)
  replace H := Option.bind_eq_some_iff.mp H
  obtain ⟨t347, A80, H⟩ := H
  replace H : (if t347 < 0 then (some true) else ((laws_toJoinS.f k l0).bind fun t348 => ((laws_toLine.f k l1_0 l1_1).bind fun bt351 => ((spec_LineStrength.f k t348 bt351.1 bt351.2).bind fun bt357 => ((laws_toJoinS.f k l0).bind fun t361 => ((laws_toLine.f k l1_0 l1_1).bind fun bt364 => ((impl_LineStrength.f k t361 bt364.1 bt364.2).bind fun bt371 => ((laws_eqFraction.f bt371.1 bt371.2.1 bt357.1 bt357.2.1).bind fun t375 => (if t375 = true then (laws_FnExactLineStrength.j0 k l0 t361 (bt371.2.2 != bt357.2.2) l1_0 l1_1 bt364.1 bt364.2) else (laws_FnExactLineStrength.j0 k l0 t361 true l1_0 l1_1 bt364.1 bt364.2)))))))))) = some r := H
  have A8 := aS A80
  clear A80
  have HC9 := aS H
  clear H
  have hcz10_0 : w6.cell? ⟨gb345, 0, none⟩ = some (.slice A1_0 l1_0.length c1_0) := (blk_cell BK345.out 0).trans rfl
  have hcz10_1 : w6.cell? ⟨gb345, 1, none⟩ = some (.slice A1_1 l1_1.length c1_1) := (blk_cell BK345.out 1).trans rfl
  have hfz10_0 := blk_frozen BK345.out 0
  have hfz10_1 := blk_frozen BK345.out 1
  go_upto_if 21 with (first | ((with_reducible refine gate_callee (f := 18) rfl ?_); refine goesL_ (some 19) rfl rfl Try.func18 (by kernel_rfl) rfl #[.agg #[.slice A1_0 l1_0.length c1_0, .slice A1_1 l1_1.length c1_1], .int .i64 t346] rfl sG ?_; (with_reducible refine (laws_szLine.calls _ _ l1_0 _ _ l1_1 t346 t347 _ ?side1 ?side2 ?side3 ?side4 A8.out).mono ?_); (case side1 => exact sC (Kd.C_below HR1_0.out HB.out)); (case side2 => exact HC1_0.out); (case side3 => exact sC (Kd.C_below HR1_1.out HB.out)); (case side4 => exact HC1_1.out); rintro e w11 ⟨rfl, hb⟩; refine ⟨_, rfl, ?_⟩; have n0_ := aS (blk_below (g := gb345) (o := .cells #[.slice A1_0 l1_0.length c1_0, .slice A1_1 l1_1.length c1_1] 32 (0, 0)) (sB BK345.out) hb); have n1_ := aS (below_step (sW HB.out) hb); clear BK345 HB; have BK345 := n0_; have HB := n1_; clear n0_ n1_; (try clear hb); (try clear hb2); (try clear hk); (try clear hi)))
  (try simp only [Act.put, List.setIfInBounds_toArray, List.set_cons_zero, List.set_cons_succ])
  have H := HC9.out
  clear HC9
  by_cases c12 : t347 < 0
  ·
   rw [if_pos c12] at H
   have c12b0 : decide (t347 < 0) = true := decide_eq_true c12
   clear c12
   (first | rw [c12b0] | (simp only [i64_w, i32_w]; rw [c12b0]) | (rw [c12b2]; simp only [Bool.not_false, Bool.not_true]) | skip)
   obtain rfl := Option.some.inj H
   go_wp2
   go_ret
   exact ⟨by first | rfl | (simp [errW_none, errW_some, i64_w]; done) | (simp [errW_none, errW_some] <;> rfl) | (simp [*, errW_none, errW_some] <;> rfl), by repeat (first | (with_reducible first | exact HB.out | apply below_alloc | apply pw_below_drewN | apply below_drew1) | exact HB.out)⟩
  ·
   rw [if_neg c12] at H
   have c12b0 : decide (t347 < 0) = false := decide_eq_false c12
   clear c12
   (first | rw [c12b0] | (simp only [i64_w, i32_w]; rw [c12b0]) | (rw [c12b2]; simp only [Bool.not_false, Bool.not_true]) | skip)
   replace H := Option.bind_eq_some_iff.mp H
   obtain ⟨t348, A130, H⟩ := H
   replace H : ((laws_toLine.f k l1_0 l1_1).bind fun bt351 => ((spec_LineStrength.f k t348 bt351.1 bt351.2).bind fun bt357 => ((laws_toJoinS.f k l0).bind fun t361 => ((laws_toLine.f k l1_0 l1_1).bind fun bt364 => ((impl_LineStrength.f k t361 bt364.1 bt364.2).bind fun bt371 => ((laws_eqFraction.f bt371.1 bt371.2.1 bt357.1 bt357.2.1).bind fun t375 => (if t375 = true then (laws_FnExactLineStrength.j0 k l0 t361 (bt371.2.2 != bt357.2.2) l1_0 l1_1 bt364.1 bt364.2) else (laws_FnExactLineStrength.j0 k l0 t361 true l1_0 l1_1 bt364.1 bt364.2)))))))) = some r := H
   have A13 := aS A130
   clear A130
   replace H := Option.bind_eq_some_iff.mp H
   obtain ⟨⟨t351, t354⟩, A140, H⟩ := H
   replace H : ((spec_LineStrength.f k t348 t351 t354).bind fun bt357 => ((laws_toJoinS.f k l0).bind fun t361 => ((laws_toLine.f k l1_0 l1_1).bind fun bt364 => ((impl_LineStrength.f k t361 bt364.1 bt364.2).bind fun bt371 => ((laws_eqFraction.f bt371.1 bt371.2.1 bt357.1 bt357.2.1).bind fun t375 => (if t375 = true then (laws_FnExactLineStrength.j0 k l0 t361 (bt371.2.2 != bt357.2.2) l1_0 l1_1 bt364.1 bt364.2) else (laws_FnExactLineStrength.j0 k l0 t361 true l1_0 l1_1 bt364.1 bt364.2))))))) = some r := H
   have A14 := aS A140
   clear A140
   replace H := Option.bind_eq_some_iff.mp H
   obtain ⟨⟨t357, t358, t359⟩, A150, H⟩ := H
   replace H : ((laws_toJoinS.f k l0).bind fun t361 => ((laws_toLine.f k l1_0 l1_1).bind fun bt364 => ((impl_LineStrength.f k t361 bt364.1 bt364.2).bind fun bt371 => ((laws_eqFraction.f bt371.1 bt371.2.1 t357 t358).bind fun t375 => (if t375 = true then (laws_FnExactLineStrength.j0 k l0 t361 (bt371.2.2 != t359) l1_0 l1_1 bt364.1 bt364.2) else (laws_FnExactLineStrength.j0 k l0 t361 true l1_0 l1_1 bt364.1 bt364.2)))))) = some r := H
   have A15 := aS A150
   clear A150
   replace H := Option.bind_eq_some_iff.mp H
   obtain ⟨t361, A160, H⟩ := H
   replace H : ((laws_toLine.f k l1_0 l1_1).bind fun bt364 => ((impl_LineStrength.f k t361 bt364.1 bt364.2).bind fun bt371 => ((laws_eqFraction.f bt371.1 bt371.2.1 t357 t358).bind fun t375 => (if t375 = true then (laws_FnExactLineStrength.j0 k l0 t361 (bt371.2.2 != t359) l1_0 l1_1 bt364.1 bt364.2) else (laws_FnExactLineStrength.j0 k l0 t361 true l1_0 l1_1 bt364.1 bt364.2))))) = some r := H
   have A16 := aS A160
   clear A160
   replace H := Option.bind_eq_some_iff.mp H
   obtain ⟨⟨t364, t367⟩, A170, H⟩ := H
   replace H : ((impl_LineStrength.f k t361 t364 t367).bind fun bt371 => ((laws_eqFraction.f bt371.1 bt371.2.1 t357 t358).bind fun t375 => (if t375 = true then (laws_FnExactLineStrength.j0 k l0 t361 (bt371.2.2 != t359) l1_0 l1_1 t364 t367) else (laws_FnExactLineStrength.j0 k l0 t361 true l1_0 l1_1 t364 t367)))) = some r := H
   have A17 := aS A170
   clear A170
   replace H := Option.bind_eq_some_iff.mp H
   obtain ⟨⟨t371, t372, t373⟩, A180, H⟩ := H
   replace H : ((laws_eqFraction.f t371 t372 t357 t358).bind fun t375 => (if t375 = true then (laws_FnExactLineStrength.j0 k l0 t361 (t373 != t359) l1_0 l1_1 t364 t367) else (laws_FnExactLineStrength.j0 k l0 t361 true l1_0 l1_1 t364 t367))) = some r := H
   have A18 := aS A180
   clear A180
   have HC19 := aS H
   clear H
   try go_wp2
   have n0_ := aS (blk_drew BK345.out)
   have n1_ := aS (below_drew1 HB.out)
   clear BK345 HB
   have BK345 := n0_; have HB := n1_
   clear n0_ n1_
   refine start_ (n := 11) (S := fun w' => w'.cell? ⟨gb345, 0, none⟩ = some (.slice A1_0 l1_0.length c1_0) ∧ w'.cell? ⟨gb345, 1, none⟩ = some (.slice A1_1 l1_1.length c1_1)) (ds := []) #[false, false, false, false, false, false, false, false, false, false, false] (by kernel_rfl) rfl rfl ⟨(blk_cell BK345.out 0).trans rfl, (blk_cell BK345.out 1).trans rfl⟩ (fun hHeld => ?_); refine with_tabW laws_FnExactLineStrength.tab8 laws_FnExactLineStrength.bits8 (fun HT_ HW_ => ?_)
   generalize w11.drew = w20 at BK345 HB hHeld ⊢
   refine pure_ (i := 0) (N := some 23) (v := ?_) (a' := ?_) #[true, false, false, false, false, false, false, false, false, false, false] rfl rfl (any_of HT_.out (by kernel_rfl)) (fun _ _ _ h => h) (Or.inl ⟨by rfl, ?_⟩) ?_ ?_
   rotate_left
   ·
    intro w'
    go_simp
    with_reducible rfl
   rotate_left
   ·
    simp only [Act.put, List.setIfInBounds_toArray, List.set_cons_zero, List.set_cons_succ, i64_w, i32_w]
    rfl
   refine take_ (i := 2) (N := some 25) (v := ?_) (a' := ?_) #[true, false, true, false, false, false, false, false, false, false, false] rfl rfl (take_ofW HT_.out HW_.out (by kernel_rfl)) (fun _ _ _ h => h) (Or.inl ⟨by rfl, ?_⟩) hHeld ?_ ?_
   rotate_left
   ·
    rintro w' ⟨s0, s1⟩
    go_simp
    with_reducible rfl
   rotate_left
   ·
    simp only [Act.put, List.setIfInBounds_toArray, List.set_cons_zero, List.set_cons_succ, i64_w, i32_w]
    rfl
   refine join_ (σ := Value × Value × Value × Nat) 2 #[true, true, true, true, true, true, true, true, true, false, false] (fun s_ => [(24, s_.1), (26, .agg #[s_.2.1, s_.2.2.1]), (27, .tuple #[.agg #[.int .i64 t357, .int .i64 t358], .int .i64 t359]), (6, .pointer (some ⟨s_.2.2.2, 0, none⟩)), (22, .tuple #[.agg #[.int .i64 t357, .int .i64 t358], .int .i64 t359]), (28, .agg #[.int .i64 t357, .int .i64 t358]), (29, .int .i64 t359)]) (fun s_ w' => (w'.cell? ⟨gb345, 0, none⟩ = some (.slice A1_0 l1_0.length c1_0) ∧ w'.cell? ⟨gb345, 1, none⟩ = some (.slice A1_1 l1_1.length c1_1)) ∧ (Kd.R k68 68 w' w.heap.size (fun _ => True) s_.1 t348) ∧ (Kd.R k44 44 w' w.heap.size (fun _ => True) s_.2.1 t351) ∧ (Kd.R (Kd.int .i64) 2 w' w.heap.size (fun _ => True) s_.2.2.1 t354) ∧ (w'.heap[gb345]? = some (.cells #[.slice A1_0 l1_0.length c1_0, .slice A1_1 l1_1.length c1_1] 32 (0, 0))) ∧ (w'.heap[s_.2.2.2]? = some (.cells #[.int .i64 0, .int .i64 0] 51 (0, 0))) ∧ (w.heap.size ≤ s_.2.2.2) ∧ (w.heap.size ≤ s_.2.2.2) ∧ (gb345 ≠ s_.2.2.2) ∧ (s_.2.2.2 ≠ gb345) ∧ (Below w.heap.size w w')) ?_ ?_
   rotate_left
   ·
    intro hCont
    refine two_ (i := 1) (j := 8) (Ni := some 24) (Nj := some 6) #[true, true, true, false, false, false, false, false, false, false, false] #[true, false, true, false, false, false, false, false, true, false, false] rfl rfl rfl rfl (two_of HT_.out (by kernel_rfl)) (by decide) (by decide) (fun K hK => ?_) (fun K hK => ?_)
    ·
     skip
     refine goes_ Try.func15 (by kernel_rfl) rfl #[.slice A0 l0.length c0] (by rfl) rfl rfl sG ?_
     with_reducible refine (laws_toJoinS.calls k _ _ l0 t348 _ ?side1 ?side2 A13.out).mono ?_
     (case side1 => exact sC (Kd.C_below HR0.out HB.out))
     (case side2 => exact HC0.out)
     rintro e w21 ⟨v349, rfl, ho0, hb⟩
     refine ⟨_, rfl, ?_⟩
     have n0_ := aS (Kd.R_lower ho0 (below_size (sW HB.out)))
     have n1_ := aS (blk_below (g := gb345) (o := .cells #[.slice A1_0 l1_0.length c1_0, .slice A1_1 l1_1.length c1_1] 32 (0, 0)) (sB BK345.out) hb)
     have n2_ := aS (below_step (sW HB.out) hb)
     clear BK345 HB
     have HO350 := n0_; have BK345 := n1_; have HB := n2_
     clear n0_ n1_ n2_
     (try clear hb); (try clear hb2); (try clear hk); (try clear hi); (try clear ho0)
     refine hK.out _ _ ⟨(blk_cell BK345.out 0).trans rfl, (blk_cell BK345.out 1).trans rfl⟩ (fun hHeld => ?_)
     clear hK K
     refine norm_ (a' := ?_) ?_ ?_
     rotate_left
     ·
      show Act.put _ (some 24) _ = _
      simp only [Act.put, List.setIfInBounds_toArray, List.set_cons_zero, List.set_cons_succ, i64_w, i32_w]
      rfl
     refine two_ (i := 3) (j := 8) (Ni := some 26) (Nj := some 6) #[true, true, true, true, false, false, false, false, false, false, false] #[true, true, true, false, false, false, false, false, true, false, false] rfl rfl rfl rfl (two_of HT_.out (by kernel_rfl)) (by decide) (by decide) (fun K hK => ?_) (fun K hK => ?_)
     ·
      skip
      refine goes_ Try.func20 (by kernel_rfl) rfl #[.agg #[.slice A1_0 l1_0.length c1_0, .slice A1_1 l1_1.length c1_1]] (by rfl) rfl rfl sG ?_
      with_reducible refine (laws_toLine.calls k _ _ l1_0 _ _ l1_1 t351 t354 _ ?side1 ?side2 ?side3 ?side4 A14.out).mono ?_
      (case side1 => exact sC (Kd.C_below HR1_0.out HB.out))
      (case side2 => exact HC1_0.out)
      (case side3 => exact sC (Kd.C_below HR1_1.out HB.out))
      (case side4 => exact HC1_1.out)
      rintro e w22 ⟨v352, v355, rfl, ho0, ho1, hb⟩
      refine ⟨_, rfl, ?_⟩
      have n0_ := aS (Kd.R_below (sR HO350.out) hb)
      have n1_ := aS (Kd.R_lower ho0 (below_size (sW HB.out)))
      have n2_ := aS (Kd.R_lower ho1 (below_size (sW HB.out)))
      have n3_ := aS (blk_below (g := gb345) (o := .cells #[.slice A1_0 l1_0.length c1_0, .slice A1_1 l1_1.length c1_1] 32 (0, 0)) (sB BK345.out) hb)
      have n4_ := aS (below_step (sW HB.out) hb)
      clear HO350 BK345 HB
      have HO350 := n0_; have HO353 := n1_; have HO356 := n2_; have BK345 := n3_; have HB := n4_
      clear n0_ n1_ n2_ n3_ n4_
      (try clear hb); (try clear hb2); (try clear hk); (try clear hi); (try clear ho0); (try clear ho1)
      obtain ⟨Ao23, co23, eo23⟩ := Kd.R_slice HO350.out
      (first | subst eo23 | (injection eo23 with f1_ f2_ f3_; have f4_ := f1_.symm; have f5_ := f3_.symm; clear f1_ f2_ f3_; subst f4_; subst f5_))
      obtain ⟨Ao24, co24, eo24⟩ := Kd.R_slice HO353.out
      (first | subst eo24 | (injection eo24 with f1_ f2_ f3_; have f4_ := f1_.symm; have f5_ := f3_.symm; clear f1_ f2_ f3_; subst f4_; subst f5_))
      obtain ⟨Ao25, co25, eo25⟩ := Kd.R_slice HO356.out
      (first | subst eo25 | (injection eo25 with f1_ f2_ f3_; have f4_ := f1_.symm; have f5_ := f3_.symm; clear f1_ f2_ f3_; subst f4_; subst f5_))
      refine hK.out _ _ ⟨(blk_cell BK345.out 0).trans rfl, (blk_cell BK345.out 1).trans rfl⟩ (fun hHeld => ?_)
      clear hK K
      refine norm_ (a' := ?_) ?_ ?_
      rotate_left
      ·
       show Act.put _ (some 26) _ = _
       simp only [Act.put, List.setIfInBounds_toArray, List.set_cons_zero, List.set_cons_succ, i64_w, i32_w]
       rfl
      refine two_ (i := 4) (j := 8) (Ni := some 27) (Nj := some 6) #[true, true, true, true, true, false, false, false, false, false, false] #[true, true, true, true, false, false, false, false, true, false, false] rfl rfl rfl rfl (two_of HT_.out (by kernel_rfl)) (by decide) (by decide) (fun K hK => ?_) (fun K hK => ?_)
      ·
       skip
       refine goes_ Try.func42 (by kernel_rfl) rfl #[.slice Ao23 t348.length co23, .agg #[.slice Ao24 t351.length co24, .slice Ao25 t354.length co25]] (by rfl) rfl rfl sG ?_
       with_reducible refine (spec_LineStrength.calls k _ _ t348 _ _ t351 _ _ t354 t357 t358 t359 _ ?side1 ?side2 ?side3 ?side4 ?side5 ?side6 A15.out).mono ?_
       (case side1 => exact sC (Kd.R_reads' HO350.out).2.2)
       (case side2 => exact (Kd.R_reads' HO350.out).2.1)
       (case side3 => exact sC (Kd.R_reads' HO353.out).2.2)
       (case side4 => exact (Kd.R_reads' HO353.out).2.1)
       (case side5 => exact sC (Kd.R_reads' HO356.out).2.2)
       (case side6 => exact (Kd.R_reads' HO356.out).2.1)
       rintro e w26 ⟨rfl, hb⟩
       refine ⟨_, rfl, ?_⟩
       have n0_ := aS (Kd.R_below (sR HO350.out) hb)
       have n1_ := aS (Kd.R_below (sR HO353.out) hb)
       have n2_ := aS (Kd.R_below (sR HO356.out) hb)
       have n3_ := aS (blk_below (g := gb345) (o := .cells #[.slice A1_0 l1_0.length c1_0, .slice A1_1 l1_1.length c1_1] 32 (0, 0)) (sB BK345.out) hb)
       have n4_ := aS (below_step (sW HB.out) hb)
       clear HO350 HO353 HO356 BK345 HB
       have HO350 := n0_; have HO353 := n1_; have HO356 := n2_; have BK345 := n3_; have HB := n4_
       clear n0_ n1_ n2_ n3_ n4_
       (try clear hb); (try clear hb2); (try clear hk); (try clear hi)
       refine hK.out _ _ ⟨(blk_cell BK345.out 0).trans rfl, (blk_cell BK345.out 1).trans rfl⟩ (fun hHeld => ?_)
       clear hK K
       refine norm_ (a' := ?_) ?_ ?_
       rotate_left
       ·
        show Act.put _ (some 27) _ = _
        simp only [Act.put, List.setIfInBounds_toArray, List.set_cons_zero, List.set_cons_succ, i64_w, i32_w]
        rfl
       refine pure_ (i := 5) (N := some 22) (v := ?_) (a' := ?_) #[true, true, true, true, true, true, false, false, false, false, false] rfl rfl (any_of HT_.out (by kernel_rfl)) (fun _ _ _ h => h) (Or.inl ⟨by rfl, ?_⟩) ?_ ?_
       rotate_left
       ·
        intro w'
        go_simp
        with_reducible rfl
       rotate_left
       ·
        simp only [Act.put, List.setIfInBounds_toArray, List.set_cons_zero, List.set_cons_succ, i64_w, i32_w]
        rfl
       refine pure_ (i := 6) (N := some 28) (v := ?_) (a' := ?_) #[true, true, true, true, true, true, true, false, false, false, false] rfl rfl (any_of HT_.out (by kernel_rfl)) (fun _ _ _ h => h) (Or.inl ⟨by rfl, ?_⟩) ?_ ?_
       rotate_left
       ·
        intro w'
        go_simp
        with_reducible rfl
       rotate_left
       ·
        simp only [Act.put, List.setIfInBounds_toArray, List.set_cons_zero, List.set_cons_succ, i64_w, i32_w]
        rfl
       refine pure_ (i := 7) (N := some 29) (v := ?_) (a' := ?_) #[true, true, true, true, true, true, true, true, false, false, false] rfl rfl (any_of HT_.out (by kernel_rfl)) (fun _ _ _ h => h) (Or.inl ⟨by rfl, ?_⟩) ?_ ?_
       rotate_left
       ·
        intro w'
        go_simp
        with_reducible rfl
       rotate_left
       ·
        simp only [Act.put, List.setIfInBounds_toArray, List.set_cons_zero, List.set_cons_succ, i64_w, i32_w]
        rfl
       refine one_ (i := 8) (N := some 6) #[true, true, true, true, true, true, true, true, true, false, false] rfl rfl (one_of HT_.out (by kernel_rfl)) (by decide) (fun K hK => ?_)
       refine box_step ?hg (N := 6) ?hd (cs := #[.int .i64 0, .int .i64 0]) (t := 51) ?hr ?_; (case hd => rfl); (case hg => rfl); (case hr => first | (go_simp; done) | (go_simp; rfl))
       intro gb360 hg w27 hbox hb
       have n0_ := aS (Kd.R_below (sR HO350.out) hb)
       have n1_ := aS (Kd.R_below (sR HO353.out) hb)
       have n2_ := aS (Kd.R_below (sR HO356.out) hb)
       have n3_ := aS (blk_below (g := gb345) (o := .cells #[.slice A1_0 l1_0.length c1_0, .slice A1_1 l1_1.length c1_1] 32 (0, 0)) (sB BK345.out) hb)
       have n4_ := aS (below_step (sW HB.out) hb)
       have n5_ := aS (hbox)
       have n6_ := aS ((by rw [hg]; exact (below_size (sW HB.out)) : w.heap.size ≤ gb360))
       have n7_ := aS ((by rw [hg]; exact (below_size (sW HB.out)) : w.heap.size ≤ gb360))
       have n8_ := aS ((by rw [hg]; exact Nat.ne_of_lt (blk_lt (g := gb345) (o := .cells #[.slice A1_0 l1_0.length c1_0, .slice A1_1 l1_1.length c1_1] 32 (0, 0)) (sB BK345.out)) : gb345 ≠ gb360))
       have n9_ := aS ((by rw [hg]; exact Nat.ne_of_gt (blk_lt (g := gb345) (o := .cells #[.slice A1_0 l1_0.length c1_0, .slice A1_1 l1_1.length c1_1] 32 (0, 0)) (sB BK345.out)) : gb360 ≠ gb345))
       clear HO350 HO353 HO356 BK345 HB
       have HO350 := n0_; have HO353 := n1_; have HO356 := n2_; have BK345 := n3_; have HB := n4_; have BK360 := n5_; have GW360 := n6_; have GE360 := n7_; have NB345_360 := n8_; have NB360_345 := n9_
       clear n0_ n1_ n2_ n3_ n4_ n5_ n6_ n7_ n8_ n9_
       clear hb hbox hg
       refine hK.out _ _ ⟨(blk_cell BK345.out 0).trans rfl, (blk_cell BK345.out 1).trans rfl⟩ (fun hHeld => ?_)
       clear hK K
       refine norm_ (a' := ?_) ?_ ?_
       rotate_left
       ·
        show Act.put _ (some 6) _ = _
        simp only [Act.put, List.setIfInBounds_toArray, List.set_cons_zero, List.set_cons_succ, i64_w, i32_w]
        rfl
       exact norm_ (by simp only [putAll, Act.put, List.setIfInBounds_toArray, List.set_cons_zero, List.set_cons_succ]) (hCont (.slice Ao23 t348.length co23, .slice Ao24 t351.length co24, .slice Ao25 t354.length co25, gb360) _ ⟨hHeld, (sR HO350.out), (sR HO353.out), (sR HO356.out), (sB BK345.out), (sB BK360.out), GW360.out, GE360.out, NB345_360.out, NB360_345.out, (sW HB.out)⟩)
      ·
       skip
       refine box_step ?hg (N := 6) ?hd (cs := #[.int .i64 0, .int .i64 0]) (t := 51) ?hr ?_; (case hd => rfl); (case hg => rfl); (case hr => first | (go_simp; done) | (go_simp; rfl))
       intro gb360 hg w23 hbox hb
       have n0_ := aS (Kd.R_below (sR HO350.out) hb)
       have n1_ := aS (Kd.R_below (sR HO353.out) hb)
       have n2_ := aS (Kd.R_below (sR HO356.out) hb)
       have n3_ := aS (blk_below (g := gb345) (o := .cells #[.slice A1_0 l1_0.length c1_0, .slice A1_1 l1_1.length c1_1] 32 (0, 0)) (sB BK345.out) hb)
       have n4_ := aS (below_step (sW HB.out) hb)
       have n5_ := aS (hbox)
       have n6_ := aS ((by rw [hg]; exact (below_size (sW HB.out)) : w.heap.size ≤ gb360))
       have n7_ := aS ((by rw [hg]; exact (below_size (sW HB.out)) : w.heap.size ≤ gb360))
       have n8_ := aS ((by rw [hg]; exact Nat.ne_of_lt (blk_lt (g := gb345) (o := .cells #[.slice A1_0 l1_0.length c1_0, .slice A1_1 l1_1.length c1_1] 32 (0, 0)) (sB BK345.out)) : gb345 ≠ gb360))
       have n9_ := aS ((by rw [hg]; exact Nat.ne_of_gt (blk_lt (g := gb345) (o := .cells #[.slice A1_0 l1_0.length c1_0, .slice A1_1 l1_1.length c1_1] 32 (0, 0)) (sB BK345.out)) : gb360 ≠ gb345))
       clear HO350 HO353 HO356 BK345 HB
       have HO350 := n0_; have HO353 := n1_; have HO356 := n2_; have BK345 := n3_; have HB := n4_; have BK360 := n5_; have GW360 := n6_; have GE360 := n7_; have NB345_360 := n8_; have NB360_345 := n9_
       clear n0_ n1_ n2_ n3_ n4_ n5_ n6_ n7_ n8_ n9_
       clear hb hbox hg
       obtain ⟨Ao24, co24, eo24⟩ := Kd.R_slice HO350.out
       (first | subst eo24 | (injection eo24 with f1_ f2_ f3_; have f4_ := f1_.symm; have f5_ := f3_.symm; clear f1_ f2_ f3_; subst f4_; subst f5_))
       obtain ⟨Ao25, co25, eo25⟩ := Kd.R_slice HO353.out
       (first | subst eo25 | (injection eo25 with f1_ f2_ f3_; have f4_ := f1_.symm; have f5_ := f3_.symm; clear f1_ f2_ f3_; subst f4_; subst f5_))
       obtain ⟨Ao26, co26, eo26⟩ := Kd.R_slice HO356.out
       (first | subst eo26 | (injection eo26 with f1_ f2_ f3_; have f4_ := f1_.symm; have f5_ := f3_.symm; clear f1_ f2_ f3_; subst f4_; subst f5_))
       refine hK.out _ _ ⟨(blk_cell BK345.out 0).trans rfl, (blk_cell BK345.out 1).trans rfl⟩ (fun hHeld => ?_)
       clear hK K
       refine norm_ (a' := ?_) ?_ ?_
       rotate_left
       ·
        show Act.put _ (some 6) _ = _
        simp only [Act.put, List.setIfInBounds_toArray, List.set_cons_zero, List.set_cons_succ, i64_w, i32_w]
        rfl
       refine one_ (i := 4) (N := some 27) #[true, true, true, true, true, false, false, false, true, false, false] rfl rfl (one_of HT_.out (by kernel_rfl)) (by decide) (fun K hK => ?_)
       refine goes_ Try.func42 (by kernel_rfl) rfl #[.slice Ao24 t348.length co24, .agg #[.slice Ao25 t351.length co25, .slice Ao26 t354.length co26]] (by rfl) rfl rfl sG ?_
       with_reducible refine (spec_LineStrength.calls k _ _ t348 _ _ t351 _ _ t354 t357 t358 t359 _ ?side1 ?side2 ?side3 ?side4 ?side5 ?side6 A15.out).mono ?_
       (case side1 => exact sC (Kd.R_reads' HO350.out).2.2)
       (case side2 => exact (Kd.R_reads' HO350.out).2.1)
       (case side3 => exact sC (Kd.R_reads' HO353.out).2.2)
       (case side4 => exact (Kd.R_reads' HO353.out).2.1)
       (case side5 => exact sC (Kd.R_reads' HO356.out).2.2)
       (case side6 => exact (Kd.R_reads' HO356.out).2.1)
       rintro e w27 ⟨rfl, hb⟩
       refine ⟨_, rfl, ?_⟩
       have n0_ := aS (Kd.R_below (sR HO350.out) hb)
       have n1_ := aS (Kd.R_below (sR HO353.out) hb)
       have n2_ := aS (Kd.R_below (sR HO356.out) hb)
       have n3_ := aS (blk_below (g := gb345) (o := .cells #[.slice A1_0 l1_0.length c1_0, .slice A1_1 l1_1.length c1_1] 32 (0, 0)) (sB BK345.out) hb)
       have n4_ := aS (blk_below (g := gb360) (o := .cells #[.int .i64 0, .int .i64 0] 51 (0, 0)) (sB BK360.out) hb)
       have n5_ := aS (below_step (sW HB.out) hb)
       clear HO350 HO353 HO356 BK345 BK360 HB
       have HO350 := n0_; have HO353 := n1_; have HO356 := n2_; have BK345 := n3_; have BK360 := n4_; have HB := n5_
       clear n0_ n1_ n2_ n3_ n4_ n5_
       (try clear hb); (try clear hb2); (try clear hk); (try clear hi)
       refine hK.out _ _ ⟨(blk_cell BK345.out 0).trans rfl, (blk_cell BK345.out 1).trans rfl⟩ (fun hHeld => ?_)
       clear hK K
       refine norm_ (a' := ?_) ?_ ?_
       rotate_left
       ·
        show Act.put _ (some 27) _ = _
        simp only [Act.put, List.setIfInBounds_toArray, List.set_cons_zero, List.set_cons_succ, i64_w, i32_w]
        rfl
       refine pure_ (i := 5) (N := some 22) (v := ?_) (a' := ?_) #[true, true, true, true, true, true, false, false, true, false, false] rfl rfl (any_of HT_.out (by kernel_rfl)) (fun _ _ _ h => h) (Or.inl ⟨by rfl, ?_⟩) ?_ ?_
       rotate_left
       ·
        intro w'
        go_simp
        with_reducible rfl
       rotate_left
       ·
        simp only [Act.put, List.setIfInBounds_toArray, List.set_cons_zero, List.set_cons_succ, i64_w, i32_w]
        rfl
       refine pure_ (i := 6) (N := some 28) (v := ?_) (a' := ?_) #[true, true, true, true, true, true, true, false, true, false, false] rfl rfl (any_of HT_.out (by kernel_rfl)) (fun _ _ _ h => h) (Or.inl ⟨by rfl, ?_⟩) ?_ ?_
       rotate_left
       ·
        intro w'
        go_simp
        with_reducible rfl
       rotate_left
       ·
        simp only [Act.put, List.setIfInBounds_toArray, List.set_cons_zero, List.set_cons_succ, i64_w, i32_w]
        rfl
       refine pure_ (i := 7) (N := some 29) (v := ?_) (a' := ?_) #[true, true, true, true, true, true, true, true, true, false, false] rfl rfl (any_of HT_.out (by kernel_rfl)) (fun _ _ _ h => h) (Or.inl ⟨by rfl, ?_⟩) ?_ ?_
       rotate_left
       ·
        intro w'
        go_simp
        with_reducible rfl
       rotate_left
       ·
        simp only [Act.put, List.setIfInBounds_toArray, List.set_cons_zero, List.set_cons_succ, i64_w, i32_w]
        rfl
       exact norm_ (by simp only [putAll, Act.put, List.setIfInBounds_toArray, List.set_cons_zero, List.set_cons_succ]) (hCont (.slice Ao24 t348.length co24, .slice Ao25 t351.length co25, .slice Ao26 t354.length co26, gb360) _ ⟨hHeld, (sR HO350.out), (sR HO353.out), (sR HO356.out), (sB BK345.out), (sB BK360.out), GW360.out, GE360.out, NB345_360.out, NB360_345.out, (sW HB.out)⟩)
     ·
      skip
      refine box_step ?hg (N := 6) ?hd (cs := #[.int .i64 0, .int .i64 0]) (t := 51) ?hr ?_; (case hd => rfl); (case hg => rfl); (case hr => first | (go_simp; done) | (go_simp; rfl))
      intro gb360 hg w22 hbox hb
      have n0_ := aS (Kd.R_below (sR HO350.out) hb)
      have n1_ := aS (blk_below (g := gb345) (o := .cells #[.slice A1_0 l1_0.length c1_0, .slice A1_1 l1_1.length c1_1] 32 (0, 0)) (sB BK345.out) hb)
      have n2_ := aS (below_step (sW HB.out) hb)
      have n3_ := aS (hbox)
      have n4_ := aS ((by rw [hg]; exact (below_size (sW HB.out)) : w.heap.size ≤ gb360))
      have n5_ := aS ((by rw [hg]; exact (below_size (sW HB.out)) : w.heap.size ≤ gb360))
      have n6_ := aS ((by rw [hg]; exact Nat.ne_of_lt (blk_lt (g := gb345) (o := .cells #[.slice A1_0 l1_0.length c1_0, .slice A1_1 l1_1.length c1_1] 32 (0, 0)) (sB BK345.out)) : gb345 ≠ gb360))
      have n7_ := aS ((by rw [hg]; exact Nat.ne_of_gt (blk_lt (g := gb345) (o := .cells #[.slice A1_0 l1_0.length c1_0, .slice A1_1 l1_1.length c1_1] 32 (0, 0)) (sB BK345.out)) : gb360 ≠ gb345))
      clear HO350 BK345 HB
      have HO350 := n0_; have BK345 := n1_; have HB := n2_; have BK360 := n3_; have GW360 := n4_; have GE360 := n5_; have NB345_360 := n6_; have NB360_345 := n7_
      clear n0_ n1_ n2_ n3_ n4_ n5_ n6_ n7_
      clear hb hbox hg
      refine hK.out _ _ ⟨(blk_cell BK345.out 0).trans rfl, (blk_cell BK345.out 1).trans rfl⟩ (fun hHeld => ?_)
      clear hK K
      refine norm_ (a' := ?_) ?_ ?_
      rotate_left
      ·
       show Act.put _ (some 6) _ = _
       simp only [Act.put, List.setIfInBounds_toArray, List.set_cons_zero, List.set_cons_succ, i64_w, i32_w]
       rfl
      refine one_ (i := 3) (N := some 26) #[true, true, true, true, false, false, false, false, true, false, false] rfl rfl (one_of HT_.out (by kernel_rfl)) (by decide) (fun K hK => ?_)
      refine goes_ Try.func20 (by kernel_rfl) rfl #[.agg #[.slice A1_0 l1_0.length c1_0, .slice A1_1 l1_1.length c1_1]] (by rfl) rfl rfl sG ?_
      with_reducible refine (laws_toLine.calls k _ _ l1_0 _ _ l1_1 t351 t354 _ ?side1 ?side2 ?side3 ?side4 A14.out).mono ?_
      (case side1 => exact sC (Kd.C_below HR1_0.out HB.out))
      (case side2 => exact HC1_0.out)
      (case side3 => exact sC (Kd.C_below HR1_1.out HB.out))
      (case side4 => exact HC1_1.out)
      rintro e w23 ⟨v352, v355, rfl, ho0, ho1, hb⟩
      refine ⟨_, rfl, ?_⟩
      have n0_ := aS (Kd.R_below (sR HO350.out) hb)
      have n1_ := aS (Kd.R_lower ho0 (below_size (sW HB.out)))
      have n2_ := aS (Kd.R_lower ho1 (below_size (sW HB.out)))
      have n3_ := aS (blk_below (g := gb345) (o := .cells #[.slice A1_0 l1_0.length c1_0, .slice A1_1 l1_1.length c1_1] 32 (0, 0)) (sB BK345.out) hb)
      have n4_ := aS (blk_below (g := gb360) (o := .cells #[.int .i64 0, .int .i64 0] 51 (0, 0)) (sB BK360.out) hb)
      have n5_ := aS (below_step (sW HB.out) hb)
      clear HO350 BK345 BK360 HB
      have HO350 := n0_; have HO353 := n1_; have HO356 := n2_; have BK345 := n3_; have BK360 := n4_; have HB := n5_
      clear n0_ n1_ n2_ n3_ n4_ n5_
      (try clear hb); (try clear hb2); (try clear hk); (try clear hi); (try clear ho0); (try clear ho1)
      obtain ⟨Ao24, co24, eo24⟩ := Kd.R_slice HO350.out
      (first | subst eo24 | (injection eo24 with f1_ f2_ f3_; have f4_ := f1_.symm; have f5_ := f3_.symm; clear f1_ f2_ f3_; subst f4_; subst f5_))
      obtain ⟨Ao25, co25, eo25⟩ := Kd.R_slice HO353.out
      (first | subst eo25 | (injection eo25 with f1_ f2_ f3_; have f4_ := f1_.symm; have f5_ := f3_.symm; clear f1_ f2_ f3_; subst f4_; subst f5_))
      obtain ⟨Ao26, co26, eo26⟩ := Kd.R_slice HO356.out
      (first | subst eo26 | (injection eo26 with f1_ f2_ f3_; have f4_ := f1_.symm; have f5_ := f3_.symm; clear f1_ f2_ f3_; subst f4_; subst f5_))
      refine hK.out _ _ ⟨(blk_cell BK345.out 0).trans rfl, (blk_cell BK345.out 1).trans rfl⟩ (fun hHeld => ?_)
      clear hK K
      refine norm_ (a' := ?_) ?_ ?_
      rotate_left
      ·
       show Act.put _ (some 26) _ = _
       simp only [Act.put, List.setIfInBounds_toArray, List.set_cons_zero, List.set_cons_succ, i64_w, i32_w]
       rfl
      refine one_ (i := 4) (N := some 27) #[true, true, true, true, true, false, false, false, true, false, false] rfl rfl (one_of HT_.out (by kernel_rfl)) (by decide) (fun K hK => ?_)
      refine goes_ Try.func42 (by kernel_rfl) rfl #[.slice Ao24 t348.length co24, .agg #[.slice Ao25 t351.length co25, .slice Ao26 t354.length co26]] (by rfl) rfl rfl sG ?_
      with_reducible refine (spec_LineStrength.calls k _ _ t348 _ _ t351 _ _ t354 t357 t358 t359 _ ?side1 ?side2 ?side3 ?side4 ?side5 ?side6 A15.out).mono ?_
      (case side1 => exact sC (Kd.R_reads' HO350.out).2.2)
      (case side2 => exact (Kd.R_reads' HO350.out).2.1)
      (case side3 => exact sC (Kd.R_reads' HO353.out).2.2)
      (case side4 => exact (Kd.R_reads' HO353.out).2.1)
      (case side5 => exact sC (Kd.R_reads' HO356.out).2.2)
      (case side6 => exact (Kd.R_reads' HO356.out).2.1)
      rintro e w27 ⟨rfl, hb⟩
      refine ⟨_, rfl, ?_⟩
      have n0_ := aS (Kd.R_below (sR HO350.out) hb)
      have n1_ := aS (Kd.R_below (sR HO353.out) hb)
      have n2_ := aS (Kd.R_below (sR HO356.out) hb)
      have n3_ := aS (blk_below (g := gb345) (o := .cells #[.slice A1_0 l1_0.length c1_0, .slice A1_1 l1_1.length c1_1] 32 (0, 0)) (sB BK345.out) hb)
      have n4_ := aS (blk_below (g := gb360) (o := .cells #[.int .i64 0, .int .i64 0] 51 (0, 0)) (sB BK360.out) hb)
      have n5_ := aS (below_step (sW HB.out) hb)
      clear HO350 HO353 HO356 BK345 BK360 HB
      have HO350 := n0_; have HO353 := n1_; have HO356 := n2_; have BK345 := n3_; have BK360 := n4_; have HB := n5_
      clear n0_ n1_ n2_ n3_ n4_ n5_
      (try clear hb); (try clear hb2); (try clear hk); (try clear hi)
      refine hK.out _ _ ⟨(blk_cell BK345.out 0).trans rfl, (blk_cell BK345.out 1).trans rfl⟩ (fun hHeld => ?_)
      clear hK K
      refine norm_ (a' := ?_) ?_ ?_
      rotate_left
      ·
       show Act.put _ (some 27) _ = _
       simp only [Act.put, List.setIfInBounds_toArray, List.set_cons_zero, List.set_cons_succ, i64_w, i32_w]
       rfl
      refine pure_ (i := 5) (N := some 22) (v := ?_) (a' := ?_) #[true, true, true, true, true, true, false, false, true, false, false] rfl rfl (any_of HT_.out (by kernel_rfl)) (fun _ _ _ h => h) (Or.inl ⟨by rfl, ?_⟩) ?_ ?_
      rotate_left
      ·
       intro w'
       go_simp
       with_reducible rfl
      rotate_left
      ·
       simp only [Act.put, List.setIfInBounds_toArray, List.set_cons_zero, List.set_cons_succ, i64_w, i32_w]
       rfl
      refine pure_ (i := 6) (N := some 28) (v := ?_) (a' := ?_) #[true, true, true, true, true, true, true, false, true, false, false] rfl rfl (any_of HT_.out (by kernel_rfl)) (fun _ _ _ h => h) (Or.inl ⟨by rfl, ?_⟩) ?_ ?_
      rotate_left
      ·
       intro w'
       go_simp
       with_reducible rfl
      rotate_left
      ·
       simp only [Act.put, List.setIfInBounds_toArray, List.set_cons_zero, List.set_cons_succ, i64_w, i32_w]
       rfl
      refine pure_ (i := 7) (N := some 29) (v := ?_) (a' := ?_) #[true, true, true, true, true, true, true, true, true, false, false] rfl rfl (any_of HT_.out (by kernel_rfl)) (fun _ _ _ h => h) (Or.inl ⟨by rfl, ?_⟩) ?_ ?_
      rotate_left
      ·
       intro w'
       go_simp
       with_reducible rfl
      rotate_left
      ·
       simp only [Act.put, List.setIfInBounds_toArray, List.set_cons_zero, List.set_cons_succ, i64_w, i32_w]
       rfl
      exact norm_ (by simp only [putAll, Act.put, List.setIfInBounds_toArray, List.set_cons_zero, List.set_cons_succ]) (hCont (.slice Ao24 t348.length co24, .slice Ao25 t351.length co25, .slice Ao26 t354.length co26, gb360) _ ⟨hHeld, (sR HO350.out), (sR HO353.out), (sR HO356.out), (sB BK345.out), (sB BK360.out), GW360.out, GE360.out, NB345_360.out, NB360_345.out, (sW HB.out)⟩)
    ·
     skip
     refine box_step ?hg (N := 6) ?hd (cs := #[.int .i64 0, .int .i64 0]) (t := 51) ?hr ?_; (case hd => rfl); (case hg => rfl); (case hr => first | (go_simp; done) | (go_simp; rfl))
     intro gb360 hg w21 hbox hb
     have n0_ := aS (blk_below (g := gb345) (o := .cells #[.slice A1_0 l1_0.length c1_0, .slice A1_1 l1_1.length c1_1] 32 (0, 0)) (sB BK345.out) hb)
     have n1_ := aS (below_step (sW HB.out) hb)
     have n2_ := aS (hbox)
     have n3_ := aS ((by rw [hg]; exact (below_size (sW HB.out)) : w.heap.size ≤ gb360))
     have n4_ := aS ((by rw [hg]; exact (below_size (sW HB.out)) : w.heap.size ≤ gb360))
     have n5_ := aS ((by rw [hg]; exact Nat.ne_of_lt (blk_lt (g := gb345) (o := .cells #[.slice A1_0 l1_0.length c1_0, .slice A1_1 l1_1.length c1_1] 32 (0, 0)) (sB BK345.out)) : gb345 ≠ gb360))
     have n6_ := aS ((by rw [hg]; exact Nat.ne_of_gt (blk_lt (g := gb345) (o := .cells #[.slice A1_0 l1_0.length c1_0, .slice A1_1 l1_1.length c1_1] 32 (0, 0)) (sB BK345.out)) : gb360 ≠ gb345))
     clear BK345 HB
     have BK345 := n0_; have HB := n1_; have BK360 := n2_; have GW360 := n3_; have GE360 := n4_; have NB345_360 := n5_; have NB360_345 := n6_
     clear n0_ n1_ n2_ n3_ n4_ n5_ n6_
     clear hb hbox hg
     refine hK.out _ _ ⟨(blk_cell BK345.out 0).trans rfl, (blk_cell BK345.out 1).trans rfl⟩ (fun hHeld => ?_)
     clear hK K
     refine norm_ (a' := ?_) ?_ ?_
     rotate_left
     ·
      show Act.put _ (some 6) _ = _
      simp only [Act.put, List.setIfInBounds_toArray, List.set_cons_zero, List.set_cons_succ, i64_w, i32_w]
      rfl
     refine one_ (i := 1) (N := some 24) #[true, true, true, false, false, false, false, false, true, false, false] rfl rfl (one_of HT_.out (by kernel_rfl)) (by decide) (fun K hK => ?_)
     refine goes_ Try.func15 (by kernel_rfl) rfl #[.slice A0 l0.length c0] (by rfl) rfl rfl sG ?_
     with_reducible refine (laws_toJoinS.calls k _ _ l0 t348 _ ?side1 ?side2 A13.out).mono ?_
     (case side1 => exact sC (Kd.C_below HR0.out HB.out))
     (case side2 => exact HC0.out)
     rintro e w22 ⟨v349, rfl, ho0, hb⟩
     refine ⟨_, rfl, ?_⟩
     have n0_ := aS (Kd.R_lower ho0 (below_size (sW HB.out)))
     have n1_ := aS (blk_below (g := gb345) (o := .cells #[.slice A1_0 l1_0.length c1_0, .slice A1_1 l1_1.length c1_1] 32 (0, 0)) (sB BK345.out) hb)
     have n2_ := aS (blk_below (g := gb360) (o := .cells #[.int .i64 0, .int .i64 0] 51 (0, 0)) (sB BK360.out) hb)
     have n3_ := aS (below_step (sW HB.out) hb)
     clear BK345 BK360 HB
     have HO350 := n0_; have BK345 := n1_; have BK360 := n2_; have HB := n3_
     clear n0_ n1_ n2_ n3_
     (try clear hb); (try clear hb2); (try clear hk); (try clear hi); (try clear ho0)
     refine hK.out _ _ ⟨(blk_cell BK345.out 0).trans rfl, (blk_cell BK345.out 1).trans rfl⟩ (fun hHeld => ?_)
     clear hK K
     refine norm_ (a' := ?_) ?_ ?_
     rotate_left
     ·
      show Act.put _ (some 24) _ = _
      simp only [Act.put, List.setIfInBounds_toArray, List.set_cons_zero, List.set_cons_succ, i64_w, i32_w]
      rfl
     refine one_ (i := 3) (N := some 26) #[true, true, true, true, false, false, false, false, true, false, false] rfl rfl (one_of HT_.out (by kernel_rfl)) (by decide) (fun K hK => ?_)
     refine goes_ Try.func20 (by kernel_rfl) rfl #[.agg #[.slice A1_0 l1_0.length c1_0, .slice A1_1 l1_1.length c1_1]] (by rfl) rfl rfl sG ?_
     with_reducible refine (laws_toLine.calls k _ _ l1_0 _ _ l1_1 t351 t354 _ ?side1 ?side2 ?side3 ?side4 A14.out).mono ?_
     (case side1 => exact sC (Kd.C_below HR1_0.out HB.out))
     (case side2 => exact HC1_0.out)
     (case side3 => exact sC (Kd.C_below HR1_1.out HB.out))
     (case side4 => exact HC1_1.out)
     rintro e w23 ⟨v352, v355, rfl, ho0, ho1, hb⟩
     refine ⟨_, rfl, ?_⟩
     have n0_ := aS (Kd.R_below (sR HO350.out) hb)
     have n1_ := aS (Kd.R_lower ho0 (below_size (sW HB.out)))
     have n2_ := aS (Kd.R_lower ho1 (below_size (sW HB.out)))
     have n3_ := aS (blk_below (g := gb345) (o := .cells #[.slice A1_0 l1_0.length c1_0, .slice A1_1 l1_1.length c1_1] 32 (0, 0)) (sB BK345.out) hb)
     have n4_ := aS (blk_below (g := gb360) (o := .cells #[.int .i64 0, .int .i64 0] 51 (0, 0)) (sB BK360.out) hb)
     have n5_ := aS (below_step (sW HB.out) hb)
     clear HO350 BK345 BK360 HB
     have HO350 := n0_; have HO353 := n1_; have HO356 := n2_; have BK345 := n3_; have BK360 := n4_; have HB := n5_
     clear n0_ n1_ n2_ n3_ n4_ n5_
     (try clear hb); (try clear hb2); (try clear hk); (try clear hi); (try clear ho0); (try clear ho1)
     obtain ⟨Ao24, co24, eo24⟩ := Kd.R_slice HO350.out
     (first | subst eo24 | (injection eo24 with f1_ f2_ f3_; have f4_ := f1_.symm; have f5_ := f3_.symm; clear f1_ f2_ f3_; subst f4_; subst f5_))
     obtain ⟨Ao25, co25, eo25⟩ := Kd.R_slice HO353.out
     (first | subst eo25 | (injection eo25 with f1_ f2_ f3_; have f4_ := f1_.symm; have f5_ := f3_.symm; clear f1_ f2_ f3_; subst f4_; subst f5_))
     obtain ⟨Ao26, co26, eo26⟩ := Kd.R_slice HO356.out
     (first | subst eo26 | (injection eo26 with f1_ f2_ f3_; have f4_ := f1_.symm; have f5_ := f3_.symm; clear f1_ f2_ f3_; subst f4_; subst f5_))
     refine hK.out _ _ ⟨(blk_cell BK345.out 0).trans rfl, (blk_cell BK345.out 1).trans rfl⟩ (fun hHeld => ?_)
     clear hK K
     refine norm_ (a' := ?_) ?_ ?_
     rotate_left
     ·
      show Act.put _ (some 26) _ = _
      simp only [Act.put, List.setIfInBounds_toArray, List.set_cons_zero, List.set_cons_succ, i64_w, i32_w]
      rfl
     refine one_ (i := 4) (N := some 27) #[true, true, true, true, true, false, false, false, true, false, false] rfl rfl (one_of HT_.out (by kernel_rfl)) (by decide) (fun K hK => ?_)
     refine goes_ Try.func42 (by kernel_rfl) rfl #[.slice Ao24 t348.length co24, .agg #[.slice Ao25 t351.length co25, .slice Ao26 t354.length co26]] (by rfl) rfl rfl sG ?_
     with_reducible refine (spec_LineStrength.calls k _ _ t348 _ _ t351 _ _ t354 t357 t358 t359 _ ?side1 ?side2 ?side3 ?side4 ?side5 ?side6 A15.out).mono ?_
     (case side1 => exact sC (Kd.R_reads' HO350.out).2.2)
     (case side2 => exact (Kd.R_reads' HO350.out).2.1)
     (case side3 => exact sC (Kd.R_reads' HO353.out).2.2)
     (case side4 => exact (Kd.R_reads' HO353.out).2.1)
     (case side5 => exact sC (Kd.R_reads' HO356.out).2.2)
     (case side6 => exact (Kd.R_reads' HO356.out).2.1)
     rintro e w27 ⟨rfl, hb⟩
     refine ⟨_, rfl, ?_⟩
     have n0_ := aS (Kd.R_below (sR HO350.out) hb)
     have n1_ := aS (Kd.R_below (sR HO353.out) hb)
     have n2_ := aS (Kd.R_below (sR HO356.out) hb)
     have n3_ := aS (blk_below (g := gb345) (o := .cells #[.slice A1_0 l1_0.length c1_0, .slice A1_1 l1_1.length c1_1] 32 (0, 0)) (sB BK345.out) hb)
     have n4_ := aS (blk_below (g := gb360) (o := .cells #[.int .i64 0, .int .i64 0] 51 (0, 0)) (sB BK360.out) hb)
     have n5_ := aS (below_step (sW HB.out) hb)
     clear HO350 HO353 HO356 BK345 BK360 HB
     have HO350 := n0_; have HO353 := n1_; have HO356 := n2_; have BK345 := n3_; have BK360 := n4_; have HB := n5_
     clear n0_ n1_ n2_ n3_ n4_ n5_
     (try clear hb); (try clear hb2); (try clear hk); (try clear hi)
     refine hK.out _ _ ⟨(blk_cell BK345.out 0).trans rfl, (blk_cell BK345.out 1).trans rfl⟩ (fun hHeld => ?_)
     clear hK K
     refine norm_ (a' := ?_) ?_ ?_
     rotate_left
     ·
      show Act.put _ (some 27) _ = _
      simp only [Act.put, List.setIfInBounds_toArray, List.set_cons_zero, List.set_cons_succ, i64_w, i32_w]
      rfl
     refine pure_ (i := 5) (N := some 22) (v := ?_) (a' := ?_) #[true, true, true, true, true, true, false, false, true, false, false] rfl rfl (any_of HT_.out (by kernel_rfl)) (fun _ _ _ h => h) (Or.inl ⟨by rfl, ?_⟩) ?_ ?_
     rotate_left
     ·
      intro w'
      go_simp
      with_reducible rfl
     rotate_left
     ·
      simp only [Act.put, List.setIfInBounds_toArray, List.set_cons_zero, List.set_cons_succ, i64_w, i32_w]
      rfl
     refine pure_ (i := 6) (N := some 28) (v := ?_) (a' := ?_) #[true, true, true, true, true, true, true, false, true, false, false] rfl rfl (any_of HT_.out (by kernel_rfl)) (fun _ _ _ h => h) (Or.inl ⟨by rfl, ?_⟩) ?_ ?_
     rotate_left
     ·
      intro w'
      go_simp
      with_reducible rfl
     rotate_left
     ·
      simp only [Act.put, List.setIfInBounds_toArray, List.set_cons_zero, List.set_cons_succ, i64_w, i32_w]
      rfl
     refine pure_ (i := 7) (N := some 29) (v := ?_) (a' := ?_) #[true, true, true, true, true, true, true, true, true, false, false] rfl rfl (any_of HT_.out (by kernel_rfl)) (fun _ _ _ h => h) (Or.inl ⟨by rfl, ?_⟩) ?_ ?_
     rotate_left
     ·
      intro w'
      go_simp
      with_reducible rfl
     rotate_left
     ·
      simp only [Act.put, List.setIfInBounds_toArray, List.set_cons_zero, List.set_cons_succ, i64_w, i32_w]
      rfl
     exact norm_ (by simp only [putAll, Act.put, List.setIfInBounds_toArray, List.set_cons_zero, List.set_cons_succ]) (hCont (.slice Ao24 t348.length co24, .slice Ao25 t351.length co25, .slice Ao26 t354.length co26, gb360) _ ⟨hHeld, (sR HO350.out), (sR HO353.out), (sR HO356.out), (sB BK345.out), (sB BK360.out), GW360.out, GE360.out, NB345_360.out, NB360_345.out, (sW HB.out)⟩)
   rintro ⟨v349, v352, v355, gb360⟩ w28 ⟨hS_, h0_, h1_, h2_, h3_, h4_, h5_, h6_, h7_, h8_, h9_⟩
   have n0_ : Aside0 (Kd.R k68 68 w28 w.heap.size (fun _ => True) v349 t348) := ⟨h0_⟩
   have n1_ : Aside0 (Kd.R k44 44 w28 w.heap.size (fun _ => True) v352 t351) := ⟨h1_⟩
   have n2_ : Aside0 (Kd.R (Kd.int .i64) 2 w28 w.heap.size (fun _ => True) v355 t354) := ⟨h2_⟩
   have n3_ : Aside0 (w28.heap[gb345]? = some (.cells #[.slice A1_0 l1_0.length c1_0, .slice A1_1 l1_1.length c1_1] 32 (0, 0))) := ⟨h3_⟩
   have n4_ : Aside0 (w28.heap[gb360]? = some (.cells #[.int .i64 0, .int .i64 0] 51 (0, 0))) := ⟨h4_⟩
   have n5_ : Aside0 (w.heap.size ≤ gb360) := ⟨h5_⟩
   have n6_ : Aside0 (w.heap.size ≤ gb360) := ⟨h6_⟩
   have n7_ : Aside0 (gb345 ≠ gb360) := ⟨h7_⟩
   have n8_ : Aside0 (gb360 ≠ gb345) := ⟨h8_⟩
   have n9_ : Aside0 (Below w.heap.size w w28) := ⟨h9_⟩
   clear BK345 HB
   clear h0_ h1_ h2_ h3_ h4_ h5_ h6_ h7_ h8_ h9_
   have HO350 := n0_; have HO353 := n1_; have HO356 := n2_; have BK345 := n3_; have BK360 := n4_; have GW360 := n5_; have GE360 := n6_; have NB345_360 := n7_; have NB360_345 := n8_; have HB := n9_
   clear n0_ n1_ n2_ n3_ n4_ n5_ n6_ n7_ n8_ n9_
   have hHeld : w28.cell? ⟨gb345, 0, none⟩ = some (.slice A1_0 l1_0.length c1_0) ∧ w28.cell? ⟨gb345, 1, none⟩ = some (.slice A1_1 l1_1.length c1_1) := hS_
   refine norm_ (a' := ?_) ?_ ?_
   rotate_left
   ·
    simp only [putAll, Act.put, List.setIfInBounds_toArray, List.set_cons_zero, List.set_cons_succ]
    rfl
   refine one_ (i := 9) (N := none) #[true, true, true, true, true, true, true, true, true, true, false] rfl rfl (one_of HT_.out (by kernel_rfl)) (by decide) (fun K hK => ?_)
   have hs29 : w28.cell? ⟨gb360, 0, none⟩ = some (.int .i64 0) := (blk_cell BK360.out 0).trans rfl
   have hfs29 := blk_frozen BK360.out 0
   have hns29_0 := NB345_360.out
   have hms29_0 := NB360_345.out
   have hs30 : w28.cell? ⟨gb360, 1, none⟩ = some (.int .i64 0) := (blk_cell BK360.out 1).trans rfl
   have hfs30 := blk_frozen BK360.out 1
   have hns30_0 := NB345_360.out
   have hms30_0 := NB360_345.out
   refine skip_ (w1 := ?_) (by rfl) rfl ?_ ?_
   rotate_left
   ·
    go_simp
    rfl
   refine hK.out _ _ ⟨((cell_far (p := ⟨gb360, _, none⟩) NB345_360.out _).trans (((cell_far (p := ⟨gb360, _, none⟩) NB345_360.out _).trans (hHeld.1)))), ((cell_far (p := ⟨gb360, _, none⟩) NB345_360.out _).trans (((cell_far (p := ⟨gb360, _, none⟩) NB345_360.out _).trans (hHeld.2))))⟩ (fun hHeld => ?_)
   clear hK K
   refine pure_ (i := 10) (N := some 7) (v := ?_) (a' := ?_) #[true, true, true, true, true, true, true, true, true, true, true] rfl rfl (any_of HT_.out (by kernel_rfl)) (fun _ _ _ h => h) (Or.inl ⟨by rfl, ?_⟩) ?_ ?_
   rotate_left
   ·
    intro w'
    go_simp
    with_reducible rfl
   rotate_left
   ·
    simp only [Act.put, List.setIfInBounds_toArray, List.set_cons_zero, List.set_cons_succ, i64_w, i32_w]
    rfl
   refine done_ (done_of HT_.out (by kernel_rfl)) ?_
   go_upto_region 12 with (first | ((with_reducible refine gate_callee (f := 15) rfl ?_); refine goesL_ (some 31) rfl rfl Try.func15 (by kernel_rfl) rfl #[.slice A0 l0.length c0] rfl sG ?_; (with_reducible refine (laws_toJoinS.calls k _ _ l0 t361 _ ?side1 ?side2 A16.out).mono ?_); (case side1 => exact Kd.C_below HR0.out (sW HB.out)); (case side2 => exact HC0.out); rintro e w31 ⟨v362, rfl, ho0, hb⟩; refine ⟨_, rfl, ?_⟩; have n0_ := aS (Kd.R_elder' (sR (Kd.R_mono (Kd.R_far (p := ⟨gb360, 1, none⟩) (Kd.R_far (p := ⟨gb360, 0, none⟩) (Kd.R_types HO350.out BK360.out (by decide)) (fun _ hk => hk.2) (.int .i64 t357)) (fun _ hk => hk.2) (.int .i64 t358)) (fun _ h_ => h_.1))) (Kd.R_base ho0) hb); have n1_ := aS (Kd.R_below (sR (Kd.R_mono (Kd.R_far (p := ⟨gb360, 1, none⟩) (Kd.R_far (p := ⟨gb360, 0, none⟩) (Kd.R_types HO353.out BK360.out (by decide)) (fun _ hk => hk.2) (.int .i64 t357)) (fun _ hk => hk.2) (.int .i64 t358)) (fun _ h_ => h_.1))) hb); have n2_ := aS (Kd.R_below (sR (Kd.R_mono (Kd.R_far (p := ⟨gb360, 1, none⟩) (Kd.R_far (p := ⟨gb360, 0, none⟩) (Kd.R_types HO356.out BK360.out (by decide)) (fun _ hk => hk.2) (.int .i64 t357)) (fun _ hk => hk.2) (.int .i64 t358)) (fun _ h_ => h_.1))) hb); have n3_ := aS (Kd.R_lower (Kd.R_new' ho0 (Kd.R_lt (sR (Kd.R_mono (Kd.R_far (p := ⟨gb360, 1, none⟩) (Kd.R_far (p := ⟨gb360, 0, none⟩) (Kd.R_types HO350.out BK360.out (by decide)) (fun _ hk => hk.2) (.int .i64 t357)) (fun _ hk => hk.2) (.int .i64 t358)) (fun _ h_ => h_.1))))) (below_size (sW HB.out))); have n4_ := aS (blk_below (g := gb345) (o := .cells #[.slice A1_0 l1_0.length c1_0, .slice A1_1 l1_1.length c1_1] 32 (0, 0)) (by (with_reducible repeat (first | refine blk_drewN ?_ _ | refine blk_drew ?_ | refine blk_alloc ?_ _)); refine blk_far ?_ NB345_360.out _; (with_reducible repeat (first | refine blk_drewN ?_ _ | refine blk_drew ?_ | refine blk_alloc ?_ _)); refine blk_far ?_ NB345_360.out _; (with_reducible repeat (first | refine blk_drewN ?_ _ | refine blk_drew ?_ | refine blk_alloc ?_ _)); exact BK345.out) hb); have n5_ := aS (blk_below (g := gb360) (o := .cells #[.int .i64 t357, .int .i64 t358] 51 (0, 0)) (by (with_reducible repeat (first | refine blk_drewN ?_ _ | refine blk_drew ?_ | refine blk_alloc ?_ _)); refine blk_put (cs := #[.int .i64 t357, .int .i64 0]) ?_ 1 _ rfl; (with_reducible repeat (first | refine blk_drewN ?_ _ | refine blk_drew ?_ | refine blk_alloc ?_ _)); refine blk_put (cs := #[.int .i64 0, .int .i64 0]) ?_ 0 _ rfl; (with_reducible repeat (first | refine blk_drewN ?_ _ | refine blk_drew ?_ | refine blk_alloc ?_ _)); exact BK360.out) hb); have n6_ := aS (below_step (sW HB.out) hb); clear HO350 HO353 HO356 BK345 BK360 HB; have HO350 := n0_; have HO353 := n1_; have HO356 := n2_; have HO363 := n3_; have BK345 := n4_; have BK360 := n5_; have HB := n6_; clear n0_ n1_ n2_ n3_ n4_ n5_ n6_; (try clear hb); (try clear hb2); (try clear hk); (try clear hi); (try clear ho0); have hnb32 := NB345_360.out; have hnc32 := NB360_345.out; have hcz33_0 : w31.cell? ⟨gb345, 0, none⟩ = some (.slice A1_0 l1_0.length c1_0) := (blk_cell BK345.out 0).trans rfl; have hcz33_1 : w31.cell? ⟨gb345, 1, none⟩ = some (.slice A1_1 l1_1.length c1_1) := (blk_cell BK345.out 1).trans rfl; have hfz33_0 := blk_frozen BK345.out 0; have hfz33_1 := blk_frozen BK345.out 1) | ((with_reducible refine gate_callee (f := 20) rfl ?_); refine goesL_ (some 33) rfl rfl Try.func20 (by kernel_rfl) rfl #[.agg #[.slice A1_0 l1_0.length c1_0, .slice A1_1 l1_1.length c1_1]] rfl sG ?_; (with_reducible refine (laws_toLine.calls k _ _ l1_0 _ _ l1_1 t364 t367 _ ?side1 ?side2 ?side3 ?side4 A17.out).mono ?_); (case side1 => exact sC (Kd.C_below HR1_0.out HB.out)); (case side2 => exact HC1_0.out); (case side3 => exact sC (Kd.C_below HR1_1.out HB.out)); (case side4 => exact HC1_1.out); rintro e w34 ⟨v365, v368, rfl, ho0, ho1, hb⟩; refine ⟨_, rfl, ?_⟩; have n0_ := aS (Kd.R_below (sR HO350.out) hb); have n1_ := aS (Kd.R_elder' (sR HO353.out) (Kd.R_base ho0) hb); have n2_ := aS (Kd.R_elder' (sR HO356.out) (Kd.R_base ho1) hb); have n3_ := aS (Kd.R_below (sR HO363.out) hb); have n4_ := aS (Kd.R_lower (Kd.R_new' ho0 (Kd.R_lt (sR HO353.out))) (below_size (sW HB.out))); have n5_ := aS (Kd.R_lower (Kd.R_new' ho1 (Kd.R_lt (sR HO356.out))) (below_size (sW HB.out))); have n6_ := aS (blk_below (g := gb345) (o := .cells #[.slice A1_0 l1_0.length c1_0, .slice A1_1 l1_1.length c1_1] 32 (0, 0)) (sB BK345.out) hb); have n7_ := aS (blk_below (g := gb360) (o := .cells #[.int .i64 t357, .int .i64 t358] 51 (0, 0)) (sB BK360.out) hb); have n8_ := aS (below_step (sW HB.out) hb); clear HO350 HO353 HO356 HO363 BK345 BK360 HB; have HO350 := n0_; have HO353 := n1_; have HO356 := n2_; have HO363 := n3_; have HO366 := n4_; have HO369 := n5_; have BK345 := n6_; have BK360 := n7_; have HB := n8_; clear n0_ n1_ n2_ n3_ n4_ n5_ n6_ n7_ n8_; (try clear hb); (try clear hb2); (try clear hk); (try clear hi); (try clear ho0); (try clear ho1)) | ((with_reducible refine gate_dst (N := 9) rfl ?_); refine box_event ?hg (N := 9) ?hd (cs := #[.slice none 0 0, .slice none 0 0]) (t := 37) ?hr ?_; (case hd => rfl); (case hg => rfl); (case hr => first | (go_simp; done) | (go_simp; rfl)); intro gb370 hg w35 hbox hb; have n0_ := aS (Kd.R_below (sR HO350.out) hb); have n1_ := aS (Kd.R_below (sR HO353.out) hb); have n2_ := aS (Kd.R_below (sR HO356.out) hb); have n3_ := aS (Kd.R_below (sR HO363.out) hb); have n4_ := aS (Kd.R_below (sR HO366.out) hb); have n5_ := aS (Kd.R_below (sR HO369.out) hb); have n6_ := aS (blk_below (g := gb345) (o := .cells #[.slice A1_0 l1_0.length c1_0, .slice A1_1 l1_1.length c1_1] 32 (0, 0)) (sB BK345.out) hb); have n7_ := aS (blk_below (g := gb360) (o := .cells #[.int .i64 t357, .int .i64 t358] 51 (0, 0)) (sB BK360.out) hb); have n8_ := aS (below_step (sW HB.out) hb); have n9_ := aS (hbox); have n10_ := aS ((by rw [hg]; exact (below_size (sW HB.out)) : w.heap.size ≤ gb370)); have n11_ := aS ((by rw [hg]; exact (below_size (sW HB.out)) : w.heap.size ≤ gb370)); have n12_ := aS ((by rw [hg]; exact Nat.ne_of_lt (blk_lt (g := gb345) (o := .cells #[.slice A1_0 l1_0.length c1_0, .slice A1_1 l1_1.length c1_1] 32 (0, 0)) (sB BK345.out)) : gb345 ≠ gb370)); have n13_ := aS ((by rw [hg]; exact Nat.ne_of_gt (blk_lt (g := gb345) (o := .cells #[.slice A1_0 l1_0.length c1_0, .slice A1_1 l1_1.length c1_1] 32 (0, 0)) (sB BK345.out)) : gb370 ≠ gb345)); have n14_ := aS ((by rw [hg]; exact Nat.ne_of_lt (blk_lt (g := gb360) (o := .cells #[.int .i64 t357, .int .i64 t358] 51 (0, 0)) (sB BK360.out)) : gb360 ≠ gb370)); have n15_ := aS ((by rw [hg]; exact Nat.ne_of_gt (blk_lt (g := gb360) (o := .cells #[.int .i64 t357, .int .i64 t358] 51 (0, 0)) (sB BK360.out)) : gb370 ≠ gb360)); clear HO350 HO353 HO356 HO363 HO366 HO369 BK345 BK360 HB; have HO350 := n0_; have HO353 := n1_; have HO356 := n2_; have HO363 := n3_; have HO366 := n4_; have HO369 := n5_; have BK345 := n6_; have BK360 := n7_; have HB := n8_; have BK370 := n9_; have GW370 := n10_; have GE370 := n11_; have NB345_370 := n12_; have NB370_345 := n13_; have NB360_370 := n14_; have NB370_360 := n15_; clear n0_ n1_ n2_ n3_ n4_ n5_ n6_ n7_ n8_ n9_ n10_ n11_ n12_ n13_ n14_ n15_; clear hb hbox hg; obtain ⟨Ao36, co36, eo36⟩ := Kd.R_slice HO366.out; subst eo36; have hnb37 := NB370_345.out; have hnc37 := NB345_370.out; have hnb38 := NB370_360.out; have hnc38 := NB360_370.out; have hcz39_0 : w35.cell? ⟨gb370, 0, none⟩ = some (.slice none 0 0) := (blk_cell BK370.out 0).trans rfl; have hcz39_1 : w35.cell? ⟨gb370, 1, none⟩ = some (.slice none 0 0) := (blk_cell BK370.out 1).trans rfl; have hfz39_0 := blk_frozen BK370.out 0; have hfz39_1 := blk_frozen BK370.out 1; obtain ⟨Ao40, co40, eo40⟩ := Kd.R_slice HO369.out; subst eo40; obtain ⟨Ao41, co41, eo41⟩ := Kd.R_slice HO363.out; subst eo41) | ((with_reducible refine gate_callee (f := 43) rfl ?_); refine goesL_ (some 37) rfl rfl Try.func43 (by kernel_rfl) rfl #[.slice Ao41 t361.length co41, .agg #[.slice Ao36 t364.length co36, .slice Ao40 t367.length co40]] rfl sG ?_; (with_reducible refine (impl_LineStrength.calls k _ _ t361 _ _ t364 _ _ t367 t371 t372 t373 _ ?side1 ?side2 ?side3 ?side4 ?side5 ?side6 A18.out).mono ?_); (case side1 => refine (Kd.R_reads' (e := 68) (base := w.heap.size) (ok := fun k_ => (True ∧ some k_ ≠ (v349 : Value).ownBlock)) (n := t361.length) (c := co41) ?_).2.2; exact (sR (Kd.R_mono (Kd.R_far (p := ⟨gb370, 1, none⟩) (Kd.R_far (p := ⟨gb370, 0, none⟩) (Kd.R_types HO363.out BK370.out (by decide)) (fun _ hk => hk.2) (.slice Ao36 t364.length co36)) (fun _ hk => hk.2) (.slice Ao40 t367.length co40)) (fun _ h_ => h_.1)))); (case side2 => exact (Kd.R_reads' HO363.out).2.1); (case side3 => refine (Kd.R_reads' (e := 44) (base := w.heap.size) (ok := fun k_ => (True ∧ some k_ ≠ (v352 : Value).ownBlock)) (n := t364.length) (c := co36) ?_).2.2; exact (sR (Kd.R_mono (Kd.R_far (p := ⟨gb370, 1, none⟩) (Kd.R_far (p := ⟨gb370, 0, none⟩) (Kd.R_types HO366.out BK370.out (by decide)) (fun _ hk => hk.2) (.slice Ao36 t364.length co36)) (fun _ hk => hk.2) (.slice Ao40 t367.length co40)) (fun _ h_ => h_.1)))); (case side4 => exact (Kd.R_reads' HO366.out).2.1); (case side5 => refine (Kd.R_reads' (e := 2) (base := w.heap.size) (ok := fun k_ => (True ∧ some k_ ≠ (v355 : Value).ownBlock)) (n := t367.length) (c := co40) ?_).2.2; exact (sR (Kd.R_mono (Kd.R_far (p := ⟨gb370, 1, none⟩) (Kd.R_far (p := ⟨gb370, 0, none⟩) (Kd.R_types HO369.out BK370.out (by decide)) (fun _ hk => hk.2) (.slice Ao36 t364.length co36)) (fun _ hk => hk.2) (.slice Ao40 t367.length co40)) (fun _ h_ => h_.1)))); (case side6 => exact (Kd.R_reads' HO369.out).2.1); rintro e w42 ⟨rfl, hb⟩; refine ⟨_, rfl, ?_⟩; have n0_ := aS (Kd.R_below (sR (Kd.R_mono (Kd.R_far (p := ⟨gb370, 1, none⟩) (Kd.R_far (p := ⟨gb370, 0, none⟩) (Kd.R_types HO350.out BK370.out (by decide)) (fun _ hk => hk.2) (.slice Ao36 t364.length co36)) (fun _ hk => hk.2) (.slice Ao40 t367.length co40)) (fun _ h_ => h_.1))) hb); have n1_ := aS (Kd.R_below (sR (Kd.R_mono (Kd.R_far (p := ⟨gb370, 1, none⟩) (Kd.R_far (p := ⟨gb370, 0, none⟩) (Kd.R_types HO353.out BK370.out (by decide)) (fun _ hk => hk.2) (.slice Ao36 t364.length co36)) (fun _ hk => hk.2) (.slice Ao40 t367.length co40)) (fun _ h_ => h_.1))) hb); have n2_ := aS (Kd.R_below (sR (Kd.R_mono (Kd.R_far (p := ⟨gb370, 1, none⟩) (Kd.R_far (p := ⟨gb370, 0, none⟩) (Kd.R_types HO356.out BK370.out (by decide)) (fun _ hk => hk.2) (.slice Ao36 t364.length co36)) (fun _ hk => hk.2) (.slice Ao40 t367.length co40)) (fun _ h_ => h_.1))) hb); have n3_ := aS (Kd.R_below (sR (Kd.R_mono (Kd.R_far (p := ⟨gb370, 1, none⟩) (Kd.R_far (p := ⟨gb370, 0, none⟩) (Kd.R_types HO363.out BK370.out (by decide)) (fun _ hk => hk.2) (.slice Ao36 t364.length co36)) (fun _ hk => hk.2) (.slice Ao40 t367.length co40)) (fun _ h_ => h_.1))) hb); have n4_ := aS (Kd.R_below (sR (Kd.R_mono (Kd.R_far (p := ⟨gb370, 1, none⟩) (Kd.R_far (p := ⟨gb370, 0, none⟩) (Kd.R_types HO366.out BK370.out (by decide)) (fun _ hk => hk.2) (.slice Ao36 t364.length co36)) (fun _ hk => hk.2) (.slice Ao40 t367.length co40)) (fun _ h_ => h_.1))) hb); have n5_ := aS (Kd.R_below (sR (Kd.R_mono (Kd.R_far (p := ⟨gb370, 1, none⟩) (Kd.R_far (p := ⟨gb370, 0, none⟩) (Kd.R_types HO369.out BK370.out (by decide)) (fun _ hk => hk.2) (.slice Ao36 t364.length co36)) (fun _ hk => hk.2) (.slice Ao40 t367.length co40)) (fun _ h_ => h_.1))) hb); have n6_ := aS (blk_below (g := gb345) (o := .cells #[.slice A1_0 l1_0.length c1_0, .slice A1_1 l1_1.length c1_1] 32 (0, 0)) (by (with_reducible repeat (first | refine blk_drewN ?_ _ | refine blk_drew ?_ | refine blk_alloc ?_ _)); refine blk_far ?_ NB345_370.out _; (with_reducible repeat (first | refine blk_drewN ?_ _ | refine blk_drew ?_ | refine blk_alloc ?_ _)); refine blk_far ?_ NB345_370.out _; (with_reducible repeat (first | refine blk_drewN ?_ _ | refine blk_drew ?_ | refine blk_alloc ?_ _)); exact BK345.out) hb); have n7_ := aS (blk_below (g := gb360) (o := .cells #[.int .i64 t357, .int .i64 t358] 51 (0, 0)) (by (with_reducible repeat (first | refine blk_drewN ?_ _ | refine blk_drew ?_ | refine blk_alloc ?_ _)); refine blk_far ?_ NB360_370.out _; (with_reducible repeat (first | refine blk_drewN ?_ _ | refine blk_drew ?_ | refine blk_alloc ?_ _)); refine blk_far ?_ NB360_370.out _; (with_reducible repeat (first | refine blk_drewN ?_ _ | refine blk_drew ?_ | refine blk_alloc ?_ _)); exact BK360.out) hb); have n8_ := aS (blk_below (g := gb370) (o := .cells #[.slice Ao36 t364.length co36, .slice Ao40 t367.length co40] 37 (0, 0)) (by (with_reducible repeat (first | refine blk_drewN ?_ _ | refine blk_drew ?_ | refine blk_alloc ?_ _)); refine blk_put (cs := #[.slice Ao36 t364.length co36, .slice none 0 0]) ?_ 1 _ rfl; (with_reducible repeat (first | refine blk_drewN ?_ _ | refine blk_drew ?_ | refine blk_alloc ?_ _)); refine blk_put (cs := #[.slice none 0 0, .slice none 0 0]) ?_ 0 _ rfl; (with_reducible repeat (first | refine blk_drewN ?_ _ | refine blk_drew ?_ | refine blk_alloc ?_ _)); exact BK370.out) hb); have n9_ := aS (below_step (sW HB.out) hb); clear HO350 HO353 HO356 HO363 HO366 HO369 BK345 BK360 BK370 HB; have HO350 := n0_; have HO353 := n1_; have HO356 := n2_; have HO363 := n3_; have HO366 := n4_; have HO369 := n5_; have BK345 := n6_; have BK360 := n7_; have BK370 := n8_; have HB := n9_; clear n0_ n1_ n2_ n3_ n4_ n5_ n6_ n7_ n8_ n9_; (try clear hb); (try clear hb2); (try clear hk); (try clear hi)) | ((with_reducible refine gate_dst (N := 10) rfl ?_); refine box_event ?hg (N := 10) ?hd (cs := #[.int .i64 0, .int .i64 0]) (t := 51) ?hr ?_; (case hd => rfl); (case hg => rfl); (case hr => first | (go_simp; done) | (go_simp; rfl)); intro gb374 hg w43 hbox hb; have n0_ := aS (Kd.R_below (sR HO350.out) hb); have n1_ := aS (Kd.R_below (sR HO353.out) hb); have n2_ := aS (Kd.R_below (sR HO356.out) hb); have n3_ := aS (Kd.R_below (sR HO363.out) hb); have n4_ := aS (Kd.R_below (sR HO366.out) hb); have n5_ := aS (Kd.R_below (sR HO369.out) hb); have n6_ := aS (blk_below (g := gb345) (o := .cells #[.slice A1_0 l1_0.length c1_0, .slice A1_1 l1_1.length c1_1] 32 (0, 0)) (sB BK345.out) hb); have n7_ := aS (blk_below (g := gb360) (o := .cells #[.int .i64 t357, .int .i64 t358] 51 (0, 0)) (sB BK360.out) hb); have n8_ := aS (blk_below (g := gb370) (o := .cells #[.slice Ao36 t364.length co36, .slice Ao40 t367.length co40] 37 (0, 0)) (sB BK370.out) hb); have n9_ := aS (below_step (sW HB.out) hb); have n10_ := aS (hbox); have n11_ := aS ((by rw [hg]; exact (below_size (sW HB.out)) : w.heap.size ≤ gb374)); have n12_ := aS ((by rw [hg]; exact (below_size (sW HB.out)) : w.heap.size ≤ gb374)); have n13_ := aS ((by rw [hg]; exact Nat.ne_of_lt (blk_lt (g := gb345) (o := .cells #[.slice A1_0 l1_0.length c1_0, .slice A1_1 l1_1.length c1_1] 32 (0, 0)) (sB BK345.out)) : gb345 ≠ gb374)); have n14_ := aS ((by rw [hg]; exact Nat.ne_of_gt (blk_lt (g := gb345) (o := .cells #[.slice A1_0 l1_0.length c1_0, .slice A1_1 l1_1.length c1_1] 32 (0, 0)) (sB BK345.out)) : gb374 ≠ gb345)); have n15_ := aS ((by rw [hg]; exact Nat.ne_of_lt (blk_lt (g := gb360) (o := .cells #[.int .i64 t357, .int .i64 t358] 51 (0, 0)) (sB BK360.out)) : gb360 ≠ gb374)); have n16_ := aS ((by rw [hg]; exact Nat.ne_of_gt (blk_lt (g := gb360) (o := .cells #[.int .i64 t357, .int .i64 t358] 51 (0, 0)) (sB BK360.out)) : gb374 ≠ gb360)); have n17_ := aS ((by rw [hg]; exact Nat.ne_of_lt (blk_lt (g := gb370) (o := .cells #[.slice Ao36 t364.length co36, .slice Ao40 t367.length co40] 37 (0, 0)) (sB BK370.out)) : gb370 ≠ gb374)); have n18_ := aS ((by rw [hg]; exact Nat.ne_of_gt (blk_lt (g := gb370) (o := .cells #[.slice Ao36 t364.length co36, .slice Ao40 t367.length co40] 37 (0, 0)) (sB BK370.out)) : gb374 ≠ gb370)); clear HO350 HO353 HO356 HO363 HO366 HO369 BK345 BK360 BK370 HB; have HO350 := n0_; have HO353 := n1_; have HO356 := n2_; have HO363 := n3_; have HO366 := n4_; have HO369 := n5_; have BK345 := n6_; have BK360 := n7_; have BK370 := n8_; have HB := n9_; have BK374 := n10_; have GW374 := n11_; have GE374 := n12_; have NB345_374 := n13_; have NB374_345 := n14_; have NB360_374 := n15_; have NB374_360 := n16_; have NB370_374 := n17_; have NB374_370 := n18_; clear n0_ n1_ n2_ n3_ n4_ n5_ n6_ n7_ n8_ n9_ n10_ n11_ n12_ n13_ n14_ n15_ n16_ n17_ n18_; clear hb hbox hg; have hnb44 := NB374_345.out; have hnc44 := NB345_374.out; have hnb45 := NB374_360.out; have hnc45 := NB360_374.out; have hnb46 := NB374_370.out; have hnc46 := NB370_374.out; have hcz47_0 : w43.cell? ⟨gb374, 0, none⟩ = some (.int .i64 0) := (blk_cell BK374.out 0).trans rfl; have hcz47_1 : w43.cell? ⟨gb374, 1, none⟩ = some (.int .i64 0) := (blk_cell BK374.out 1).trans rfl; have hfz47_0 := blk_frozen BK374.out 0; have hfz47_1 := blk_frozen BK374.out 1))
   (try simp only [Act.put, List.setIfInBounds_toArray, List.set_cons_zero, List.set_cons_succ])
   go_cut [48] (fun v48 wc => ∃ (kq : Nat) (x48_18 : Bool), v48 = .bool x48_18 ∧ Aside0 (laws_FnExactLineStrength.j0 kq l0 t361 x48_18 l1_0 l1_1 t364 t367 = some r) ∧ Aside0 (kq ≤ k) ∧ Aside0 (Kd.R k68 68 wc w.heap.size (fun _ => True) (.slice Ao41 t361.length co41) t361) ∧ Aside0 (Kd.R k44 44 wc w.heap.size (fun _ => True) (.slice Ao36 t364.length co36) t364) ∧ Aside0 (Kd.R (Kd.int .i64) 2 wc w.heap.size (fun _ => True) (.slice Ao40 t367.length co40) t367) ∧ Aside0 (wc.heap[gb345]? = some (.cells #[(.slice A1_0 l1_0.length c1_0), (.slice A1_1 l1_1.length c1_1)] 32 (0, 0))) ∧ Aside0 (wc.heap[gb370]? = some (.cells #[(.slice Ao36 t364.length co36), (.slice Ao40 t367.length co40)] 37 (0, 0))) ∧ Aside0 (Below w.heap.size w wc))
   case first =>
    have H := HC19.out
    clear HC19
    replace H := Option.bind_eq_some_iff.mp H
    obtain ⟨t375, A480, H⟩ := H
    replace H : (if t375 = true then (laws_FnExactLineStrength.j0 k l0 t361 (t373 != t359) l1_0 l1_1 t364 t367) else (laws_FnExactLineStrength.j0 k l0 t361 true l1_0 l1_1 t364 t367)) = some r := H
    have A48 := aS A480
    clear A480
    by_cases c49 : t375 = true
    ·
     subst c49
     have H1 : (laws_FnExactLineStrength.j0 k l0 t361 (t373 != t359) l1_0 l1_1 t364 t367) = some r := by rw [if_pos rfl] at H; exact H
     clear H
     have H := H1
     clear H1
     have H' := aS H
     clear H
     have hnb50 := NB374_345.out
     have hnc50 := NB345_374.out
     have hnb51 := NB374_360.out
     have hnc51 := NB360_374.out
     have hnb52 := NB374_370.out
     have hnc52 := NB370_374.out
     have hcz53_0 : w43.cell? ⟨gb374, 0, none⟩ = some (.int .i64 0) := (blk_cell BK374.out 0).trans rfl
     have hcz53_1 : w43.cell? ⟨gb374, 1, none⟩ = some (.int .i64 0) := (blk_cell BK374.out 1).trans rfl
     have hfz53_0 := blk_frozen BK374.out 0
     have hfz53_1 := blk_frozen BK374.out 1
     have hnb54 := NB360_345.out
     have hnc54 := NB345_360.out
     have hnb55 := NB360_370.out
     have hnc55 := NB370_360.out
     have hcz56_0 : w43.cell? ⟨gb360, 0, none⟩ = some (.int .i64 t357) := (blk_cell BK360.out 0).trans rfl
     have hcz56_1 : w43.cell? ⟨gb360, 1, none⟩ = some (.int .i64 t358) := (blk_cell BK360.out 1).trans rfl
     have hfz56_0 := blk_frozen BK360.out 0
     have hfz56_1 := blk_frozen BK360.out 1
     go_wp2_with (first | ((with_reducible refine gate_callee (f := 32) rfl ?_); refine goesL_ (some 42) rfl rfl Try.func32 (by kernel_rfl) rfl #[.agg #[.int .i64 t371, .int .i64 t372], .agg #[.int .i64 t357, .int .i64 t358]] rfl sG ?_; (with_reducible refine (laws_eqFraction.calls t371 t372 t357 t358 true _ A48.out).mono ?_); rintro e w57 ⟨rfl, hb⟩; refine ⟨_, rfl, ?_⟩; have n0_ := aS (Kd.R_below (sR (Kd.R_mono (Kd.R_far (p := ⟨gb374, 1, none⟩) (Kd.R_far (p := ⟨gb374, 0, none⟩) (Kd.R_types HO350.out BK374.out (by decide)) (fun _ hk => hk.2) (.int .i64 t371)) (fun _ hk => hk.2) (.int .i64 t372)) (fun _ h_ => h_.1))) hb); have n1_ := aS (Kd.R_below (sR (Kd.R_mono (Kd.R_far (p := ⟨gb374, 1, none⟩) (Kd.R_far (p := ⟨gb374, 0, none⟩) (Kd.R_types HO353.out BK374.out (by decide)) (fun _ hk => hk.2) (.int .i64 t371)) (fun _ hk => hk.2) (.int .i64 t372)) (fun _ h_ => h_.1))) hb); have n2_ := aS (Kd.R_below (sR (Kd.R_mono (Kd.R_far (p := ⟨gb374, 1, none⟩) (Kd.R_far (p := ⟨gb374, 0, none⟩) (Kd.R_types HO356.out BK374.out (by decide)) (fun _ hk => hk.2) (.int .i64 t371)) (fun _ hk => hk.2) (.int .i64 t372)) (fun _ h_ => h_.1))) hb); have n3_ := aS (Kd.R_below (sR (Kd.R_mono (Kd.R_far (p := ⟨gb374, 1, none⟩) (Kd.R_far (p := ⟨gb374, 0, none⟩) (Kd.R_types HO363.out BK374.out (by decide)) (fun _ hk => hk.2) (.int .i64 t371)) (fun _ hk => hk.2) (.int .i64 t372)) (fun _ h_ => h_.1))) hb); have n4_ := aS (Kd.R_below (sR (Kd.R_mono (Kd.R_far (p := ⟨gb374, 1, none⟩) (Kd.R_far (p := ⟨gb374, 0, none⟩) (Kd.R_types HO366.out BK374.out (by decide)) (fun _ hk => hk.2) (.int .i64 t371)) (fun _ hk => hk.2) (.int .i64 t372)) (fun _ h_ => h_.1))) hb); have n5_ := aS (Kd.R_below (sR (Kd.R_mono (Kd.R_far (p := ⟨gb374, 1, none⟩) (Kd.R_far (p := ⟨gb374, 0, none⟩) (Kd.R_types HO369.out BK374.out (by decide)) (fun _ hk => hk.2) (.int .i64 t371)) (fun _ hk => hk.2) (.int .i64 t372)) (fun _ h_ => h_.1))) hb); have n6_ := aS (blk_below (g := gb345) (o := .cells #[.slice A1_0 l1_0.length c1_0, .slice A1_1 l1_1.length c1_1] 32 (0, 0)) (by (with_reducible repeat (first | refine blk_drewN ?_ _ | refine blk_drew ?_ | refine blk_alloc ?_ _)); refine blk_far ?_ NB345_374.out _; (with_reducible repeat (first | refine blk_drewN ?_ _ | refine blk_drew ?_ | refine blk_alloc ?_ _)); refine blk_far ?_ NB345_374.out _; (with_reducible repeat (first | refine blk_drewN ?_ _ | refine blk_drew ?_ | refine blk_alloc ?_ _)); exact BK345.out) hb); have n7_ := aS (blk_below (g := gb360) (o := .cells #[.int .i64 t357, .int .i64 t358] 51 (0, 0)) (by (with_reducible repeat (first | refine blk_drewN ?_ _ | refine blk_drew ?_ | refine blk_alloc ?_ _)); refine blk_far ?_ NB360_374.out _; (with_reducible repeat (first | refine blk_drewN ?_ _ | refine blk_drew ?_ | refine blk_alloc ?_ _)); refine blk_far ?_ NB360_374.out _; (with_reducible repeat (first | refine blk_drewN ?_ _ | refine blk_drew ?_ | refine blk_alloc ?_ _)); exact BK360.out) hb); have n8_ := aS (blk_below (g := gb370) (o := .cells #[.slice Ao36 t364.length co36, .slice Ao40 t367.length co40] 37 (0, 0)) (by (with_reducible repeat (first | refine blk_drewN ?_ _ | refine blk_drew ?_ | refine blk_alloc ?_ _)); refine blk_far ?_ NB370_374.out _; (with_reducible repeat (first | refine blk_drewN ?_ _ | refine blk_drew ?_ | refine blk_alloc ?_ _)); refine blk_far ?_ NB370_374.out _; (with_reducible repeat (first | refine blk_drewN ?_ _ | refine blk_drew ?_ | refine blk_alloc ?_ _)); exact BK370.out) hb); have n9_ := aS (blk_below (g := gb374) (o := .cells #[.int .i64 t371, .int .i64 t372] 51 (0, 0)) (by (with_reducible repeat (first | refine blk_drewN ?_ _ | refine blk_drew ?_ | refine blk_alloc ?_ _)); refine blk_put (cs := #[.int .i64 t371, .int .i64 0]) ?_ 1 _ rfl; (with_reducible repeat (first | refine blk_drewN ?_ _ | refine blk_drew ?_ | refine blk_alloc ?_ _)); refine blk_put (cs := #[.int .i64 0, .int .i64 0]) ?_ 0 _ rfl; (with_reducible repeat (first | refine blk_drewN ?_ _ | refine blk_drew ?_ | refine blk_alloc ?_ _)); exact BK374.out) hb); have n10_ := aS (below_step (sW HB.out) hb); clear HO350 HO353 HO356 HO363 HO366 HO369 BK345 BK360 BK370 BK374 HB; have HO350 := n0_; have HO353 := n1_; have HO356 := n2_; have HO363 := n3_; have HO366 := n4_; have HO369 := n5_; have BK345 := n6_; have BK360 := n7_; have BK370 := n8_; have BK374 := n9_; have HB := n10_; clear n0_ n1_ n2_ n3_ n4_ n5_ n6_ n7_ n8_ n9_ n10_; (try clear hb); (try clear hb2); (try clear hk); (try clear hi)))
     go_meet
     case rel => exact ⟨_, ((t373 != t359)), (by first | rfl | (simp; done) | (simp [*]; done) | (simp only [i64_w]; done) | (simp [i64_w]; done)), H', ⟨by first | omega | exact Nat.le_refl _⟩, ⟨by (with_reducible repeat (first | apply Kd.R_alloc | apply Kd.R_drewN | apply Kd.R_drew)); exact Kd.R_mono HO363.out (fun _ hk => trivial)⟩, ⟨by (with_reducible repeat (first | apply Kd.R_alloc | apply Kd.R_drewN | apply Kd.R_drew)); exact Kd.R_mono HO366.out (fun _ hk => trivial)⟩, ⟨by (with_reducible repeat (first | apply Kd.R_alloc | apply Kd.R_drewN | apply Kd.R_drew)); exact Kd.R_mono HO369.out (fun _ hk => trivial)⟩, ⟨by (with_reducible repeat (first | refine blk_drewN ?_ _ | refine blk_drew ?_ | refine blk_alloc ?_ _)); exact BK345.out⟩, ⟨by (with_reducible repeat (first | refine blk_drewN ?_ _ | refine blk_drew ?_ | refine blk_alloc ?_ _)); exact BK370.out⟩, ⟨by repeat (first | (with_reducible first | exact HB.out | apply below_alloc | apply pw_below_drewN | apply below_drew1 | refine below_set ?_ GE345.out | refine below_set ?_ GE370.out) | exact HB.out)⟩⟩
    ·
     replace c49 := Bool.eq_false_iff.mpr c49
     subst c49
     have H1 : (laws_FnExactLineStrength.j0 k l0 t361 true l1_0 l1_1 t364 t367) = some r := by rw [if_neg (show ¬ (false = true) by decide)] at H; exact H
     clear H
     have H := H1
     clear H1
     have H' := aS H
     clear H
     have hnb58 := NB374_345.out
     have hnc58 := NB345_374.out
     have hnb59 := NB374_360.out
     have hnc59 := NB360_374.out
     have hnb60 := NB374_370.out
     have hnc60 := NB370_374.out
     have hcz61_0 : w43.cell? ⟨gb374, 0, none⟩ = some (.int .i64 0) := (blk_cell BK374.out 0).trans rfl
     have hcz61_1 : w43.cell? ⟨gb374, 1, none⟩ = some (.int .i64 0) := (blk_cell BK374.out 1).trans rfl
     have hfz61_0 := blk_frozen BK374.out 0
     have hfz61_1 := blk_frozen BK374.out 1
     have hnb62 := NB360_345.out
     have hnc62 := NB345_360.out
     have hnb63 := NB360_370.out
     have hnc63 := NB370_360.out
     have hcz64_0 : w43.cell? ⟨gb360, 0, none⟩ = some (.int .i64 t357) := (blk_cell BK360.out 0).trans rfl
     have hcz64_1 : w43.cell? ⟨gb360, 1, none⟩ = some (.int .i64 t358) := (blk_cell BK360.out 1).trans rfl
     have hfz64_0 := blk_frozen BK360.out 0
     have hfz64_1 := blk_frozen BK360.out 1
     go_wp2_with (first | ((with_reducible refine gate_callee (f := 32) rfl ?_); refine goesL_ (some 42) rfl rfl Try.func32 (by kernel_rfl) rfl #[.agg #[.int .i64 t371, .int .i64 t372], .agg #[.int .i64 t357, .int .i64 t358]] rfl sG ?_; (with_reducible refine (laws_eqFraction.calls t371 t372 t357 t358 false _ A48.out).mono ?_); rintro e w65 ⟨rfl, hb⟩; refine ⟨_, rfl, ?_⟩; have n0_ := aS (Kd.R_below (sR (Kd.R_mono (Kd.R_far (p := ⟨gb374, 1, none⟩) (Kd.R_far (p := ⟨gb374, 0, none⟩) (Kd.R_types HO350.out BK374.out (by decide)) (fun _ hk => hk.2) (.int .i64 t371)) (fun _ hk => hk.2) (.int .i64 t372)) (fun _ h_ => h_.1))) hb); have n1_ := aS (Kd.R_below (sR (Kd.R_mono (Kd.R_far (p := ⟨gb374, 1, none⟩) (Kd.R_far (p := ⟨gb374, 0, none⟩) (Kd.R_types HO353.out BK374.out (by decide)) (fun _ hk => hk.2) (.int .i64 t371)) (fun _ hk => hk.2) (.int .i64 t372)) (fun _ h_ => h_.1))) hb); have n2_ := aS (Kd.R_below (sR (Kd.R_mono (Kd.R_far (p := ⟨gb374, 1, none⟩) (Kd.R_far (p := ⟨gb374, 0, none⟩) (Kd.R_types HO356.out BK374.out (by decide)) (fun _ hk => hk.2) (.int .i64 t371)) (fun _ hk => hk.2) (.int .i64 t372)) (fun _ h_ => h_.1))) hb); have n3_ := aS (Kd.R_below (sR (Kd.R_mono (Kd.R_far (p := ⟨gb374, 1, none⟩) (Kd.R_far (p := ⟨gb374, 0, none⟩) (Kd.R_types HO363.out BK374.out (by decide)) (fun _ hk => hk.2) (.int .i64 t371)) (fun _ hk => hk.2) (.int .i64 t372)) (fun _ h_ => h_.1))) hb); have n4_ := aS (Kd.R_below (sR (Kd.R_mono (Kd.R_far (p := ⟨gb374, 1, none⟩) (Kd.R_far (p := ⟨gb374, 0, none⟩) (Kd.R_types HO366.out BK374.out (by decide)) (fun _ hk => hk.2) (.int .i64 t371)) (fun _ hk => hk.2) (.int .i64 t372)) (fun _ h_ => h_.1))) hb); have n5_ := aS (Kd.R_below (sR (Kd.R_mono (Kd.R_far (p := ⟨gb374, 1, none⟩) (Kd.R_far (p := ⟨gb374, 0, none⟩) (Kd.R_types HO369.out BK374.out (by decide)) (fun _ hk => hk.2) (.int .i64 t371)) (fun _ hk => hk.2) (.int .i64 t372)) (fun _ h_ => h_.1))) hb); have n6_ := aS (blk_below (g := gb345) (o := .cells #[.slice A1_0 l1_0.length c1_0, .slice A1_1 l1_1.length c1_1] 32 (0, 0)) (by (with_reducible repeat (first | refine blk_drewN ?_ _ | refine blk_drew ?_ | refine blk_alloc ?_ _)); refine blk_far ?_ NB345_374.out _; (with_reducible repeat (first | refine blk_drewN ?_ _ | refine blk_drew ?_ | refine blk_alloc ?_ _)); refine blk_far ?_ NB345_374.out _; (with_reducible repeat (first | refine blk_drewN ?_ _ | refine blk_drew ?_ | refine blk_alloc ?_ _)); exact BK345.out) hb); have n7_ := aS (blk_below (g := gb360) (o := .cells #[.int .i64 t357, .int .i64 t358] 51 (0, 0)) (by (with_reducible repeat (first | refine blk_drewN ?_ _ | refine blk_drew ?_ | refine blk_alloc ?_ _)); refine blk_far ?_ NB360_374.out _; (with_reducible repeat (first | refine blk_drewN ?_ _ | refine blk_drew ?_ | refine blk_alloc ?_ _)); refine blk_far ?_ NB360_374.out _; (with_reducible repeat (first | refine blk_drewN ?_ _ | refine blk_drew ?_ | refine blk_alloc ?_ _)); exact BK360.out) hb); have n8_ := aS (blk_below (g := gb370) (o := .cells #[.slice Ao36 t364.length co36, .slice Ao40 t367.length co40] 37 (0, 0)) (by (with_reducible repeat (first | refine blk_drewN ?_ _ | refine blk_drew ?_ | refine blk_alloc ?_ _)); refine blk_far ?_ NB370_374.out _; (with_reducible repeat (first | refine blk_drewN ?_ _ | refine blk_drew ?_ | refine blk_alloc ?_ _)); refine blk_far ?_ NB370_374.out _; (with_reducible repeat (first | refine blk_drewN ?_ _ | refine blk_drew ?_ | refine blk_alloc ?_ _)); exact BK370.out) hb); have n9_ := aS (blk_below (g := gb374) (o := .cells #[.int .i64 t371, .int .i64 t372] 51 (0, 0)) (by (with_reducible repeat (first | refine blk_drewN ?_ _ | refine blk_drew ?_ | refine blk_alloc ?_ _)); refine blk_put (cs := #[.int .i64 t371, .int .i64 0]) ?_ 1 _ rfl; (with_reducible repeat (first | refine blk_drewN ?_ _ | refine blk_drew ?_ | refine blk_alloc ?_ _)); refine blk_put (cs := #[.int .i64 0, .int .i64 0]) ?_ 0 _ rfl; (with_reducible repeat (first | refine blk_drewN ?_ _ | refine blk_drew ?_ | refine blk_alloc ?_ _)); exact BK374.out) hb); have n10_ := aS (below_step (sW HB.out) hb); clear HO350 HO353 HO356 HO363 HO366 HO369 BK345 BK360 BK370 BK374 HB; have HO350 := n0_; have HO353 := n1_; have HO356 := n2_; have HO363 := n3_; have HO366 := n4_; have HO369 := n5_; have BK345 := n6_; have BK360 := n7_; have BK370 := n8_; have BK374 := n9_; have HB := n10_; clear n0_ n1_ n2_ n3_ n4_ n5_ n6_ n7_ n8_ n9_ n10_; (try clear hb); (try clear hb2); (try clear hk); (try clear hi)))
     go_meet
     case rel => exact ⟨_, (true), (by first | rfl | (simp; done) | (simp [*]; done) | (simp only [i64_w]; done) | (simp [i64_w]; done)), H', ⟨by first | omega | exact Nat.le_refl _⟩, ⟨by (with_reducible repeat (first | apply Kd.R_alloc | apply Kd.R_drewN | apply Kd.R_drew)); exact Kd.R_mono HO363.out (fun _ hk => trivial)⟩, ⟨by (with_reducible repeat (first | apply Kd.R_alloc | apply Kd.R_drewN | apply Kd.R_drew)); exact Kd.R_mono HO366.out (fun _ hk => trivial)⟩, ⟨by (with_reducible repeat (first | apply Kd.R_alloc | apply Kd.R_drewN | apply Kd.R_drew)); exact Kd.R_mono HO369.out (fun _ hk => trivial)⟩, ⟨by (with_reducible repeat (first | refine blk_drewN ?_ _ | refine blk_drew ?_ | refine blk_alloc ?_ _)); exact BK345.out⟩, ⟨by (with_reducible repeat (first | refine blk_drewN ?_ _ | refine blk_drew ?_ | refine blk_alloc ?_ _)); exact BK370.out⟩, ⟨by repeat (first | (with_reducible first | exact HB.out | apply below_alloc | apply pw_below_drewN | apply below_drew1 | refine below_set ?_ GE345.out | refine below_set ?_ GE370.out) | exact HB.out)⟩⟩
   case rest =>
    clear HC19
    (try clear c1); (try clear c2); (try clear p2); (try clear c3); (try clear c4); (try clear c5); (try clear c6); (try clear c15); (try clear c20); (try clear c32); (try clear c37); (try clear c38); (try clear c42); (try clear c43); (try clear c44); (try clear c45); (try clear c46); (try clear c49); (try clear c50); (try clear c51); (try clear c52); (try clear c54); (try clear c55); (try clear c58); (try clear c59); (try clear c60); (try clear c62); (try clear c63); (try clear hcz33_0); (try clear hcz33_1); (try clear hcz39_0); (try clear hcz39_1); (try clear hcz47_0); (try clear hcz47_1); (try clear hcz53_0); (try clear hcz53_1); (try clear hcz56_0); (try clear hcz56_1); (try clear hcz61_0); (try clear hcz61_1); (try clear hcz64_0); (try clear hcz64_1); (try clear hfz33_0); (try clear hfz33_1); (try clear hfz39_0); (try clear hfz39_1); (try clear hfz47_0); (try clear hfz47_1); (try clear hfz53_0); (try clear hfz53_1); (try clear hfz56_0); (try clear hfz56_1); (try clear hfz61_0); (try clear hfz61_1); (try clear hfz64_0); (try clear hfz64_1)
    obtain ⟨kq, x48_18, rfl, HA, HJ18, HO_8, HO_371000, HO_371001, BK345, BK370, HB⟩ := hcut
    cases kq with
    | zero => exact absurd HA.out (by simp [laws_FnExactLineStrength.j0])
    | succ kj18 =>
     have H := HA.out
     clear HA
     simp only [laws_FnExactLineStrength.j0] at H
     by_cases c66 : x48_18 = true
     ·
      subst c66
      have H1 : (some false) = some r := by rw [if_pos rfl] at H; exact H
      clear H
      have H := H1
      clear H1
      obtain rfl := Option.some.inj H
      go_wp2
      go_ret
      exact ⟨by first | rfl | (simp [errW_none, errW_some, i64_w]; done) | (simp [errW_none, errW_some] <;> rfl) | (simp [*, errW_none, errW_some] <;> rfl), by repeat (first | (with_reducible first | exact HB.out | apply below_alloc | apply pw_below_drewN | apply below_drew1) | exact HB.out)⟩
     ·
      replace c66 := Bool.eq_false_iff.mpr c66
      subst c66
      have H1 : ((laws_toJoinS.f kj18 l0).bind fun t376 => ((laws_eqJoinS.f kj18 t361 t376).bind fun t379 => (if t379 = true then ((laws_toLine.f kj18 l1_0 l1_1).bind fun bt380 => ((laws_eqLine.f kj18 t364 t367 bt380.1 bt380.2).bind fun t386 => (if t386 = true then (some true) else (some false)))) else (some false)))) = some r := by rw [if_neg (show ¬ (false = true) by decide)] at H; exact H
      clear H
      have H := H1
      clear H1
      replace H := Option.bind_eq_some_iff.mp H
      obtain ⟨t376, A670, H⟩ := H
      replace H : ((laws_eqJoinS.f kj18 t361 t376).bind fun t379 => (if t379 = true then ((laws_toLine.f kj18 l1_0 l1_1).bind fun bt380 => ((laws_eqLine.f kj18 t364 t367 bt380.1 bt380.2).bind fun t386 => (if t386 = true then (some true) else (some false)))) else (some false))) = some r := H
      have A67 := aS A670
      clear A670
      replace H := Option.bind_eq_some_iff.mp H
      obtain ⟨t379, A680, H⟩ := H
      replace H : (if t379 = true then ((laws_toLine.f kj18 l1_0 l1_1).bind fun bt380 => ((laws_eqLine.f kj18 t364 t367 bt380.1 bt380.2).bind fun t386 => (if t386 = true then (some true) else (some false)))) else (some false)) = some r := H
      have A68 := aS A680
      clear A680
      have HC69 := aS H
      clear H
      go_upto_if 53 with (first | ((with_reducible refine gate_callee (f := 15) rfl ?_); refine goesL_ (some 51) rfl rfl Try.func15 (by kernel_rfl) rfl #[.slice A0 l0.length c0] rfl sG ?_; (with_reducible refine (laws_toJoinS.calls kj18 _ _ l0 t376 _ ?side1 ?side2 A67.out).mono ?_); (case side1 => exact sC (Kd.C_below HR0.out HB.out)); (case side2 => exact HC0.out); rintro e w70 ⟨v377, rfl, ho0, hb⟩; refine ⟨_, rfl, ?_⟩; have n0_ := aS (Kd.R_elder' (sR HO_8.out) (Kd.R_base ho0) hb); have n1_ := aS (Kd.R_below (sR HO_371000.out) hb); have n2_ := aS (Kd.R_below (sR HO_371001.out) hb); have n3_ := aS (Kd.R_lower (Kd.R_new' ho0 (Kd.R_lt (sR HO_8.out))) (below_size (sW HB.out))); have n4_ := aS (blk_below (g := gb345) (o := .cells #[.slice A1_0 l1_0.length c1_0, .slice A1_1 l1_1.length c1_1] 32 (0, 0)) (sB BK345.out) hb); have n5_ := aS (blk_below (g := gb370) (o := .cells #[.slice Ao36 t364.length co36, .slice Ao40 t367.length co40] 37 (0, 0)) (sB BK370.out) hb); have n6_ := aS (below_step (sW HB.out) hb); clear HO_8 HO_371000 HO_371001 BK345 BK370 HB; have HO_8 := n0_; have HO_371000 := n1_; have HO_371001 := n2_; have HO378 := n3_; have BK345 := n4_; have BK370 := n5_; have HB := n6_; clear n0_ n1_ n2_ n3_ n4_ n5_ n6_; (try clear hb); (try clear hb2); (try clear hk); (try clear hi); (try clear ho0); obtain ⟨Ao71, co71, eo71⟩ := Kd.R_slice HO378.out; subst eo71) | ((with_reducible refine gate_callee (f := 17) rfl ?_); refine goesL_ (some 52) rfl rfl Try.func17 (by kernel_rfl) rfl #[.slice Ao41 t361.length co41, .slice Ao71 t376.length co71] rfl sG ?_; (with_reducible refine (laws_eqJoinS.calls kj18 _ _ t361 _ _ t376 t379 _ ?side1 ?side2 ?side3 ?side4 A68.out).mono ?_); (case side1 => exact sC (Kd.R_reads' HO_8.out).2.2); (case side2 => exact (Kd.R_reads' HO_8.out).2.1); (case side3 => exact sC (Kd.R_reads' HO378.out).2.2); (case side4 => exact (Kd.R_reads' HO378.out).2.1); rintro e w72 ⟨rfl, hb⟩; refine ⟨_, rfl, ?_⟩; have n0_ := aS (Kd.R_below (sR HO_8.out) hb); have n1_ := aS (Kd.R_below (sR HO_371000.out) hb); have n2_ := aS (Kd.R_below (sR HO_371001.out) hb); have n3_ := aS (Kd.R_below (sR HO378.out) hb); have n4_ := aS (blk_below (g := gb345) (o := .cells #[.slice A1_0 l1_0.length c1_0, .slice A1_1 l1_1.length c1_1] 32 (0, 0)) (sB BK345.out) hb); have n5_ := aS (blk_below (g := gb370) (o := .cells #[.slice Ao36 t364.length co36, .slice Ao40 t367.length co40] 37 (0, 0)) (sB BK370.out) hb); have n6_ := aS (below_step (sW HB.out) hb); clear HO_8 HO_371000 HO_371001 HO378 BK345 BK370 HB; have HO_8 := n0_; have HO_371000 := n1_; have HO_371001 := n2_; have HO378 := n3_; have BK345 := n4_; have BK370 := n5_; have HB := n6_; clear n0_ n1_ n2_ n3_ n4_ n5_ n6_; (try clear hb); (try clear hb2); (try clear hk); (try clear hi)))
      (try simp only [Act.put, List.setIfInBounds_toArray, List.set_cons_zero, List.set_cons_succ])
      have H := HC69.out
      clear HC69
      by_cases c73 : t379 = true
      ·
       subst c73
       have H1 : ((laws_toLine.f kj18 l1_0 l1_1).bind fun bt380 => ((laws_eqLine.f kj18 t364 t367 bt380.1 bt380.2).bind fun t386 => (if t386 = true then (some true) else (some false)))) = some r := by rw [if_pos rfl] at H; exact H
       clear H
       have H := H1
       clear H1
       replace H := Option.bind_eq_some_iff.mp H
       obtain ⟨⟨t380, t383⟩, A740, H⟩ := H
       replace H : ((laws_eqLine.f kj18 t364 t367 t380 t383).bind fun t386 => (if t386 = true then (some true) else (some false))) = some r := H
       have A74 := aS A740
       clear A740
       replace H := Option.bind_eq_some_iff.mp H
       obtain ⟨t386, A750, H⟩ := H
       replace H : (if t386 = true then (some true) else (some false)) = some r := H
       have A75 := aS A750
       clear A750
       have HC76 := aS H
       clear H
       try go_wp2
       have n0_ := aS (Kd.R_drew HO_8.out)
       have n1_ := aS (Kd.R_drew HO_371000.out)
       have n2_ := aS (Kd.R_drew HO_371001.out)
       have n3_ := aS (Kd.R_drew HO378.out)
       have n4_ := aS (blk_drew BK345.out)
       have n5_ := aS (blk_drew BK370.out)
       have n6_ := aS (below_drew1 HB.out)
       clear HO_8 HO_371000 HO_371001 HO378 BK345 BK370 HB
       have HO_8 := n0_; have HO_371000 := n1_; have HO_371001 := n2_; have HO378 := n3_; have BK345 := n4_; have BK370 := n5_; have HB := n6_
       clear n0_ n1_ n2_ n3_ n4_ n5_ n6_
       refine start_ (n := 5) (S := fun w' => w'.cell? ⟨gb370, 0, none⟩ = some (.slice Ao36 t364.length co36) ∧ w'.cell? ⟨gb370, 1, none⟩ = some (.slice Ao40 t367.length co40) ∧ w'.cell? ⟨gb345, 0, none⟩ = some (.slice A1_0 l1_0.length c1_0) ∧ w'.cell? ⟨gb345, 1, none⟩ = some (.slice A1_1 l1_1.length c1_1)) (ds := []) #[false, false, false, false, false] (by kernel_rfl) rfl rfl ⟨(blk_cell BK370.out 0).trans rfl, (blk_cell BK370.out 1).trans rfl, (blk_cell BK345.out 0).trans rfl, (blk_cell BK345.out 1).trans rfl⟩ (fun hHeld => ?_)
       generalize w72.drew = w77 at HO_8 HO_371000 HO_371001 HO378 BK345 BK370 HB hHeld ⊢
       refine take_ (i := 0) (N := some 54) (v := ?_) (a' := ?_) #[true, false, false, false, false] rfl rfl (by kernel_rfl) (fun _ _ _ h => h) (Or.inl ⟨by rfl, ?_⟩) hHeld ?_ ?_
       rotate_left
       ·
        rintro w' ⟨s0, s1, s2, s3⟩
        go_simp
        with_reducible rfl
       rotate_left
       ·
        simp only [Act.put, List.setIfInBounds_toArray, List.set_cons_zero, List.set_cons_succ, i64_w, i32_w]
        rfl
       refine take_ (i := 1) (N := some 55) (v := ?_) (a' := ?_) #[true, true, false, false, false] rfl rfl (by kernel_rfl) (fun _ _ _ h => h) (Or.inl ⟨by rfl, ?_⟩) hHeld ?_ ?_
       rotate_left
       ·
        rintro w' ⟨s0, s1, s2, s3⟩
        go_simp
        with_reducible rfl
       rotate_left
       ·
        simp only [Act.put, List.setIfInBounds_toArray, List.set_cons_zero, List.set_cons_succ, i64_w, i32_w]
        rfl
       refine one_ (i := 2) (N := some 56) #[true, true, true, false, false] rfl rfl (by kernel_rfl) (by decide) (fun K hK => ?_)
       refine goes_ Try.func20 (by kernel_rfl) rfl #[.agg #[.slice A1_0 l1_0.length c1_0, .slice A1_1 l1_1.length c1_1]] (by rfl) rfl rfl sG ?_
       with_reducible refine (laws_toLine.calls kj18 _ _ l1_0 _ _ l1_1 t380 t383 _ ?side1 ?side2 ?side3 ?side4 A74.out).mono ?_
       (case side1 => exact sC (Kd.C_below HR1_0.out HB.out))
       (case side2 => exact HC1_0.out)
       (case side3 => exact sC (Kd.C_below HR1_1.out HB.out))
       (case side4 => exact HC1_1.out)
       rintro e w78 ⟨v381, v384, rfl, ho0, ho1, hb⟩
       refine ⟨_, rfl, ?_⟩
       have n0_ := aS (Kd.R_below (sR HO_8.out) hb)
       have n1_ := aS (Kd.R_elder' (sR HO_371000.out) (Kd.R_base ho0) hb)
       have n2_ := aS (Kd.R_elder' (sR HO_371001.out) (Kd.R_base ho1) hb)
       have n3_ := aS (Kd.R_below (sR HO378.out) hb)
       have n4_ := aS (Kd.R_lower (Kd.R_new' ho0 (Kd.R_lt (sR HO_371000.out))) (below_size (sW HB.out)))
       have n5_ := aS (Kd.R_lower (Kd.R_new' ho1 (Kd.R_lt (sR HO_371001.out))) (below_size (sW HB.out)))
       have n6_ := aS (blk_below (g := gb345) (o := .cells #[.slice A1_0 l1_0.length c1_0, .slice A1_1 l1_1.length c1_1] 32 (0, 0)) (sB BK345.out) hb)
       have n7_ := aS (blk_below (g := gb370) (o := .cells #[.slice Ao36 t364.length co36, .slice Ao40 t367.length co40] 37 (0, 0)) (sB BK370.out) hb)
       have n8_ := aS (below_step (sW HB.out) hb)
       clear HO_8 HO_371000 HO_371001 HO378 BK345 BK370 HB
       have HO_8 := n0_; have HO_371000 := n1_; have HO_371001 := n2_; have HO378 := n3_; have HO382 := n4_; have HO385 := n5_; have BK345 := n6_; have BK370 := n7_; have HB := n8_
       clear n0_ n1_ n2_ n3_ n4_ n5_ n6_ n7_ n8_
       (try clear hb); (try clear hb2); (try clear hk); (try clear hi); (try clear ho0); (try clear ho1)
       obtain ⟨Ao79, co79, eo79⟩ := Kd.R_slice HO382.out
       (first | subst eo79 | (injection eo79 with f1_ f2_ f3_; have f4_ := f1_.symm; have f5_ := f3_.symm; clear f1_ f2_ f3_; subst f4_; subst f5_))
       obtain ⟨Ao80, co80, eo80⟩ := Kd.R_slice HO385.out
       (first | subst eo80 | (injection eo80 with f1_ f2_ f3_; have f4_ := f1_.symm; have f5_ := f3_.symm; clear f1_ f2_ f3_; subst f4_; subst f5_))
       refine hK.out _ _ ⟨(blk_cell BK370.out 0).trans rfl, (blk_cell BK370.out 1).trans rfl, (blk_cell BK345.out 0).trans rfl, (blk_cell BK345.out 1).trans rfl⟩ (fun hHeld => ?_)
       clear hK K
       refine norm_ (a' := ?_) ?_ ?_
       rotate_left
       ·
        show Act.put _ (some 56) _ = _
        simp only [Act.put, List.setIfInBounds_toArray, List.set_cons_zero, List.set_cons_succ, i64_w, i32_w]
        rfl
       refine one_ (i := 3) (N := some 57) #[true, true, true, true, false] rfl rfl (by kernel_rfl) (by decide) (fun K hK => ?_)
       refine goes_ Try.func22 (by kernel_rfl) rfl #[.agg #[.slice Ao36 t364.length co36, .slice Ao40 t367.length co40], .agg #[.slice Ao79 t380.length co79, .slice Ao80 t383.length co80]] (by rfl) rfl rfl sG ?_
       with_reducible refine (laws_eqLine.calls kj18 _ _ t364 _ _ t367 _ _ t380 _ _ t383 t386 _ ?side1 ?side2 ?side3 ?side4 ?side5 ?side6 ?side7 ?side8 A75.out).mono ?_
       (case side1 => exact sC (Kd.R_reads' HO_371000.out).2.2)
       (case side2 => exact (Kd.R_reads' HO_371000.out).2.1)
       (case side3 => exact sC (Kd.R_reads' HO_371001.out).2.2)
       (case side4 => exact (Kd.R_reads' HO_371001.out).2.1)
       (case side5 => exact sC (Kd.R_reads' HO382.out).2.2)
       (case side6 => exact (Kd.R_reads' HO382.out).2.1)
       (case side7 => exact sC (Kd.R_reads' HO385.out).2.2)
       (case side8 => exact (Kd.R_reads' HO385.out).2.1)
       rintro e w81 ⟨rfl, hb⟩
       refine ⟨_, rfl, ?_⟩
       have n0_ := aS (Kd.R_below (sR HO_8.out) hb)
       have n1_ := aS (Kd.R_below (sR HO_371000.out) hb)
       have n2_ := aS (Kd.R_below (sR HO_371001.out) hb)
       have n3_ := aS (Kd.R_below (sR HO378.out) hb)
       have n4_ := aS (Kd.R_below (sR HO382.out) hb)
       have n5_ := aS (Kd.R_below (sR HO385.out) hb)
       have n6_ := aS (blk_below (g := gb345) (o := .cells #[.slice A1_0 l1_0.length c1_0, .slice A1_1 l1_1.length c1_1] 32 (0, 0)) (sB BK345.out) hb)
       have n7_ := aS (blk_below (g := gb370) (o := .cells #[.slice Ao36 t364.length co36, .slice Ao40 t367.length co40] 37 (0, 0)) (sB BK370.out) hb)
       have n8_ := aS (below_step (sW HB.out) hb)
       clear HO_8 HO_371000 HO_371001 HO378 HO382 HO385 BK345 BK370 HB
       have HO_8 := n0_; have HO_371000 := n1_; have HO_371001 := n2_; have HO378 := n3_; have HO382 := n4_; have HO385 := n5_; have BK345 := n6_; have BK370 := n7_; have HB := n8_
       clear n0_ n1_ n2_ n3_ n4_ n5_ n6_ n7_ n8_
       (try clear hb); (try clear hb2); (try clear hk); (try clear hi)
       refine hK.out _ _ ⟨(blk_cell BK370.out 0).trans rfl, (blk_cell BK370.out 1).trans rfl, (blk_cell BK345.out 0).trans rfl, (blk_cell BK345.out 1).trans rfl⟩ (fun hHeld => ?_)
       clear hK K
       refine norm_ (a' := ?_) ?_ ?_
       rotate_left
       ·
        show Act.put _ (some 57) _ = _
        simp only [Act.put, List.setIfInBounds_toArray, List.set_cons_zero, List.set_cons_succ, i64_w, i32_w]
        rfl
       refine pure_ (i := 4) (N := some 58) (v := ?_) (a' := ?_) #[true, true, true, true, true] rfl rfl (by kernel_rfl) (fun _ _ _ h => h) (Or.inl ⟨by rfl, ?_⟩) ?_ ?_
       rotate_left
       ·
        intro w'
        go_simp
        with_reducible rfl
       rotate_left
       ·
        simp only [Act.put, List.setIfInBounds_toArray, List.set_cons_zero, List.set_cons_succ, i64_w, i32_w]
        rfl
       refine done_ (by kernel_rfl) ?_
       go_upto_if 58 with (fail)
       have H := HC76.out
       clear HC76
       by_cases c82 : t386 = true
       ·
        subst c82
        have H1 : (some true) = some r := by rw [if_pos rfl] at H; exact H
        clear H
        have H := H1
        clear H1
        obtain rfl := Option.some.inj H
        go_wp2
        go_ret
        exact ⟨by first | rfl | (simp [errW_none, errW_some, i64_w]; done) | (simp [errW_none, errW_some] <;> rfl) | (simp [*, errW_none, errW_some] <;> rfl), by repeat (first | (with_reducible first | exact HB.out | apply below_alloc | apply pw_below_drewN | apply below_drew1) | exact HB.out)⟩
       ·
        replace c82 := Bool.eq_false_iff.mpr c82
        subst c82
        have H1 : (some false) = some r := by rw [if_neg (show ¬ (false = true) by decide)] at H; exact H
        clear H
        have H := H1
        clear H1
        obtain rfl := Option.some.inj H
        go_wp2
        go_ret
        exact ⟨by first | rfl | (simp [errW_none, errW_some, i64_w]; done) | (simp [errW_none, errW_some] <;> rfl) | (simp [*, errW_none, errW_some] <;> rfl), by repeat (first | (with_reducible first | exact HB.out | apply below_alloc | apply pw_below_drewN | apply below_drew1) | exact HB.out)⟩
      ·
       replace c73 := Bool.eq_false_iff.mpr c73
       subst c73
       have H1 : (some false) = some r := by rw [if_neg (show ¬ (false = true) by decide)] at H; exact H
       clear H
       have H := H1
       clear H1
       obtain rfl := Option.some.inj H
       go_wp2
       go_ret
       exact ⟨by first | rfl | (simp [errW_none, errW_some, i64_w]; done) | (simp [errW_none, errW_some] <;> rfl) | (simp [*, errW_none, errW_some] <;> rfl), by repeat (first | (with_reducible first | exact HB.out | apply below_alloc | apply pw_below_drewN | apply below_drew1) | exact HB.out)⟩

/-- THE ONE PURE STATEMENT of laws_FnExactLineStrength. -/
def laws_FnExactLineStrength.Pure : Prop := ∀ (l0 : List (S67)) (l1_0 : List (S41)) (l1_1 : List Int), (l0.length * 32 ≤ 140737488351232 ∧ l0.length ≤ maxLen ∧ (∀ y0 ∈ l0, (y0.f0.size ≤ 140737488351232) ∧ ((Lit.int .i64 y0.f1).wf = true) ∧ ((Lit.int .i64 y0.f2).wf = true))) → (l1_0.length * 16 ≤ 140737488351232 ∧ l1_0.length ≤ maxLen ∧ (∀ y0 ∈ l1_0, ((Lit.int .i64 y0.f0).wf = true) ∧ ((Lit.int .i64 y0.f1).wf = true))) → (l1_1.length * 8 ≤ 140737488351232 ∧ l1_1.length ≤ maxLen ∧ (∀ y0 ∈ l1_1, (Lit.int .i64 y0).wf = true)) → ∃ k, laws_FnExactLineStrength.f k l0 l1_0 l1_1 = some true
theorem laws_FnExactLineStrength.walk : True := trivial

end Go.Proofs.Ytdgodlccejoibaa.QFnExactLineStrength

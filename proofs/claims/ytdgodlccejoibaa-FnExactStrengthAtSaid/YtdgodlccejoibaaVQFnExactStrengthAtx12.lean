/- What the Go functions of this law compute, each as a Lean function, and that each call comes to that answer; written by a program of this session. No condition. -/
import Derived.Test.YtdgodlccejoibaaVQFnExactStrengthAtx0
import Derived.Test.YtdgodlccejoibaaVQFnExactStrengthAtx1
import Derived.Test.YtdgodlccejoibaaVQFnExactStrengthAtx2
import Derived.Test.YtdgodlccejoibaaVQFnExactStrengthAtx3
import Derived.Test.YtdgodlccejoibaaVQFnExactStrengthAtx7
import Derived.Test.YtdgodlccejoibaaVQFnExactStrengthAtx11
namespace Go.Proofs.Ytdgodlccejoibaa.QFnExactStrengthAt
open Go.RowKit Go.Proofs.YtdgodlccejoibaaW.PrintWords Go.Proofs.YtdgodlccejoibaaW.PrintLast Go.Proofs.YtdgodlccejoibaaW.PrintMore
attribute [local go_sem] max2_int min2_int max_two min_two max_three min_three max_four min_four   -- for this text's walks alone
set_option linter.unusedVariables false
set_option linter.unusedSimpArgs false

/-! ### laws_FnExactStrengthAt: function 8 -/
def laws_FnExactStrengthAt.j0 : Nat → List (S67) → List (S68) → Bool → List (S41) → List Int → List (S44) → List Int → Option (Bool)
 | 0, _, _, _, _, _, _, _ => none
 | k + 1, x0, x10, x52, x282000, x282001, x307000, x307001 => if x52 = true then (some false) else ((laws_toJoinS.f k x0).bind fun t312 => ((laws_eqJoinS.f k x10 t312).bind fun t315 => (if t315 = true then ((laws_toLine.f k x282000 x282001).bind fun bt316 => ((laws_eqLine.f k x307000 x307001 bt316.1 bt316.2).bind fun t322 => (if t322 = true then (some true) else (some false)))) else (some false))))
def laws_FnExactStrengthAt.f (k : Nat) (l0 : List (S67)) (l1_0 : List (S41)) (l1_1 : List Int) (a2 : Int) : Option (Bool) := (laws_szJoinS.f k l0 1048576).bind fun t282 => (if t282 < 0 then (some true) else ((laws_szLine.f l1_0 l1_1 t282).bind fun t283 => (if t283 < 0 then (some true) else ((laws_toJoinS.f k l0).bind fun t284 => ((laws_toLine.f k l1_0 l1_1).bind fun bt287 => ((spec_StrengthAt.f k t284 bt287.1 bt287.2 a2).bind fun bt293 => ((laws_toJoinS.f k l0).bind fun t297 => ((laws_toLine.f k l1_0 l1_1).bind fun bt300 => ((impl_StrengthAt.f k t297 bt300.1 bt300.2 a2).bind fun bt307 => ((laws_eqFraction.f bt307.1 bt307.2.1 bt293.1 bt293.2.1).bind fun t311 => (if t311 = true then (laws_FnExactStrengthAt.j0 k l0 t297 (bt307.2.2 != bt293.2.2) l1_0 l1_1 bt300.1 bt300.2) else (laws_FnExactStrengthAt.j0 k l0 t297 true l1_0 l1_1 bt300.1 bt300.2))))))))))))
theorem laws_FnExactStrengthAt.mono_l : ∀ k, (∀ y0 y1 y2 y3 y4 y5 y6, LeO (laws_FnExactStrengthAt.j0 k y0 y1 y2 y3 y4 y5 y6) (laws_FnExactStrengthAt.j0 (k + 1) y0 y1 y2 y3 y4 y5 y6))
 | 0 => fun _ _ _ _ _ _ _ r h => by simp [laws_FnExactStrengthAt.j0] at h
 | k + 1 => by
  have ih0 := laws_FnExactStrengthAt.mono_l k
  ·
   intro y0 y1 y2 y3 y4 y5 y6
   unfold laws_FnExactStrengthAt.j0
   repeat' first
   | (with_reducible exact ih0 _ _ _ _ _ _ _)
   | (with_reducible exact impl_StrengthAt.mono _ _ _ _ _)
   | (with_reducible exact laws_eqJoinS.mono _ _ _)
   | (with_reducible exact laws_eqLine.mono _ _ _ _ _)
   | (with_reducible exact laws_szJoinS.mono _ _ _)
   | (with_reducible exact laws_toJoinS.mono _ _)
   | (with_reducible exact laws_toLine.mono _ _ _)
   | (with_reducible exact spec_StrengthAt.mono _ _ _ _ _)
   | (with_reducible exact LeO.refl _)
   | (with_reducible exact LeO.none _)
   | (with_reducible refine LeO.ite ?_ ?_)
   | (with_reducible refine LeO.bind ?_ (fun _ => ?_))
   | exact ih0 _ _ _ _ _ _ _
   | exact impl_StrengthAt.mono _ _ _ _ _
   | exact laws_eqJoinS.mono _ _ _
   | exact laws_eqLine.mono _ _ _ _ _
   | exact laws_szJoinS.mono _ _ _
   | exact laws_toJoinS.mono _ _
   | exact laws_toLine.mono _ _ _
   | exact spec_StrengthAt.mono _ _ _ _ _
   | exact LeO.none _
   | refine LeO.ite ?_ ?_
   | refine LeO.bind ?_ (fun _ => ?_)
theorem laws_FnExactStrengthAt.mono : ∀ a0 a1 a2 a3 k, LeO (laws_FnExactStrengthAt.f k a0 a1 a2 a3) (laws_FnExactStrengthAt.f (k + 1) a0 a1 a2 a3) := by
 intro a0 a1 a2 a3 k
 have ih0 := laws_FnExactStrengthAt.mono_l k
 unfold laws_FnExactStrengthAt.f
 repeat' first
   | (with_reducible exact ih0 _ _ _ _ _ _ _)
   | (with_reducible exact impl_StrengthAt.mono _ _ _ _ _)
   | (with_reducible exact laws_eqJoinS.mono _ _ _)
   | (with_reducible exact laws_eqLine.mono _ _ _ _ _)
   | (with_reducible exact laws_szJoinS.mono _ _ _)
   | (with_reducible exact laws_toJoinS.mono _ _)
   | (with_reducible exact laws_toLine.mono _ _ _)
   | (with_reducible exact spec_StrengthAt.mono _ _ _ _ _)
   | (with_reducible exact LeO.refl _)
   | (with_reducible exact LeO.none _)
   | (with_reducible refine LeO.ite ?_ ?_)
   | (with_reducible refine LeO.bind ?_ (fun _ => ?_))
   | exact ih0 _ _ _ _ _ _ _
   | exact impl_StrengthAt.mono _ _ _ _ _
   | exact laws_eqJoinS.mono _ _ _
   | exact laws_eqLine.mono _ _ _ _ _
   | exact laws_szJoinS.mono _ _ _
   | exact laws_toJoinS.mono _ _
   | exact laws_toLine.mono _ _ _
   | exact spec_StrengthAt.mono _ _ _ _ _
   | exact LeO.none _
   | refine LeO.ite ?_ ?_
   | refine LeO.bind ?_ (fun _ => ?_)
def laws_FnExactStrengthAt.T8 : Bool × List (List Nat × List Nat) := (true, [([], []), ([0], [0]), ([], []), ([2, 1], [2]), ([], []), ([1, 3, 4, 3], [1, 3, 4]), ([5], [5]), ([6], [6]), ([6], [6]), ([], []), ([9, 7, 5, 0, 1, 2, 3, 4, 5, 6, 7, 9], [7, 9]), ([8, 10, 0, 1, 2, 3, 4, 5, 6, 7, 8, 9, 10], [8])])
def laws_FnExactStrengthAt.B8 : List Nat := [0, 1, 0, 7, 0, 31, 63, 127, 127, 0, 767, 2047]
theorem laws_FnExactStrengthAt.tab8 : rtab .any (opsOf Try.f8 8) = laws_FnExactStrengthAt.T8 := by kernel_rfl
theorem laws_FnExactStrengthAt.bits8 : waitsOk laws_FnExactStrengthAt.T8.2 laws_FnExactStrengthAt.B8 = true := by kernel_rfl
set_option maxHeartbeats 8000000 in
set_option maxRecDepth 100000 in
theorem laws_FnExactStrengthAt.calls (k : Nat) (A0 : Option Addr) (c0 : Nat) (l0 : List (S67)) (A1_0 : Option Addr) (c1_0 : Nat) (l1_0 : List (S41)) (A1_1 : Option Addr) (c1_1 : Nat) (l1_1 : List Int) (a2 : Int) (r : Bool) (w : World) (hr0 : Kd.C k67 w A0 l0.length l0) (hc0 : l0.length ≤ c0) (hr1_0 : Kd.C k41 w A1_0 l1_0.length l1_0) (hc1_0 : l1_0.length ≤ c1_0) (hr1_1 : Kd.C (Kd.int .i64) w A1_1 l1_1.length l1_1) (hc1_1 : l1_1.length ≤ c1_1) (h : laws_FnExactStrengthAt.f k l0 l1_0 l1_1 a2 = some r) :
  Calls Try.prog 8 #[.slice A0 l0.length c0, .agg #[.slice A1_0 l1_0.length c1_0, .slice A1_1 l1_1.length c1_1], .int .i64 a2] w fun e w' => e = .returned (.bool r) ∧ Below w.heap.size w w' := by
 have hu32 := Try.underlying32
 have hu51 := Try.underlying51
 have hu37 := Try.underlying37
 have HR0 := aS hr0
 have HC0 := aS hc0
 clear hr0 hc0
 have HR1_0 := aS hr1_0
 have HC1_0 := aS hc1_0
 clear hr1_0 hc1_0
 have HR1_1 := aS hr1_1
 have HC1_1 := aS hc1_1
 clear hr1_1 hc1_1
 have HB := aS (Below.refl w.heap.size w)
 have H : ((laws_szJoinS.f k l0 1048576).bind fun t282 => (if t282 < 0 then (some true) else ((laws_szLine.f l1_0 l1_1 t282).bind fun t283 => (if t283 < 0 then (some true) else ((laws_toJoinS.f k l0).bind fun t284 => ((laws_toLine.f k l1_0 l1_1).bind fun bt287 => ((spec_StrengthAt.f k t284 bt287.1 bt287.2 a2).bind fun bt293 => ((laws_toJoinS.f k l0).bind fun t297 => ((laws_toLine.f k l1_0 l1_1).bind fun bt300 => ((impl_StrengthAt.f k t297 bt300.1 bt300.2 a2).bind fun bt307 => ((laws_eqFraction.f bt307.1 bt307.2.1 bt293.1 bt293.2.1).bind fun t311 => (if t311 = true then (laws_FnExactStrengthAt.j0 k l0 t297 (bt307.2.2 != bt293.2.2) l1_0 l1_1 bt300.1 bt300.2) else (laws_FnExactStrengthAt.j0 k l0 t297 true l1_0 l1_1 bt300.1 bt300.2))))))))))))) = some r := h
 clear h
 replace H := Option.bind_eq_some_iff.mp H
 obtain ⟨t282, A40, H⟩ := H
 replace H : (if t282 < 0 then (some true) else ((laws_szLine.f l1_0 l1_1 t282).bind fun t283 => (if t283 < 0 then (some true) else ((laws_toJoinS.f k l0).bind fun t284 => ((laws_toLine.f k l1_0 l1_1).bind fun bt287 => ((spec_StrengthAt.f k t284 bt287.1 bt287.2 a2).bind fun bt293 => ((laws_toJoinS.f k l0).bind fun t297 => ((laws_toLine.f k l1_0 l1_1).bind fun bt300 => ((impl_StrengthAt.f k t297 bt300.1 bt300.2 a2).bind fun bt307 => ((laws_eqFraction.f bt307.1 bt307.2.1 bt293.1 bt293.2.1).bind fun t311 => (if t311 = true then (laws_FnExactStrengthAt.j0 k l0 t297 (bt307.2.2 != bt293.2.2) l1_0 l1_1 bt300.1 bt300.2) else (laws_FnExactStrengthAt.j0 k l0 t297 true l1_0 l1_1 bt300.1 bt300.2)))))))))))) = some r := H
 have A4 := aS A40
 clear A40
 have HC5 := aS H
 clear H
 go_enter Try.func8, Try.ntmps8
 go_upto_if 18 with (first | ((with_reducible refine gate_dst (N := 4) rfl ?_); refine box_event ?hg (N := 4) ?hd (cs := #[.slice A1_0 l1_0.length c1_0, .slice A1_1 l1_1.length c1_1]) (t := 32) ?hr ?_; (case hd => rfl); (case hg => rfl); (case hr => first | (go_simp; done) | (go_simp; rfl)); intro gb281 hg w6 hbox hb; have n0_ := aS (below_step (sW HB.out) hb); have n1_ := aS (hbox); have n2_ := aS ((by rw [hg]; exact (below_size (sW HB.out)) : w.heap.size ≤ gb281)); have n3_ := aS ((by rw [hg]; exact (below_size (sW HB.out)) : w.heap.size ≤ gb281)); clear HB; have HB := n0_; have BK281 := n1_; have GW281 := n2_; have GE281 := n3_; clear n0_ n1_ n2_ n3_; clear hb hbox hg) | ((with_reducible refine gate_callee (f := 13) rfl ?_); refine goesL_ (some 16) rfl rfl Try.func13 (by kernel_rfl) rfl #[.slice A0 l0.length c0, .int .i64 1048576] rfl sG ?_; (with_reducible refine (laws_szJoinS.calls k _ _ l0 1048576 t282 _ ?side1 ?side2 A4.out).mono ?_); (case side1 => exact sC (Kd.C_below HR0.out HB.out)); (case side2 => exact HC0.out); rintro e w7 ⟨rfl, hb⟩; refine ⟨_, rfl, ?_⟩; have n0_ := aS (blk_below (g := gb281) (o := .cells #[.slice A1_0 l1_0.length c1_0, .slice A1_1 l1_1.length c1_1] 32 (0, 0)) (sB BK281.out) hb); have n1_ := aS (below_step (sW HB.out) hb); clear BK281 HB; have BK281 := n0_; have HB := n1_; clear n0_ n1_; (try clear hb); (try clear hb2); (try clear hk); (try clear hi)))
 (try simp only [Act.put, List.setIfInBounds_toArray, List.set_cons_zero, List.set_cons_succ])
 have H := HC5.out
 clear HC5
 by_cases c8 : t282 < 0
 ·
  rw [if_pos c8] at H
  have c8b0 : decide (t282 < 0) = true := decide_eq_true c8
  clear c8
  (first | rw [c8b0] | (simp only [i64_w, i32_w]; rw [c8b0]) | (rw [c8b2]; simp only [Bool.not_false, Bool.not_true]) | skip)
  obtain rfl := Option.some.inj H
  go_wp2
  go_ret
  exact ⟨by first | rfl | (simp [errW_none, errW_some, i64_w]; done) | (simp [errW_none, errW_some] <;> rfl) | (simp [*, errW_none, errW_some] <;> rfl), by repeat (first | (with_reducible first | exact HB.out | apply below_alloc | apply pw_below_drewN | apply below_drew1) | exact HB.out)⟩
 ·
  rw [if_neg c8] at H
  have c8b0 : decide (t282 < 0) = false := decide_eq_false c8
  clear c8
  (first | rw [c8b0] | (simp only [i64_w, i32_w]; rw [c8b0]) | (rw [c8b2]; simp only [Bool.not_false, Bool.not_true]) | skip)
  replace H := Option.bind_eq_some_iff.mp H
  obtain ⟨t283, A90, H⟩ := H
  replace H : (if t283 < 0 then (some true) else ((laws_toJoinS.f k l0).bind fun t284 => ((laws_toLine.f k l1_0 l1_1).bind fun bt287 => ((spec_StrengthAt.f k t284 bt287.1 bt287.2 a2).bind fun bt293 => ((laws_toJoinS.f k l0).bind fun t297 => ((laws_toLine.f k l1_0 l1_1).bind fun bt300 => ((impl_StrengthAt.f k t297 bt300.1 bt300.2 a2).bind fun bt307 => ((laws_eqFraction.f bt307.1 bt307.2.1 bt293.1 bt293.2.1).bind fun t311 => (if t311 = true then (laws_FnExactStrengthAt.j0 k l0 t297 (bt307.2.2 != bt293.2.2) l1_0 l1_1 bt300.1 bt300.2) else (laws_FnExactStrengthAt.j0 k l0 t297 true l1_0 l1_1 bt300.1 bt300.2)))))))))) = some r := H
  have A9 := aS A90
  clear A90
  have HC10 := aS H
  clear H
  have hcz11_0 : w7.cell? ⟨gb281, 0, none⟩ = some (.slice A1_0 l1_0.length c1_0) := (blk_cell BK281.out 0).trans rfl
  have hcz11_1 : w7.cell? ⟨gb281, 1, none⟩ = some (.slice A1_1 l1_1.length c1_1) := (blk_cell BK281.out 1).trans rfl
  have hfz11_0 := blk_frozen BK281.out 0
  have hfz11_1 := blk_frozen BK281.out 1
  go_upto_if 23 with (first | ((with_reducible refine gate_callee (f := 18) rfl ?_); refine goesL_ (some 21) rfl rfl Try.func18 (by kernel_rfl) rfl #[.agg #[.slice A1_0 l1_0.length c1_0, .slice A1_1 l1_1.length c1_1], .int .i64 t282] rfl sG ?_; (with_reducible refine (laws_szLine.calls _ _ l1_0 _ _ l1_1 t282 t283 _ ?side1 ?side2 ?side3 ?side4 A9.out).mono ?_); (case side1 => exact sC (Kd.C_below HR1_0.out HB.out)); (case side2 => exact HC1_0.out); (case side3 => exact sC (Kd.C_below HR1_1.out HB.out)); (case side4 => exact HC1_1.out); rintro e w12 ⟨rfl, hb⟩; refine ⟨_, rfl, ?_⟩; have n0_ := aS (blk_below (g := gb281) (o := .cells #[.slice A1_0 l1_0.length c1_0, .slice A1_1 l1_1.length c1_1] 32 (0, 0)) (sB BK281.out) hb); have n1_ := aS (below_step (sW HB.out) hb); clear BK281 HB; have BK281 := n0_; have HB := n1_; clear n0_ n1_; (try clear hb); (try clear hb2); (try clear hk); (try clear hi)))
  (try simp only [Act.put, List.setIfInBounds_toArray, List.set_cons_zero, List.set_cons_succ])
  have H := HC10.out
  clear HC10
  by_cases c13 : t283 < 0
  ·
   rw [if_pos c13] at H
   have c13b0 : decide (t283 < 0) = true := decide_eq_true c13
   clear c13
   (first | rw [c13b0] | (simp only [i64_w, i32_w]; rw [c13b0]) | (rw [c13b2]; simp only [Bool.not_false, Bool.not_true]) | skip)
   obtain rfl := Option.some.inj H
   go_wp2
   go_ret
   exact ⟨by first | rfl | (simp [errW_none, errW_some, i64_w]; done) | (simp [errW_none, errW_some] <;> rfl) | (simp [*, errW_none, errW_some] <;> rfl), by repeat (first | (with_reducible first | exact HB.out | apply below_alloc | apply pw_below_drewN | apply below_drew1) | exact HB.out)⟩
  ·
   rw [if_neg c13] at H
   have c13b0 : decide (t283 < 0) = false := decide_eq_false c13
   clear c13
   (first | rw [c13b0] | (simp only [i64_w, i32_w]; rw [c13b0]) | (rw [c13b2]; simp only [Bool.not_false, Bool.not_true]) | skip)
   replace H := Option.bind_eq_some_iff.mp H
   obtain ⟨t284, A140, H⟩ := H
   replace H : ((laws_toLine.f k l1_0 l1_1).bind fun bt287 => ((spec_StrengthAt.f k t284 bt287.1 bt287.2 a2).bind fun bt293 => ((laws_toJoinS.f k l0).bind fun t297 => ((laws_toLine.f k l1_0 l1_1).bind fun bt300 => ((impl_StrengthAt.f k t297 bt300.1 bt300.2 a2).bind fun bt307 => ((laws_eqFraction.f bt307.1 bt307.2.1 bt293.1 bt293.2.1).bind fun t311 => (if t311 = true then (laws_FnExactStrengthAt.j0 k l0 t297 (bt307.2.2 != bt293.2.2) l1_0 l1_1 bt300.1 bt300.2) else (laws_FnExactStrengthAt.j0 k l0 t297 true l1_0 l1_1 bt300.1 bt300.2)))))))) = some r := H
   have A14 := aS A140
   clear A140
   replace H := Option.bind_eq_some_iff.mp H
   obtain ⟨⟨t287, t290⟩, A150, H⟩ := H
   replace H : ((spec_StrengthAt.f k t284 t287 t290 a2).bind fun bt293 => ((laws_toJoinS.f k l0).bind fun t297 => ((laws_toLine.f k l1_0 l1_1).bind fun bt300 => ((impl_StrengthAt.f k t297 bt300.1 bt300.2 a2).bind fun bt307 => ((laws_eqFraction.f bt307.1 bt307.2.1 bt293.1 bt293.2.1).bind fun t311 => (if t311 = true then (laws_FnExactStrengthAt.j0 k l0 t297 (bt307.2.2 != bt293.2.2) l1_0 l1_1 bt300.1 bt300.2) else (laws_FnExactStrengthAt.j0 k l0 t297 true l1_0 l1_1 bt300.1 bt300.2))))))) = some r := H
   have A15 := aS A150
   clear A150
   replace H := Option.bind_eq_some_iff.mp H
   obtain ⟨⟨t293, t294, t295⟩, A160, H⟩ := H
   replace H : ((laws_toJoinS.f k l0).bind fun t297 => ((laws_toLine.f k l1_0 l1_1).bind fun bt300 => ((impl_StrengthAt.f k t297 bt300.1 bt300.2 a2).bind fun bt307 => ((laws_eqFraction.f bt307.1 bt307.2.1 t293 t294).bind fun t311 => (if t311 = true then (laws_FnExactStrengthAt.j0 k l0 t297 (bt307.2.2 != t295) l1_0 l1_1 bt300.1 bt300.2) else (laws_FnExactStrengthAt.j0 k l0 t297 true l1_0 l1_1 bt300.1 bt300.2)))))) = some r := H
   have A16 := aS A160
   clear A160
   replace H := Option.bind_eq_some_iff.mp H
   obtain ⟨t297, A170, H⟩ := H
   replace H : ((laws_toLine.f k l1_0 l1_1).bind fun bt300 => ((impl_StrengthAt.f k t297 bt300.1 bt300.2 a2).bind fun bt307 => ((laws_eqFraction.f bt307.1 bt307.2.1 t293 t294).bind fun t311 => (if t311 = true then (laws_FnExactStrengthAt.j0 k l0 t297 (bt307.2.2 != t295) l1_0 l1_1 bt300.1 bt300.2) else (laws_FnExactStrengthAt.j0 k l0 t297 true l1_0 l1_1 bt300.1 bt300.2))))) = some r := H
   have A17 := aS A170
   clear A170
   replace H := Option.bind_eq_some_iff.mp H
   obtain ⟨⟨t300, t303⟩, A180, H⟩ := H
   replace H : ((impl_StrengthAt.f k t297 t300 t303 a2).bind fun bt307 => ((laws_eqFraction.f bt307.1 bt307.2.1 t293 t294).bind fun t311 => (if t311 = true then (laws_FnExactStrengthAt.j0 k l0 t297 (bt307.2.2 != t295) l1_0 l1_1 t300 t303) else (laws_FnExactStrengthAt.j0 k l0 t297 true l1_0 l1_1 t300 t303)))) = some r := H
   have A18 := aS A180
   clear A180
   replace H := Option.bind_eq_some_iff.mp H
   obtain ⟨⟨t307, t308, t309⟩, A190, H⟩ := H
   replace H : ((laws_eqFraction.f t307 t308 t293 t294).bind fun t311 => (if t311 = true then (laws_FnExactStrengthAt.j0 k l0 t297 (t309 != t295) l1_0 l1_1 t300 t303) else (laws_FnExactStrengthAt.j0 k l0 t297 true l1_0 l1_1 t300 t303))) = some r := H
   have A19 := aS A190
   clear A190
   have HC20 := aS H
   clear H
   try go_wp2
   have n0_ := aS (blk_drew BK281.out)
   have n1_ := aS (below_drew1 HB.out)
   clear BK281 HB
   have BK281 := n0_; have HB := n1_
   clear n0_ n1_
   refine start_ (n := 12) (S := fun w' => w'.cell? ⟨gb281, 0, none⟩ = some (.slice A1_0 l1_0.length c1_0) ∧ w'.cell? ⟨gb281, 1, none⟩ = some (.slice A1_1 l1_1.length c1_1)) (ds := []) #[false, false, false, false, false, false, false, false, false, false, false, false] (by kernel_rfl) rfl rfl ⟨(blk_cell BK281.out 0).trans rfl, (blk_cell BK281.out 1).trans rfl⟩ (fun hHeld => ?_); refine with_tabW laws_FnExactStrengthAt.tab8 laws_FnExactStrengthAt.bits8 (fun HT_ HW_ => ?_)
   generalize w12.drew = w21 at BK281 HB hHeld ⊢
   refine pure_ (i := 0) (N := some 25) (v := ?_) (a' := ?_) #[true, false, false, false, false, false, false, false, false, false, false, false] rfl rfl (any_of HT_.out (by kernel_rfl)) (fun _ _ _ h => h) (Or.inl ⟨by rfl, ?_⟩) ?_ ?_
   rotate_left
   ·
    intro w'
    go_simp
    with_reducible rfl
   rotate_left
   ·
    simp only [Act.put, List.setIfInBounds_toArray, List.set_cons_zero, List.set_cons_succ, i64_w, i32_w]
    rfl
   refine pure_ (i := 4) (N := some 29) (v := ?_) (a' := ?_) #[true, false, false, false, true, false, false, false, false, false, false, false] rfl rfl (any_of HT_.out (by kernel_rfl)) (fun _ _ _ h => h) (Or.inl ⟨by rfl, ?_⟩) ?_ ?_
   rotate_left
   ·
    intro w'
    go_simp
    with_reducible rfl
   rotate_left
   ·
    simp only [Act.put, List.setIfInBounds_toArray, List.set_cons_zero, List.set_cons_succ, i64_w, i32_w]
    rfl
   refine take_ (i := 2) (N := some 27) (v := ?_) (a' := ?_) #[true, false, true, false, true, false, false, false, false, false, false, false] rfl rfl (take_ofW HT_.out HW_.out (by kernel_rfl)) (fun _ _ _ h => h) (Or.inl ⟨by rfl, ?_⟩) hHeld ?_ ?_
   rotate_left
   ·
    rintro w' ⟨s0, s1⟩
    go_simp
    with_reducible rfl
   rotate_left
   ·
    simp only [Act.put, List.setIfInBounds_toArray, List.set_cons_zero, List.set_cons_succ, i64_w, i32_w]
    rfl
   refine join_ (σ := Value × Value × Value × Nat) 2 #[true, true, true, true, true, true, true, true, true, true, false, false] (fun s_ => [(26, s_.1), (28, .agg #[s_.2.1, s_.2.2.1]), (30, .tuple #[.agg #[.int .i64 t293, .int .i64 t294], .int .i64 t295]), (8, .pointer (some ⟨s_.2.2.2, 0, none⟩)), (24, .tuple #[.agg #[.int .i64 t293, .int .i64 t294], .int .i64 t295]), (31, .agg #[.int .i64 t293, .int .i64 t294]), (32, .int .i64 t295)]) (fun s_ w' => (w'.cell? ⟨gb281, 0, none⟩ = some (.slice A1_0 l1_0.length c1_0) ∧ w'.cell? ⟨gb281, 1, none⟩ = some (.slice A1_1 l1_1.length c1_1)) ∧ (Kd.R k68 68 w' w.heap.size (fun _ => True) s_.1 t284) ∧ (Kd.R k44 44 w' w.heap.size (fun _ => True) s_.2.1 t287) ∧ (Kd.R (Kd.int .i64) 2 w' w.heap.size (fun _ => True) s_.2.2.1 t290) ∧ (w'.heap[gb281]? = some (.cells #[.slice A1_0 l1_0.length c1_0, .slice A1_1 l1_1.length c1_1] 32 (0, 0))) ∧ (w'.heap[s_.2.2.2]? = some (.cells #[.int .i64 0, .int .i64 0] 51 (0, 0))) ∧ (w.heap.size ≤ s_.2.2.2) ∧ (w.heap.size ≤ s_.2.2.2) ∧ (gb281 ≠ s_.2.2.2) ∧ (s_.2.2.2 ≠ gb281) ∧ (Below w.heap.size w w')) ?_ ?_
   rotate_left
   ·
    intro hCont
    refine two_ (i := 1) (j := 9) (Ni := some 26) (Nj := some 8) #[true, true, true, false, true, false, false, false, false, false, false, false] #[true, false, true, false, true, false, false, false, false, true, false, false] rfl rfl rfl rfl (two_of HT_.out (by kernel_rfl)) (by decide) (by decide) (fun K hK => ?_) (fun K hK => ?_)
    ·
     skip
     refine goes_ Try.func15 (by kernel_rfl) rfl #[.slice A0 l0.length c0] (by rfl) rfl rfl sG ?_
     with_reducible refine (laws_toJoinS.calls k _ _ l0 t284 _ ?side1 ?side2 A14.out).mono ?_
     (case side1 => exact sC (Kd.C_below HR0.out HB.out))
     (case side2 => exact HC0.out)
     rintro e w22 ⟨v285, rfl, ho0, hb⟩
     refine ⟨_, rfl, ?_⟩
     have n0_ := aS (Kd.R_lower ho0 (below_size (sW HB.out)))
     have n1_ := aS (blk_below (g := gb281) (o := .cells #[.slice A1_0 l1_0.length c1_0, .slice A1_1 l1_1.length c1_1] 32 (0, 0)) (sB BK281.out) hb)
     have n2_ := aS (below_step (sW HB.out) hb)
     clear BK281 HB
     have HO286 := n0_; have BK281 := n1_; have HB := n2_
     clear n0_ n1_ n2_
     (try clear hb); (try clear hb2); (try clear hk); (try clear hi); (try clear ho0)
     refine hK.out _ _ ⟨(blk_cell BK281.out 0).trans rfl, (blk_cell BK281.out 1).trans rfl⟩ (fun hHeld => ?_)
     clear hK K
     refine norm_ (a' := ?_) ?_ ?_
     rotate_left
     ·
      show Act.put _ (some 26) _ = _
      simp only [Act.put, List.setIfInBounds_toArray, List.set_cons_zero, List.set_cons_succ, i64_w, i32_w]
      rfl
     refine two_ (i := 3) (j := 9) (Ni := some 28) (Nj := some 8) #[true, true, true, true, true, false, false, false, false, false, false, false] #[true, true, true, false, true, false, false, false, false, true, false, false] rfl rfl rfl rfl (two_of HT_.out (by kernel_rfl)) (by decide) (by decide) (fun K hK => ?_) (fun K hK => ?_)
     ·
      skip
      refine goes_ Try.func20 (by kernel_rfl) rfl #[.agg #[.slice A1_0 l1_0.length c1_0, .slice A1_1 l1_1.length c1_1]] (by rfl) rfl rfl sG ?_
      with_reducible refine (laws_toLine.calls k _ _ l1_0 _ _ l1_1 t287 t290 _ ?side1 ?side2 ?side3 ?side4 A15.out).mono ?_
      (case side1 => exact sC (Kd.C_below HR1_0.out HB.out))
      (case side2 => exact HC1_0.out)
      (case side3 => exact sC (Kd.C_below HR1_1.out HB.out))
      (case side4 => exact HC1_1.out)
      rintro e w23 ⟨v288, v291, rfl, ho0, ho1, hb⟩
      refine ⟨_, rfl, ?_⟩
      have n0_ := aS (Kd.R_below (sR HO286.out) hb)
      have n1_ := aS (Kd.R_lower ho0 (below_size (sW HB.out)))
      have n2_ := aS (Kd.R_lower ho1 (below_size (sW HB.out)))
      have n3_ := aS (blk_below (g := gb281) (o := .cells #[.slice A1_0 l1_0.length c1_0, .slice A1_1 l1_1.length c1_1] 32 (0, 0)) (sB BK281.out) hb)
      have n4_ := aS (below_step (sW HB.out) hb)
      clear HO286 BK281 HB
      have HO286 := n0_; have HO289 := n1_; have HO292 := n2_; have BK281 := n3_; have HB := n4_
      clear n0_ n1_ n2_ n3_ n4_
      (try clear hb); (try clear hb2); (try clear hk); (try clear hi); (try clear ho0); (try clear ho1)
      obtain ⟨Ao24, co24, eo24⟩ := Kd.R_slice HO286.out
      (first | subst eo24 | (injection eo24 with f1_ f2_ f3_; have f4_ := f1_.symm; have f5_ := f3_.symm; clear f1_ f2_ f3_; subst f4_; subst f5_))
      obtain ⟨Ao25, co25, eo25⟩ := Kd.R_slice HO289.out
      (first | subst eo25 | (injection eo25 with f1_ f2_ f3_; have f4_ := f1_.symm; have f5_ := f3_.symm; clear f1_ f2_ f3_; subst f4_; subst f5_))
      obtain ⟨Ao26, co26, eo26⟩ := Kd.R_slice HO292.out
      (first | subst eo26 | (injection eo26 with f1_ f2_ f3_; have f4_ := f1_.symm; have f5_ := f3_.symm; clear f1_ f2_ f3_; subst f4_; subst f5_))
      refine hK.out _ _ ⟨(blk_cell BK281.out 0).trans rfl, (blk_cell BK281.out 1).trans rfl⟩ (fun hHeld => ?_)
      clear hK K
      refine norm_ (a' := ?_) ?_ ?_
      rotate_left
      ·
       show Act.put _ (some 28) _ = _
       simp only [Act.put, List.setIfInBounds_toArray, List.set_cons_zero, List.set_cons_succ, i64_w, i32_w]
       rfl
      refine two_ (i := 5) (j := 9) (Ni := some 30) (Nj := some 8) #[true, true, true, true, true, true, false, false, false, false, false, false] #[true, true, true, true, true, false, false, false, false, true, false, false] rfl rfl rfl rfl (two_of HT_.out (by kernel_rfl)) (by decide) (by decide) (fun K hK => ?_) (fun K hK => ?_)
      ·
       skip
       refine goes_ Try.func30 (by kernel_rfl) rfl #[.slice Ao24 t284.length co24, .agg #[.slice Ao25 t287.length co25, .slice Ao26 t290.length co26], .int .i64 a2] (by rfl) rfl rfl sG ?_
       with_reducible refine (spec_StrengthAt.calls k _ _ t284 _ _ t287 _ _ t290 a2 t293 t294 t295 _ ?side1 ?side2 ?side3 ?side4 ?side5 ?side6 A16.out).mono ?_
       (case side1 => exact sC (Kd.R_reads' HO286.out).2.2)
       (case side2 => exact (Kd.R_reads' HO286.out).2.1)
       (case side3 => exact sC (Kd.R_reads' HO289.out).2.2)
       (case side4 => exact (Kd.R_reads' HO289.out).2.1)
       (case side5 => exact sC (Kd.R_reads' HO292.out).2.2)
       (case side6 => exact (Kd.R_reads' HO292.out).2.1)
       rintro e w27 ⟨rfl, hb⟩
       refine ⟨_, rfl, ?_⟩
       have n0_ := aS (Kd.R_below (sR HO286.out) hb)
       have n1_ := aS (Kd.R_below (sR HO289.out) hb)
       have n2_ := aS (Kd.R_below (sR HO292.out) hb)
       have n3_ := aS (blk_below (g := gb281) (o := .cells #[.slice A1_0 l1_0.length c1_0, .slice A1_1 l1_1.length c1_1] 32 (0, 0)) (sB BK281.out) hb)
       have n4_ := aS (below_step (sW HB.out) hb)
       clear HO286 HO289 HO292 BK281 HB
       have HO286 := n0_; have HO289 := n1_; have HO292 := n2_; have BK281 := n3_; have HB := n4_
       clear n0_ n1_ n2_ n3_ n4_
       (try clear hb); (try clear hb2); (try clear hk); (try clear hi)
       refine hK.out _ _ ⟨(blk_cell BK281.out 0).trans rfl, (blk_cell BK281.out 1).trans rfl⟩ (fun hHeld => ?_)
       clear hK K
       refine norm_ (a' := ?_) ?_ ?_
       rotate_left
       ·
        show Act.put _ (some 30) _ = _
        simp only [Act.put, List.setIfInBounds_toArray, List.set_cons_zero, List.set_cons_succ, i64_w, i32_w]
        rfl
       refine pure_ (i := 6) (N := some 24) (v := ?_) (a' := ?_) #[true, true, true, true, true, true, true, false, false, false, false, false] rfl rfl (any_of HT_.out (by kernel_rfl)) (fun _ _ _ h => h) (Or.inl ⟨by rfl, ?_⟩) ?_ ?_
       rotate_left
       ·
        intro w'
        go_simp
        with_reducible rfl
       rotate_left
       ·
        simp only [Act.put, List.setIfInBounds_toArray, List.set_cons_zero, List.set_cons_succ, i64_w, i32_w]
        rfl
       refine pure_ (i := 7) (N := some 31) (v := ?_) (a' := ?_) #[true, true, true, true, true, true, true, true, false, false, false, false] rfl rfl (any_of HT_.out (by kernel_rfl)) (fun _ _ _ h => h) (Or.inl ⟨by rfl, ?_⟩) ?_ ?_
       rotate_left
       ·
        intro w'
        go_simp
        with_reducible rfl
       rotate_left
       ·
        simp only [Act.put, List.setIfInBounds_toArray, List.set_cons_zero, List.set_cons_succ, i64_w, i32_w]
        rfl
       refine pure_ (i := 8) (N := some 32) (v := ?_) (a' := ?_) #[true, true, true, true, true, true, true, true, true, false, false, false] rfl rfl (any_of HT_.out (by kernel_rfl)) (fun _ _ _ h => h) (Or.inl ⟨by rfl, ?_⟩) ?_ ?_
       rotate_left
       ·
        intro w'
        go_simp
        with_reducible rfl
       rotate_left
       ·
        simp only [Act.put, List.setIfInBounds_toArray, List.set_cons_zero, List.set_cons_succ, i64_w, i32_w]
        rfl
       refine one_ (i := 9) (N := some 8) #[true, true, true, true, true, true, true, true, true, true, false, false] rfl rfl (one_of HT_.out (by kernel_rfl)) (by decide) (fun K hK => ?_)
       refine box_step ?hg (N := 8) ?hd (cs := #[.int .i64 0, .int .i64 0]) (t := 51) ?hr ?_; (case hd => rfl); (case hg => rfl); (case hr => first | (go_simp; done) | (go_simp; rfl))
       intro gb296 hg w28 hbox hb
       have n0_ := aS (Kd.R_below (sR HO286.out) hb)
       have n1_ := aS (Kd.R_below (sR HO289.out) hb)
       have n2_ := aS (Kd.R_below (sR HO292.out) hb)
       have n3_ := aS (blk_below (g := gb281) (o := .cells #[.slice A1_0 l1_0.length c1_0, .slice A1_1 l1_1.length c1_1] 32 (0, 0)) (sB BK281.out) hb)
       have n4_ := aS (below_step (sW HB.out) hb)
       have n5_ := aS (hbox)
       have n6_ := aS ((by rw [hg]; exact (below_size (sW HB.out)) : w.heap.size ≤ gb296))
       have n7_ := aS ((by rw [hg]; exact (below_size (sW HB.out)) : w.heap.size ≤ gb296))
       have n8_ := aS ((by rw [hg]; exact Nat.ne_of_lt (blk_lt (g := gb281) (o := .cells #[.slice A1_0 l1_0.length c1_0, .slice A1_1 l1_1.length c1_1] 32 (0, 0)) (sB BK281.out)) : gb281 ≠ gb296))
       have n9_ := aS ((by rw [hg]; exact Nat.ne_of_gt (blk_lt (g := gb281) (o := .cells #[.slice A1_0 l1_0.length c1_0, .slice A1_1 l1_1.length c1_1] 32 (0, 0)) (sB BK281.out)) : gb296 ≠ gb281))
       clear HO286 HO289 HO292 BK281 HB
       have HO286 := n0_; have HO289 := n1_; have HO292 := n2_; have BK281 := n3_; have HB := n4_; have BK296 := n5_; have GW296 := n6_; have GE296 := n7_; have NB281_296 := n8_; have NB296_281 := n9_
       clear n0_ n1_ n2_ n3_ n4_ n5_ n6_ n7_ n8_ n9_
       clear hb hbox hg
       refine hK.out _ _ ⟨(blk_cell BK281.out 0).trans rfl, (blk_cell BK281.out 1).trans rfl⟩ (fun hHeld => ?_)
       clear hK K
       refine norm_ (a' := ?_) ?_ ?_
       rotate_left
       ·
        show Act.put _ (some 8) _ = _
        simp only [Act.put, List.setIfInBounds_toArray, List.set_cons_zero, List.set_cons_succ, i64_w, i32_w]
        rfl
       exact norm_ (by simp only [putAll, Act.put, List.setIfInBounds_toArray, List.set_cons_zero, List.set_cons_succ]) (hCont (.slice Ao24 t284.length co24, .slice Ao25 t287.length co25, .slice Ao26 t290.length co26, gb296) _ ⟨hHeld, (sR HO286.out), (sR HO289.out), (sR HO292.out), (sB BK281.out), (sB BK296.out), GW296.out, GE296.out, NB281_296.out, NB296_281.out, (sW HB.out)⟩)
      ·
       skip
       refine box_step ?hg (N := 8) ?hd (cs := #[.int .i64 0, .int .i64 0]) (t := 51) ?hr ?_; (case hd => rfl); (case hg => rfl); (case hr => first | (go_simp; done) | (go_simp; rfl))
       intro gb296 hg w24 hbox hb
       have n0_ := aS (Kd.R_below (sR HO286.out) hb)
       have n1_ := aS (Kd.R_below (sR HO289.out) hb)
       have n2_ := aS (Kd.R_below (sR HO292.out) hb)
       have n3_ := aS (blk_below (g := gb281) (o := .cells #[.slice A1_0 l1_0.length c1_0, .slice A1_1 l1_1.length c1_1] 32 (0, 0)) (sB BK281.out) hb)
       have n4_ := aS (below_step (sW HB.out) hb)
       have n5_ := aS (hbox)
       have n6_ := aS ((by rw [hg]; exact (below_size (sW HB.out)) : w.heap.size ≤ gb296))
       have n7_ := aS ((by rw [hg]; exact (below_size (sW HB.out)) : w.heap.size ≤ gb296))
       have n8_ := aS ((by rw [hg]; exact Nat.ne_of_lt (blk_lt (g := gb281) (o := .cells #[.slice A1_0 l1_0.length c1_0, .slice A1_1 l1_1.length c1_1] 32 (0, 0)) (sB BK281.out)) : gb281 ≠ gb296))
       have n9_ := aS ((by rw [hg]; exact Nat.ne_of_gt (blk_lt (g := gb281) (o := .cells #[.slice A1_0 l1_0.length c1_0, .slice A1_1 l1_1.length c1_1] 32 (0, 0)) (sB BK281.out)) : gb296 ≠ gb281))
       clear HO286 HO289 HO292 BK281 HB
       have HO286 := n0_; have HO289 := n1_; have HO292 := n2_; have BK281 := n3_; have HB := n4_; have BK296 := n5_; have GW296 := n6_; have GE296 := n7_; have NB281_296 := n8_; have NB296_281 := n9_
       clear n0_ n1_ n2_ n3_ n4_ n5_ n6_ n7_ n8_ n9_
       clear hb hbox hg
       obtain ⟨Ao25, co25, eo25⟩ := Kd.R_slice HO286.out
       (first | subst eo25 | (injection eo25 with f1_ f2_ f3_; have f4_ := f1_.symm; have f5_ := f3_.symm; clear f1_ f2_ f3_; subst f4_; subst f5_))
       obtain ⟨Ao26, co26, eo26⟩ := Kd.R_slice HO289.out
       (first | subst eo26 | (injection eo26 with f1_ f2_ f3_; have f4_ := f1_.symm; have f5_ := f3_.symm; clear f1_ f2_ f3_; subst f4_; subst f5_))
       obtain ⟨Ao27, co27, eo27⟩ := Kd.R_slice HO292.out
       (first | subst eo27 | (injection eo27 with f1_ f2_ f3_; have f4_ := f1_.symm; have f5_ := f3_.symm; clear f1_ f2_ f3_; subst f4_; subst f5_))
       refine hK.out _ _ ⟨(blk_cell BK281.out 0).trans rfl, (blk_cell BK281.out 1).trans rfl⟩ (fun hHeld => ?_)
       clear hK K
       refine norm_ (a' := ?_) ?_ ?_
       rotate_left
       ·
        show Act.put _ (some 8) _ = _
        simp only [Act.put, List.setIfInBounds_toArray, List.set_cons_zero, List.set_cons_succ, i64_w, i32_w]
        rfl
       refine one_ (i := 5) (N := some 30) #[true, true, true, true, true, true, false, false, false, true, false, false] rfl rfl (one_of HT_.out (by kernel_rfl)) (by decide) (fun K hK => ?_)
       refine goes_ Try.func30 (by kernel_rfl) rfl #[.slice Ao25 t284.length co25, .agg #[.slice Ao26 t287.length co26, .slice Ao27 t290.length co27], .int .i64 a2] (by rfl) rfl rfl sG ?_
       with_reducible refine (spec_StrengthAt.calls k _ _ t284 _ _ t287 _ _ t290 a2 t293 t294 t295 _ ?side1 ?side2 ?side3 ?side4 ?side5 ?side6 A16.out).mono ?_
       (case side1 => exact sC (Kd.R_reads' HO286.out).2.2)
       (case side2 => exact (Kd.R_reads' HO286.out).2.1)
       (case side3 => exact sC (Kd.R_reads' HO289.out).2.2)
       (case side4 => exact (Kd.R_reads' HO289.out).2.1)
       (case side5 => exact sC (Kd.R_reads' HO292.out).2.2)
       (case side6 => exact (Kd.R_reads' HO292.out).2.1)
       rintro e w28 ⟨rfl, hb⟩
       refine ⟨_, rfl, ?_⟩
       have n0_ := aS (Kd.R_below (sR HO286.out) hb)
       have n1_ := aS (Kd.R_below (sR HO289.out) hb)
       have n2_ := aS (Kd.R_below (sR HO292.out) hb)
       have n3_ := aS (blk_below (g := gb281) (o := .cells #[.slice A1_0 l1_0.length c1_0, .slice A1_1 l1_1.length c1_1] 32 (0, 0)) (sB BK281.out) hb)
       have n4_ := aS (blk_below (g := gb296) (o := .cells #[.int .i64 0, .int .i64 0] 51 (0, 0)) (sB BK296.out) hb)
       have n5_ := aS (below_step (sW HB.out) hb)
       clear HO286 HO289 HO292 BK281 BK296 HB
       have HO286 := n0_; have HO289 := n1_; have HO292 := n2_; have BK281 := n3_; have BK296 := n4_; have HB := n5_
       clear n0_ n1_ n2_ n3_ n4_ n5_
       (try clear hb); (try clear hb2); (try clear hk); (try clear hi)
       refine hK.out _ _ ⟨(blk_cell BK281.out 0).trans rfl, (blk_cell BK281.out 1).trans rfl⟩ (fun hHeld => ?_)
       clear hK K
       refine norm_ (a' := ?_) ?_ ?_
       rotate_left
       ·
        show Act.put _ (some 30) _ = _
        simp only [Act.put, List.setIfInBounds_toArray, List.set_cons_zero, List.set_cons_succ, i64_w, i32_w]
        rfl
       refine pure_ (i := 6) (N := some 24) (v := ?_) (a' := ?_) #[true, true, true, true, true, true, true, false, false, true, false, false] rfl rfl (any_of HT_.out (by kernel_rfl)) (fun _ _ _ h => h) (Or.inl ⟨by rfl, ?_⟩) ?_ ?_
       rotate_left
       ·
        intro w'
        go_simp
        with_reducible rfl
       rotate_left
       ·
        simp only [Act.put, List.setIfInBounds_toArray, List.set_cons_zero, List.set_cons_succ, i64_w, i32_w]
        rfl
       refine pure_ (i := 7) (N := some 31) (v := ?_) (a' := ?_) #[true, true, true, true, true, true, true, true, false, true, false, false] rfl rfl (any_of HT_.out (by kernel_rfl)) (fun _ _ _ h => h) (Or.inl ⟨by rfl, ?_⟩) ?_ ?_
       rotate_left
       ·
        intro w'
        go_simp
        with_reducible rfl
       rotate_left
       ·
        simp only [Act.put, List.setIfInBounds_toArray, List.set_cons_zero, List.set_cons_succ, i64_w, i32_w]
        rfl
       refine pure_ (i := 8) (N := some 32) (v := ?_) (a' := ?_) #[true, true, true, true, true, true, true, true, true, true, false, false] rfl rfl (any_of HT_.out (by kernel_rfl)) (fun _ _ _ h => h) (Or.inl ⟨by rfl, ?_⟩) ?_ ?_
       rotate_left
       ·
        intro w'
        go_simp
        with_reducible rfl
       rotate_left
       ·
        simp only [Act.put, List.setIfInBounds_toArray, List.set_cons_zero, List.set_cons_succ, i64_w, i32_w]
        rfl
       exact norm_ (by simp only [putAll, Act.put, List.setIfInBounds_toArray, List.set_cons_zero, List.set_cons_succ]) (hCont (.slice Ao25 t284.length co25, .slice Ao26 t287.length co26, .slice Ao27 t290.length co27, gb296) _ ⟨hHeld, (sR HO286.out), (sR HO289.out), (sR HO292.out), (sB BK281.out), (sB BK296.out), GW296.out, GE296.out, NB281_296.out, NB296_281.out, (sW HB.out)⟩)
     ·
      skip
      refine box_step ?hg (N := 8) ?hd (cs := #[.int .i64 0, .int .i64 0]) (t := 51) ?hr ?_; (case hd => rfl); (case hg => rfl); (case hr => first | (go_simp; done) | (go_simp; rfl))
      intro gb296 hg w23 hbox hb
      have n0_ := aS (Kd.R_below (sR HO286.out) hb)
      have n1_ := aS (blk_below (g := gb281) (o := .cells #[.slice A1_0 l1_0.length c1_0, .slice A1_1 l1_1.length c1_1] 32 (0, 0)) (sB BK281.out) hb)
      have n2_ := aS (below_step (sW HB.out) hb)
      have n3_ := aS (hbox)
      have n4_ := aS ((by rw [hg]; exact (below_size (sW HB.out)) : w.heap.size ≤ gb296))
      have n5_ := aS ((by rw [hg]; exact (below_size (sW HB.out)) : w.heap.size ≤ gb296))
      have n6_ := aS ((by rw [hg]; exact Nat.ne_of_lt (blk_lt (g := gb281) (o := .cells #[.slice A1_0 l1_0.length c1_0, .slice A1_1 l1_1.length c1_1] 32 (0, 0)) (sB BK281.out)) : gb281 ≠ gb296))
      have n7_ := aS ((by rw [hg]; exact Nat.ne_of_gt (blk_lt (g := gb281) (o := .cells #[.slice A1_0 l1_0.length c1_0, .slice A1_1 l1_1.length c1_1] 32 (0, 0)) (sB BK281.out)) : gb296 ≠ gb281))
      clear HO286 BK281 HB
      have HO286 := n0_; have BK281 := n1_; have HB := n2_; have BK296 := n3_; have GW296 := n4_; have GE296 := n5_; have NB281_296 := n6_; have NB296_281 := n7_
      clear n0_ n1_ n2_ n3_ n4_ n5_ n6_ n7_
      clear hb hbox hg
      refine hK.out _ _ ⟨(blk_cell BK281.out 0).trans rfl, (blk_cell BK281.out 1).trans rfl⟩ (fun hHeld => ?_)
      clear hK K
      refine norm_ (a' := ?_) ?_ ?_
      rotate_left
      ·
       show Act.put _ (some 8) _ = _
       simp only [Act.put, List.setIfInBounds_toArray, List.set_cons_zero, List.set_cons_succ, i64_w, i32_w]
       rfl
      refine one_ (i := 3) (N := some 28) #[true, true, true, true, true, false, false, false, false, true, false, false] rfl rfl (one_of HT_.out (by kernel_rfl)) (by decide) (fun K hK => ?_)
      refine goes_ Try.func20 (by kernel_rfl) rfl #[.agg #[.slice A1_0 l1_0.length c1_0, .slice A1_1 l1_1.length c1_1]] (by rfl) rfl rfl sG ?_
      with_reducible refine (laws_toLine.calls k _ _ l1_0 _ _ l1_1 t287 t290 _ ?side1 ?side2 ?side3 ?side4 A15.out).mono ?_
      (case side1 => exact sC (Kd.C_below HR1_0.out HB.out))
      (case side2 => exact HC1_0.out)
      (case side3 => exact sC (Kd.C_below HR1_1.out HB.out))
      (case side4 => exact HC1_1.out)
      rintro e w24 ⟨v288, v291, rfl, ho0, ho1, hb⟩
      refine ⟨_, rfl, ?_⟩
      have n0_ := aS (Kd.R_below (sR HO286.out) hb)
      have n1_ := aS (Kd.R_lower ho0 (below_size (sW HB.out)))
      have n2_ := aS (Kd.R_lower ho1 (below_size (sW HB.out)))
      have n3_ := aS (blk_below (g := gb281) (o := .cells #[.slice A1_0 l1_0.length c1_0, .slice A1_1 l1_1.length c1_1] 32 (0, 0)) (sB BK281.out) hb)
      have n4_ := aS (blk_below (g := gb296) (o := .cells #[.int .i64 0, .int .i64 0] 51 (0, 0)) (sB BK296.out) hb)
      have n5_ := aS (below_step (sW HB.out) hb)
      clear HO286 BK281 BK296 HB
      have HO286 := n0_; have HO289 := n1_; have HO292 := n2_; have BK281 := n3_; have BK296 := n4_; have HB := n5_
      clear n0_ n1_ n2_ n3_ n4_ n5_
      (try clear hb); (try clear hb2); (try clear hk); (try clear hi); (try clear ho0); (try clear ho1)
      obtain ⟨Ao25, co25, eo25⟩ := Kd.R_slice HO286.out
      (first | subst eo25 | (injection eo25 with f1_ f2_ f3_; have f4_ := f1_.symm; have f5_ := f3_.symm; clear f1_ f2_ f3_; subst f4_; subst f5_))
      obtain ⟨Ao26, co26, eo26⟩ := Kd.R_slice HO289.out
      (first | subst eo26 | (injection eo26 with f1_ f2_ f3_; have f4_ := f1_.symm; have f5_ := f3_.symm; clear f1_ f2_ f3_; subst f4_; subst f5_))
      obtain ⟨Ao27, co27, eo27⟩ := Kd.R_slice HO292.out
      (first | subst eo27 | (injection eo27 with f1_ f2_ f3_; have f4_ := f1_.symm; have f5_ := f3_.symm; clear f1_ f2_ f3_; subst f4_; subst f5_))
      refine hK.out _ _ ⟨(blk_cell BK281.out 0).trans rfl, (blk_cell BK281.out 1).trans rfl⟩ (fun hHeld => ?_)
      clear hK K
      refine norm_ (a' := ?_) ?_ ?_
      rotate_left
      ·
       show Act.put _ (some 28) _ = _
       simp only [Act.put, List.setIfInBounds_toArray, List.set_cons_zero, List.set_cons_succ, i64_w, i32_w]
       rfl
      refine one_ (i := 5) (N := some 30) #[true, true, true, true, true, true, false, false, false, true, false, false] rfl rfl (one_of HT_.out (by kernel_rfl)) (by decide) (fun K hK => ?_)
      refine goes_ Try.func30 (by kernel_rfl) rfl #[.slice Ao25 t284.length co25, .agg #[.slice Ao26 t287.length co26, .slice Ao27 t290.length co27], .int .i64 a2] (by rfl) rfl rfl sG ?_
      with_reducible refine (spec_StrengthAt.calls k _ _ t284 _ _ t287 _ _ t290 a2 t293 t294 t295 _ ?side1 ?side2 ?side3 ?side4 ?side5 ?side6 A16.out).mono ?_
      (case side1 => exact sC (Kd.R_reads' HO286.out).2.2)
      (case side2 => exact (Kd.R_reads' HO286.out).2.1)
      (case side3 => exact sC (Kd.R_reads' HO289.out).2.2)
      (case side4 => exact (Kd.R_reads' HO289.out).2.1)
      (case side5 => exact sC (Kd.R_reads' HO292.out).2.2)
      (case side6 => exact (Kd.R_reads' HO292.out).2.1)
      rintro e w28 ⟨rfl, hb⟩
      refine ⟨_, rfl, ?_⟩
      have n0_ := aS (Kd.R_below (sR HO286.out) hb)
      have n1_ := aS (Kd.R_below (sR HO289.out) hb)
      have n2_ := aS (Kd.R_below (sR HO292.out) hb)
      have n3_ := aS (blk_below (g := gb281) (o := .cells #[.slice A1_0 l1_0.length c1_0, .slice A1_1 l1_1.length c1_1] 32 (0, 0)) (sB BK281.out) hb)
      have n4_ := aS (blk_below (g := gb296) (o := .cells #[.int .i64 0, .int .i64 0] 51 (0, 0)) (sB BK296.out) hb)
      have n5_ := aS (below_step (sW HB.out) hb)
      clear HO286 HO289 HO292 BK281 BK296 HB
      have HO286 := n0_; have HO289 := n1_; have HO292 := n2_; have BK281 := n3_; have BK296 := n4_; have HB := n5_
      clear n0_ n1_ n2_ n3_ n4_ n5_
      (try clear hb); (try clear hb2); (try clear hk); (try clear hi)
      refine hK.out _ _ ⟨(blk_cell BK281.out 0).trans rfl, (blk_cell BK281.out 1).trans rfl⟩ (fun hHeld => ?_)
      clear hK K
      refine norm_ (a' := ?_) ?_ ?_
      rotate_left
      ·
       show Act.put _ (some 30) _ = _
       simp only [Act.put, List.setIfInBounds_toArray, List.set_cons_zero, List.set_cons_succ, i64_w, i32_w]
       rfl
      refine pure_ (i := 6) (N := some 24) (v := ?_) (a' := ?_) #[true, true, true, true, true, true, true, false, false, true, false, false] rfl rfl (any_of HT_.out (by kernel_rfl)) (fun _ _ _ h => h) (Or.inl ⟨by rfl, ?_⟩) ?_ ?_
      rotate_left
      ·
       intro w'
       go_simp
       with_reducible rfl
      rotate_left
      ·
       simp only [Act.put, List.setIfInBounds_toArray, List.set_cons_zero, List.set_cons_succ, i64_w, i32_w]
       rfl
      refine pure_ (i := 7) (N := some 31) (v := ?_) (a' := ?_) #[true, true, true, true, true, true, true, true, false, true, false, false] rfl rfl (any_of HT_.out (by kernel_rfl)) (fun _ _ _ h => h) (Or.inl ⟨by rfl, ?_⟩) ?_ ?_
      rotate_left
      ·
       intro w'
       go_simp
       with_reducible rfl
      rotate_left
      ·
       simp only [Act.put, List.setIfInBounds_toArray, List.set_cons_zero, List.set_cons_succ, i64_w, i32_w]
       rfl
      refine pure_ (i := 8) (N := some 32) (v := ?_) (a' := ?_) #[true, true, true, true, true, true, true, true, true, true, false, false] rfl rfl (any_of HT_.out (by kernel_rfl)) (fun _ _ _ h => h) (Or.inl ⟨by rfl, ?_⟩) ?_ ?_
      rotate_left
      ·
       intro w'
       go_simp
       with_reducible rfl
      rotate_left
      ·
       simp only [Act.put, List.setIfInBounds_toArray, List.set_cons_zero, List.set_cons_succ, i64_w, i32_w]
       rfl
      exact norm_ (by simp only [putAll, Act.put, List.setIfInBounds_toArray, List.set_cons_zero, List.set_cons_succ]) (hCont (.slice Ao25 t284.length co25, .slice Ao26 t287.length co26, .slice Ao27 t290.length co27, gb296) _ ⟨hHeld, (sR HO286.out), (sR HO289.out), (sR HO292.out), (sB BK281.out), (sB BK296.out), GW296.out, GE296.out, NB281_296.out, NB296_281.out, (sW HB.out)⟩)
    ·
     skip
     refine box_step ?hg (N := 8) ?hd (cs := #[.int .i64 0, .int .i64 0]) (t := 51) ?hr ?_; (case hd => rfl); (case hg => rfl); (case hr => first | (go_simp; done) | (go_simp; rfl))
     intro gb296 hg w22 hbox hb
     have n0_ := aS (blk_below (g := gb281) (o := .cells #[.slice A1_0 l1_0.length c1_0, .slice A1_1 l1_1.length c1_1] 32 (0, 0)) (sB BK281.out) hb)
     have n1_ := aS (below_step (sW HB.out) hb)
     have n2_ := aS (hbox)
     have n3_ := aS ((by rw [hg]; exact (below_size (sW HB.out)) : w.heap.size ≤ gb296))
     have n4_ := aS ((by rw [hg]; exact (below_size (sW HB.out)) : w.heap.size ≤ gb296))
     have n5_ := aS ((by rw [hg]; exact Nat.ne_of_lt (blk_lt (g := gb281) (o := .cells #[.slice A1_0 l1_0.length c1_0, .slice A1_1 l1_1.length c1_1] 32 (0, 0)) (sB BK281.out)) : gb281 ≠ gb296))
     have n6_ := aS ((by rw [hg]; exact Nat.ne_of_gt (blk_lt (g := gb281) (o := .cells #[.slice A1_0 l1_0.length c1_0, .slice A1_1 l1_1.length c1_1] 32 (0, 0)) (sB BK281.out)) : gb296 ≠ gb281))
     clear BK281 HB
     have BK281 := n0_; have HB := n1_; have BK296 := n2_; have GW296 := n3_; have GE296 := n4_; have NB281_296 := n5_; have NB296_281 := n6_
     clear n0_ n1_ n2_ n3_ n4_ n5_ n6_
     clear hb hbox hg
     refine hK.out _ _ ⟨(blk_cell BK281.out 0).trans rfl, (blk_cell BK281.out 1).trans rfl⟩ (fun hHeld => ?_)
     clear hK K
     refine norm_ (a' := ?_) ?_ ?_
     rotate_left
     ·
      show Act.put _ (some 8) _ = _
      simp only [Act.put, List.setIfInBounds_toArray, List.set_cons_zero, List.set_cons_succ, i64_w, i32_w]
      rfl
     refine one_ (i := 1) (N := some 26) #[true, true, true, false, true, false, false, false, false, true, false, false] rfl rfl (one_of HT_.out (by kernel_rfl)) (by decide) (fun K hK => ?_)
     refine goes_ Try.func15 (by kernel_rfl) rfl #[.slice A0 l0.length c0] (by rfl) rfl rfl sG ?_
     with_reducible refine (laws_toJoinS.calls k _ _ l0 t284 _ ?side1 ?side2 A14.out).mono ?_
     (case side1 => exact sC (Kd.C_below HR0.out HB.out))
     (case side2 => exact HC0.out)
     rintro e w23 ⟨v285, rfl, ho0, hb⟩
     refine ⟨_, rfl, ?_⟩
     have n0_ := aS (Kd.R_lower ho0 (below_size (sW HB.out)))
     have n1_ := aS (blk_below (g := gb281) (o := .cells #[.slice A1_0 l1_0.length c1_0, .slice A1_1 l1_1.length c1_1] 32 (0, 0)) (sB BK281.out) hb)
     have n2_ := aS (blk_below (g := gb296) (o := .cells #[.int .i64 0, .int .i64 0] 51 (0, 0)) (sB BK296.out) hb)
     have n3_ := aS (below_step (sW HB.out) hb)
     clear BK281 BK296 HB
     have HO286 := n0_; have BK281 := n1_; have BK296 := n2_; have HB := n3_
     clear n0_ n1_ n2_ n3_
     (try clear hb); (try clear hb2); (try clear hk); (try clear hi); (try clear ho0)
     refine hK.out _ _ ⟨(blk_cell BK281.out 0).trans rfl, (blk_cell BK281.out 1).trans rfl⟩ (fun hHeld => ?_)
     clear hK K
     refine norm_ (a' := ?_) ?_ ?_
     rotate_left
     ·
      show Act.put _ (some 26) _ = _
      simp only [Act.put, List.setIfInBounds_toArray, List.set_cons_zero, List.set_cons_succ, i64_w, i32_w]
      rfl
     refine one_ (i := 3) (N := some 28) #[true, true, true, true, true, false, false, false, false, true, false, false] rfl rfl (one_of HT_.out (by kernel_rfl)) (by decide) (fun K hK => ?_)
     refine goes_ Try.func20 (by kernel_rfl) rfl #[.agg #[.slice A1_0 l1_0.length c1_0, .slice A1_1 l1_1.length c1_1]] (by rfl) rfl rfl sG ?_
     with_reducible refine (laws_toLine.calls k _ _ l1_0 _ _ l1_1 t287 t290 _ ?side1 ?side2 ?side3 ?side4 A15.out).mono ?_
     (case side1 => exact sC (Kd.C_below HR1_0.out HB.out))
     (case side2 => exact HC1_0.out)
     (case side3 => exact sC (Kd.C_below HR1_1.out HB.out))
     (case side4 => exact HC1_1.out)
     rintro e w24 ⟨v288, v291, rfl, ho0, ho1, hb⟩
     refine ⟨_, rfl, ?_⟩
     have n0_ := aS (Kd.R_below (sR HO286.out) hb)
     have n1_ := aS (Kd.R_lower ho0 (below_size (sW HB.out)))
     have n2_ := aS (Kd.R_lower ho1 (below_size (sW HB.out)))
     have n3_ := aS (blk_below (g := gb281) (o := .cells #[.slice A1_0 l1_0.length c1_0, .slice A1_1 l1_1.length c1_1] 32 (0, 0)) (sB BK281.out) hb)
     have n4_ := aS (blk_below (g := gb296) (o := .cells #[.int .i64 0, .int .i64 0] 51 (0, 0)) (sB BK296.out) hb)
     have n5_ := aS (below_step (sW HB.out) hb)
     clear HO286 BK281 BK296 HB
     have HO286 := n0_; have HO289 := n1_; have HO292 := n2_; have BK281 := n3_; have BK296 := n4_; have HB := n5_
     clear n0_ n1_ n2_ n3_ n4_ n5_
     (try clear hb); (try clear hb2); (try clear hk); (try clear hi); (try clear ho0); (try clear ho1)
     obtain ⟨Ao25, co25, eo25⟩ := Kd.R_slice HO286.out
     (first | subst eo25 | (injection eo25 with f1_ f2_ f3_; have f4_ := f1_.symm; have f5_ := f3_.symm; clear f1_ f2_ f3_; subst f4_; subst f5_))
     obtain ⟨Ao26, co26, eo26⟩ := Kd.R_slice HO289.out
     (first | subst eo26 | (injection eo26 with f1_ f2_ f3_; have f4_ := f1_.symm; have f5_ := f3_.symm; clear f1_ f2_ f3_; subst f4_; subst f5_))
     obtain ⟨Ao27, co27, eo27⟩ := Kd.R_slice HO292.out
     (first | subst eo27 | (injection eo27 with f1_ f2_ f3_; have f4_ := f1_.symm; have f5_ := f3_.symm; clear f1_ f2_ f3_; subst f4_; subst f5_))
     refine hK.out _ _ ⟨(blk_cell BK281.out 0).trans rfl, (blk_cell BK281.out 1).trans rfl⟩ (fun hHeld => ?_)
     clear hK K
     refine norm_ (a' := ?_) ?_ ?_
     rotate_left
     ·
      show Act.put _ (some 28) _ = _
      simp only [Act.put, List.setIfInBounds_toArray, List.set_cons_zero, List.set_cons_succ, i64_w, i32_w]
      rfl
     refine one_ (i := 5) (N := some 30) #[true, true, true, true, true, true, false, false, false, true, false, false] rfl rfl (one_of HT_.out (by kernel_rfl)) (by decide) (fun K hK => ?_)
     refine goes_ Try.func30 (by kernel_rfl) rfl #[.slice Ao25 t284.length co25, .agg #[.slice Ao26 t287.length co26, .slice Ao27 t290.length co27], .int .i64 a2] (by rfl) rfl rfl sG ?_
     with_reducible refine (spec_StrengthAt.calls k _ _ t284 _ _ t287 _ _ t290 a2 t293 t294 t295 _ ?side1 ?side2 ?side3 ?side4 ?side5 ?side6 A16.out).mono ?_
     (case side1 => exact sC (Kd.R_reads' HO286.out).2.2)
     (case side2 => exact (Kd.R_reads' HO286.out).2.1)
     (case side3 => exact sC (Kd.R_reads' HO289.out).2.2)
     (case side4 => exact (Kd.R_reads' HO289.out).2.1)
     (case side5 => exact sC (Kd.R_reads' HO292.out).2.2)
     (case side6 => exact (Kd.R_reads' HO292.out).2.1)
     rintro e w28 ⟨rfl, hb⟩
     refine ⟨_, rfl, ?_⟩
     have n0_ := aS (Kd.R_below (sR HO286.out) hb)
     have n1_ := aS (Kd.R_below (sR HO289.out) hb)
     have n2_ := aS (Kd.R_below (sR HO292.out) hb)
     have n3_ := aS (blk_below (g := gb281) (o := .cells #[.slice A1_0 l1_0.length c1_0, .slice A1_1 l1_1.length c1_1] 32 (0, 0)) (sB BK281.out) hb)
     have n4_ := aS (blk_below (g := gb296) (o := .cells #[.int .i64 0, .int .i64 0] 51 (0, 0)) (sB BK296.out) hb)
     have n5_ := aS (below_step (sW HB.out) hb)
     clear HO286 HO289 HO292 BK281 BK296 HB
     have HO286 := n0_; have HO289 := n1_; have HO292 := n2_; have BK281 := n3_; have BK296 := n4_; have HB := n5_
     clear n0_ n1_ n2_ n3_ n4_ n5_
     (try clear hb); (try clear hb2); (try clear hk); (try clear hi)
     refine hK.out _ _ ⟨(blk_cell BK281.out 0).trans rfl, (blk_cell BK281.out 1).trans rfl⟩ (fun hHeld => ?_)
     clear hK K
     refine norm_ (a' := ?_) ?_ ?_
     rotate_left
     ·
      show Act.put _ (some 30) _ = _
      simp only [Act.put, List.setIfInBounds_toArray, List.set_cons_zero, List.set_cons_succ, i64_w, i32_w]
      rfl
     refine pure_ (i := 6) (N := some 24) (v := ?_) (a' := ?_) #[true, true, true, true, true, true, true, false, false, true, false, false] rfl rfl (any_of HT_.out (by kernel_rfl)) (fun _ _ _ h => h) (Or.inl ⟨by rfl, ?_⟩) ?_ ?_
     rotate_left
     ·
      intro w'
      go_simp
      with_reducible rfl
     rotate_left
     ·
      simp only [Act.put, List.setIfInBounds_toArray, List.set_cons_zero, List.set_cons_succ, i64_w, i32_w]
      rfl
     refine pure_ (i := 7) (N := some 31) (v := ?_) (a' := ?_) #[true, true, true, true, true, true, true, true, false, true, false, false] rfl rfl (any_of HT_.out (by kernel_rfl)) (fun _ _ _ h => h) (Or.inl ⟨by rfl, ?_⟩) ?_ ?_
     rotate_left
     ·
      intro w'
      go_simp
      with_reducible rfl
     rotate_left
     ·
      simp only [Act.put, List.setIfInBounds_toArray, List.set_cons_zero, List.set_cons_succ, i64_w, i32_w]
      rfl
     refine pure_ (i := 8) (N := some 32) (v := ?_) (a' := ?_) #[true, true, true, true, true, true, true, true, true, true, false, false] rfl rfl (any_of HT_.out (by kernel_rfl)) (fun _ _ _ h => h) (Or.inl ⟨by rfl, ?_⟩) ?_ ?_
     rotate_left
     ·
      intro w'
      go_simp
      with_reducible rfl
     rotate_left
     ·
      simp only [Act.put, List.setIfInBounds_toArray, List.set_cons_zero, List.set_cons_succ, i64_w, i32_w]
      rfl
     exact norm_ (by simp only [putAll, Act.put, List.setIfInBounds_toArray, List.set_cons_zero, List.set_cons_succ]) (hCont (.slice Ao25 t284.length co25, .slice Ao26 t287.length co26, .slice Ao27 t290.length co27, gb296) _ ⟨hHeld, (sR HO286.out), (sR HO289.out), (sR HO292.out), (sB BK281.out), (sB BK296.out), GW296.out, GE296.out, NB281_296.out, NB296_281.out, (sW HB.out)⟩)
   rintro ⟨v285, v288, v291, gb296⟩ w29 ⟨hS_, h0_, h1_, h2_, h3_, h4_, h5_, h6_, h7_, h8_, h9_⟩
   have n0_ : Aside0 (Kd.R k68 68 w29 w.heap.size (fun _ => True) v285 t284) := ⟨h0_⟩
   have n1_ : Aside0 (Kd.R k44 44 w29 w.heap.size (fun _ => True) v288 t287) := ⟨h1_⟩
   have n2_ : Aside0 (Kd.R (Kd.int .i64) 2 w29 w.heap.size (fun _ => True) v291 t290) := ⟨h2_⟩
   have n3_ : Aside0 (w29.heap[gb281]? = some (.cells #[.slice A1_0 l1_0.length c1_0, .slice A1_1 l1_1.length c1_1] 32 (0, 0))) := ⟨h3_⟩
   have n4_ : Aside0 (w29.heap[gb296]? = some (.cells #[.int .i64 0, .int .i64 0] 51 (0, 0))) := ⟨h4_⟩
   have n5_ : Aside0 (w.heap.size ≤ gb296) := ⟨h5_⟩
   have n6_ : Aside0 (w.heap.size ≤ gb296) := ⟨h6_⟩
   have n7_ : Aside0 (gb281 ≠ gb296) := ⟨h7_⟩
   have n8_ : Aside0 (gb296 ≠ gb281) := ⟨h8_⟩
   have n9_ : Aside0 (Below w.heap.size w w29) := ⟨h9_⟩
   clear BK281 HB
   clear h0_ h1_ h2_ h3_ h4_ h5_ h6_ h7_ h8_ h9_
   have HO286 := n0_; have HO289 := n1_; have HO292 := n2_; have BK281 := n3_; have BK296 := n4_; have GW296 := n5_; have GE296 := n6_; have NB281_296 := n7_; have NB296_281 := n8_; have HB := n9_
   clear n0_ n1_ n2_ n3_ n4_ n5_ n6_ n7_ n8_ n9_
   have hHeld : w29.cell? ⟨gb281, 0, none⟩ = some (.slice A1_0 l1_0.length c1_0) ∧ w29.cell? ⟨gb281, 1, none⟩ = some (.slice A1_1 l1_1.length c1_1) := hS_
   refine norm_ (a' := ?_) ?_ ?_
   rotate_left
   ·
    simp only [putAll, Act.put, List.setIfInBounds_toArray, List.set_cons_zero, List.set_cons_succ]
    rfl
   refine one_ (i := 10) (N := none) #[true, true, true, true, true, true, true, true, true, true, true, false] rfl rfl (one_of HT_.out (by kernel_rfl)) (by decide) (fun K hK => ?_)
   have hs30 : w29.cell? ⟨gb296, 0, none⟩ = some (.int .i64 0) := (blk_cell BK296.out 0).trans rfl
   have hfs30 := blk_frozen BK296.out 0
   have hns30_0 := NB281_296.out
   have hms30_0 := NB296_281.out
   have hs31 : w29.cell? ⟨gb296, 1, none⟩ = some (.int .i64 0) := (blk_cell BK296.out 1).trans rfl
   have hfs31 := blk_frozen BK296.out 1
   have hns31_0 := NB281_296.out
   have hms31_0 := NB296_281.out
   refine skip_ (w1 := ?_) (by rfl) rfl ?_ ?_
   rotate_left
   ·
    go_simp
    rfl
   refine hK.out _ _ ⟨((cell_far (p := ⟨gb296, _, none⟩) NB281_296.out _).trans (((cell_far (p := ⟨gb296, _, none⟩) NB281_296.out _).trans (hHeld.1)))), ((cell_far (p := ⟨gb296, _, none⟩) NB281_296.out _).trans (((cell_far (p := ⟨gb296, _, none⟩) NB281_296.out _).trans (hHeld.2))))⟩ (fun hHeld => ?_)
   clear hK K
   refine pure_ (i := 11) (N := some 9) (v := ?_) (a' := ?_) #[true, true, true, true, true, true, true, true, true, true, true, true] rfl rfl (any_of HT_.out (by kernel_rfl)) (fun _ _ _ h => h) (Or.inl ⟨by rfl, ?_⟩) ?_ ?_
   rotate_left
   ·
    intro w'
    go_simp
    with_reducible rfl
   rotate_left
   ·
    simp only [Act.put, List.setIfInBounds_toArray, List.set_cons_zero, List.set_cons_succ, i64_w, i32_w]
    rfl
   refine done_ (done_of HT_.out (by kernel_rfl)) ?_
   go_upto_region 12 with (first | ((with_reducible refine gate_callee (f := 15) rfl ?_); refine goesL_ (some 34) rfl rfl Try.func15 (by kernel_rfl) rfl #[.slice A0 l0.length c0] rfl sG ?_; (with_reducible refine (laws_toJoinS.calls k _ _ l0 t297 _ ?side1 ?side2 A17.out).mono ?_); (case side1 => exact Kd.C_below HR0.out (sW HB.out)); (case side2 => exact HC0.out); rintro e w32 ⟨v298, rfl, ho0, hb⟩; refine ⟨_, rfl, ?_⟩; have n0_ := aS (Kd.R_elder' (sR (Kd.R_mono (Kd.R_far (p := ⟨gb296, 1, none⟩) (Kd.R_far (p := ⟨gb296, 0, none⟩) (Kd.R_types HO286.out BK296.out (by decide)) (fun _ hk => hk.2) (.int .i64 t293)) (fun _ hk => hk.2) (.int .i64 t294)) (fun _ h_ => h_.1))) (Kd.R_base ho0) hb); have n1_ := aS (Kd.R_below (sR (Kd.R_mono (Kd.R_far (p := ⟨gb296, 1, none⟩) (Kd.R_far (p := ⟨gb296, 0, none⟩) (Kd.R_types HO289.out BK296.out (by decide)) (fun _ hk => hk.2) (.int .i64 t293)) (fun _ hk => hk.2) (.int .i64 t294)) (fun _ h_ => h_.1))) hb); have n2_ := aS (Kd.R_below (sR (Kd.R_mono (Kd.R_far (p := ⟨gb296, 1, none⟩) (Kd.R_far (p := ⟨gb296, 0, none⟩) (Kd.R_types HO292.out BK296.out (by decide)) (fun _ hk => hk.2) (.int .i64 t293)) (fun _ hk => hk.2) (.int .i64 t294)) (fun _ h_ => h_.1))) hb); have n3_ := aS (Kd.R_lower (Kd.R_new' ho0 (Kd.R_lt (sR (Kd.R_mono (Kd.R_far (p := ⟨gb296, 1, none⟩) (Kd.R_far (p := ⟨gb296, 0, none⟩) (Kd.R_types HO286.out BK296.out (by decide)) (fun _ hk => hk.2) (.int .i64 t293)) (fun _ hk => hk.2) (.int .i64 t294)) (fun _ h_ => h_.1))))) (below_size (sW HB.out))); have n4_ := aS (blk_below (g := gb281) (o := .cells #[.slice A1_0 l1_0.length c1_0, .slice A1_1 l1_1.length c1_1] 32 (0, 0)) (by (with_reducible repeat (first | refine blk_drewN ?_ _ | refine blk_drew ?_ | refine blk_alloc ?_ _)); refine blk_far ?_ NB281_296.out _; (with_reducible repeat (first | refine blk_drewN ?_ _ | refine blk_drew ?_ | refine blk_alloc ?_ _)); refine blk_far ?_ NB281_296.out _; (with_reducible repeat (first | refine blk_drewN ?_ _ | refine blk_drew ?_ | refine blk_alloc ?_ _)); exact BK281.out) hb); have n5_ := aS (blk_below (g := gb296) (o := .cells #[.int .i64 t293, .int .i64 t294] 51 (0, 0)) (by (with_reducible repeat (first | refine blk_drewN ?_ _ | refine blk_drew ?_ | refine blk_alloc ?_ _)); refine blk_put (cs := #[.int .i64 t293, .int .i64 0]) ?_ 1 _ rfl; (with_reducible repeat (first | refine blk_drewN ?_ _ | refine blk_drew ?_ | refine blk_alloc ?_ _)); refine blk_put (cs := #[.int .i64 0, .int .i64 0]) ?_ 0 _ rfl; (with_reducible repeat (first | refine blk_drewN ?_ _ | refine blk_drew ?_ | refine blk_alloc ?_ _)); exact BK296.out) hb); have n6_ := aS (below_step (sW HB.out) hb); clear HO286 HO289 HO292 BK281 BK296 HB; have HO286 := n0_; have HO289 := n1_; have HO292 := n2_; have HO299 := n3_; have BK281 := n4_; have BK296 := n5_; have HB := n6_; clear n0_ n1_ n2_ n3_ n4_ n5_ n6_; (try clear hb); (try clear hb2); (try clear hk); (try clear hi); (try clear ho0); have hnb33 := NB281_296.out; have hnc33 := NB296_281.out; have hcz34_0 : w32.cell? ⟨gb281, 0, none⟩ = some (.slice A1_0 l1_0.length c1_0) := (blk_cell BK281.out 0).trans rfl; have hcz34_1 : w32.cell? ⟨gb281, 1, none⟩ = some (.slice A1_1 l1_1.length c1_1) := (blk_cell BK281.out 1).trans rfl; have hfz34_0 := blk_frozen BK281.out 0; have hfz34_1 := blk_frozen BK281.out 1) | ((with_reducible refine gate_callee (f := 20) rfl ?_); refine goesL_ (some 36) rfl rfl Try.func20 (by kernel_rfl) rfl #[.agg #[.slice A1_0 l1_0.length c1_0, .slice A1_1 l1_1.length c1_1]] rfl sG ?_; (with_reducible refine (laws_toLine.calls k _ _ l1_0 _ _ l1_1 t300 t303 _ ?side1 ?side2 ?side3 ?side4 A18.out).mono ?_); (case side1 => exact sC (Kd.C_below HR1_0.out HB.out)); (case side2 => exact HC1_0.out); (case side3 => exact sC (Kd.C_below HR1_1.out HB.out)); (case side4 => exact HC1_1.out); rintro e w35 ⟨v301, v304, rfl, ho0, ho1, hb⟩; refine ⟨_, rfl, ?_⟩; have n0_ := aS (Kd.R_below (sR HO286.out) hb); have n1_ := aS (Kd.R_elder' (sR HO289.out) (Kd.R_base ho0) hb); have n2_ := aS (Kd.R_elder' (sR HO292.out) (Kd.R_base ho1) hb); have n3_ := aS (Kd.R_below (sR HO299.out) hb); have n4_ := aS (Kd.R_lower (Kd.R_new' ho0 (Kd.R_lt (sR HO289.out))) (below_size (sW HB.out))); have n5_ := aS (Kd.R_lower (Kd.R_new' ho1 (Kd.R_lt (sR HO292.out))) (below_size (sW HB.out))); have n6_ := aS (blk_below (g := gb281) (o := .cells #[.slice A1_0 l1_0.length c1_0, .slice A1_1 l1_1.length c1_1] 32 (0, 0)) (sB BK281.out) hb); have n7_ := aS (blk_below (g := gb296) (o := .cells #[.int .i64 t293, .int .i64 t294] 51 (0, 0)) (sB BK296.out) hb); have n8_ := aS (below_step (sW HB.out) hb); clear HO286 HO289 HO292 HO299 BK281 BK296 HB; have HO286 := n0_; have HO289 := n1_; have HO292 := n2_; have HO299 := n3_; have HO302 := n4_; have HO305 := n5_; have BK281 := n6_; have BK296 := n7_; have HB := n8_; clear n0_ n1_ n2_ n3_ n4_ n5_ n6_ n7_ n8_; (try clear hb); (try clear hb2); (try clear hk); (try clear hi); (try clear ho0); (try clear ho1)) | ((with_reducible refine gate_dst (N := 11) rfl ?_); refine box_event ?hg (N := 11) ?hd (cs := #[.slice none 0 0, .slice none 0 0]) (t := 37) ?hr ?_; (case hd => rfl); (case hg => rfl); (case hr => first | (go_simp; done) | (go_simp; rfl)); intro gb306 hg w36 hbox hb; have n0_ := aS (Kd.R_below (sR HO286.out) hb); have n1_ := aS (Kd.R_below (sR HO289.out) hb); have n2_ := aS (Kd.R_below (sR HO292.out) hb); have n3_ := aS (Kd.R_below (sR HO299.out) hb); have n4_ := aS (Kd.R_below (sR HO302.out) hb); have n5_ := aS (Kd.R_below (sR HO305.out) hb); have n6_ := aS (blk_below (g := gb281) (o := .cells #[.slice A1_0 l1_0.length c1_0, .slice A1_1 l1_1.length c1_1] 32 (0, 0)) (sB BK281.out) hb); have n7_ := aS (blk_below (g := gb296) (o := .cells #[.int .i64 t293, .int .i64 t294] 51 (0, 0)) (sB BK296.out) hb); have n8_ := aS (below_step (sW HB.out) hb); have n9_ := aS (hbox); have n10_ := aS ((by rw [hg]; exact (below_size (sW HB.out)) : w.heap.size ≤ gb306)); have n11_ := aS ((by rw [hg]; exact (below_size (sW HB.out)) : w.heap.size ≤ gb306)); have n12_ := aS ((by rw [hg]; exact Nat.ne_of_lt (blk_lt (g := gb281) (o := .cells #[.slice A1_0 l1_0.length c1_0, .slice A1_1 l1_1.length c1_1] 32 (0, 0)) (sB BK281.out)) : gb281 ≠ gb306)); have n13_ := aS ((by rw [hg]; exact Nat.ne_of_gt (blk_lt (g := gb281) (o := .cells #[.slice A1_0 l1_0.length c1_0, .slice A1_1 l1_1.length c1_1] 32 (0, 0)) (sB BK281.out)) : gb306 ≠ gb281)); have n14_ := aS ((by rw [hg]; exact Nat.ne_of_lt (blk_lt (g := gb296) (o := .cells #[.int .i64 t293, .int .i64 t294] 51 (0, 0)) (sB BK296.out)) : gb296 ≠ gb306)); have n15_ := aS ((by rw [hg]; exact Nat.ne_of_gt (blk_lt (g := gb296) (o := .cells #[.int .i64 t293, .int .i64 t294] 51 (0, 0)) (sB BK296.out)) : gb306 ≠ gb296)); clear HO286 HO289 HO292 HO299 HO302 HO305 BK281 BK296 HB; have HO286 := n0_; have HO289 := n1_; have HO292 := n2_; have HO299 := n3_; have HO302 := n4_; have HO305 := n5_; have BK281 := n6_; have BK296 := n7_; have HB := n8_; have BK306 := n9_; have GW306 := n10_; have GE306 := n11_; have NB281_306 := n12_; have NB306_281 := n13_; have NB296_306 := n14_; have NB306_296 := n15_; clear n0_ n1_ n2_ n3_ n4_ n5_ n6_ n7_ n8_ n9_ n10_ n11_ n12_ n13_ n14_ n15_; clear hb hbox hg; obtain ⟨Ao37, co37, eo37⟩ := Kd.R_slice HO302.out; subst eo37; have hnb38 := NB306_281.out; have hnc38 := NB281_306.out; have hnb39 := NB306_296.out; have hnc39 := NB296_306.out; have hcz40_0 : w36.cell? ⟨gb306, 0, none⟩ = some (.slice none 0 0) := (blk_cell BK306.out 0).trans rfl; have hcz40_1 : w36.cell? ⟨gb306, 1, none⟩ = some (.slice none 0 0) := (blk_cell BK306.out 1).trans rfl; have hfz40_0 := blk_frozen BK306.out 0; have hfz40_1 := blk_frozen BK306.out 1; obtain ⟨Ao41, co41, eo41⟩ := Kd.R_slice HO305.out; subst eo41; obtain ⟨Ao42, co42, eo42⟩ := Kd.R_slice HO299.out; subst eo42) | ((with_reducible refine gate_callee (f := 31) rfl ?_); refine goesL_ (some 41) rfl rfl Try.func31 (by kernel_rfl) rfl #[.slice Ao42 t297.length co42, .agg #[.slice Ao37 t300.length co37, .slice Ao41 t303.length co41], .int .i64 a2] rfl sG ?_; (with_reducible refine (impl_StrengthAt.calls k _ _ t297 _ _ t300 _ _ t303 a2 t307 t308 t309 _ ?side1 ?side2 ?side3 ?side4 ?side5 ?side6 A19.out).mono ?_); (case side1 => refine (Kd.R_reads' (e := 68) (base := w.heap.size) (ok := fun k_ => (True ∧ some k_ ≠ (v285 : Value).ownBlock)) (n := t297.length) (c := co42) ?_).2.2; exact (sR (Kd.R_mono (Kd.R_far (p := ⟨gb306, 1, none⟩) (Kd.R_far (p := ⟨gb306, 0, none⟩) (Kd.R_types HO299.out BK306.out (by decide)) (fun _ hk => hk.2) (.slice Ao37 t300.length co37)) (fun _ hk => hk.2) (.slice Ao41 t303.length co41)) (fun _ h_ => h_.1)))); (case side2 => exact (Kd.R_reads' HO299.out).2.1); (case side3 => refine (Kd.R_reads' (e := 44) (base := w.heap.size) (ok := fun k_ => (True ∧ some k_ ≠ (v288 : Value).ownBlock)) (n := t300.length) (c := co37) ?_).2.2; exact (sR (Kd.R_mono (Kd.R_far (p := ⟨gb306, 1, none⟩) (Kd.R_far (p := ⟨gb306, 0, none⟩) (Kd.R_types HO302.out BK306.out (by decide)) (fun _ hk => hk.2) (.slice Ao37 t300.length co37)) (fun _ hk => hk.2) (.slice Ao41 t303.length co41)) (fun _ h_ => h_.1)))); (case side4 => exact (Kd.R_reads' HO302.out).2.1); (case side5 => refine (Kd.R_reads' (e := 2) (base := w.heap.size) (ok := fun k_ => (True ∧ some k_ ≠ (v291 : Value).ownBlock)) (n := t303.length) (c := co41) ?_).2.2; exact (sR (Kd.R_mono (Kd.R_far (p := ⟨gb306, 1, none⟩) (Kd.R_far (p := ⟨gb306, 0, none⟩) (Kd.R_types HO305.out BK306.out (by decide)) (fun _ hk => hk.2) (.slice Ao37 t300.length co37)) (fun _ hk => hk.2) (.slice Ao41 t303.length co41)) (fun _ h_ => h_.1)))); (case side6 => exact (Kd.R_reads' HO305.out).2.1); rintro e w43 ⟨rfl, hb⟩; refine ⟨_, rfl, ?_⟩; have n0_ := aS (Kd.R_below (sR (Kd.R_mono (Kd.R_far (p := ⟨gb306, 1, none⟩) (Kd.R_far (p := ⟨gb306, 0, none⟩) (Kd.R_types HO286.out BK306.out (by decide)) (fun _ hk => hk.2) (.slice Ao37 t300.length co37)) (fun _ hk => hk.2) (.slice Ao41 t303.length co41)) (fun _ h_ => h_.1))) hb); have n1_ := aS (Kd.R_below (sR (Kd.R_mono (Kd.R_far (p := ⟨gb306, 1, none⟩) (Kd.R_far (p := ⟨gb306, 0, none⟩) (Kd.R_types HO289.out BK306.out (by decide)) (fun _ hk => hk.2) (.slice Ao37 t300.length co37)) (fun _ hk => hk.2) (.slice Ao41 t303.length co41)) (fun _ h_ => h_.1))) hb); have n2_ := aS (Kd.R_below (sR (Kd.R_mono (Kd.R_far (p := ⟨gb306, 1, none⟩) (Kd.R_far (p := ⟨gb306, 0, none⟩) (Kd.R_types HO292.out BK306.out (by decide)) (fun _ hk => hk.2) (.slice Ao37 t300.length co37)) (fun _ hk => hk.2) (.slice Ao41 t303.length co41)) (fun _ h_ => h_.1))) hb); have n3_ := aS (Kd.R_below (sR (Kd.R_mono (Kd.R_far (p := ⟨gb306, 1, none⟩) (Kd.R_far (p := ⟨gb306, 0, none⟩) (Kd.R_types HO299.out BK306.out (by decide)) (fun _ hk => hk.2) (.slice Ao37 t300.length co37)) (fun _ hk => hk.2) (.slice Ao41 t303.length co41)) (fun _ h_ => h_.1))) hb); have n4_ := aS (Kd.R_below (sR (Kd.R_mono (Kd.R_far (p := ⟨gb306, 1, none⟩) (Kd.R_far (p := ⟨gb306, 0, none⟩) (Kd.R_types HO302.out BK306.out (by decide)) (fun _ hk => hk.2) (.slice Ao37 t300.length co37)) (fun _ hk => hk.2) (.slice Ao41 t303.length co41)) (fun _ h_ => h_.1))) hb); have n5_ := aS (Kd.R_below (sR (Kd.R_mono (Kd.R_far (p := ⟨gb306, 1, none⟩) (Kd.R_far (p := ⟨gb306, 0, none⟩) (Kd.R_types HO305.out BK306.out (by decide)) (fun _ hk => hk.2) (.slice Ao37 t300.length co37)) (fun _ hk => hk.2) (.slice Ao41 t303.length co41)) (fun _ h_ => h_.1))) hb); have n6_ := aS (blk_below (g := gb281) (o := .cells #[.slice A1_0 l1_0.length c1_0, .slice A1_1 l1_1.length c1_1] 32 (0, 0)) (by (with_reducible repeat (first | refine blk_drewN ?_ _ | refine blk_drew ?_ | refine blk_alloc ?_ _)); refine blk_far ?_ NB281_306.out _; (with_reducible repeat (first | refine blk_drewN ?_ _ | refine blk_drew ?_ | refine blk_alloc ?_ _)); refine blk_far ?_ NB281_306.out _; (with_reducible repeat (first | refine blk_drewN ?_ _ | refine blk_drew ?_ | refine blk_alloc ?_ _)); exact BK281.out) hb); have n7_ := aS (blk_below (g := gb296) (o := .cells #[.int .i64 t293, .int .i64 t294] 51 (0, 0)) (by (with_reducible repeat (first | refine blk_drewN ?_ _ | refine blk_drew ?_ | refine blk_alloc ?_ _)); refine blk_far ?_ NB296_306.out _; (with_reducible repeat (first | refine blk_drewN ?_ _ | refine blk_drew ?_ | refine blk_alloc ?_ _)); refine blk_far ?_ NB296_306.out _; (with_reducible repeat (first | refine blk_drewN ?_ _ | refine blk_drew ?_ | refine blk_alloc ?_ _)); exact BK296.out) hb); have n8_ := aS (blk_below (g := gb306) (o := .cells #[.slice Ao37 t300.length co37, .slice Ao41 t303.length co41] 37 (0, 0)) (by (with_reducible repeat (first | refine blk_drewN ?_ _ | refine blk_drew ?_ | refine blk_alloc ?_ _)); refine blk_put (cs := #[.slice Ao37 t300.length co37, .slice none 0 0]) ?_ 1 _ rfl; (with_reducible repeat (first | refine blk_drewN ?_ _ | refine blk_drew ?_ | refine blk_alloc ?_ _)); refine blk_put (cs := #[.slice none 0 0, .slice none 0 0]) ?_ 0 _ rfl; (with_reducible repeat (first | refine blk_drewN ?_ _ | refine blk_drew ?_ | refine blk_alloc ?_ _)); exact BK306.out) hb); have n9_ := aS (below_step (sW HB.out) hb); clear HO286 HO289 HO292 HO299 HO302 HO305 BK281 BK296 BK306 HB; have HO286 := n0_; have HO289 := n1_; have HO292 := n2_; have HO299 := n3_; have HO302 := n4_; have HO305 := n5_; have BK281 := n6_; have BK296 := n7_; have BK306 := n8_; have HB := n9_; clear n0_ n1_ n2_ n3_ n4_ n5_ n6_ n7_ n8_ n9_; (try clear hb); (try clear hb2); (try clear hk); (try clear hi)) | ((with_reducible refine gate_dst (N := 12) rfl ?_); refine box_event ?hg (N := 12) ?hd (cs := #[.int .i64 0, .int .i64 0]) (t := 51) ?hr ?_; (case hd => rfl); (case hg => rfl); (case hr => first | (go_simp; done) | (go_simp; rfl)); intro gb310 hg w44 hbox hb; have n0_ := aS (Kd.R_below (sR HO286.out) hb); have n1_ := aS (Kd.R_below (sR HO289.out) hb); have n2_ := aS (Kd.R_below (sR HO292.out) hb); have n3_ := aS (Kd.R_below (sR HO299.out) hb); have n4_ := aS (Kd.R_below (sR HO302.out) hb); have n5_ := aS (Kd.R_below (sR HO305.out) hb); have n6_ := aS (blk_below (g := gb281) (o := .cells #[.slice A1_0 l1_0.length c1_0, .slice A1_1 l1_1.length c1_1] 32 (0, 0)) (sB BK281.out) hb); have n7_ := aS (blk_below (g := gb296) (o := .cells #[.int .i64 t293, .int .i64 t294] 51 (0, 0)) (sB BK296.out) hb); have n8_ := aS (blk_below (g := gb306) (o := .cells #[.slice Ao37 t300.length co37, .slice Ao41 t303.length co41] 37 (0, 0)) (sB BK306.out) hb); have n9_ := aS (below_step (sW HB.out) hb); have n10_ := aS (hbox); have n11_ := aS ((by rw [hg]; exact (below_size (sW HB.out)) : w.heap.size ≤ gb310)); have n12_ := aS ((by rw [hg]; exact (below_size (sW HB.out)) : w.heap.size ≤ gb310)); have n13_ := aS ((by rw [hg]; exact Nat.ne_of_lt (blk_lt (g := gb281) (o := .cells #[.slice A1_0 l1_0.length c1_0, .slice A1_1 l1_1.length c1_1] 32 (0, 0)) (sB BK281.out)) : gb281 ≠ gb310)); have n14_ := aS ((by rw [hg]; exact Nat.ne_of_gt (blk_lt (g := gb281) (o := .cells #[.slice A1_0 l1_0.length c1_0, .slice A1_1 l1_1.length c1_1] 32 (0, 0)) (sB BK281.out)) : gb310 ≠ gb281)); have n15_ := aS ((by rw [hg]; exact Nat.ne_of_lt (blk_lt (g := gb296) (o := .cells #[.int .i64 t293, .int .i64 t294] 51 (0, 0)) (sB BK296.out)) : gb296 ≠ gb310)); have n16_ := aS ((by rw [hg]; exact Nat.ne_of_gt (blk_lt (g := gb296) (o := .cells #[.int .i64 t293, .int .i64 t294] 51 (0, 0)) (sB BK296.out)) : gb310 ≠ gb296)); have n17_ := aS ((by rw [hg]; exact Nat.ne_of_lt (blk_lt (g := gb306) (o := .cells #[.slice Ao37 t300.length co37, .slice Ao41 t303.length co41] 37 (0, 0)) (sB BK306.out)) : gb306 ≠ gb310)); have n18_ := aS ((by rw [hg]; exact Nat.ne_of_gt (blk_lt (g := gb306) (o := .cells #[.slice Ao37 t300.length co37, .slice Ao41 t303.length co41] 37 (0, 0)) (sB BK306.out)) : gb310 ≠ gb306)); clear HO286 HO289 HO292 HO299 HO302 HO305 BK281 BK296 BK306 HB; have HO286 := n0_; have HO289 := n1_; have HO292 := n2_; have HO299 := n3_; have HO302 := n4_; have HO305 := n5_; have BK281 := n6_; have BK296 := n7_; have BK306 := n8_; have HB := n9_; have BK310 := n10_; have GW310 := n11_; have GE310 := n12_; have NB281_310 := n13_; have NB310_281 := n14_; have NB296_310 := n15_; have NB310_296 := n16_; have NB306_310 := n17_; have NB310_306 := n18_; clear n0_ n1_ n2_ n3_ n4_ n5_ n6_ n7_ n8_ n9_ n10_ n11_ n12_ n13_ n14_ n15_ n16_ n17_ n18_; clear hb hbox hg; have hnb45 := NB310_281.out; have hnc45 := NB281_310.out; have hnb46 := NB310_296.out; have hnc46 := NB296_310.out; have hnb47 := NB310_306.out; have hnc47 := NB306_310.out; have hcz48_0 : w44.cell? ⟨gb310, 0, none⟩ = some (.int .i64 0) := (blk_cell BK310.out 0).trans rfl; have hcz48_1 : w44.cell? ⟨gb310, 1, none⟩ = some (.int .i64 0) := (blk_cell BK310.out 1).trans rfl; have hfz48_0 := blk_frozen BK310.out 0; have hfz48_1 := blk_frozen BK310.out 1))
   (try simp only [Act.put, List.setIfInBounds_toArray, List.set_cons_zero, List.set_cons_succ])
   go_cut [52] (fun v52 wc => ∃ (kq : Nat) (x52_19 : Bool), v52 = .bool x52_19 ∧ Aside0 (laws_FnExactStrengthAt.j0 kq l0 t297 x52_19 l1_0 l1_1 t300 t303 = some r) ∧ Aside0 (kq ≤ k) ∧ Aside0 (Kd.R k68 68 wc w.heap.size (fun _ => True) (.slice Ao42 t297.length co42) t297) ∧ Aside0 (Kd.R k44 44 wc w.heap.size (fun _ => True) (.slice Ao37 t300.length co37) t300) ∧ Aside0 (Kd.R (Kd.int .i64) 2 wc w.heap.size (fun _ => True) (.slice Ao41 t303.length co41) t303) ∧ Aside0 (wc.heap[gb281]? = some (.cells #[(.slice A1_0 l1_0.length c1_0), (.slice A1_1 l1_1.length c1_1)] 32 (0, 0))) ∧ Aside0 (wc.heap[gb306]? = some (.cells #[(.slice Ao37 t300.length co37), (.slice Ao41 t303.length co41)] 37 (0, 0))) ∧ Aside0 (Below w.heap.size w wc))
   case first =>
    have H := HC20.out
    clear HC20
    replace H := Option.bind_eq_some_iff.mp H
    obtain ⟨t311, A490, H⟩ := H
    replace H : (if t311 = true then (laws_FnExactStrengthAt.j0 k l0 t297 (t309 != t295) l1_0 l1_1 t300 t303) else (laws_FnExactStrengthAt.j0 k l0 t297 true l1_0 l1_1 t300 t303)) = some r := H
    have A49 := aS A490
    clear A490
    by_cases c50 : t311 = true
    ·
     subst c50
     have H1 : (laws_FnExactStrengthAt.j0 k l0 t297 (t309 != t295) l1_0 l1_1 t300 t303) = some r := by rw [if_pos rfl] at H; exact H
     clear H
     have H := H1
     clear H1
     have H' := aS H
     clear H
     have hnb51 := NB310_281.out
     have hnc51 := NB281_310.out
     have hnb52 := NB310_296.out
     have hnc52 := NB296_310.out
     have hnb53 := NB310_306.out
     have hnc53 := NB306_310.out
     have hcz54_0 : w44.cell? ⟨gb310, 0, none⟩ = some (.int .i64 0) := (blk_cell BK310.out 0).trans rfl
     have hcz54_1 : w44.cell? ⟨gb310, 1, none⟩ = some (.int .i64 0) := (blk_cell BK310.out 1).trans rfl
     have hfz54_0 := blk_frozen BK310.out 0
     have hfz54_1 := blk_frozen BK310.out 1
     have hnb55 := NB296_281.out
     have hnc55 := NB281_296.out
     have hnb56 := NB296_306.out
     have hnc56 := NB306_296.out
     have hcz57_0 : w44.cell? ⟨gb296, 0, none⟩ = some (.int .i64 t293) := (blk_cell BK296.out 0).trans rfl
     have hcz57_1 : w44.cell? ⟨gb296, 1, none⟩ = some (.int .i64 t294) := (blk_cell BK296.out 1).trans rfl
     have hfz57_0 := blk_frozen BK296.out 0
     have hfz57_1 := blk_frozen BK296.out 1
     go_wp2_with (first | ((with_reducible refine gate_callee (f := 32) rfl ?_); refine goesL_ (some 46) rfl rfl Try.func32 (by kernel_rfl) rfl #[.agg #[.int .i64 t307, .int .i64 t308], .agg #[.int .i64 t293, .int .i64 t294]] rfl sG ?_; (with_reducible refine (laws_eqFraction.calls t307 t308 t293 t294 true _ A49.out).mono ?_); rintro e w58 ⟨rfl, hb⟩; refine ⟨_, rfl, ?_⟩; have n0_ := aS (Kd.R_below (sR (Kd.R_mono (Kd.R_far (p := ⟨gb310, 1, none⟩) (Kd.R_far (p := ⟨gb310, 0, none⟩) (Kd.R_types HO286.out BK310.out (by decide)) (fun _ hk => hk.2) (.int .i64 t307)) (fun _ hk => hk.2) (.int .i64 t308)) (fun _ h_ => h_.1))) hb); have n1_ := aS (Kd.R_below (sR (Kd.R_mono (Kd.R_far (p := ⟨gb310, 1, none⟩) (Kd.R_far (p := ⟨gb310, 0, none⟩) (Kd.R_types HO289.out BK310.out (by decide)) (fun _ hk => hk.2) (.int .i64 t307)) (fun _ hk => hk.2) (.int .i64 t308)) (fun _ h_ => h_.1))) hb); have n2_ := aS (Kd.R_below (sR (Kd.R_mono (Kd.R_far (p := ⟨gb310, 1, none⟩) (Kd.R_far (p := ⟨gb310, 0, none⟩) (Kd.R_types HO292.out BK310.out (by decide)) (fun _ hk => hk.2) (.int .i64 t307)) (fun _ hk => hk.2) (.int .i64 t308)) (fun _ h_ => h_.1))) hb); have n3_ := aS (Kd.R_below (sR (Kd.R_mono (Kd.R_far (p := ⟨gb310, 1, none⟩) (Kd.R_far (p := ⟨gb310, 0, none⟩) (Kd.R_types HO299.out BK310.out (by decide)) (fun _ hk => hk.2) (.int .i64 t307)) (fun _ hk => hk.2) (.int .i64 t308)) (fun _ h_ => h_.1))) hb); have n4_ := aS (Kd.R_below (sR (Kd.R_mono (Kd.R_far (p := ⟨gb310, 1, none⟩) (Kd.R_far (p := ⟨gb310, 0, none⟩) (Kd.R_types HO302.out BK310.out (by decide)) (fun _ hk => hk.2) (.int .i64 t307)) (fun _ hk => hk.2) (.int .i64 t308)) (fun _ h_ => h_.1))) hb); have n5_ := aS (Kd.R_below (sR (Kd.R_mono (Kd.R_far (p := ⟨gb310, 1, none⟩) (Kd.R_far (p := ⟨gb310, 0, none⟩) (Kd.R_types HO305.out BK310.out (by decide)) (fun _ hk => hk.2) (.int .i64 t307)) (fun _ hk => hk.2) (.int .i64 t308)) (fun _ h_ => h_.1))) hb); have n6_ := aS (blk_below (g := gb281) (o := .cells #[.slice A1_0 l1_0.length c1_0, .slice A1_1 l1_1.length c1_1] 32 (0, 0)) (by (with_reducible repeat (first | refine blk_drewN ?_ _ | refine blk_drew ?_ | refine blk_alloc ?_ _)); refine blk_far ?_ NB281_310.out _; (with_reducible repeat (first | refine blk_drewN ?_ _ | refine blk_drew ?_ | refine blk_alloc ?_ _)); refine blk_far ?_ NB281_310.out _; (with_reducible repeat (first | refine blk_drewN ?_ _ | refine blk_drew ?_ | refine blk_alloc ?_ _)); exact BK281.out) hb); have n7_ := aS (blk_below (g := gb296) (o := .cells #[.int .i64 t293, .int .i64 t294] 51 (0, 0)) (by (with_reducible repeat (first | refine blk_drewN ?_ _ | refine blk_drew ?_ | refine blk_alloc ?_ _)); refine blk_far ?_ NB296_310.out _; (with_reducible repeat (first | refine blk_drewN ?_ _ | refine blk_drew ?_ | refine blk_alloc ?_ _)); refine blk_far ?_ NB296_310.out _; (with_reducible repeat (first | refine blk_drewN ?_ _ | refine blk_drew ?_ | refine blk_alloc ?_ _)); exact BK296.out) hb); have n8_ := aS (blk_below (g := gb306) (o := .cells #[.slice Ao37 t300.length co37, .slice Ao41 t303.length co41] 37 (0, 0)) (by (with_reducible repeat (first | refine blk_drewN ?_ _ | refine blk_drew ?_ | refine blk_alloc ?_ _)); refine blk_far ?_ NB306_310.out _; (with_reducible repeat (first | refine blk_drewN ?_ _ | refine blk_drew ?_ | refine blk_alloc ?_ _)); refine blk_far ?_ NB306_310.out _; (with_reducible repeat (first | refine blk_drewN ?_ _ | refine blk_drew ?_ | refine blk_alloc ?_ _)); exact BK306.out) hb); have n9_ := aS (blk_below (g := gb310) (o := .cells #[.int .i64 t307, .int .i64 t308] 51 (0, 0)) (by (with_reducible repeat (first | refine blk_drewN ?_ _ | refine blk_drew ?_ | refine blk_alloc ?_ _)); refine blk_put (cs := #[.int .i64 t307, .int .i64 0]) ?_ 1 _ rfl; (with_reducible repeat (first | refine blk_drewN ?_ _ | refine blk_drew ?_ | refine blk_alloc ?_ _)); refine blk_put (cs := #[.int .i64 0, .int .i64 0]) ?_ 0 _ rfl; (with_reducible repeat (first | refine blk_drewN ?_ _ | refine blk_drew ?_ | refine blk_alloc ?_ _)); exact BK310.out) hb); have n10_ := aS (below_step (sW HB.out) hb); clear HO286 HO289 HO292 HO299 HO302 HO305 BK281 BK296 BK306 BK310 HB; have HO286 := n0_; have HO289 := n1_; have HO292 := n2_; have HO299 := n3_; have HO302 := n4_; have HO305 := n5_; have BK281 := n6_; have BK296 := n7_; have BK306 := n8_; have BK310 := n9_; have HB := n10_; clear n0_ n1_ n2_ n3_ n4_ n5_ n6_ n7_ n8_ n9_ n10_; (try clear hb); (try clear hb2); (try clear hk); (try clear hi)))
     go_meet
     case rel => exact ⟨_, ((t309 != t295)), (by first | rfl | (simp; done) | (simp [*]; done) | (simp only [i64_w]; done) | (simp [i64_w]; done)), H', ⟨by first | omega | exact Nat.le_refl _⟩, ⟨by (with_reducible repeat (first | apply Kd.R_alloc | apply Kd.R_drewN | apply Kd.R_drew)); exact Kd.R_mono HO299.out (fun _ hk => trivial)⟩, ⟨by (with_reducible repeat (first | apply Kd.R_alloc | apply Kd.R_drewN | apply Kd.R_drew)); exact Kd.R_mono HO302.out (fun _ hk => trivial)⟩, ⟨by (with_reducible repeat (first | apply Kd.R_alloc | apply Kd.R_drewN | apply Kd.R_drew)); exact Kd.R_mono HO305.out (fun _ hk => trivial)⟩, ⟨by (with_reducible repeat (first | refine blk_drewN ?_ _ | refine blk_drew ?_ | refine blk_alloc ?_ _)); exact BK281.out⟩, ⟨by (with_reducible repeat (first | refine blk_drewN ?_ _ | refine blk_drew ?_ | refine blk_alloc ?_ _)); exact BK306.out⟩, ⟨by repeat (first | (with_reducible first | exact HB.out | apply below_alloc | apply pw_below_drewN | apply below_drew1 | refine below_set ?_ GE281.out | refine below_set ?_ GE306.out) | exact HB.out)⟩⟩
    ·
     replace c50 := Bool.eq_false_iff.mpr c50
     subst c50
     have H1 : (laws_FnExactStrengthAt.j0 k l0 t297 true l1_0 l1_1 t300 t303) = some r := by rw [if_neg (show ¬ (false = true) by decide)] at H; exact H
     clear H
     have H := H1
     clear H1
     have H' := aS H
     clear H
     have hnb59 := NB310_281.out
     have hnc59 := NB281_310.out
     have hnb60 := NB310_296.out
     have hnc60 := NB296_310.out
     have hnb61 := NB310_306.out
     have hnc61 := NB306_310.out
     have hcz62_0 : w44.cell? ⟨gb310, 0, none⟩ = some (.int .i64 0) := (blk_cell BK310.out 0).trans rfl
     have hcz62_1 : w44.cell? ⟨gb310, 1, none⟩ = some (.int .i64 0) := (blk_cell BK310.out 1).trans rfl
     have hfz62_0 := blk_frozen BK310.out 0
     have hfz62_1 := blk_frozen BK310.out 1
     have hnb63 := NB296_281.out
     have hnc63 := NB281_296.out
     have hnb64 := NB296_306.out
     have hnc64 := NB306_296.out
     have hcz65_0 : w44.cell? ⟨gb296, 0, none⟩ = some (.int .i64 t293) := (blk_cell BK296.out 0).trans rfl
     have hcz65_1 : w44.cell? ⟨gb296, 1, none⟩ = some (.int .i64 t294) := (blk_cell BK296.out 1).trans rfl
     have hfz65_0 := blk_frozen BK296.out 0
     have hfz65_1 := blk_frozen BK296.out 1
     go_wp2_with (first | ((with_reducible refine gate_callee (f := 32) rfl ?_); refine goesL_ (some 46) rfl rfl Try.func32 (by kernel_rfl) rfl #[.agg #[.int .i64 t307, .int .i64 t308], .agg #[.int .i64 t293, .int .i64 t294]] rfl sG ?_; (with_reducible refine (laws_eqFraction.calls t307 t308 t293 t294 false _ A49.out).mono ?_); rintro e w66 ⟨rfl, hb⟩; refine ⟨_, rfl, ?_⟩; have n0_ := aS (Kd.R_below (sR (Kd.R_mono (Kd.R_far (p := ⟨gb310, 1, none⟩) (Kd.R_far (p := ⟨gb310, 0, none⟩) (Kd.R_types HO286.out BK310.out (by decide)) (fun _ hk => hk.2) (.int .i64 t307)) (fun _ hk => hk.2) (.int .i64 t308)) (fun _ h_ => h_.1))) hb); have n1_ := aS (Kd.R_below (sR (Kd.R_mono (Kd.R_far (p := ⟨gb310, 1, none⟩) (Kd.R_far (p := ⟨gb310, 0, none⟩) (Kd.R_types HO289.out BK310.out (by decide)) (fun _ hk => hk.2) (.int .i64 t307)) (fun _ hk => hk.2) (.int .i64 t308)) (fun _ h_ => h_.1))) hb); have n2_ := aS (Kd.R_below (sR (Kd.R_mono (Kd.R_far (p := ⟨gb310, 1, none⟩) (Kd.R_far (p := ⟨gb310, 0, none⟩) (Kd.R_types HO292.out BK310.out (by decide)) (fun _ hk => hk.2) (.int .i64 t307)) (fun _ hk => hk.2) (.int .i64 t308)) (fun _ h_ => h_.1))) hb); have n3_ := aS (Kd.R_below (sR (Kd.R_mono (Kd.R_far (p := ⟨gb310, 1, none⟩) (Kd.R_far (p := ⟨gb310, 0, none⟩) (Kd.R_types HO299.out BK310.out (by decide)) (fun _ hk => hk.2) (.int .i64 t307)) (fun _ hk => hk.2) (.int .i64 t308)) (fun _ h_ => h_.1))) hb); have n4_ := aS (Kd.R_below (sR (Kd.R_mono (Kd.R_far (p := ⟨gb310, 1, none⟩) (Kd.R_far (p := ⟨gb310, 0, none⟩) (Kd.R_types HO302.out BK310.out (by decide)) (fun _ hk => hk.2) (.int .i64 t307)) (fun _ hk => hk.2) (.int .i64 t308)) (fun _ h_ => h_.1))) hb); have n5_ := aS (Kd.R_below (sR (Kd.R_mono (Kd.R_far (p := ⟨gb310, 1, none⟩) (Kd.R_far (p := ⟨gb310, 0, none⟩) (Kd.R_types HO305.out BK310.out (by decide)) (fun _ hk => hk.2) (.int .i64 t307)) (fun _ hk => hk.2) (.int .i64 t308)) (fun _ h_ => h_.1))) hb); have n6_ := aS (blk_below (g := gb281) (o := .cells #[.slice A1_0 l1_0.length c1_0, .slice A1_1 l1_1.length c1_1] 32 (0, 0)) (by (with_reducible repeat (first | refine blk_drewN ?_ _ | refine blk_drew ?_ | refine blk_alloc ?_ _)); refine blk_far ?_ NB281_310.out _; (with_reducible repeat (first | refine blk_drewN ?_ _ | refine blk_drew ?_ | refine blk_alloc ?_ _)); refine blk_far ?_ NB281_310.out _; (with_reducible repeat (first | refine blk_drewN ?_ _ | refine blk_drew ?_ | refine blk_alloc ?_ _)); exact BK281.out) hb); have n7_ := aS (blk_below (g := gb296) (o := .cells #[.int .i64 t293, .int .i64 t294] 51 (0, 0)) (by (with_reducible repeat (first | refine blk_drewN ?_ _ | refine blk_drew ?_ | refine blk_alloc ?_ _)); refine blk_far ?_ NB296_310.out _; (with_reducible repeat (first | refine blk_drewN ?_ _ | refine blk_drew ?_ | refine blk_alloc ?_ _)); refine blk_far ?_ NB296_310.out _; (with_reducible repeat (first | refine blk_drewN ?_ _ | refine blk_drew ?_ | refine blk_alloc ?_ _)); exact BK296.out) hb); have n8_ := aS (blk_below (g := gb306) (o := .cells #[.slice Ao37 t300.length co37, .slice Ao41 t303.length co41] 37 (0, 0)) (by (with_reducible repeat (first | refine blk_drewN ?_ _ | refine blk_drew ?_ | refine blk_alloc ?_ _)); refine blk_far ?_ NB306_310.out _; (with_reducible repeat (first | refine blk_drewN ?_ _ | refine blk_drew ?_ | refine blk_alloc ?_ _)); refine blk_far ?_ NB306_310.out _; (with_reducible repeat (first | refine blk_drewN ?_ _ | refine blk_drew ?_ | refine blk_alloc ?_ _)); exact BK306.out) hb); have n9_ := aS (blk_below (g := gb310) (o := .cells #[.int .i64 t307, .int .i64 t308] 51 (0, 0)) (by (with_reducible repeat (first | refine blk_drewN ?_ _ | refine blk_drew ?_ | refine blk_alloc ?_ _)); refine blk_put (cs := #[.int .i64 t307, .int .i64 0]) ?_ 1 _ rfl; (with_reducible repeat (first | refine blk_drewN ?_ _ | refine blk_drew ?_ | refine blk_alloc ?_ _)); refine blk_put (cs := #[.int .i64 0, .int .i64 0]) ?_ 0 _ rfl; (with_reducible repeat (first | refine blk_drewN ?_ _ | refine blk_drew ?_ | refine blk_alloc ?_ _)); exact BK310.out) hb); have n10_ := aS (below_step (sW HB.out) hb); clear HO286 HO289 HO292 HO299 HO302 HO305 BK281 BK296 BK306 BK310 HB; have HO286 := n0_; have HO289 := n1_; have HO292 := n2_; have HO299 := n3_; have HO302 := n4_; have HO305 := n5_; have BK281 := n6_; have BK296 := n7_; have BK306 := n8_; have BK310 := n9_; have HB := n10_; clear n0_ n1_ n2_ n3_ n4_ n5_ n6_ n7_ n8_ n9_ n10_; (try clear hb); (try clear hb2); (try clear hk); (try clear hi)))
     go_meet
     case rel => exact ⟨_, (true), (by first | rfl | (simp; done) | (simp [*]; done) | (simp only [i64_w]; done) | (simp [i64_w]; done)), H', ⟨by first | omega | exact Nat.le_refl _⟩, ⟨by (with_reducible repeat (first | apply Kd.R_alloc | apply Kd.R_drewN | apply Kd.R_drew)); exact Kd.R_mono HO299.out (fun _ hk => trivial)⟩, ⟨by (with_reducible repeat (first | apply Kd.R_alloc | apply Kd.R_drewN | apply Kd.R_drew)); exact Kd.R_mono HO302.out (fun _ hk => trivial)⟩, ⟨by (with_reducible repeat (first | apply Kd.R_alloc | apply Kd.R_drewN | apply Kd.R_drew)); exact Kd.R_mono HO305.out (fun _ hk => trivial)⟩, ⟨by (with_reducible repeat (first | refine blk_drewN ?_ _ | refine blk_drew ?_ | refine blk_alloc ?_ _)); exact BK281.out⟩, ⟨by (with_reducible repeat (first | refine blk_drewN ?_ _ | refine blk_drew ?_ | refine blk_alloc ?_ _)); exact BK306.out⟩, ⟨by repeat (first | (with_reducible first | exact HB.out | apply below_alloc | apply pw_below_drewN | apply below_drew1 | refine below_set ?_ GE281.out | refine below_set ?_ GE306.out) | exact HB.out)⟩⟩
   case rest =>
    clear HC20
    (try clear c1); (try clear c2); (try clear p2); (try clear c3); (try clear c4); (try clear c5); (try clear c6); (try clear c15); (try clear c20); (try clear c30); (try clear c31); (try clear c32); (try clear c33); (try clear c38); (try clear c39); (try clear c45); (try clear c46); (try clear c47); (try clear c50); (try clear c51); (try clear c52); (try clear c53); (try clear c55); (try clear c56); (try clear c59); (try clear c60); (try clear c61); (try clear c63); (try clear c64); (try clear hcz34_0); (try clear hcz34_1); (try clear hcz40_0); (try clear hcz40_1); (try clear hcz48_0); (try clear hcz48_1); (try clear hcz54_0); (try clear hcz54_1); (try clear hcz57_0); (try clear hcz57_1); (try clear hcz62_0); (try clear hcz62_1); (try clear hcz65_0); (try clear hcz65_1); (try clear hfz34_0); (try clear hfz34_1); (try clear hfz40_0); (try clear hfz40_1); (try clear hfz48_0); (try clear hfz48_1); (try clear hfz54_0); (try clear hfz54_1); (try clear hfz57_0); (try clear hfz57_1); (try clear hfz62_0); (try clear hfz62_1); (try clear hfz65_0); (try clear hfz65_1)
    obtain ⟨kq, x52_19, rfl, HA, HJ19, HO_10, HO_307000, HO_307001, BK281, BK306, HB⟩ := hcut
    cases kq with
    | zero => exact absurd HA.out (by simp [laws_FnExactStrengthAt.j0])
    | succ kj19 =>
     have H := HA.out
     clear HA
     simp only [laws_FnExactStrengthAt.j0] at H
     by_cases c67 : x52_19 = true
     ·
      subst c67
      have H1 : (some false) = some r := by rw [if_pos rfl] at H; exact H
      clear H
      have H := H1
      clear H1
      obtain rfl := Option.some.inj H
      go_wp2
      go_ret
      exact ⟨by first | rfl | (simp [errW_none, errW_some, i64_w]; done) | (simp [errW_none, errW_some] <;> rfl) | (simp [*, errW_none, errW_some] <;> rfl), by repeat (first | (with_reducible first | exact HB.out | apply below_alloc | apply pw_below_drewN | apply below_drew1) | exact HB.out)⟩
     ·
      replace c67 := Bool.eq_false_iff.mpr c67
      subst c67
      have H1 : ((laws_toJoinS.f kj19 l0).bind fun t312 => ((laws_eqJoinS.f kj19 t297 t312).bind fun t315 => (if t315 = true then ((laws_toLine.f kj19 l1_0 l1_1).bind fun bt316 => ((laws_eqLine.f kj19 t300 t303 bt316.1 bt316.2).bind fun t322 => (if t322 = true then (some true) else (some false)))) else (some false)))) = some r := by rw [if_neg (show ¬ (false = true) by decide)] at H; exact H
      clear H
      have H := H1
      clear H1
      replace H := Option.bind_eq_some_iff.mp H
      obtain ⟨t312, A680, H⟩ := H
      replace H : ((laws_eqJoinS.f kj19 t297 t312).bind fun t315 => (if t315 = true then ((laws_toLine.f kj19 l1_0 l1_1).bind fun bt316 => ((laws_eqLine.f kj19 t300 t303 bt316.1 bt316.2).bind fun t322 => (if t322 = true then (some true) else (some false)))) else (some false))) = some r := H
      have A68 := aS A680
      clear A680
      replace H := Option.bind_eq_some_iff.mp H
      obtain ⟨t315, A690, H⟩ := H
      replace H : (if t315 = true then ((laws_toLine.f kj19 l1_0 l1_1).bind fun bt316 => ((laws_eqLine.f kj19 t300 t303 bt316.1 bt316.2).bind fun t322 => (if t322 = true then (some true) else (some false)))) else (some false)) = some r := H
      have A69 := aS A690
      clear A690
      have HC70 := aS H
      clear H
      go_upto_if 57 with (first | ((with_reducible refine gate_callee (f := 15) rfl ?_); refine goesL_ (some 55) rfl rfl Try.func15 (by kernel_rfl) rfl #[.slice A0 l0.length c0] rfl sG ?_; (with_reducible refine (laws_toJoinS.calls kj19 _ _ l0 t312 _ ?side1 ?side2 A68.out).mono ?_); (case side1 => exact sC (Kd.C_below HR0.out HB.out)); (case side2 => exact HC0.out); rintro e w71 ⟨v313, rfl, ho0, hb⟩; refine ⟨_, rfl, ?_⟩; have n0_ := aS (Kd.R_elder' (sR HO_10.out) (Kd.R_base ho0) hb); have n1_ := aS (Kd.R_below (sR HO_307000.out) hb); have n2_ := aS (Kd.R_below (sR HO_307001.out) hb); have n3_ := aS (Kd.R_lower (Kd.R_new' ho0 (Kd.R_lt (sR HO_10.out))) (below_size (sW HB.out))); have n4_ := aS (blk_below (g := gb281) (o := .cells #[.slice A1_0 l1_0.length c1_0, .slice A1_1 l1_1.length c1_1] 32 (0, 0)) (sB BK281.out) hb); have n5_ := aS (blk_below (g := gb306) (o := .cells #[.slice Ao37 t300.length co37, .slice Ao41 t303.length co41] 37 (0, 0)) (sB BK306.out) hb); have n6_ := aS (below_step (sW HB.out) hb); clear HO_10 HO_307000 HO_307001 BK281 BK306 HB; have HO_10 := n0_; have HO_307000 := n1_; have HO_307001 := n2_; have HO314 := n3_; have BK281 := n4_; have BK306 := n5_; have HB := n6_; clear n0_ n1_ n2_ n3_ n4_ n5_ n6_; (try clear hb); (try clear hb2); (try clear hk); (try clear hi); (try clear ho0); obtain ⟨Ao72, co72, eo72⟩ := Kd.R_slice HO314.out; subst eo72) | ((with_reducible refine gate_callee (f := 17) rfl ?_); refine goesL_ (some 56) rfl rfl Try.func17 (by kernel_rfl) rfl #[.slice Ao42 t297.length co42, .slice Ao72 t312.length co72] rfl sG ?_; (with_reducible refine (laws_eqJoinS.calls kj19 _ _ t297 _ _ t312 t315 _ ?side1 ?side2 ?side3 ?side4 A69.out).mono ?_); (case side1 => exact sC (Kd.R_reads' HO_10.out).2.2); (case side2 => exact (Kd.R_reads' HO_10.out).2.1); (case side3 => exact sC (Kd.R_reads' HO314.out).2.2); (case side4 => exact (Kd.R_reads' HO314.out).2.1); rintro e w73 ⟨rfl, hb⟩; refine ⟨_, rfl, ?_⟩; have n0_ := aS (Kd.R_below (sR HO_10.out) hb); have n1_ := aS (Kd.R_below (sR HO_307000.out) hb); have n2_ := aS (Kd.R_below (sR HO_307001.out) hb); have n3_ := aS (Kd.R_below (sR HO314.out) hb); have n4_ := aS (blk_below (g := gb281) (o := .cells #[.slice A1_0 l1_0.length c1_0, .slice A1_1 l1_1.length c1_1] 32 (0, 0)) (sB BK281.out) hb); have n5_ := aS (blk_below (g := gb306) (o := .cells #[.slice Ao37 t300.length co37, .slice Ao41 t303.length co41] 37 (0, 0)) (sB BK306.out) hb); have n6_ := aS (below_step (sW HB.out) hb); clear HO_10 HO_307000 HO_307001 HO314 BK281 BK306 HB; have HO_10 := n0_; have HO_307000 := n1_; have HO_307001 := n2_; have HO314 := n3_; have BK281 := n4_; have BK306 := n5_; have HB := n6_; clear n0_ n1_ n2_ n3_ n4_ n5_ n6_; (try clear hb); (try clear hb2); (try clear hk); (try clear hi)))
      (try simp only [Act.put, List.setIfInBounds_toArray, List.set_cons_zero, List.set_cons_succ])
      have H := HC70.out
      clear HC70
      by_cases c74 : t315 = true
      ·
       subst c74
       have H1 : ((laws_toLine.f kj19 l1_0 l1_1).bind fun bt316 => ((laws_eqLine.f kj19 t300 t303 bt316.1 bt316.2).bind fun t322 => (if t322 = true then (some true) else (some false)))) = some r := by rw [if_pos rfl] at H; exact H
       clear H
       have H := H1
       clear H1
       replace H := Option.bind_eq_some_iff.mp H
       obtain ⟨⟨t316, t319⟩, A750, H⟩ := H
       replace H : ((laws_eqLine.f kj19 t300 t303 t316 t319).bind fun t322 => (if t322 = true then (some true) else (some false))) = some r := H
       have A75 := aS A750
       clear A750
       replace H := Option.bind_eq_some_iff.mp H
       obtain ⟨t322, A760, H⟩ := H
       replace H : (if t322 = true then (some true) else (some false)) = some r := H
       have A76 := aS A760
       clear A760
       have HC77 := aS H
       clear H
       try go_wp2
       have n0_ := aS (Kd.R_drew HO_10.out)
       have n1_ := aS (Kd.R_drew HO_307000.out)
       have n2_ := aS (Kd.R_drew HO_307001.out)
       have n3_ := aS (Kd.R_drew HO314.out)
       have n4_ := aS (blk_drew BK281.out)
       have n5_ := aS (blk_drew BK306.out)
       have n6_ := aS (below_drew1 HB.out)
       clear HO_10 HO_307000 HO_307001 HO314 BK281 BK306 HB
       have HO_10 := n0_; have HO_307000 := n1_; have HO_307001 := n2_; have HO314 := n3_; have BK281 := n4_; have BK306 := n5_; have HB := n6_
       clear n0_ n1_ n2_ n3_ n4_ n5_ n6_
       refine start_ (n := 5) (S := fun w' => w'.cell? ⟨gb306, 0, none⟩ = some (.slice Ao37 t300.length co37) ∧ w'.cell? ⟨gb306, 1, none⟩ = some (.slice Ao41 t303.length co41) ∧ w'.cell? ⟨gb281, 0, none⟩ = some (.slice A1_0 l1_0.length c1_0) ∧ w'.cell? ⟨gb281, 1, none⟩ = some (.slice A1_1 l1_1.length c1_1)) (ds := []) #[false, false, false, false, false] (by kernel_rfl) rfl rfl ⟨(blk_cell BK306.out 0).trans rfl, (blk_cell BK306.out 1).trans rfl, (blk_cell BK281.out 0).trans rfl, (blk_cell BK281.out 1).trans rfl⟩ (fun hHeld => ?_)
       generalize w73.drew = w78 at HO_10 HO_307000 HO_307001 HO314 BK281 BK306 HB hHeld ⊢
       refine take_ (i := 0) (N := some 58) (v := ?_) (a' := ?_) #[true, false, false, false, false] rfl rfl (by kernel_rfl) (fun _ _ _ h => h) (Or.inl ⟨by rfl, ?_⟩) hHeld ?_ ?_
       rotate_left
       ·
        rintro w' ⟨s0, s1, s2, s3⟩
        go_simp
        with_reducible rfl
       rotate_left
       ·
        simp only [Act.put, List.setIfInBounds_toArray, List.set_cons_zero, List.set_cons_succ, i64_w, i32_w]
        rfl
       refine take_ (i := 1) (N := some 59) (v := ?_) (a' := ?_) #[true, true, false, false, false] rfl rfl (by kernel_rfl) (fun _ _ _ h => h) (Or.inl ⟨by rfl, ?_⟩) hHeld ?_ ?_
       rotate_left
       ·
        rintro w' ⟨s0, s1, s2, s3⟩
        go_simp
        with_reducible rfl
       rotate_left
       ·
        simp only [Act.put, List.setIfInBounds_toArray, List.set_cons_zero, List.set_cons_succ, i64_w, i32_w]
        rfl
       refine one_ (i := 2) (N := some 60) #[true, true, true, false, false] rfl rfl (by kernel_rfl) (by decide) (fun K hK => ?_)
       refine goes_ Try.func20 (by kernel_rfl) rfl #[.agg #[.slice A1_0 l1_0.length c1_0, .slice A1_1 l1_1.length c1_1]] (by rfl) rfl rfl sG ?_
       with_reducible refine (laws_toLine.calls kj19 _ _ l1_0 _ _ l1_1 t316 t319 _ ?side1 ?side2 ?side3 ?side4 A75.out).mono ?_
       (case side1 => exact sC (Kd.C_below HR1_0.out HB.out))
       (case side2 => exact HC1_0.out)
       (case side3 => exact sC (Kd.C_below HR1_1.out HB.out))
       (case side4 => exact HC1_1.out)
       rintro e w79 ⟨v317, v320, rfl, ho0, ho1, hb⟩
       refine ⟨_, rfl, ?_⟩
       have n0_ := aS (Kd.R_below (sR HO_10.out) hb)
       have n1_ := aS (Kd.R_elder' (sR HO_307000.out) (Kd.R_base ho0) hb)
       have n2_ := aS (Kd.R_elder' (sR HO_307001.out) (Kd.R_base ho1) hb)
       have n3_ := aS (Kd.R_below (sR HO314.out) hb)
       have n4_ := aS (Kd.R_lower (Kd.R_new' ho0 (Kd.R_lt (sR HO_307000.out))) (below_size (sW HB.out)))
       have n5_ := aS (Kd.R_lower (Kd.R_new' ho1 (Kd.R_lt (sR HO_307001.out))) (below_size (sW HB.out)))
       have n6_ := aS (blk_below (g := gb281) (o := .cells #[.slice A1_0 l1_0.length c1_0, .slice A1_1 l1_1.length c1_1] 32 (0, 0)) (sB BK281.out) hb)
       have n7_ := aS (blk_below (g := gb306) (o := .cells #[.slice Ao37 t300.length co37, .slice Ao41 t303.length co41] 37 (0, 0)) (sB BK306.out) hb)
       have n8_ := aS (below_step (sW HB.out) hb)
       clear HO_10 HO_307000 HO_307001 HO314 BK281 BK306 HB
       have HO_10 := n0_; have HO_307000 := n1_; have HO_307001 := n2_; have HO314 := n3_; have HO318 := n4_; have HO321 := n5_; have BK281 := n6_; have BK306 := n7_; have HB := n8_
       clear n0_ n1_ n2_ n3_ n4_ n5_ n6_ n7_ n8_
       (try clear hb); (try clear hb2); (try clear hk); (try clear hi); (try clear ho0); (try clear ho1)
       obtain ⟨Ao80, co80, eo80⟩ := Kd.R_slice HO318.out
       (first | subst eo80 | (injection eo80 with f1_ f2_ f3_; have f4_ := f1_.symm; have f5_ := f3_.symm; clear f1_ f2_ f3_; subst f4_; subst f5_))
       obtain ⟨Ao81, co81, eo81⟩ := Kd.R_slice HO321.out
       (first | subst eo81 | (injection eo81 with f1_ f2_ f3_; have f4_ := f1_.symm; have f5_ := f3_.symm; clear f1_ f2_ f3_; subst f4_; subst f5_))
       refine hK.out _ _ ⟨(blk_cell BK306.out 0).trans rfl, (blk_cell BK306.out 1).trans rfl, (blk_cell BK281.out 0).trans rfl, (blk_cell BK281.out 1).trans rfl⟩ (fun hHeld => ?_)
       clear hK K
       refine norm_ (a' := ?_) ?_ ?_
       rotate_left
       ·
        show Act.put _ (some 60) _ = _
        simp only [Act.put, List.setIfInBounds_toArray, List.set_cons_zero, List.set_cons_succ, i64_w, i32_w]
        rfl
       refine one_ (i := 3) (N := some 61) #[true, true, true, true, false] rfl rfl (by kernel_rfl) (by decide) (fun K hK => ?_)
       refine goes_ Try.func22 (by kernel_rfl) rfl #[.agg #[.slice Ao37 t300.length co37, .slice Ao41 t303.length co41], .agg #[.slice Ao80 t316.length co80, .slice Ao81 t319.length co81]] (by rfl) rfl rfl sG ?_
       with_reducible refine (laws_eqLine.calls kj19 _ _ t300 _ _ t303 _ _ t316 _ _ t319 t322 _ ?side1 ?side2 ?side3 ?side4 ?side5 ?side6 ?side7 ?side8 A76.out).mono ?_
       (case side1 => exact sC (Kd.R_reads' HO_307000.out).2.2)
       (case side2 => exact (Kd.R_reads' HO_307000.out).2.1)
       (case side3 => exact sC (Kd.R_reads' HO_307001.out).2.2)
       (case side4 => exact (Kd.R_reads' HO_307001.out).2.1)
       (case side5 => exact sC (Kd.R_reads' HO318.out).2.2)
       (case side6 => exact (Kd.R_reads' HO318.out).2.1)
       (case side7 => exact sC (Kd.R_reads' HO321.out).2.2)
       (case side8 => exact (Kd.R_reads' HO321.out).2.1)
       rintro e w82 ⟨rfl, hb⟩
       refine ⟨_, rfl, ?_⟩
       have n0_ := aS (Kd.R_below (sR HO_10.out) hb)
       have n1_ := aS (Kd.R_below (sR HO_307000.out) hb)
       have n2_ := aS (Kd.R_below (sR HO_307001.out) hb)
       have n3_ := aS (Kd.R_below (sR HO314.out) hb)
       have n4_ := aS (Kd.R_below (sR HO318.out) hb)
       have n5_ := aS (Kd.R_below (sR HO321.out) hb)
       have n6_ := aS (blk_below (g := gb281) (o := .cells #[.slice A1_0 l1_0.length c1_0, .slice A1_1 l1_1.length c1_1] 32 (0, 0)) (sB BK281.out) hb)
       have n7_ := aS (blk_below (g := gb306) (o := .cells #[.slice Ao37 t300.length co37, .slice Ao41 t303.length co41] 37 (0, 0)) (sB BK306.out) hb)
       have n8_ := aS (below_step (sW HB.out) hb)
       clear HO_10 HO_307000 HO_307001 HO314 HO318 HO321 BK281 BK306 HB
       have HO_10 := n0_; have HO_307000 := n1_; have HO_307001 := n2_; have HO314 := n3_; have HO318 := n4_; have HO321 := n5_; have BK281 := n6_; have BK306 := n7_; have HB := n8_
       clear n0_ n1_ n2_ n3_ n4_ n5_ n6_ n7_ n8_
       (try clear hb); (try clear hb2); (try clear hk); (try clear hi)
       refine hK.out _ _ ⟨(blk_cell BK306.out 0).trans rfl, (blk_cell BK306.out 1).trans rfl, (blk_cell BK281.out 0).trans rfl, (blk_cell BK281.out 1).trans rfl⟩ (fun hHeld => ?_)
       clear hK K
       refine norm_ (a' := ?_) ?_ ?_
       rotate_left
       ·
        show Act.put _ (some 61) _ = _
        simp only [Act.put, List.setIfInBounds_toArray, List.set_cons_zero, List.set_cons_succ, i64_w, i32_w]
        rfl
       refine pure_ (i := 4) (N := some 62) (v := ?_) (a' := ?_) #[true, true, true, true, true] rfl rfl (by kernel_rfl) (fun _ _ _ h => h) (Or.inl ⟨by rfl, ?_⟩) ?_ ?_
       rotate_left
       ·
        intro w'
        go_simp
        with_reducible rfl
       rotate_left
       ·
        simp only [Act.put, List.setIfInBounds_toArray, List.set_cons_zero, List.set_cons_succ, i64_w, i32_w]
        rfl
       refine done_ (by kernel_rfl) ?_
       go_upto_if 62 with (fail)
       have H := HC77.out
       clear HC77
       by_cases c83 : t322 = true
       ·
        subst c83
        have H1 : (some true) = some r := by rw [if_pos rfl] at H; exact H
        clear H
        have H := H1
        clear H1
        obtain rfl := Option.some.inj H
        go_wp2
        go_ret
        exact ⟨by first | rfl | (simp [errW_none, errW_some, i64_w]; done) | (simp [errW_none, errW_some] <;> rfl) | (simp [*, errW_none, errW_some] <;> rfl), by repeat (first | (with_reducible first | exact HB.out | apply below_alloc | apply pw_below_drewN | apply below_drew1) | exact HB.out)⟩
       ·
        replace c83 := Bool.eq_false_iff.mpr c83
        subst c83
        have H1 : (some false) = some r := by rw [if_neg (show ¬ (false = true) by decide)] at H; exact H
        clear H
        have H := H1
        clear H1
        obtain rfl := Option.some.inj H
        go_wp2
        go_ret
        exact ⟨by first | rfl | (simp [errW_none, errW_some, i64_w]; done) | (simp [errW_none, errW_some] <;> rfl) | (simp [*, errW_none, errW_some] <;> rfl), by repeat (first | (with_reducible first | exact HB.out | apply below_alloc | apply pw_below_drewN | apply below_drew1) | exact HB.out)⟩
      ·
       replace c74 := Bool.eq_false_iff.mpr c74
       subst c74
       have H1 : (some false) = some r := by rw [if_neg (show ¬ (false = true) by decide)] at H; exact H
       clear H
       have H := H1
       clear H1
       obtain rfl := Option.some.inj H
       go_wp2
       go_ret
       exact ⟨by first | rfl | (simp [errW_none, errW_some, i64_w]; done) | (simp [errW_none, errW_some] <;> rfl) | (simp [*, errW_none, errW_some] <;> rfl), by repeat (first | (with_reducible first | exact HB.out | apply below_alloc | apply pw_below_drewN | apply below_drew1) | exact HB.out)⟩

/-- THE ONE PURE STATEMENT of laws_FnExactStrengthAt. -/
def laws_FnExactStrengthAt.Pure : Prop := ∀ (l0 : List (S67)) (l1_0 : List (S41)) (l1_1 : List Int) (a2 : Int), (l0.length * 32 ≤ 140737488351232 ∧ l0.length ≤ maxLen ∧ (∀ y0 ∈ l0, (y0.f0.size ≤ 140737488351232) ∧ ((Lit.int .i64 y0.f1).wf = true) ∧ ((Lit.int .i64 y0.f2).wf = true))) → (l1_0.length * 16 ≤ 140737488351232 ∧ l1_0.length ≤ maxLen ∧ (∀ y0 ∈ l1_0, ((Lit.int .i64 y0.f0).wf = true) ∧ ((Lit.int .i64 y0.f1).wf = true))) → (l1_1.length * 8 ≤ 140737488351232 ∧ l1_1.length ≤ maxLen ∧ (∀ y0 ∈ l1_1, (Lit.int .i64 y0).wf = true)) → ((Lit.int .i64 a2).wf = true) → ∃ k, laws_FnExactStrengthAt.f k l0 l1_0 l1_1 a2 = some true
theorem laws_FnExactStrengthAt.walk : True := trivial

end Go.Proofs.Ytdgodlccejoibaa.QFnExactStrengthAt

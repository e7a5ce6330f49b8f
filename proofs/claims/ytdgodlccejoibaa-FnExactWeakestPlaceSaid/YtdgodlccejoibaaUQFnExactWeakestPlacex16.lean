/- What the Go functions of this law compute, each as a Lean function, and that each call comes to that answer; written by a program of this session. No condition. -/
import Derived.Test.YtdgodlccejoibaaUQFnExactWeakestPlacex0
import Derived.Test.YtdgodlccejoibaaUQFnExactWeakestPlacex2
import Derived.Test.YtdgodlccejoibaaUQFnExactWeakestPlacex3
import Derived.Test.YtdgodlccejoibaaUQFnExactWeakestPlacex4
import Derived.Test.YtdgodlccejoibaaUQFnExactWeakestPlacex10
import Derived.Test.YtdgodlccejoibaaUQFnExactWeakestPlacex15
namespace Go.Proofs.Ytdgodlccejoibaa.QFnExactWeakestPlace
open Go.RowKit Go.Proofs.YtdgodlccejoibaaW.PrintWords Go.Proofs.YtdgodlccejoibaaW.PrintLast Go.Proofs.YtdgodlccejoibaaW.PrintMore
attribute [local go_sem] max2_int min2_int max_two min_two max_three min_three max_four min_four   -- for this text's walks alone
set_option linter.unusedVariables false
set_option linter.unusedSimpArgs false

/-! ### laws_FnExactWeakestPlace: function 11 -/
def laws_FnExactWeakestPlace.j0 : Nat → List (S67) → List (S68) → Bool → List (S41) → List Int → List (S44) → List Int → Option (Bool)
 | 0, _, _, _, _, _, _, _ => none
 | k + 1, x0, x9, x56, x344000, x344001, x368000, x368001 => if x56 = true then (some false) else ((laws_toJoinS.f k x0).bind fun t371 => ((laws_eqJoinS.f k x9 t371).bind fun t374 => (if t374 = true then ((laws_toLine.f k x344000 x344001).bind fun bt375 => ((laws_eqLine.f k x368000 x368001 bt375.1 bt375.2).bind fun t381 => (if t381 = true then (some true) else (some false)))) else (some false))))
def laws_FnExactWeakestPlace.f (k : Nat) (l0 : List (S67)) (l1_0 : List (S41)) (l1_1 : List Int) : Option (Bool) := (laws_szJoinS.f k l0 1048576).bind fun t344 => (if t344 < 0 then (some true) else ((laws_szLine.f l1_0 l1_1 t344).bind fun t345 => (if t345 < 0 then (some true) else ((laws_toJoinS.f k l0).bind fun t346 => ((laws_toLine.f k l1_0 l1_1).bind fun bt349 => ((spec_WeakestPlace.f k t346 bt349.1 bt349.2).bind fun bt355 => ((laws_toJoinS.f k l0).bind fun t358 => ((laws_toLine.f k l1_0 l1_1).bind fun bt361 => ((impl_WeakestPlace.f k t358 bt361.1 bt361.2).bind fun bt368 => (if bt368.1.toList = bt355.1.toList then (if bt368.2.1 = bt355.2.1 then (laws_FnExactWeakestPlace.j0 k l0 t358 (bt368.2.2 != bt355.2.2) l1_0 l1_1 bt361.1 bt361.2) else (laws_FnExactWeakestPlace.j0 k l0 t358 true l1_0 l1_1 bt361.1 bt361.2)) else (laws_FnExactWeakestPlace.j0 k l0 t358 true l1_0 l1_1 bt361.1 bt361.2)))))))))))
theorem laws_FnExactWeakestPlace.mono_l : ∀ k, (∀ y0 y1 y2 y3 y4 y5 y6, LeO (laws_FnExactWeakestPlace.j0 k y0 y1 y2 y3 y4 y5 y6) (laws_FnExactWeakestPlace.j0 (k + 1) y0 y1 y2 y3 y4 y5 y6))
 | 0 => fun _ _ _ _ _ _ _ r h => by simp [laws_FnExactWeakestPlace.j0] at h
 | k + 1 => by
  have ih0 := laws_FnExactWeakestPlace.mono_l k
  ·
   intro y0 y1 y2 y3 y4 y5 y6
   unfold laws_FnExactWeakestPlace.j0
   repeat' first
   | (with_reducible exact ih0 _ _ _ _ _ _ _)
   | (with_reducible exact impl_WeakestPlace.mono _ _ _ _)
   | (with_reducible exact laws_eqJoinS.mono _ _ _)
   | (with_reducible exact laws_eqLine.mono _ _ _ _ _)
   | (with_reducible exact laws_szJoinS.mono _ _ _)
   | (with_reducible exact laws_toJoinS.mono _ _)
   | (with_reducible exact laws_toLine.mono _ _ _)
   | (with_reducible exact spec_WeakestPlace.mono _ _ _ _)
   | (with_reducible exact LeO.refl _)
   | (with_reducible exact LeO.none _)
   | (with_reducible refine LeO.ite ?_ ?_)
   | (with_reducible refine LeO.bind ?_ (fun _ => ?_))
   | exact ih0 _ _ _ _ _ _ _
   | exact impl_WeakestPlace.mono _ _ _ _
   | exact laws_eqJoinS.mono _ _ _
   | exact laws_eqLine.mono _ _ _ _ _
   | exact laws_szJoinS.mono _ _ _
   | exact laws_toJoinS.mono _ _
   | exact laws_toLine.mono _ _ _
   | exact spec_WeakestPlace.mono _ _ _ _
   | exact LeO.none _
   | refine LeO.ite ?_ ?_
   | refine LeO.bind ?_ (fun _ => ?_)
theorem laws_FnExactWeakestPlace.mono : ∀ a0 a1 a2 k, LeO (laws_FnExactWeakestPlace.f k a0 a1 a2) (laws_FnExactWeakestPlace.f (k + 1) a0 a1 a2) := by
 intro a0 a1 a2 k
 have ih0 := laws_FnExactWeakestPlace.mono_l k
 unfold laws_FnExactWeakestPlace.f
 repeat' first
   | (with_reducible exact ih0 _ _ _ _ _ _ _)
   | (with_reducible exact impl_WeakestPlace.mono _ _ _ _)
   | (with_reducible exact laws_eqJoinS.mono _ _ _)
   | (with_reducible exact laws_eqLine.mono _ _ _ _ _)
   | (with_reducible exact laws_szJoinS.mono _ _ _)
   | (with_reducible exact laws_toJoinS.mono _ _)
   | (with_reducible exact laws_toLine.mono _ _ _)
   | (with_reducible exact spec_WeakestPlace.mono _ _ _ _)
   | (with_reducible exact LeO.refl _)
   | (with_reducible exact LeO.none _)
   | (with_reducible refine LeO.ite ?_ ?_)
   | (with_reducible refine LeO.bind ?_ (fun _ => ?_))
   | exact ih0 _ _ _ _ _ _ _
   | exact impl_WeakestPlace.mono _ _ _ _
   | exact laws_eqJoinS.mono _ _ _
   | exact laws_eqLine.mono _ _ _ _ _
   | exact laws_szJoinS.mono _ _ _
   | exact laws_toJoinS.mono _ _
   | exact laws_toLine.mono _ _ _
   | exact spec_WeakestPlace.mono _ _ _ _
   | exact LeO.none _
   | refine LeO.ite ?_ ?_
   | refine LeO.bind ?_ (fun _ => ?_)
def laws_FnExactWeakestPlace.T8 : Bool × List (List Nat × List Nat) := (true, [([], []), ([0], [0]), ([], []), ([2, 1], [2]), ([1, 3, 3], [1, 3]), ([4], [4]), ([5], [5]), ([5], [5]), ([5], [5]), ([6, 4, 0, 1, 2, 3, 4, 5, 6], [6]), ([7, 9, 0, 1, 2, 3, 4, 5, 6, 7, 9], [7]), ([8, 10, 0, 1, 2, 3, 4, 5, 6, 7, 8, 9, 10], [8])])
def laws_FnExactWeakestPlace.B8 : List Nat := [0, 1, 0, 7, 15, 31, 63, 63, 63, 127, 767, 2047]
theorem laws_FnExactWeakestPlace.tab8 : rtab .any (opsOf Try.f11 8) = laws_FnExactWeakestPlace.T8 := by kernel_rfl
theorem laws_FnExactWeakestPlace.bits8 : waitsOk laws_FnExactWeakestPlace.T8.2 laws_FnExactWeakestPlace.B8 = true := by kernel_rfl
set_option maxHeartbeats 8000000 in
set_option maxRecDepth 100000 in
theorem laws_FnExactWeakestPlace.calls (k : Nat) (A0 : Option Addr) (c0 : Nat) (l0 : List (S67)) (A1_0 : Option Addr) (c1_0 : Nat) (l1_0 : List (S41)) (A1_1 : Option Addr) (c1_1 : Nat) (l1_1 : List Int) (r : Bool) (w : World) (hr0 : Kd.C k67 w A0 l0.length l0) (hc0 : l0.length ≤ c0) (hr1_0 : Kd.C k41 w A1_0 l1_0.length l1_0) (hc1_0 : l1_0.length ≤ c1_0) (hr1_1 : Kd.C (Kd.int .i64) w A1_1 l1_1.length l1_1) (hc1_1 : l1_1.length ≤ c1_1) (h : laws_FnExactWeakestPlace.f k l0 l1_0 l1_1 = some r) :
  Calls Try.prog 11 #[.slice A0 l0.length c0, .agg #[.slice A1_0 l1_0.length c1_0, .slice A1_1 l1_1.length c1_1]] w fun e w' => e = .returned (.bool r) ∧ Below w.heap.size w w' := by
 have hu32 := Try.underlying32
 have hu37 := Try.underlying37
 have HR0 := aS hr0
 have HC0 := aS hc0
 clear hr0 hc0
 have HR1_0 := aS hr1_0
 have HC1_0 := aS hc1_0
 clear hr1_0 hc1_0
 have HR1_1 := aS hr1_1
 have HC1_1 := aS hc1_1
 clear hr1_1 hc1_1
 have HB := aS (Below.refl w.heap.size w)
 have H : ((laws_szJoinS.f k l0 1048576).bind fun t344 => (if t344 < 0 then (some true) else ((laws_szLine.f l1_0 l1_1 t344).bind fun t345 => (if t345 < 0 then (some true) else ((laws_toJoinS.f k l0).bind fun t346 => ((laws_toLine.f k l1_0 l1_1).bind fun bt349 => ((spec_WeakestPlace.f k t346 bt349.1 bt349.2).bind fun bt355 => ((laws_toJoinS.f k l0).bind fun t358 => ((laws_toLine.f k l1_0 l1_1).bind fun bt361 => ((impl_WeakestPlace.f k t358 bt361.1 bt361.2).bind fun bt368 => (if bt368.1.toList = bt355.1.toList then (if bt368.2.1 = bt355.2.1 then (laws_FnExactWeakestPlace.j0 k l0 t358 (bt368.2.2 != bt355.2.2) l1_0 l1_1 bt361.1 bt361.2) else (laws_FnExactWeakestPlace.j0 k l0 t358 true l1_0 l1_1 bt361.1 bt361.2)) else (laws_FnExactWeakestPlace.j0 k l0 t358 true l1_0 l1_1 bt361.1 bt361.2)))))))))))) = some r := h
 clear h
 replace H := Option.bind_eq_some_iff.mp H
 obtain ⟨t344, A30, H⟩ := H
 replace H : (if t344 < 0 then (some true) else ((laws_szLine.f l1_0 l1_1 t344).bind fun t345 => (if t345 < 0 then (some true) else ((laws_toJoinS.f k l0).bind fun t346 => ((laws_toLine.f k l1_0 l1_1).bind fun bt349 => ((spec_WeakestPlace.f k t346 bt349.1 bt349.2).bind fun bt355 => ((laws_toJoinS.f k l0).bind fun t358 => ((laws_toLine.f k l1_0 l1_1).bind fun bt361 => ((impl_WeakestPlace.f k t358 bt361.1 bt361.2).bind fun bt368 => (if bt368.1.toList = bt355.1.toList then (if bt368.2.1 = bt355.2.1 then (laws_FnExactWeakestPlace.j0 k l0 t358 (bt368.2.2 != bt355.2.2) l1_0 l1_1 bt361.1 bt361.2) else (laws_FnExactWeakestPlace.j0 k l0 t358 true l1_0 l1_1 bt361.1 bt361.2)) else (laws_FnExactWeakestPlace.j0 k l0 t358 true l1_0 l1_1 bt361.1 bt361.2))))))))))) = some r := H
 have A3 := aS A30
 clear A30
 have HC4 := aS H
 clear H
 go_enter Try.func11, Try.ntmps11
 go_upto_if 18 with (first | ((with_reducible refine gate_dst (N := 3) rfl ?_); refine box_event ?hg (N := 3) ?hd (cs := #[.slice A1_0 l1_0.length c1_0, .slice A1_1 l1_1.length c1_1]) (t := 32) ?hr ?_; (case hd => rfl); (case hg => rfl); (case hr => first | (go_simp; done) | (go_simp; rfl)); intro gb343 hg w5 hbox hb; have n0_ := aS (below_step (sW HB.out) hb); have n1_ := aS (hbox); have n2_ := aS ((by rw [hg]; exact (below_size (sW HB.out)) : w.heap.size ≤ gb343)); have n3_ := aS ((by rw [hg]; exact (below_size (sW HB.out)) : w.heap.size ≤ gb343)); clear HB; have HB := n0_; have BK343 := n1_; have GW343 := n2_; have GE343 := n3_; clear n0_ n1_ n2_ n3_; clear hb hbox hg) | ((with_reducible refine gate_callee (f := 13) rfl ?_); refine goesL_ (some 16) rfl rfl Try.func13 (by kernel_rfl) rfl #[.slice A0 l0.length c0, .int .i64 1048576] rfl sG ?_; (with_reducible refine (laws_szJoinS.calls k _ _ l0 1048576 t344 _ ?side1 ?side2 A3.out).mono ?_); (case side1 => exact sC (Kd.C_below HR0.out HB.out)); (case side2 => exact HC0.out); rintro e w6 ⟨rfl, hb⟩; refine ⟨_, rfl, ?_⟩; have n0_ := aS (blk_below (g := gb343) (o := .cells #[.slice A1_0 l1_0.length c1_0, .slice A1_1 l1_1.length c1_1] 32 (0, 0)) (sB BK343.out) hb); have n1_ := aS (below_step (sW HB.out) hb); clear BK343 HB; have BK343 := n0_; have HB := n1_; clear n0_ n1_; (try clear hb); (try clear hb2); (try clear hk); (try clear hi)))
 (try simp only [Act.put, List.setIfInBounds_toArray, List.set_cons_zero, List.set_cons_succ])
 have H := HC4.out
 clear HC4
 by_cases c7 : t344 < 0
 ·
  rw [if_pos c7] at H
  have c7b0 : decide (t344 < 0) = true := decide_eq_true c7
  clear c7
  (first | rw [c7b0] | (simp only [i64_w, i32_w]; rw [c7b0]) | (rw [c7b2]; simp only [Bool.not_false, Bool.not_true]) | skip)
  obtain rfl := Option.some.inj H
  go_wp2
  go_ret
  exact ⟨by first | rfl | (simp [errW_none, errW_some, i64_w]; done) | (simp [errW_none, errW_some] <;> rfl) | (simp [*, errW_none, errW_some] <;> rfl), by repeat (first | (with_reducible first | exact HB.out | apply below_alloc | apply pw_below_drewN | apply below_drew1) | exact HB.out)⟩
 ·
  rw [if_neg c7] at H
  have c7b0 : decide (t344 < 0) = false := decide_eq_false c7
  clear c7
  (first | rw [c7b0] | (simp only [i64_w, i32_w]; rw [c7b0]) | (rw [c7b2]; simp only [Bool.not_false, Bool.not_true]) | skip)
  replace H := Option.bind_eq_some_iff.mp H
  obtain ⟨t345, A80, H⟩ := H
  replace H : (if t345 < 0 then (some true) else ((laws_toJoinS.f k l0).bind fun t346 => ((laws_toLine.f k l1_0 l1_1).bind fun bt349 => ((spec_WeakestPlace.f k t346 bt349.1 bt349.2).bind fun bt355 => ((laws_toJoinS.f k l0).bind fun t358 => ((laws_toLine.f k l1_0 l1_1).bind fun bt361 => ((impl_WeakestPlace.f k t358 bt361.1 bt361.2).bind fun bt368 => (if bt368.1.toList = bt355.1.toList then (if bt368.2.1 = bt355.2.1 then (laws_FnExactWeakestPlace.j0 k l0 t358 (bt368.2.2 != bt355.2.2) l1_0 l1_1 bt361.1 bt361.2) else (laws_FnExactWeakestPlace.j0 k l0 t358 true l1_0 l1_1 bt361.1 bt361.2)) else (laws_FnExactWeakestPlace.j0 k l0 t358 true l1_0 l1_1 bt361.1 bt361.2))))))))) = some r := H
  have A8 := aS A80
  clear A80
  have HC9 := aS H
  clear H
  have hcz10_0 : w6.cell? ⟨gb343, 0, none⟩ = some (.slice A1_0 l1_0.length c1_0) := (blk_cell BK343.out 0).trans rfl
  have hcz10_1 : w6.cell? ⟨gb343, 1, none⟩ = some (.slice A1_1 l1_1.length c1_1) := (blk_cell BK343.out 1).trans rfl
  have hfz10_0 := blk_frozen BK343.out 0
  have hfz10_1 := blk_frozen BK343.out 1
  go_upto_if 23 with (first | ((with_reducible refine gate_callee (f := 18) rfl ?_); refine goesL_ (some 21) rfl rfl Try.func18 (by kernel_rfl) rfl #[.agg #[.slice A1_0 l1_0.length c1_0, .slice A1_1 l1_1.length c1_1], .int .i64 t344] rfl sG ?_; (with_reducible refine (laws_szLine.calls _ _ l1_0 _ _ l1_1 t344 t345 _ ?side1 ?side2 ?side3 ?side4 A8.out).mono ?_); (case side1 => exact sC (Kd.C_below HR1_0.out HB.out)); (case side2 => exact HC1_0.out); (case side3 => exact sC (Kd.C_below HR1_1.out HB.out)); (case side4 => exact HC1_1.out); rintro e w11 ⟨rfl, hb⟩; refine ⟨_, rfl, ?_⟩; have n0_ := aS (blk_below (g := gb343) (o := .cells #[.slice A1_0 l1_0.length c1_0, .slice A1_1 l1_1.length c1_1] 32 (0, 0)) (sB BK343.out) hb); have n1_ := aS (below_step (sW HB.out) hb); clear BK343 HB; have BK343 := n0_; have HB := n1_; clear n0_ n1_; (try clear hb); (try clear hb2); (try clear hk); (try clear hi)))
  (try simp only [Act.put, List.setIfInBounds_toArray, List.set_cons_zero, List.set_cons_succ])
  have H := HC9.out
  clear HC9
  by_cases c12 : t345 < 0
  ·
   rw [if_pos c12] at H
   have c12b0 : decide (t345 < 0) = true := decide_eq_true c12
   clear c12
   (first | rw [c12b0] | (simp only [i64_w, i32_w]; rw [c12b0]) | (rw [c12b2]; simp only [Bool.not_false, Bool.not_true]) | skip)
   obtain rfl := Option.some.inj H
   go_wp2
   go_ret
   exact ⟨by first | rfl | (simp [errW_none, errW_some, i64_w]; done) | (simp [errW_none, errW_some] <;> rfl) | (simp [*, errW_none, errW_some] <;> rfl), by repeat (first | (with_reducible first | exact HB.out | apply below_alloc | apply pw_below_drewN | apply below_drew1) | exact HB.out)⟩
  ·
   rw [if_neg c12] at H
   have c12b0 : decide (t345 < 0) = false := decide_eq_false c12
   clear c12
   (first | rw [c12b0] | (simp only [i64_w, i32_w]; rw [c12b0]) | (rw [c12b2]; simp only [Bool.not_false, Bool.not_true]) | skip)
   replace H := Option.bind_eq_some_iff.mp H
   obtain ⟨t346, A130, H⟩ := H
   replace H : ((laws_toLine.f k l1_0 l1_1).bind fun bt349 => ((spec_WeakestPlace.f k t346 bt349.1 bt349.2).bind fun bt355 => ((laws_toJoinS.f k l0).bind fun t358 => ((laws_toLine.f k l1_0 l1_1).bind fun bt361 => ((impl_WeakestPlace.f k t358 bt361.1 bt361.2).bind fun bt368 => (if bt368.1.toList = bt355.1.toList then (if bt368.2.1 = bt355.2.1 then (laws_FnExactWeakestPlace.j0 k l0 t358 (bt368.2.2 != bt355.2.2) l1_0 l1_1 bt361.1 bt361.2) else (laws_FnExactWeakestPlace.j0 k l0 t358 true l1_0 l1_1 bt361.1 bt361.2)) else (laws_FnExactWeakestPlace.j0 k l0 t358 true l1_0 l1_1 bt361.1 bt361.2))))))) = some r := H
   have A13 := aS A130
   clear A130
   replace H := Option.bind_eq_some_iff.mp H
   obtain ⟨⟨t349, t352⟩, A140, H⟩ := H
   replace H : ((spec_WeakestPlace.f k t346 t349 t352).bind fun bt355 => ((laws_toJoinS.f k l0).bind fun t358 => ((laws_toLine.f k l1_0 l1_1).bind fun bt361 => ((impl_WeakestPlace.f k t358 bt361.1 bt361.2).bind fun bt368 => (if bt368.1.toList = bt355.1.toList then (if bt368.2.1 = bt355.2.1 then (laws_FnExactWeakestPlace.j0 k l0 t358 (bt368.2.2 != bt355.2.2) l1_0 l1_1 bt361.1 bt361.2) else (laws_FnExactWeakestPlace.j0 k l0 t358 true l1_0 l1_1 bt361.1 bt361.2)) else (laws_FnExactWeakestPlace.j0 k l0 t358 true l1_0 l1_1 bt361.1 bt361.2)))))) = some r := H
   have A14 := aS A140
   clear A140
   replace H := Option.bind_eq_some_iff.mp H
   obtain ⟨⟨t355, t356, t357⟩, A150, H⟩ := H
   replace H : ((laws_toJoinS.f k l0).bind fun t358 => ((laws_toLine.f k l1_0 l1_1).bind fun bt361 => ((impl_WeakestPlace.f k t358 bt361.1 bt361.2).bind fun bt368 => (if bt368.1.toList = t355.toList then (if bt368.2.1 = t356 then (laws_FnExactWeakestPlace.j0 k l0 t358 (bt368.2.2 != t357) l1_0 l1_1 bt361.1 bt361.2) else (laws_FnExactWeakestPlace.j0 k l0 t358 true l1_0 l1_1 bt361.1 bt361.2)) else (laws_FnExactWeakestPlace.j0 k l0 t358 true l1_0 l1_1 bt361.1 bt361.2))))) = some r := H
   have A15 := aS A150
   clear A150
   replace H := Option.bind_eq_some_iff.mp H
   obtain ⟨t358, A160, H⟩ := H
   replace H : ((laws_toLine.f k l1_0 l1_1).bind fun bt361 => ((impl_WeakestPlace.f k t358 bt361.1 bt361.2).bind fun bt368 => (if bt368.1.toList = t355.toList then (if bt368.2.1 = t356 then (laws_FnExactWeakestPlace.j0 k l0 t358 (bt368.2.2 != t357) l1_0 l1_1 bt361.1 bt361.2) else (laws_FnExactWeakestPlace.j0 k l0 t358 true l1_0 l1_1 bt361.1 bt361.2)) else (laws_FnExactWeakestPlace.j0 k l0 t358 true l1_0 l1_1 bt361.1 bt361.2)))) = some r := H
   have A16 := aS A160
   clear A160
   replace H := Option.bind_eq_some_iff.mp H
   obtain ⟨⟨t361, t364⟩, A170, H⟩ := H
   replace H : ((impl_WeakestPlace.f k t358 t361 t364).bind fun bt368 => (if bt368.1.toList = t355.toList then (if bt368.2.1 = t356 then (laws_FnExactWeakestPlace.j0 k l0 t358 (bt368.2.2 != t357) l1_0 l1_1 t361 t364) else (laws_FnExactWeakestPlace.j0 k l0 t358 true l1_0 l1_1 t361 t364)) else (laws_FnExactWeakestPlace.j0 k l0 t358 true l1_0 l1_1 t361 t364))) = some r := H
   have A17 := aS A170
   clear A170
   replace H := Option.bind_eq_some_iff.mp H
   obtain ⟨⟨t368, t369, t370⟩, A180, H⟩ := H
   replace H : (if t368.toList = t355.toList then (if t369 = t356 then (laws_FnExactWeakestPlace.j0 k l0 t358 (t370 != t357) l1_0 l1_1 t361 t364) else (laws_FnExactWeakestPlace.j0 k l0 t358 true l1_0 l1_1 t361 t364)) else (laws_FnExactWeakestPlace.j0 k l0 t358 true l1_0 l1_1 t361 t364)) = some r := H
   have A18 := aS A180
   clear A180
   have HC19 := aS H
   clear H
   try go_wp2
   have n0_ := aS (blk_drew BK343.out)
   have n1_ := aS (below_drew1 HB.out)
   clear BK343 HB
   have BK343 := n0_; have HB := n1_
   clear n0_ n1_
   refine start_ (n := 12) (S := fun w' => w'.cell? ⟨gb343, 0, none⟩ = some (.slice A1_0 l1_0.length c1_0) ∧ w'.cell? ⟨gb343, 1, none⟩ = some (.slice A1_1 l1_1.length c1_1)) (ds := []) #[false, false, false, false, false, false, false, false, false, false, false, false] (by kernel_rfl) rfl rfl ⟨(blk_cell BK343.out 0).trans rfl, (blk_cell BK343.out 1).trans rfl⟩ (fun hHeld => ?_); refine with_tabW laws_FnExactWeakestPlace.tab8 laws_FnExactWeakestPlace.bits8 (fun HT_ HW_ => ?_)
   generalize w11.drew = w20 at BK343 HB hHeld ⊢
   refine pure_ (i := 0) (N := some 25) (v := ?_) (a' := ?_) #[true, false, false, false, false, false, false, false, false, false, false, false] rfl rfl (any_of HT_.out (by kernel_rfl)) (fun _ _ _ h => h) (Or.inl ⟨by rfl, ?_⟩) ?_ ?_
   rotate_left
   ·
    intro w'
    go_simp
    with_reducible rfl
   rotate_left
   ·
    simp only [Act.put, List.setIfInBounds_toArray, List.set_cons_zero, List.set_cons_succ, i64_w, i32_w]
    rfl
   refine take_ (i := 2) (N := some 27) (v := ?_) (a' := ?_) #[true, false, true, false, false, false, false, false, false, false, false, false] rfl rfl (take_ofW HT_.out HW_.out (by kernel_rfl)) (fun _ _ _ h => h) (Or.inl ⟨by rfl, ?_⟩) hHeld ?_ ?_
   rotate_left
   ·
    rintro w' ⟨s0, s1⟩
    go_simp
    with_reducible rfl
   rotate_left
   ·
    simp only [Act.put, List.setIfInBounds_toArray, List.set_cons_zero, List.set_cons_succ, i64_w, i32_w]
    rfl
   refine one_ (i := 1) (N := some 26) #[true, true, true, false, false, false, false, false, false, false, false, false] rfl rfl (one_of HT_.out (by kernel_rfl)) (by decide) (fun K hK => ?_)
   refine goes_ Try.func15 (by kernel_rfl) rfl #[.slice A0 l0.length c0] (by rfl) rfl rfl sG ?_
   with_reducible refine (laws_toJoinS.calls k _ _ l0 t346 _ ?side1 ?side2 A13.out).mono ?_
   (case side1 => exact sC (Kd.C_below HR0.out HB.out))
   (case side2 => exact HC0.out)
   rintro e w21 ⟨v347, rfl, ho0, hb⟩
   refine ⟨_, rfl, ?_⟩
   have n0_ := aS (Kd.R_lower ho0 (below_size (sW HB.out)))
   have n1_ := aS (blk_below (g := gb343) (o := .cells #[.slice A1_0 l1_0.length c1_0, .slice A1_1 l1_1.length c1_1] 32 (0, 0)) (sB BK343.out) hb)
   have n2_ := aS (below_step (sW HB.out) hb)
   clear BK343 HB
   have HO348 := n0_; have BK343 := n1_; have HB := n2_
   clear n0_ n1_ n2_
   (try clear hb); (try clear hb2); (try clear hk); (try clear hi); (try clear ho0)
   refine hK.out _ _ ⟨(blk_cell BK343.out 0).trans rfl, (blk_cell BK343.out 1).trans rfl⟩ (fun hHeld => ?_)
   clear hK K
   refine norm_ (a' := ?_) ?_ ?_
   rotate_left
   ·
    show Act.put _ (some 26) _ = _
    simp only [Act.put, List.setIfInBounds_toArray, List.set_cons_zero, List.set_cons_succ, i64_w, i32_w]
    rfl
   refine one_ (i := 3) (N := some 28) #[true, true, true, true, false, false, false, false, false, false, false, false] rfl rfl (one_of HT_.out (by kernel_rfl)) (by decide) (fun K hK => ?_)
   refine goes_ Try.func20 (by kernel_rfl) rfl #[.agg #[.slice A1_0 l1_0.length c1_0, .slice A1_1 l1_1.length c1_1]] (by rfl) rfl rfl sG ?_
   with_reducible refine (laws_toLine.calls k _ _ l1_0 _ _ l1_1 t349 t352 _ ?side1 ?side2 ?side3 ?side4 A14.out).mono ?_
   (case side1 => exact sC (Kd.C_below HR1_0.out HB.out))
   (case side2 => exact HC1_0.out)
   (case side3 => exact sC (Kd.C_below HR1_1.out HB.out))
   (case side4 => exact HC1_1.out)
   rintro e w22 ⟨v350, v353, rfl, ho0, ho1, hb⟩
   refine ⟨_, rfl, ?_⟩
   have n0_ := aS (Kd.R_below (sR HO348.out) hb)
   have n1_ := aS (Kd.R_lower ho0 (below_size (sW HB.out)))
   have n2_ := aS (Kd.R_lower ho1 (below_size (sW HB.out)))
   have n3_ := aS (blk_below (g := gb343) (o := .cells #[.slice A1_0 l1_0.length c1_0, .slice A1_1 l1_1.length c1_1] 32 (0, 0)) (sB BK343.out) hb)
   have n4_ := aS (below_step (sW HB.out) hb)
   clear HO348 BK343 HB
   have HO348 := n0_; have HO351 := n1_; have HO354 := n2_; have BK343 := n3_; have HB := n4_
   clear n0_ n1_ n2_ n3_ n4_
   (try clear hb); (try clear hb2); (try clear hk); (try clear hi); (try clear ho0); (try clear ho1)
   obtain ⟨Ao23, co23, eo23⟩ := Kd.R_slice HO348.out
   (first | subst eo23 | (injection eo23 with f1_ f2_ f3_; have f4_ := f1_.symm; have f5_ := f3_.symm; clear f1_ f2_ f3_; subst f4_; subst f5_))
   obtain ⟨Ao24, co24, eo24⟩ := Kd.R_slice HO351.out
   (first | subst eo24 | (injection eo24 with f1_ f2_ f3_; have f4_ := f1_.symm; have f5_ := f3_.symm; clear f1_ f2_ f3_; subst f4_; subst f5_))
   obtain ⟨Ao25, co25, eo25⟩ := Kd.R_slice HO354.out
   (first | subst eo25 | (injection eo25 with f1_ f2_ f3_; have f4_ := f1_.symm; have f5_ := f3_.symm; clear f1_ f2_ f3_; subst f4_; subst f5_))
   refine hK.out _ _ ⟨(blk_cell BK343.out 0).trans rfl, (blk_cell BK343.out 1).trans rfl⟩ (fun hHeld => ?_)
   clear hK K
   refine norm_ (a' := ?_) ?_ ?_
   rotate_left
   ·
    show Act.put _ (some 28) _ = _
    simp only [Act.put, List.setIfInBounds_toArray, List.set_cons_zero, List.set_cons_succ, i64_w, i32_w]
    rfl
   refine one_ (i := 4) (N := some 29) #[true, true, true, true, true, false, false, false, false, false, false, false] rfl rfl (one_of HT_.out (by kernel_rfl)) (by decide) (fun K hK => ?_)
   refine goes_ Try.func40 (by kernel_rfl) rfl #[.slice Ao23 t346.length co23, .agg #[.slice Ao24 t349.length co24, .slice Ao25 t352.length co25]] (by rfl) rfl rfl sG ?_
   with_reducible refine (spec_WeakestPlace.calls k _ _ t346 _ _ t349 _ _ t352 t355 t356 t357 _ ?side1 ?side2 ?side3 ?side4 ?side5 ?side6 A15.out).mono ?_
   (case side1 => exact sC (Kd.R_reads' HO348.out).2.2)
   (case side2 => exact (Kd.R_reads' HO348.out).2.1)
   (case side3 => exact sC (Kd.R_reads' HO351.out).2.2)
   (case side4 => exact (Kd.R_reads' HO351.out).2.1)
   (case side5 => exact sC (Kd.R_reads' HO354.out).2.2)
   (case side6 => exact (Kd.R_reads' HO354.out).2.1)
   rintro e w26 ⟨rfl, hb⟩
   refine ⟨_, rfl, ?_⟩
   have n0_ := aS (Kd.R_below (sR HO348.out) hb)
   have n1_ := aS (Kd.R_below (sR HO351.out) hb)
   have n2_ := aS (Kd.R_below (sR HO354.out) hb)
   have n3_ := aS (blk_below (g := gb343) (o := .cells #[.slice A1_0 l1_0.length c1_0, .slice A1_1 l1_1.length c1_1] 32 (0, 0)) (sB BK343.out) hb)
   have n4_ := aS (below_step (sW HB.out) hb)
   clear HO348 HO351 HO354 BK343 HB
   have HO348 := n0_; have HO351 := n1_; have HO354 := n2_; have BK343 := n3_; have HB := n4_
   clear n0_ n1_ n2_ n3_ n4_
   (try clear hb); (try clear hb2); (try clear hk); (try clear hi)
   refine hK.out _ _ ⟨(blk_cell BK343.out 0).trans rfl, (blk_cell BK343.out 1).trans rfl⟩ (fun hHeld => ?_)
   clear hK K
   refine norm_ (a' := ?_) ?_ ?_
   rotate_left
   ·
    show Act.put _ (some 29) _ = _
    simp only [Act.put, List.setIfInBounds_toArray, List.set_cons_zero, List.set_cons_succ, i64_w, i32_w]
    rfl
   refine pure_ (i := 5) (N := some 24) (v := ?_) (a' := ?_) #[true, true, true, true, true, true, false, false, false, false, false, false] rfl rfl (any_of HT_.out (by kernel_rfl)) (fun _ _ _ h => h) (Or.inl ⟨by rfl, ?_⟩) ?_ ?_
   rotate_left
   ·
    intro w'
    go_simp
    with_reducible rfl
   rotate_left
   ·
    simp only [Act.put, List.setIfInBounds_toArray, List.set_cons_zero, List.set_cons_succ, i64_w, i32_w]
    rfl
   refine pure_ (i := 6) (N := some 30) (v := ?_) (a' := ?_) #[true, true, true, true, true, true, true, false, false, false, false, false] rfl rfl (any_of HT_.out (by kernel_rfl)) (fun _ _ _ h => h) (Or.inl ⟨by rfl, ?_⟩) ?_ ?_
   rotate_left
   ·
    intro w'
    go_simp
    with_reducible rfl
   rotate_left
   ·
    simp only [Act.put, List.setIfInBounds_toArray, List.set_cons_zero, List.set_cons_succ, i64_w, i32_w]
    rfl
   refine pure_ (i := 7) (N := some 31) (v := ?_) (a' := ?_) #[true, true, true, true, true, true, true, true, false, false, false, false] rfl rfl (any_of HT_.out (by kernel_rfl)) (fun _ _ _ h => h) (Or.inl ⟨by rfl, ?_⟩) ?_ ?_
   rotate_left
   ·
    intro w'
    go_simp
    with_reducible rfl
   rotate_left
   ·
    simp only [Act.put, List.setIfInBounds_toArray, List.set_cons_zero, List.set_cons_succ, i64_w, i32_w]
    rfl
   refine pure_ (i := 8) (N := some 32) (v := ?_) (a' := ?_) #[true, true, true, true, true, true, true, true, true, false, false, false] rfl rfl (any_of HT_.out (by kernel_rfl)) (fun _ _ _ h => h) (Or.inl ⟨by rfl, ?_⟩) ?_ ?_
   rotate_left
   ·
    intro w'
    go_simp
    with_reducible rfl
   rotate_left
   ·
    simp only [Act.put, List.setIfInBounds_toArray, List.set_cons_zero, List.set_cons_succ, i64_w, i32_w]
    rfl
   refine pure_ (i := 9) (N := some 6) (v := ?_) (a' := ?_) #[true, true, true, true, true, true, true, true, true, true, false, false] rfl rfl (any_of HT_.out (by kernel_rfl)) (fun _ _ _ h => h) (Or.inl ⟨by rfl, ?_⟩) ?_ ?_
   rotate_left
   ·
    intro w'
    go_simp
    with_reducible rfl
   rotate_left
   ·
    simp only [Act.put, List.setIfInBounds_toArray, List.set_cons_zero, List.set_cons_succ, i64_w, i32_w]
    rfl
   refine pure_ (i := 10) (N := some 7) (v := ?_) (a' := ?_) #[true, true, true, true, true, true, true, true, true, true, true, false] rfl rfl (any_of HT_.out (by kernel_rfl)) (fun _ _ _ h => h) (Or.inl ⟨by rfl, ?_⟩) ?_ ?_
   rotate_left
   ·
    intro w'
    go_simp
    with_reducible rfl
   rotate_left
   ·
    simp only [Act.put, List.setIfInBounds_toArray, List.set_cons_zero, List.set_cons_succ, i64_w, i32_w]
    rfl
   refine pure_ (i := 11) (N := some 8) (v := ?_) (a' := ?_) #[true, true, true, true, true, true, true, true, true, true, true, true] rfl rfl (any_of HT_.out (by kernel_rfl)) (fun _ _ _ h => h) (Or.inl ⟨by rfl, ?_⟩) ?_ ?_
   rotate_left
   ·
    intro w'
    go_simp
    with_reducible rfl
   rotate_left
   ·
    simp only [Act.put, List.setIfInBounds_toArray, List.set_cons_zero, List.set_cons_succ, i64_w, i32_w]
    rfl
   refine done_ (done_of HT_.out (by kernel_rfl)) ?_
   go_upto_region 12 with (first | ((with_reducible refine gate_callee (f := 15) rfl ?_); refine goesL_ (some 34) rfl rfl Try.func15 (by kernel_rfl) rfl #[.slice A0 l0.length c0] rfl sG ?_; (with_reducible refine (laws_toJoinS.calls k _ _ l0 t358 _ ?side1 ?side2 A16.out).mono ?_); (case side1 => exact sC (Kd.C_below HR0.out HB.out)); (case side2 => exact HC0.out); rintro e w27 ⟨v359, rfl, ho0, hb⟩; refine ⟨_, rfl, ?_⟩; have n0_ := aS (Kd.R_elder' (sR HO348.out) (Kd.R_base ho0) hb); have n1_ := aS (Kd.R_below (sR HO351.out) hb); have n2_ := aS (Kd.R_below (sR HO354.out) hb); have n3_ := aS (Kd.R_lower (Kd.R_new' ho0 (Kd.R_lt (sR HO348.out))) (below_size (sW HB.out))); have n4_ := aS (blk_below (g := gb343) (o := .cells #[.slice A1_0 l1_0.length c1_0, .slice A1_1 l1_1.length c1_1] 32 (0, 0)) (sB BK343.out) hb); have n5_ := aS (below_step (sW HB.out) hb); clear HO348 HO351 HO354 BK343 HB; have HO348 := n0_; have HO351 := n1_; have HO354 := n2_; have HO360 := n3_; have BK343 := n4_; have HB := n5_; clear n0_ n1_ n2_ n3_ n4_ n5_; (try clear hb); (try clear hb2); (try clear hk); (try clear hi); (try clear ho0); have hcz28_0 : w27.cell? ⟨gb343, 0, none⟩ = some (.slice A1_0 l1_0.length c1_0) := (blk_cell BK343.out 0).trans rfl; have hcz28_1 : w27.cell? ⟨gb343, 1, none⟩ = some (.slice A1_1 l1_1.length c1_1) := (blk_cell BK343.out 1).trans rfl; have hfz28_0 := blk_frozen BK343.out 0; have hfz28_1 := blk_frozen BK343.out 1) | ((with_reducible refine gate_callee (f := 20) rfl ?_); refine goesL_ (some 36) rfl rfl Try.func20 (by kernel_rfl) rfl #[.agg #[.slice A1_0 l1_0.length c1_0, .slice A1_1 l1_1.length c1_1]] rfl sG ?_; (with_reducible refine (laws_toLine.calls k _ _ l1_0 _ _ l1_1 t361 t364 _ ?side1 ?side2 ?side3 ?side4 A17.out).mono ?_); (case side1 => exact sC (Kd.C_below HR1_0.out HB.out)); (case side2 => exact HC1_0.out); (case side3 => exact sC (Kd.C_below HR1_1.out HB.out)); (case side4 => exact HC1_1.out); rintro e w29 ⟨v362, v365, rfl, ho0, ho1, hb⟩; refine ⟨_, rfl, ?_⟩; have n0_ := aS (Kd.R_below (sR HO348.out) hb); have n1_ := aS (Kd.R_elder' (sR HO351.out) (Kd.R_base ho0) hb); have n2_ := aS (Kd.R_elder' (sR HO354.out) (Kd.R_base ho1) hb); have n3_ := aS (Kd.R_below (sR HO360.out) hb); have n4_ := aS (Kd.R_lower (Kd.R_new' ho0 (Kd.R_lt (sR HO351.out))) (below_size (sW HB.out))); have n5_ := aS (Kd.R_lower (Kd.R_new' ho1 (Kd.R_lt (sR HO354.out))) (below_size (sW HB.out))); have n6_ := aS (blk_below (g := gb343) (o := .cells #[.slice A1_0 l1_0.length c1_0, .slice A1_1 l1_1.length c1_1] 32 (0, 0)) (sB BK343.out) hb); have n7_ := aS (below_step (sW HB.out) hb); clear HO348 HO351 HO354 HO360 BK343 HB; have HO348 := n0_; have HO351 := n1_; have HO354 := n2_; have HO360 := n3_; have HO363 := n4_; have HO366 := n5_; have BK343 := n6_; have HB := n7_; clear n0_ n1_ n2_ n3_ n4_ n5_ n6_ n7_; (try clear hb); (try clear hb2); (try clear hk); (try clear hi); (try clear ho0); (try clear ho1)) | ((with_reducible refine gate_dst (N := 10) rfl ?_); refine box_event ?hg (N := 10) ?hd (cs := #[.slice none 0 0, .slice none 0 0]) (t := 37) ?hr ?_; (case hd => rfl); (case hg => rfl); (case hr => first | (go_simp; done) | (go_simp; rfl)); intro gb367 hg w30 hbox hb; have n0_ := aS (Kd.R_below (sR HO348.out) hb); have n1_ := aS (Kd.R_below (sR HO351.out) hb); have n2_ := aS (Kd.R_below (sR HO354.out) hb); have n3_ := aS (Kd.R_below (sR HO360.out) hb); have n4_ := aS (Kd.R_below (sR HO363.out) hb); have n5_ := aS (Kd.R_below (sR HO366.out) hb); have n6_ := aS (blk_below (g := gb343) (o := .cells #[.slice A1_0 l1_0.length c1_0, .slice A1_1 l1_1.length c1_1] 32 (0, 0)) (sB BK343.out) hb); have n7_ := aS (below_step (sW HB.out) hb); have n8_ := aS (hbox); have n9_ := aS ((by rw [hg]; exact (below_size (sW HB.out)) : w.heap.size ≤ gb367)); have n10_ := aS ((by rw [hg]; exact (below_size (sW HB.out)) : w.heap.size ≤ gb367)); have n11_ := aS ((by rw [hg]; exact Nat.ne_of_lt (blk_lt (g := gb343) (o := .cells #[.slice A1_0 l1_0.length c1_0, .slice A1_1 l1_1.length c1_1] 32 (0, 0)) (sB BK343.out)) : gb343 ≠ gb367)); have n12_ := aS ((by rw [hg]; exact Nat.ne_of_gt (blk_lt (g := gb343) (o := .cells #[.slice A1_0 l1_0.length c1_0, .slice A1_1 l1_1.length c1_1] 32 (0, 0)) (sB BK343.out)) : gb367 ≠ gb343)); clear HO348 HO351 HO354 HO360 HO363 HO366 BK343 HB; have HO348 := n0_; have HO351 := n1_; have HO354 := n2_; have HO360 := n3_; have HO363 := n4_; have HO366 := n5_; have BK343 := n6_; have HB := n7_; have BK367 := n8_; have GW367 := n9_; have GE367 := n10_; have NB343_367 := n11_; have NB367_343 := n12_; clear n0_ n1_ n2_ n3_ n4_ n5_ n6_ n7_ n8_ n9_ n10_ n11_ n12_; clear hb hbox hg; obtain ⟨Ao31, co31, eo31⟩ := Kd.R_slice HO363.out; subst eo31; have hnb32 := NB367_343.out; have hnc32 := NB343_367.out; have hcz33_0 : w30.cell? ⟨gb367, 0, none⟩ = some (.slice none 0 0) := (blk_cell BK367.out 0).trans rfl; have hcz33_1 : w30.cell? ⟨gb367, 1, none⟩ = some (.slice none 0 0) := (blk_cell BK367.out 1).trans rfl; have hfz33_0 := blk_frozen BK367.out 0; have hfz33_1 := blk_frozen BK367.out 1; obtain ⟨Ao34, co34, eo34⟩ := Kd.R_slice HO366.out; subst eo34; obtain ⟨Ao35, co35, eo35⟩ := Kd.R_slice HO360.out; subst eo35) | ((with_reducible refine gate_callee (f := 41) rfl ?_); refine goesL_ (some 40) rfl rfl Try.func41 (by kernel_rfl) rfl #[.slice Ao35 t358.length co35, .agg #[.slice Ao31 t361.length co31, .slice Ao34 t364.length co34]] rfl sG ?_; (with_reducible refine (impl_WeakestPlace.calls k _ _ t358 _ _ t361 _ _ t364 t368 t369 t370 _ ?side1 ?side2 ?side3 ?side4 ?side5 ?side6 A18.out).mono ?_); (case side1 => refine (Kd.R_reads' (e := 68) (base := w.heap.size) (ok := fun k_ => (True ∧ some k_ ≠ (.slice Ao23 t346.length co23 : Value).ownBlock)) (n := t358.length) (c := co35) ?_).2.2; exact (sR (Kd.R_mono (Kd.R_far (p := ⟨gb367, 1, none⟩) (Kd.R_far (p := ⟨gb367, 0, none⟩) (Kd.R_types HO360.out BK367.out (by decide)) (fun _ hk => hk.2) (.slice Ao31 t361.length co31)) (fun _ hk => hk.2) (.slice Ao34 t364.length co34)) (fun _ h_ => h_.1)))); (case side2 => exact (Kd.R_reads' HO360.out).2.1); (case side3 => refine (Kd.R_reads' (e := 44) (base := w.heap.size) (ok := fun k_ => (True ∧ some k_ ≠ (.slice Ao24 t349.length co24 : Value).ownBlock)) (n := t361.length) (c := co31) ?_).2.2; exact (sR (Kd.R_mono (Kd.R_far (p := ⟨gb367, 1, none⟩) (Kd.R_far (p := ⟨gb367, 0, none⟩) (Kd.R_types HO363.out BK367.out (by decide)) (fun _ hk => hk.2) (.slice Ao31 t361.length co31)) (fun _ hk => hk.2) (.slice Ao34 t364.length co34)) (fun _ h_ => h_.1)))); (case side4 => exact (Kd.R_reads' HO363.out).2.1); (case side5 => refine (Kd.R_reads' (e := 2) (base := w.heap.size) (ok := fun k_ => (True ∧ some k_ ≠ (.slice Ao25 t352.length co25 : Value).ownBlock)) (n := t364.length) (c := co34) ?_).2.2; exact (sR (Kd.R_mono (Kd.R_far (p := ⟨gb367, 1, none⟩) (Kd.R_far (p := ⟨gb367, 0, none⟩) (Kd.R_types HO366.out BK367.out (by decide)) (fun _ hk => hk.2) (.slice Ao31 t361.length co31)) (fun _ hk => hk.2) (.slice Ao34 t364.length co34)) (fun _ h_ => h_.1)))); (case side6 => exact (Kd.R_reads' HO366.out).2.1); rintro e w36 ⟨rfl, hb⟩; refine ⟨_, rfl, ?_⟩; have n0_ := aS (Kd.R_below (sR (Kd.R_mono (Kd.R_far (p := ⟨gb367, 1, none⟩) (Kd.R_far (p := ⟨gb367, 0, none⟩) (Kd.R_types HO348.out BK367.out (by decide)) (fun _ hk => hk.2) (.slice Ao31 t361.length co31)) (fun _ hk => hk.2) (.slice Ao34 t364.length co34)) (fun _ h_ => h_.1))) hb); have n1_ := aS (Kd.R_below (sR (Kd.R_mono (Kd.R_far (p := ⟨gb367, 1, none⟩) (Kd.R_far (p := ⟨gb367, 0, none⟩) (Kd.R_types HO351.out BK367.out (by decide)) (fun _ hk => hk.2) (.slice Ao31 t361.length co31)) (fun _ hk => hk.2) (.slice Ao34 t364.length co34)) (fun _ h_ => h_.1))) hb); have n2_ := aS (Kd.R_below (sR (Kd.R_mono (Kd.R_far (p := ⟨gb367, 1, none⟩) (Kd.R_far (p := ⟨gb367, 0, none⟩) (Kd.R_types HO354.out BK367.out (by decide)) (fun _ hk => hk.2) (.slice Ao31 t361.length co31)) (fun _ hk => hk.2) (.slice Ao34 t364.length co34)) (fun _ h_ => h_.1))) hb); have n3_ := aS (Kd.R_below (sR (Kd.R_mono (Kd.R_far (p := ⟨gb367, 1, none⟩) (Kd.R_far (p := ⟨gb367, 0, none⟩) (Kd.R_types HO360.out BK367.out (by decide)) (fun _ hk => hk.2) (.slice Ao31 t361.length co31)) (fun _ hk => hk.2) (.slice Ao34 t364.length co34)) (fun _ h_ => h_.1))) hb); have n4_ := aS (Kd.R_below (sR (Kd.R_mono (Kd.R_far (p := ⟨gb367, 1, none⟩) (Kd.R_far (p := ⟨gb367, 0, none⟩) (Kd.R_types HO363.out BK367.out (by decide)) (fun _ hk => hk.2) (.slice Ao31 t361.length co31)) (fun _ hk => hk.2) (.slice Ao34 t364.length co34)) (fun _ h_ => h_.1))) hb); have n5_ := aS (Kd.R_below (sR (Kd.R_mono (Kd.R_far (p := ⟨gb367, 1, none⟩) (Kd.R_far (p := ⟨gb367, 0, none⟩) (Kd.R_types HO366.out BK367.out (by decide)) (fun _ hk => hk.2) (.slice Ao31 t361.length co31)) (fun _ hk => hk.2) (.slice Ao34 t364.length co34)) (fun _ h_ => h_.1))) hb); have n6_ := aS (blk_below (g := gb343) (o := .cells #[.slice A1_0 l1_0.length c1_0, .slice A1_1 l1_1.length c1_1] 32 (0, 0)) (by (with_reducible repeat (first | refine blk_drewN ?_ _ | refine blk_drew ?_ | refine blk_alloc ?_ _)); refine blk_far ?_ NB343_367.out _; (with_reducible repeat (first | refine blk_drewN ?_ _ | refine blk_drew ?_ | refine blk_alloc ?_ _)); refine blk_far ?_ NB343_367.out _; (with_reducible repeat (first | refine blk_drewN ?_ _ | refine blk_drew ?_ | refine blk_alloc ?_ _)); exact BK343.out) hb); have n7_ := aS (blk_below (g := gb367) (o := .cells #[.slice Ao31 t361.length co31, .slice Ao34 t364.length co34] 37 (0, 0)) (by (with_reducible repeat (first | refine blk_drewN ?_ _ | refine blk_drew ?_ | refine blk_alloc ?_ _)); refine blk_put (cs := #[.slice Ao31 t361.length co31, .slice none 0 0]) ?_ 1 _ rfl; (with_reducible repeat (first | refine blk_drewN ?_ _ | refine blk_drew ?_ | refine blk_alloc ?_ _)); refine blk_put (cs := #[.slice none 0 0, .slice none 0 0]) ?_ 0 _ rfl; (with_reducible repeat (first | refine blk_drewN ?_ _ | refine blk_drew ?_ | refine blk_alloc ?_ _)); exact BK367.out) hb); have n8_ := aS (below_step (sW HB.out) hb); clear HO348 HO351 HO354 HO360 HO363 HO366 BK343 BK367 HB; have HO348 := n0_; have HO351 := n1_; have HO354 := n2_; have HO360 := n3_; have HO363 := n4_; have HO366 := n5_; have BK343 := n6_; have BK367 := n7_; have HB := n8_; clear n0_ n1_ n2_ n3_ n4_ n5_ n6_ n7_ n8_; (try clear hb); (try clear hb2); (try clear hk); (try clear hi)))
   (try simp only [Act.put, List.setIfInBounds_toArray, List.set_cons_zero, List.set_cons_succ])
   go_cut [56] (fun v56 wc => ∃ (kq : Nat) (x56_18 : Bool), v56 = .bool x56_18 ∧ Aside0 (laws_FnExactWeakestPlace.j0 kq l0 t358 x56_18 l1_0 l1_1 t361 t364 = some r) ∧ Aside0 (kq ≤ k) ∧ Aside0 (Kd.R k68 68 wc w.heap.size (fun _ => True) (.slice Ao35 t358.length co35) t358) ∧ Aside0 (Kd.R k44 44 wc w.heap.size (fun _ => True) (.slice Ao31 t361.length co31) t361) ∧ Aside0 (Kd.R (Kd.int .i64) 2 wc w.heap.size (fun _ => True) (.slice Ao34 t364.length co34) t364) ∧ Aside0 (wc.heap[gb343]? = some (.cells #[(.slice A1_0 l1_0.length c1_0), (.slice A1_1 l1_1.length c1_1)] 32 (0, 0))) ∧ Aside0 (wc.heap[gb367]? = some (.cells #[(.slice Ao31 t361.length co31), (.slice Ao34 t364.length co34)] 37 (0, 0))) ∧ Aside0 (Below w.heap.size w wc))
   case first =>
    have H := HC19.out
    clear HC19
    by_cases c37 : t368.toList = t355.toList
    ·
     rw [if_pos c37] at H
     have c37b0 : (t368.toList == t355.toList) = true := beq_iff_eq.mpr c37
     have c37b1 : (t368.toList != t355.toList) = false := bne_eq_false_iff_eq.mpr c37
     clear c37
     (first | rw [c37b0] | (simp only [i64_w, i32_w]; rw [c37b0]) | (rw [c37b2]; simp only [Bool.not_false, Bool.not_true]) | skip)
     by_cases c38 : t369 = t356
     ·
      rw [if_pos c38] at H
      have c38b0 : (t369 == t356) = true := beq_iff_eq.mpr c38
      have c38b1 : (t369 != t356) = false := bne_eq_false_iff_eq.mpr c38
      clear c38
      have H' := aS H
      clear H
      go_wp2
      go_meet
      case rel => exact ⟨_, ((t370 != t357)), (by first | rfl | (simp; done) | (simp [*]; done) | (simp only [i64_w]; done) | (simp [i64_w]; done)), H', ⟨by first | omega | exact Nat.le_refl _⟩, ⟨by (with_reducible repeat (first | apply Kd.R_alloc | apply Kd.R_drewN | apply Kd.R_drew)); exact Kd.R_mono HO360.out (fun _ hk => trivial)⟩, ⟨by (with_reducible repeat (first | apply Kd.R_alloc | apply Kd.R_drewN | apply Kd.R_drew)); exact Kd.R_mono HO363.out (fun _ hk => trivial)⟩, ⟨by (with_reducible repeat (first | apply Kd.R_alloc | apply Kd.R_drewN | apply Kd.R_drew)); exact Kd.R_mono HO366.out (fun _ hk => trivial)⟩, ⟨by (with_reducible repeat (first | refine blk_drewN ?_ _ | refine blk_drew ?_ | refine blk_alloc ?_ _)); exact BK343.out⟩, ⟨by (with_reducible repeat (first | refine blk_drewN ?_ _ | refine blk_drew ?_ | refine blk_alloc ?_ _)); exact BK367.out⟩, ⟨by repeat (first | (with_reducible first | exact HB.out | apply below_alloc | apply pw_below_drewN | apply below_drew1 | refine below_set ?_ GE343.out | refine below_set ?_ GE367.out) | exact HB.out)⟩⟩
     ·
      rw [if_neg c38] at H
      have c38b0 : (t369 == t356) = false := beq_eq_false_iff_ne.mpr c38
      have c38b1 : (t369 != t356) = true := bne_iff_ne.mpr c38
      have H' := aS H
      clear H
      go_wp2
      go_meet
      case rel => exact ⟨_, (true), (by first | rfl | (simp; done) | (simp [*]; done) | (simp only [i64_w]; done) | (simp [i64_w]; done)), H', ⟨by first | omega | exact Nat.le_refl _⟩, ⟨by (with_reducible repeat (first | apply Kd.R_alloc | apply Kd.R_drewN | apply Kd.R_drew)); exact Kd.R_mono HO360.out (fun _ hk => trivial)⟩, ⟨by (with_reducible repeat (first | apply Kd.R_alloc | apply Kd.R_drewN | apply Kd.R_drew)); exact Kd.R_mono HO363.out (fun _ hk => trivial)⟩, ⟨by (with_reducible repeat (first | apply Kd.R_alloc | apply Kd.R_drewN | apply Kd.R_drew)); exact Kd.R_mono HO366.out (fun _ hk => trivial)⟩, ⟨by (with_reducible repeat (first | refine blk_drewN ?_ _ | refine blk_drew ?_ | refine blk_alloc ?_ _)); exact BK343.out⟩, ⟨by (with_reducible repeat (first | refine blk_drewN ?_ _ | refine blk_drew ?_ | refine blk_alloc ?_ _)); exact BK367.out⟩, ⟨by repeat (first | (with_reducible first | exact HB.out | apply below_alloc | apply pw_below_drewN | apply below_drew1 | refine below_set ?_ GE343.out | refine below_set ?_ GE367.out) | exact HB.out)⟩⟩
    ·
     rw [if_neg c37] at H
     have c37b0 : (t368.toList == t355.toList) = false := beq_eq_false_iff_ne.mpr c37
     have c37b1 : (t368.toList != t355.toList) = true := bne_iff_ne.mpr c37
     (first | rw [c37b0] | (simp only [i64_w, i32_w]; rw [c37b0]) | (rw [c37b2]; simp only [Bool.not_false, Bool.not_true]) | skip)
     have H' := aS H
     clear H
     go_wp2
     go_meet
     case rel => exact ⟨_, (true), (by first | rfl | (simp; done) | (simp [*]; done) | (simp only [i64_w]; done) | (simp [i64_w]; done)), H', ⟨by first | omega | exact Nat.le_refl _⟩, ⟨by (with_reducible repeat (first | apply Kd.R_alloc | apply Kd.R_drewN | apply Kd.R_drew)); exact Kd.R_mono HO360.out (fun _ hk => trivial)⟩, ⟨by (with_reducible repeat (first | apply Kd.R_alloc | apply Kd.R_drewN | apply Kd.R_drew)); exact Kd.R_mono HO363.out (fun _ hk => trivial)⟩, ⟨by (with_reducible repeat (first | apply Kd.R_alloc | apply Kd.R_drewN | apply Kd.R_drew)); exact Kd.R_mono HO366.out (fun _ hk => trivial)⟩, ⟨by (with_reducible repeat (first | refine blk_drewN ?_ _ | refine blk_drew ?_ | refine blk_alloc ?_ _)); exact BK343.out⟩, ⟨by (with_reducible repeat (first | refine blk_drewN ?_ _ | refine blk_drew ?_ | refine blk_alloc ?_ _)); exact BK367.out⟩, ⟨by repeat (first | (with_reducible first | exact HB.out | apply below_alloc | apply pw_below_drewN | apply below_drew1 | refine below_set ?_ GE343.out | refine below_set ?_ GE367.out) | exact HB.out)⟩⟩
   case rest =>
    clear HC19
    (try clear c1); (try clear c2); (try clear p2); (try clear c3); (try clear c4); (try clear c7); (try clear c7b0); (try clear c7b2); (try clear c11); (try clear c12); (try clear c12b0); (try clear c12b2); (try clear c13); (try clear c15); (try clear c18); (try clear c20); (try clear c32); (try clear c37); (try clear c37b0); (try clear c37b1); (try clear c37b2); (try clear c38); (try clear c38b0); (try clear c38b1); (try clear hcz10_0); (try clear hcz10_1); (try clear hcz28_0); (try clear hcz28_1); (try clear hcz33_0); (try clear hcz33_1); (try clear hfz10_0); (try clear hfz10_1); (try clear hfz28_0); (try clear hfz28_1); (try clear hfz33_0); (try clear hfz33_1)
    obtain ⟨kq, x56_18, rfl, HA, HJ18, HO_9, HO_368000, HO_368001, BK343, BK367, HB⟩ := hcut
    cases kq with
    | zero => exact absurd HA.out (by simp [laws_FnExactWeakestPlace.j0])
    | succ kj18 =>
     have H := HA.out
     clear HA
     simp only [laws_FnExactWeakestPlace.j0] at H
     by_cases c39 : x56_18 = true
     ·
      subst c39
      have H1 : (some false) = some r := by rw [if_pos rfl] at H; exact H
      clear H
      have H := H1
      clear H1
      obtain rfl := Option.some.inj H
      go_wp2
      go_ret
      exact ⟨by first | rfl | (simp [errW_none, errW_some, i64_w]; done) | (simp [errW_none, errW_some] <;> rfl) | (simp [*, errW_none, errW_some] <;> rfl), by repeat (first | (with_reducible first | exact HB.out | apply below_alloc | apply pw_below_drewN | apply below_drew1) | exact HB.out)⟩
     ·
      replace c39 := Bool.eq_false_iff.mpr c39
      subst c39
      have H1 : ((laws_toJoinS.f kj18 l0).bind fun t371 => ((laws_eqJoinS.f kj18 t358 t371).bind fun t374 => (if t374 = true then ((laws_toLine.f kj18 l1_0 l1_1).bind fun bt375 => ((laws_eqLine.f kj18 t361 t364 bt375.1 bt375.2).bind fun t381 => (if t381 = true then (some true) else (some false)))) else (some false)))) = some r := by rw [if_neg (show ¬ (false = true) by decide)] at H; exact H
      clear H
      have H := H1
      clear H1
      replace H := Option.bind_eq_some_iff.mp H
      obtain ⟨t371, A400, H⟩ := H
      replace H : ((laws_eqJoinS.f kj18 t358 t371).bind fun t374 => (if t374 = true then ((laws_toLine.f kj18 l1_0 l1_1).bind fun bt375 => ((laws_eqLine.f kj18 t361 t364 bt375.1 bt375.2).bind fun t381 => (if t381 = true then (some true) else (some false)))) else (some false))) = some r := H
      have A40 := aS A400
      clear A400
      replace H := Option.bind_eq_some_iff.mp H
      obtain ⟨t374, A410, H⟩ := H
      replace H : (if t374 = true then ((laws_toLine.f kj18 l1_0 l1_1).bind fun bt375 => ((laws_eqLine.f kj18 t361 t364 bt375.1 bt375.2).bind fun t381 => (if t381 = true then (some true) else (some false)))) else (some false)) = some r := H
      have A41 := aS A410
      clear A410
      have HC42 := aS H
      clear H
      go_upto_if 61 with (first | ((with_reducible refine gate_callee (f := 15) rfl ?_); refine goesL_ (some 59) rfl rfl Try.func15 (by kernel_rfl) rfl #[.slice A0 l0.length c0] rfl sG ?_; (with_reducible refine (laws_toJoinS.calls kj18 _ _ l0 t371 _ ?side1 ?side2 A40.out).mono ?_); (case side1 => exact sC (Kd.C_below HR0.out HB.out)); (case side2 => exact HC0.out); rintro e w43 ⟨v372, rfl, ho0, hb⟩; refine ⟨_, rfl, ?_⟩; have n0_ := aS (Kd.R_elder' (sR HO_9.out) (Kd.R_base ho0) hb); have n1_ := aS (Kd.R_below (sR HO_368000.out) hb); have n2_ := aS (Kd.R_below (sR HO_368001.out) hb); have n3_ := aS (Kd.R_lower (Kd.R_new' ho0 (Kd.R_lt (sR HO_9.out))) (below_size (sW HB.out))); have n4_ := aS (blk_below (g := gb343) (o := .cells #[.slice A1_0 l1_0.length c1_0, .slice A1_1 l1_1.length c1_1] 32 (0, 0)) (sB BK343.out) hb); have n5_ := aS (blk_below (g := gb367) (o := .cells #[.slice Ao31 t361.length co31, .slice Ao34 t364.length co34] 37 (0, 0)) (sB BK367.out) hb); have n6_ := aS (below_step (sW HB.out) hb); clear HO_9 HO_368000 HO_368001 BK343 BK367 HB; have HO_9 := n0_; have HO_368000 := n1_; have HO_368001 := n2_; have HO373 := n3_; have BK343 := n4_; have BK367 := n5_; have HB := n6_; clear n0_ n1_ n2_ n3_ n4_ n5_ n6_; (try clear hb); (try clear hb2); (try clear hk); (try clear hi); (try clear ho0); obtain ⟨Ao44, co44, eo44⟩ := Kd.R_slice HO373.out; subst eo44) | ((with_reducible refine gate_callee (f := 17) rfl ?_); refine goesL_ (some 60) rfl rfl Try.func17 (by kernel_rfl) rfl #[.slice Ao35 t358.length co35, .slice Ao44 t371.length co44] rfl sG ?_; (with_reducible refine (laws_eqJoinS.calls kj18 _ _ t358 _ _ t371 t374 _ ?side1 ?side2 ?side3 ?side4 A41.out).mono ?_); (case side1 => exact sC (Kd.R_reads' HO_9.out).2.2); (case side2 => exact (Kd.R_reads' HO_9.out).2.1); (case side3 => exact sC (Kd.R_reads' HO373.out).2.2); (case side4 => exact (Kd.R_reads' HO373.out).2.1); rintro e w45 ⟨rfl, hb⟩; refine ⟨_, rfl, ?_⟩; have n0_ := aS (Kd.R_below (sR HO_9.out) hb); have n1_ := aS (Kd.R_below (sR HO_368000.out) hb); have n2_ := aS (Kd.R_below (sR HO_368001.out) hb); have n3_ := aS (Kd.R_below (sR HO373.out) hb); have n4_ := aS (blk_below (g := gb343) (o := .cells #[.slice A1_0 l1_0.length c1_0, .slice A1_1 l1_1.length c1_1] 32 (0, 0)) (sB BK343.out) hb); have n5_ := aS (blk_below (g := gb367) (o := .cells #[.slice Ao31 t361.length co31, .slice Ao34 t364.length co34] 37 (0, 0)) (sB BK367.out) hb); have n6_ := aS (below_step (sW HB.out) hb); clear HO_9 HO_368000 HO_368001 HO373 BK343 BK367 HB; have HO_9 := n0_; have HO_368000 := n1_; have HO_368001 := n2_; have HO373 := n3_; have BK343 := n4_; have BK367 := n5_; have HB := n6_; clear n0_ n1_ n2_ n3_ n4_ n5_ n6_; (try clear hb); (try clear hb2); (try clear hk); (try clear hi)))
      (try simp only [Act.put, List.setIfInBounds_toArray, List.set_cons_zero, List.set_cons_succ])
      have H := HC42.out
      clear HC42
      by_cases c46 : t374 = true
      ·
       subst c46
       have H1 : ((laws_toLine.f kj18 l1_0 l1_1).bind fun bt375 => ((laws_eqLine.f kj18 t361 t364 bt375.1 bt375.2).bind fun t381 => (if t381 = true then (some true) else (some false)))) = some r := by rw [if_pos rfl] at H; exact H
       clear H
       have H := H1
       clear H1
       replace H := Option.bind_eq_some_iff.mp H
       obtain ⟨⟨t375, t378⟩, A470, H⟩ := H
       replace H : ((laws_eqLine.f kj18 t361 t364 t375 t378).bind fun t381 => (if t381 = true then (some true) else (some false))) = some r := H
       have A47 := aS A470
       clear A470
       replace H := Option.bind_eq_some_iff.mp H
       obtain ⟨t381, A480, H⟩ := H
       replace H : (if t381 = true then (some true) else (some false)) = some r := H
       have A48 := aS A480
       clear A480
       have HC49 := aS H
       clear H
       try go_wp2
       have n0_ := aS (Kd.R_drew HO_9.out)
       have n1_ := aS (Kd.R_drew HO_368000.out)
       have n2_ := aS (Kd.R_drew HO_368001.out)
       have n3_ := aS (Kd.R_drew HO373.out)
       have n4_ := aS (blk_drew BK343.out)
       have n5_ := aS (blk_drew BK367.out)
       have n6_ := aS (below_drew1 HB.out)
       clear HO_9 HO_368000 HO_368001 HO373 BK343 BK367 HB
       have HO_9 := n0_; have HO_368000 := n1_; have HO_368001 := n2_; have HO373 := n3_; have BK343 := n4_; have BK367 := n5_; have HB := n6_
       clear n0_ n1_ n2_ n3_ n4_ n5_ n6_
       refine start_ (n := 5) (S := fun w' => w'.cell? ⟨gb367, 0, none⟩ = some (.slice Ao31 t361.length co31) ∧ w'.cell? ⟨gb367, 1, none⟩ = some (.slice Ao34 t364.length co34) ∧ w'.cell? ⟨gb343, 0, none⟩ = some (.slice A1_0 l1_0.length c1_0) ∧ w'.cell? ⟨gb343, 1, none⟩ = some (.slice A1_1 l1_1.length c1_1)) (ds := []) #[false, false, false, false, false] (by kernel_rfl) rfl rfl ⟨(blk_cell BK367.out 0).trans rfl, (blk_cell BK367.out 1).trans rfl, (blk_cell BK343.out 0).trans rfl, (blk_cell BK343.out 1).trans rfl⟩ (fun hHeld => ?_)
       generalize w45.drew = w50 at HO_9 HO_368000 HO_368001 HO373 BK343 BK367 HB hHeld ⊢
       refine take_ (i := 0) (N := some 62) (v := ?_) (a' := ?_) #[true, false, false, false, false] rfl rfl (by kernel_rfl) (fun _ _ _ h => h) (Or.inl ⟨by rfl, ?_⟩) hHeld ?_ ?_
       rotate_left
       ·
        rintro w' ⟨s0, s1, s2, s3⟩
        go_simp
        with_reducible rfl
       rotate_left
       ·
        simp only [Act.put, List.setIfInBounds_toArray, List.set_cons_zero, List.set_cons_succ, i64_w, i32_w]
        rfl
       refine take_ (i := 1) (N := some 63) (v := ?_) (a' := ?_) #[true, true, false, false, false] rfl rfl (by kernel_rfl) (fun _ _ _ h => h) (Or.inl ⟨by rfl, ?_⟩) hHeld ?_ ?_
       rotate_left
       ·
        rintro w' ⟨s0, s1, s2, s3⟩
        go_simp
        with_reducible rfl
       rotate_left
       ·
        simp only [Act.put, List.setIfInBounds_toArray, List.set_cons_zero, List.set_cons_succ, i64_w, i32_w]
        rfl
       refine one_ (i := 2) (N := some 64) #[true, true, true, false, false] rfl rfl (by kernel_rfl) (by decide) (fun K hK => ?_)
       refine goes_ Try.func20 (by kernel_rfl) rfl #[.agg #[.slice A1_0 l1_0.length c1_0, .slice A1_1 l1_1.length c1_1]] (by rfl) rfl rfl sG ?_
       with_reducible refine (laws_toLine.calls kj18 _ _ l1_0 _ _ l1_1 t375 t378 _ ?side1 ?side2 ?side3 ?side4 A47.out).mono ?_
       (case side1 => exact sC (Kd.C_below HR1_0.out HB.out))
       (case side2 => exact HC1_0.out)
       (case side3 => exact sC (Kd.C_below HR1_1.out HB.out))
       (case side4 => exact HC1_1.out)
       rintro e w51 ⟨v376, v379, rfl, ho0, ho1, hb⟩
       refine ⟨_, rfl, ?_⟩
       have n0_ := aS (Kd.R_below (sR HO_9.out) hb)
       have n1_ := aS (Kd.R_elder' (sR HO_368000.out) (Kd.R_base ho0) hb)
       have n2_ := aS (Kd.R_elder' (sR HO_368001.out) (Kd.R_base ho1) hb)
       have n3_ := aS (Kd.R_below (sR HO373.out) hb)
       have n4_ := aS (Kd.R_lower (Kd.R_new' ho0 (Kd.R_lt (sR HO_368000.out))) (below_size (sW HB.out)))
       have n5_ := aS (Kd.R_lower (Kd.R_new' ho1 (Kd.R_lt (sR HO_368001.out))) (below_size (sW HB.out)))
       have n6_ := aS (blk_below (g := gb343) (o := .cells #[.slice A1_0 l1_0.length c1_0, .slice A1_1 l1_1.length c1_1] 32 (0, 0)) (sB BK343.out) hb)
       have n7_ := aS (blk_below (g := gb367) (o := .cells #[.slice Ao31 t361.length co31, .slice Ao34 t364.length co34] 37 (0, 0)) (sB BK367.out) hb)
       have n8_ := aS (below_step (sW HB.out) hb)
       clear HO_9 HO_368000 HO_368001 HO373 BK343 BK367 HB
       have HO_9 := n0_; have HO_368000 := n1_; have HO_368001 := n2_; have HO373 := n3_; have HO377 := n4_; have HO380 := n5_; have BK343 := n6_; have BK367 := n7_; have HB := n8_
       clear n0_ n1_ n2_ n3_ n4_ n5_ n6_ n7_ n8_
       (try clear hb); (try clear hb2); (try clear hk); (try clear hi); (try clear ho0); (try clear ho1)
       obtain ⟨Ao52, co52, eo52⟩ := Kd.R_slice HO377.out
       (first | subst eo52 | (injection eo52 with f1_ f2_ f3_; have f4_ := f1_.symm; have f5_ := f3_.symm; clear f1_ f2_ f3_; subst f4_; subst f5_))
       obtain ⟨Ao53, co53, eo53⟩ := Kd.R_slice HO380.out
       (first | subst eo53 | (injection eo53 with f1_ f2_ f3_; have f4_ := f1_.symm; have f5_ := f3_.symm; clear f1_ f2_ f3_; subst f4_; subst f5_))
       refine hK.out _ _ ⟨(blk_cell BK367.out 0).trans rfl, (blk_cell BK367.out 1).trans rfl, (blk_cell BK343.out 0).trans rfl, (blk_cell BK343.out 1).trans rfl⟩ (fun hHeld => ?_)
       clear hK K
       refine norm_ (a' := ?_) ?_ ?_
       rotate_left
       ·
        show Act.put _ (some 64) _ = _
        simp only [Act.put, List.setIfInBounds_toArray, List.set_cons_zero, List.set_cons_succ, i64_w, i32_w]
        rfl
       refine one_ (i := 3) (N := some 65) #[true, true, true, true, false] rfl rfl (by kernel_rfl) (by decide) (fun K hK => ?_)
       refine goes_ Try.func22 (by kernel_rfl) rfl #[.agg #[.slice Ao31 t361.length co31, .slice Ao34 t364.length co34], .agg #[.slice Ao52 t375.length co52, .slice Ao53 t378.length co53]] (by rfl) rfl rfl sG ?_
       with_reducible refine (laws_eqLine.calls kj18 _ _ t361 _ _ t364 _ _ t375 _ _ t378 t381 _ ?side1 ?side2 ?side3 ?side4 ?side5 ?side6 ?side7 ?side8 A48.out).mono ?_
       (case side1 => exact sC (Kd.R_reads' HO_368000.out).2.2)
       (case side2 => exact (Kd.R_reads' HO_368000.out).2.1)
       (case side3 => exact sC (Kd.R_reads' HO_368001.out).2.2)
       (case side4 => exact (Kd.R_reads' HO_368001.out).2.1)
       (case side5 => exact sC (Kd.R_reads' HO377.out).2.2)
       (case side6 => exact (Kd.R_reads' HO377.out).2.1)
       (case side7 => exact sC (Kd.R_reads' HO380.out).2.2)
       (case side8 => exact (Kd.R_reads' HO380.out).2.1)
       rintro e w54 ⟨rfl, hb⟩
       refine ⟨_, rfl, ?_⟩
       have n0_ := aS (Kd.R_below (sR HO_9.out) hb)
       have n1_ := aS (Kd.R_below (sR HO_368000.out) hb)
       have n2_ := aS (Kd.R_below (sR HO_368001.out) hb)
       have n3_ := aS (Kd.R_below (sR HO373.out) hb)
       have n4_ := aS (Kd.R_below (sR HO377.out) hb)
       have n5_ := aS (Kd.R_below (sR HO380.out) hb)
       have n6_ := aS (blk_below (g := gb343) (o := .cells #[.slice A1_0 l1_0.length c1_0, .slice A1_1 l1_1.length c1_1] 32 (0, 0)) (sB BK343.out) hb)
       have n7_ := aS (blk_below (g := gb367) (o := .cells #[.slice Ao31 t361.length co31, .slice Ao34 t364.length co34] 37 (0, 0)) (sB BK367.out) hb)
       have n8_ := aS (below_step (sW HB.out) hb)
       clear HO_9 HO_368000 HO_368001 HO373 HO377 HO380 BK343 BK367 HB
       have HO_9 := n0_; have HO_368000 := n1_; have HO_368001 := n2_; have HO373 := n3_; have HO377 := n4_; have HO380 := n5_; have BK343 := n6_; have BK367 := n7_; have HB := n8_
       clear n0_ n1_ n2_ n3_ n4_ n5_ n6_ n7_ n8_
       (try clear hb); (try clear hb2); (try clear hk); (try clear hi)
       refine hK.out _ _ ⟨(blk_cell BK367.out 0).trans rfl, (blk_cell BK367.out 1).trans rfl, (blk_cell BK343.out 0).trans rfl, (blk_cell BK343.out 1).trans rfl⟩ (fun hHeld => ?_)
       clear hK K
       refine norm_ (a' := ?_) ?_ ?_
       rotate_left
       ·
        show Act.put _ (some 65) _ = _
        simp only [Act.put, List.setIfInBounds_toArray, List.set_cons_zero, List.set_cons_succ, i64_w, i32_w]
        rfl
       refine pure_ (i := 4) (N := some 66) (v := ?_) (a' := ?_) #[true, true, true, true, true] rfl rfl (by kernel_rfl) (fun _ _ _ h => h) (Or.inl ⟨by rfl, ?_⟩) ?_ ?_
       rotate_left
       ·
        intro w'
        go_simp
        with_reducible rfl
       rotate_left
       ·
        simp only [Act.put, List.setIfInBounds_toArray, List.set_cons_zero, List.set_cons_succ, i64_w, i32_w]
        rfl
       refine done_ (by kernel_rfl) ?_
       go_upto_if 66 with (fail)
       have H := HC49.out
       clear HC49
       by_cases c55 : t381 = true
       ·
        subst c55
        have H1 : (some true) = some r := by rw [if_pos rfl] at H; exact H
        clear H
        have H := H1
        clear H1
        obtain rfl := Option.some.inj H
        go_wp2
        go_ret
        exact ⟨by first | rfl | (simp [errW_none, errW_some, i64_w]; done) | (simp [errW_none, errW_some] <;> rfl) | (simp [*, errW_none, errW_some] <;> rfl), by repeat (first | (with_reducible first | exact HB.out | apply below_alloc | apply pw_below_drewN | apply below_drew1) | exact HB.out)⟩
       ·
        replace c55 := Bool.eq_false_iff.mpr c55
        subst c55
        have H1 : (some false) = some r := by rw [if_neg (show ¬ (false = true) by decide)] at H; exact H
        clear H
        have H := H1
        clear H1
        obtain rfl := Option.some.inj H
        go_wp2
        go_ret
        exact ⟨by first | rfl | (simp [errW_none, errW_some, i64_w]; done) | (simp [errW_none, errW_some] <;> rfl) | (simp [*, errW_none, errW_some] <;> rfl), by repeat (first | (with_reducible first | exact HB.out | apply below_alloc | apply pw_below_drewN | apply below_drew1) | exact HB.out)⟩
      ·
       replace c46 := Bool.eq_false_iff.mpr c46
       subst c46
       have H1 : (some false) = some r := by rw [if_neg (show ¬ (false = true) by decide)] at H; exact H
       clear H
       have H := H1
       clear H1
       obtain rfl := Option.some.inj H
       go_wp2
       go_ret
       exact ⟨by first | rfl | (simp [errW_none, errW_some, i64_w]; done) | (simp [errW_none, errW_some] <;> rfl) | (simp [*, errW_none, errW_some] <;> rfl), by repeat (first | (with_reducible first | exact HB.out | apply below_alloc | apply pw_below_drewN | apply below_drew1) | exact HB.out)⟩

/-- THE ONE PURE STATEMENT of laws_FnExactWeakestPlace. -/
def laws_FnExactWeakestPlace.Pure : Prop := ∀ (l0 : List (S67)) (l1_0 : List (S41)) (l1_1 : List Int), (l0.length * 32 ≤ 140737488351232 ∧ l0.length ≤ maxLen ∧ (∀ y0 ∈ l0, (y0.f0.size ≤ 140737488351232) ∧ ((Lit.int .i64 y0.f1).wf = true) ∧ ((Lit.int .i64 y0.f2).wf = true))) → (l1_0.length * 16 ≤ 140737488351232 ∧ l1_0.length ≤ maxLen ∧ (∀ y0 ∈ l1_0, ((Lit.int .i64 y0.f0).wf = true) ∧ ((Lit.int .i64 y0.f1).wf = true))) → (l1_1.length * 8 ≤ 140737488351232 ∧ l1_1.length ≤ maxLen ∧ (∀ y0 ∈ l1_1, (Lit.int .i64 y0).wf = true)) → ∃ k, laws_FnExactWeakestPlace.f k l0 l1_0 l1_1 = some true
theorem laws_FnExactWeakestPlace.walk : True := trivial

end Go.Proofs.Ytdgodlccejoibaa.QFnExactWeakestPlace

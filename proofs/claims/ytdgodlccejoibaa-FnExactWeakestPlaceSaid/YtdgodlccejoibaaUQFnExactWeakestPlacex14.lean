/- What the Go functions of this law compute, each as a Lean function, and that each call comes to that answer; written by a program of this session. No condition. -/
import Derived.Test.YtdgodlccejoibaaUQFnExactWeakestPlacex0
import Derived.Test.YtdgodlccejoibaaUQFnExactWeakestPlacex12
import Derived.Test.YtdgodlccejoibaaUQFnExactWeakestPlacex13
namespace Go.Proofs.Ytdgodlccejoibaa.QFnExactWeakestPlace
open Go.RowKit Go.Proofs.YtdgodlccejoibaaW.PrintWords Go.Proofs.YtdgodlccejoibaaW.PrintLast Go.Proofs.YtdgodlccejoibaaW.PrintMore
attribute [local go_sem] max2_int min2_int max_two min_two max_three min_three max_four min_four   -- for this text's walks alone
set_option linter.unusedVariables false
set_option linter.unusedSimpArgs false

/-! ### impl_compareProducts: function 98 -/
def impl_compareProducts.f (k : Nat) (a0 : Int) (a1 : Int) (a2 : Int) (a3 : Int) : Option (Int) := (bits_Mul64.f a0 a1).bind fun bt292 => ((bits_Mul64.f a2 a3).bind fun bt294 => ((cmp_Compare_uint64.f bt292.1 bt294.1).bind fun t296 => ((cmp_Compare_uint64.f bt292.2 bt294.2).bind fun t297 => ((cmp_Or_int.f k (([t296, t297] : List Int))).bind fun t301 => (some t301)))))
theorem impl_compareProducts.mono : ∀ a0 a1 a2 a3 k, LeO (impl_compareProducts.f k a0 a1 a2 a3) (impl_compareProducts.f (k + 1) a0 a1 a2 a3) := by
 intro a0 a1 a2 a3 k
 unfold impl_compareProducts.f
 repeat' first
   | (with_reducible exact cmp_Or_int.mono _ _)
   | (with_reducible exact LeO.refl _)
   | (with_reducible exact LeO.none _)
   | (with_reducible refine LeO.ite ?_ ?_)
   | (with_reducible refine LeO.bind ?_ (fun _ => ?_))
   | exact cmp_Or_int.mono _ _
   | exact LeO.none _
   | refine LeO.ite ?_ ?_
   | refine LeO.bind ?_ (fun _ => ?_)
set_option maxHeartbeats 8000000 in
set_option maxRecDepth 100000 in
theorem impl_compareProducts.calls (k : Nat) (a0 : Int) (a1 : Int) (a2 : Int) (a3 : Int) (r : Int) (w : World) (h : impl_compareProducts.f k a0 a1 a2 a3 = some r) :
  Calls Try.prog 98 #[.int .u64 a0, .int .u64 a1, .int .u64 a2, .int .u64 a3] w fun e w' => e = .returned (.int .i64 r) ∧ Below w.heap.size w w' := by
 have HB := aS (Below.refl w.heap.size w)
 have H : ((bits_Mul64.f a0 a1).bind fun bt292 => ((bits_Mul64.f a2 a3).bind fun bt294 => ((cmp_Compare_uint64.f bt292.1 bt294.1).bind fun t296 => ((cmp_Compare_uint64.f bt292.2 bt294.2).bind fun t297 => ((cmp_Or_int.f k (([t296, t297] : List Int))).bind fun t301 => (some t301)))))) = some r := h
 clear h
 replace H := Option.bind_eq_some_iff.mp H
 obtain ⟨⟨t292, t293⟩, A50, H⟩ := H
 replace H : ((bits_Mul64.f a2 a3).bind fun bt294 => ((cmp_Compare_uint64.f t292 bt294.1).bind fun t296 => ((cmp_Compare_uint64.f t293 bt294.2).bind fun t297 => ((cmp_Or_int.f k (([t296, t297] : List Int))).bind fun t301 => (some t301))))) = some r := H
 have A5 := aS A50
 clear A50
 replace H := Option.bind_eq_some_iff.mp H
 obtain ⟨⟨t294, t295⟩, A60, H⟩ := H
 replace H : ((cmp_Compare_uint64.f t292 t294).bind fun t296 => ((cmp_Compare_uint64.f t293 t295).bind fun t297 => ((cmp_Or_int.f k (([t296, t297] : List Int))).bind fun t301 => (some t301)))) = some r := H
 have A6 := aS A60
 clear A60
 replace H := Option.bind_eq_some_iff.mp H
 obtain ⟨t296, A70, H⟩ := H
 replace H : ((cmp_Compare_uint64.f t293 t295).bind fun t297 => ((cmp_Or_int.f k (([t296, t297] : List Int))).bind fun t301 => (some t301))) = some r := H
 have A7 := aS A70
 clear A70
 replace H := Option.bind_eq_some_iff.mp H
 obtain ⟨t297, A80, H⟩ := H
 replace H : ((cmp_Or_int.f k (([t296, t297] : List Int))).bind fun t301 => (some t301)) = some r := H
 have A8 := aS A80
 clear A80
 obtain ⟨y298, hy298⟩ : ∃ y_ : List Int, y_ = (([t296, t297] : List Int)) := ⟨_, rfl⟩
 replace H : ((cmp_Or_int.f k y298).bind fun t301 => (some t301)) = some r := by first | (rw [hy298]; with_reducible exact H) | (have H2_ := (Option.bind_some _ _).symm.trans H; rw [hy298]; with_reducible exact H2_) | (have H2_ := (Option.bind_some _ _).symm.trans H; with_reducible exact H2_) | with_reducible exact H | (rw [hy298]; exact H) | exact H
 have Ny298 := aS hy298
 clear hy298
 replace H := Option.bind_eq_some_iff.mp H
 obtain ⟨t301, A90, H⟩ := H
 replace H : (some t301) = some r := H
 have A9 := aS A90
 clear A90
 obtain rfl := Option.some.inj H
 go_enter Try.func98, Try.ntmps98
 go_wp2_with (first | ((with_reducible refine gate_callee (f := 103) rfl ?_); refine goesL_ (some 16) rfl rfl Try.func103 (by kernel_rfl) rfl #[.int .u64 a0, .int .u64 a1] rfl sG ?_; (with_reducible refine (bits_Mul64.calls a0 a1 t292 t293 _ A5.out).mono ?_); rintro e w' ⟨rfl, ⟨nd, rfl⟩⟩; refine ⟨_, rfl, ?_⟩) | ((with_reducible refine gate_callee (f := 103) rfl ?_); refine goesL_ (some 22) rfl rfl Try.func103 (by kernel_rfl) rfl #[.int .u64 a2, .int .u64 a3] rfl sG ?_; (with_reducible refine (bits_Mul64.calls a2 a3 t294 t295 _ A6.out).mono ?_); rintro e w' ⟨rfl, ⟨nd, rfl⟩⟩; refine ⟨_, rfl, ?_⟩) | ((with_reducible refine gate_callee (f := 104) rfl ?_); refine goesL_ (some 27) rfl rfl Try.func104 (by kernel_rfl) rfl #[.int .u64 t292, .int .u64 t294] rfl sG ?_; (with_reducible refine (cmp_Compare_uint64.calls t292 t294 t296 _ A7.out).mono ?_); rintro e w' ⟨rfl, ⟨nd, rfl⟩⟩; refine ⟨_, rfl, ?_⟩) | ((with_reducible refine gate_callee (f := 104) rfl ?_); refine goesL_ (some 30) rfl rfl Try.func104 (by kernel_rfl) rfl #[.int .u64 t293, .int .u64 t295] rfl sG ?_; (with_reducible refine (cmp_Compare_uint64.calls t293 t295 t297 _ A8.out).mono ?_); rintro e w' ⟨rfl, ⟨nd, rfl⟩⟩; refine ⟨_, rfl, ?_⟩) | ((with_reducible refine gate_dst (N := 31) rfl ?_); refine Kd.R_lit (Kd.int .i64) _ 3 ?hg (N := 31) ?hd (xs := ([t296, t297] : List Int)) (inner := [.int .i64 t296, .int .i64 t297]) (ok := fun _ => True) (okp := fun _ => True) ?hr ?hp (fun _ hk => hk) trivial (Below.refl _ _) (Nat.le_refl _) (by simp) ?_; (case hd => rfl); (case hg => rfl); (case hr => first | (go_simp; done) | (go_simp; rfl)); (case hp => exact (Reps.one (show Kd.M (Kd.int .i64) _ _ _ t296 [.int .i64 t296] from rfl) (Reps.one (show Kd.M (Kd.int .i64) _ _ _ t297 [.int .i64 t297] from rfl) (Reps.none _ _)))); intro v299 w10 ho11 hb hg_ hnew_; clear hg_ hnew_; (first | rw [← Ny298.out] at ho11 | (simp only [Int.reduceToNat] at ho11; rw [← Ny298.out] at ho11)); have n0_ := aS (Kd.R_lower ho11 (below_size (sW HB.out))); have n1_ := aS (below_step (sW HB.out) hb); clear HB; have HO300 := n0_; have HB := n1_; clear n0_ n1_; clear hb ho11; obtain ⟨Ao12, co12, eo12⟩ := Kd.R_slice HO300.out; subst eo12) | ((with_reducible refine gate_callee (f := 95) rfl ?_); refine goesL_ (some 32) rfl rfl Try.func95 (by kernel_rfl) rfl #[.slice Ao12 y298.length co12] rfl sG ?_; (with_reducible refine (cmp_Or_int.calls k _ _ y298 t301 _ ?side1 ?side2 A9.out).mono ?_); (case side1 => exact sC (Kd.R_reads' HO300.out).2.2); (case side2 => exact (Kd.R_reads' HO300.out).2.1); rintro e w' ⟨rfl, ⟨nd, rfl⟩⟩; refine ⟨_, rfl, ?_⟩))
 go_ret
 exact ⟨by first | rfl | (simp [errW_none, errW_some, i64_w]; done) | (simp [errW_none, errW_some] <;> rfl) | (simp [*, errW_none, errW_some] <;> rfl), by repeat (first | (with_reducible first | exact HB.out | apply below_alloc | apply pw_below_drewN | apply below_drew1) | exact HB.out)⟩

/-! ### impl_size: function 99 -/
def impl_size.f (a0 : Int) : Option (Int) := if a0 < 0 then (some (IntKind.u64.wrap (wrap64 (-a0)))) else (some (IntKind.u64.wrap (a0)))
set_option maxHeartbeats 8000000 in
set_option maxRecDepth 100000 in
theorem impl_size.calls (a0 : Int) (r : Int) (w : World) (h : impl_size.f a0 = some r) :
  Calls Try.prog 99 #[.int .i64 a0] w fun e w' => e = .returned (.int .u64 r) ∧ Drawn0 w w' := by
 have H : (if a0 < 0 then (some (IntKind.u64.wrap (wrap64 (-a0)))) else (some (IntKind.u64.wrap (a0)))) = some r := h
 clear h
 by_cases c2 : a0 < 0
 ·
  rw [if_pos c2] at H
  have c2b0 : decide (a0 < 0) = true := decide_eq_true c2
  clear c2
  obtain rfl := Option.some.inj H
  go_enter Try.func99, Try.ntmps99
  go_wp2
  go_ret
  exact ⟨by first | rfl | (simp; done) | (simp [*]; done) | (simp only [i64_w]; done) | (simp [i64_w]; done), by repeat (first | exact Drawn0.refl _ | apply Drawn0.step)⟩
 ·
  rw [if_neg c2] at H
  have c2b0 : decide (a0 < 0) = false := decide_eq_false c2
  clear c2
  obtain rfl := Option.some.inj H
  go_enter Try.func99, Try.ntmps99
  go_wp2
  go_ret
  exact ⟨by first | rfl | (simp; done) | (simp [*]; done) | (simp only [i64_w]; done) | (simp [i64_w]; done), by repeat (first | exact Drawn0.refl _ | apply Drawn0.step)⟩

/-! ### impl_compareFractions: function 92 -/
def impl_compareFractions.f (k : Nat) (a0_0 : Int) (a0_1 : Int) (a1_0 : Int) (a1_1 : Int) : Option (Int) := (impl_sign.f a0_0).bind fun t304 => ((impl_sign.f a1_0).bind fun t305 => ((cmp_Compare_int64.f t304 t305).bind fun t306 => ((impl_sign.f a0_0).bind fun t307 => ((impl_size.f a0_0).bind fun t308 => ((impl_size.f a1_1).bind fun t309 => ((impl_size.f a1_0).bind fun t310 => ((impl_size.f a0_1).bind fun t311 => ((impl_compareProducts.f k t308 t309 t310 t311).bind fun t312 => ((cmp_Or_int.f k (([t306, wrap64 (t307 * t312)] : List Int))).bind fun t316 => (some t316))))))))))
theorem impl_compareFractions.mono : ∀ a0 a1 a2 a3 k, LeO (impl_compareFractions.f k a0 a1 a2 a3) (impl_compareFractions.f (k + 1) a0 a1 a2 a3) := by
 intro a0 a1 a2 a3 k
 unfold impl_compareFractions.f
 repeat' first
   | (with_reducible exact cmp_Or_int.mono _ _)
   | (with_reducible exact impl_compareProducts.mono _ _ _ _ _)
   | (with_reducible exact LeO.refl _)
   | (with_reducible exact LeO.none _)
   | (with_reducible refine LeO.ite ?_ ?_)
   | (with_reducible refine LeO.bind ?_ (fun _ => ?_))
   | exact cmp_Or_int.mono _ _
   | exact impl_compareProducts.mono _ _ _ _ _
   | exact LeO.none _
   | refine LeO.ite ?_ ?_
   | refine LeO.bind ?_ (fun _ => ?_)
def impl_compareFractions.T1 : Bool × List (List Nat × List Nat) := (true, [([], []), ([0], [0]), ([1], [1]), ([], []), ([3], [3]), ([4, 2], [4]), ([2, 5, 5], [2, 5]), ([], []), ([7], [7]), ([8, 6], [8]), ([], []), ([10], [10]), ([11, 9], [11]), ([], []), ([13], [13]), ([14, 12], [14]), ([], []), ([16], [16]), ([17, 15], [17]), ([], []), ([19], [19]), ([20, 18], [20]), ([12, 15, 18, 21, 21], [12, 15, 18, 21]), ([9, 22], [9, 22]), ([6, 23], [6, 23]), ([24, 22], [24]), ([25, 25, 0, 1, 2, 3, 4, 5, 6, 7, 8, 9, 10, 11, 12, 13, 14, 15, 16, 17, 18, 19, 20, 21, 22, 23, 24, 25], [25])])
def impl_compareFractions.B1 : List Nat := [0, 1, 3, 0, 8, 31, 63, 0, 128, 511, 0, 1024, 4095, 0, 8192, 32767, 0, 65536, 262143, 0, 524288, 2097151, 4194303, 8388607, 16777215, 33554431, 67108863]
theorem impl_compareFractions.tab1 : rtab .any (opsOf Try.f92 1) = impl_compareFractions.T1 := by kernel_rfl
theorem impl_compareFractions.bits1 : waitsOk impl_compareFractions.T1.2 impl_compareFractions.B1 = true := by kernel_rfl
set_option maxHeartbeats 8000000 in
set_option maxRecDepth 100000 in
theorem impl_compareFractions.calls (k : Nat) (a0_0 : Int) (a0_1 : Int) (a1_0 : Int) (a1_1 : Int) (r : Int) (w : World) (h : impl_compareFractions.f k a0_0 a0_1 a1_0 a1_1 = some r) :
  Calls Try.prog 92 #[.agg #[.int .i64 a0_0, .int .i64 a0_1], .agg #[.int .i64 a1_0, .int .i64 a1_1]] w fun e w' => e = .returned (.int .i64 r) ∧ Below w.heap.size w w' := by
 have hu51 := Try.underlying51
 have HB := aS (Below.refl w.heap.size w)
 have H : ((impl_sign.f a0_0).bind fun t304 => ((impl_sign.f a1_0).bind fun t305 => ((cmp_Compare_int64.f t304 t305).bind fun t306 => ((impl_sign.f a0_0).bind fun t307 => ((impl_size.f a0_0).bind fun t308 => ((impl_size.f a1_1).bind fun t309 => ((impl_size.f a1_0).bind fun t310 => ((impl_size.f a0_1).bind fun t311 => ((impl_compareProducts.f k t308 t309 t310 t311).bind fun t312 => ((cmp_Or_int.f k (([t306, wrap64 (t307 * t312)] : List Int))).bind fun t316 => (some t316))))))))))) = some r := h
 clear h
 replace H := Option.bind_eq_some_iff.mp H
 obtain ⟨t304, A30, H⟩ := H
 replace H : ((impl_sign.f a1_0).bind fun t305 => ((cmp_Compare_int64.f t304 t305).bind fun t306 => ((impl_sign.f a0_0).bind fun t307 => ((impl_size.f a0_0).bind fun t308 => ((impl_size.f a1_1).bind fun t309 => ((impl_size.f a1_0).bind fun t310 => ((impl_size.f a0_1).bind fun t311 => ((impl_compareProducts.f k t308 t309 t310 t311).bind fun t312 => ((cmp_Or_int.f k (([t306, wrap64 (t307 * t312)] : List Int))).bind fun t316 => (some t316)))))))))) = some r := H
 have A3 := aS A30
 clear A30
 replace H := Option.bind_eq_some_iff.mp H
 obtain ⟨t305, A40, H⟩ := H
 replace H : ((cmp_Compare_int64.f t304 t305).bind fun t306 => ((impl_sign.f a0_0).bind fun t307 => ((impl_size.f a0_0).bind fun t308 => ((impl_size.f a1_1).bind fun t309 => ((impl_size.f a1_0).bind fun t310 => ((impl_size.f a0_1).bind fun t311 => ((impl_compareProducts.f k t308 t309 t310 t311).bind fun t312 => ((cmp_Or_int.f k (([t306, wrap64 (t307 * t312)] : List Int))).bind fun t316 => (some t316))))))))) = some r := H
 have A4 := aS A40
 clear A40
 replace H := Option.bind_eq_some_iff.mp H
 obtain ⟨t306, A50, H⟩ := H
 replace H : ((impl_sign.f a0_0).bind fun t307 => ((impl_size.f a0_0).bind fun t308 => ((impl_size.f a1_1).bind fun t309 => ((impl_size.f a1_0).bind fun t310 => ((impl_size.f a0_1).bind fun t311 => ((impl_compareProducts.f k t308 t309 t310 t311).bind fun t312 => ((cmp_Or_int.f k (([t306, wrap64 (t307 * t312)] : List Int))).bind fun t316 => (some t316)))))))) = some r := H
 have A5 := aS A50
 clear A50
 replace H := Option.bind_eq_some_iff.mp H
 obtain ⟨t307, A60, H⟩ := H
 replace H : ((impl_size.f a0_0).bind fun t308 => ((impl_size.f a1_1).bind fun t309 => ((impl_size.f a1_0).bind fun t310 => ((impl_size.f a0_1).bind fun t311 => ((impl_compareProducts.f k t308 t309 t310 t311).bind fun t312 => ((cmp_Or_int.f k (([t306, wrap64 (t307 * t312)] : List Int))).bind fun t316 => (some t316))))))) = some r := H
 have A6 := aS A60
 clear A60
 replace H := Option.bind_eq_some_iff.mp H
 obtain ⟨t308, A70, H⟩ := H
 replace H : ((impl_size.f a1_1).bind fun t309 => ((impl_size.f a1_0).bind fun t310 => ((impl_size.f a0_1).bind fun t311 => ((impl_compareProducts.f k t308 t309 t310 t311).bind fun t312 => ((cmp_Or_int.f k (([t306, wrap64 (t307 * t312)] : List Int))).bind fun t316 => (some t316)))))) = some r := H
 have A7 := aS A70
 clear A70
 replace H := Option.bind_eq_some_iff.mp H
 obtain ⟨t309, A80, H⟩ := H
 replace H : ((impl_size.f a1_0).bind fun t310 => ((impl_size.f a0_1).bind fun t311 => ((impl_compareProducts.f k t308 t309 t310 t311).bind fun t312 => ((cmp_Or_int.f k (([t306, wrap64 (t307 * t312)] : List Int))).bind fun t316 => (some t316))))) = some r := H
 have A8 := aS A80
 clear A80
 replace H := Option.bind_eq_some_iff.mp H
 obtain ⟨t310, A90, H⟩ := H
 replace H : ((impl_size.f a0_1).bind fun t311 => ((impl_compareProducts.f k t308 t309 t310 t311).bind fun t312 => ((cmp_Or_int.f k (([t306, wrap64 (t307 * t312)] : List Int))).bind fun t316 => (some t316)))) = some r := H
 have A9 := aS A90
 clear A90
 replace H := Option.bind_eq_some_iff.mp H
 obtain ⟨t311, A100, H⟩ := H
 replace H : ((impl_compareProducts.f k t308 t309 t310 t311).bind fun t312 => ((cmp_Or_int.f k (([t306, wrap64 (t307 * t312)] : List Int))).bind fun t316 => (some t316))) = some r := H
 have A10 := aS A100
 clear A100
 replace H := Option.bind_eq_some_iff.mp H
 obtain ⟨t312, A110, H⟩ := H
 replace H : ((cmp_Or_int.f k (([t306, wrap64 (t307 * t312)] : List Int))).bind fun t316 => (some t316)) = some r := H
 have A11 := aS A110
 clear A110
 obtain ⟨y313, hy313⟩ : ∃ y_ : List Int, y_ = (([t306, wrap64 (t307 * t312)] : List Int)) := ⟨_, rfl⟩
 replace H : ((cmp_Or_int.f k y313).bind fun t316 => (some t316)) = some r := by first | (rw [hy313]; with_reducible exact H) | (have H2_ := (Option.bind_some _ _).symm.trans H; rw [hy313]; with_reducible exact H2_) | (have H2_ := (Option.bind_some _ _).symm.trans H; with_reducible exact H2_) | with_reducible exact H | (rw [hy313]; exact H) | exact H
 have Ny313 := aS hy313
 clear hy313
 replace H := Option.bind_eq_some_iff.mp H
 obtain ⟨t316, A120, H⟩ := H
 replace H : (some t316) = some r := H
 have A12 := aS A120
 clear A120
 obtain rfl := Option.some.inj H
 go_enter Try.func92, Try.ntmps92
 try go_wp2_with (first | ((with_reducible refine gate_dst (N := 2) rfl ?_); refine box_event ?hg (N := 2) ?hd (cs := #[.int .i64 a0_0, .int .i64 a0_1]) (t := 51) ?hr ?_; (case hd => rfl); (case hg => rfl); (case hr => first | (go_simp; done) | (go_simp; rfl)); intro gb302 hg w13 hbox hb; have n0_ := aS (below_step (sW HB.out) hb); have n1_ := aS (hbox); have n2_ := aS ((by rw [hg]; exact (below_size (sW HB.out)) : w.heap.size ≤ gb302)); have n3_ := aS ((by rw [hg]; exact (below_size (sW HB.out)) : w.heap.size ≤ gb302)); clear HB; have HB := n0_; have BK302 := n1_; have GW302 := n2_; have GE302 := n3_; clear n0_ n1_ n2_ n3_; clear hb hbox hg) | ((with_reducible refine gate_dst (N := 3) rfl ?_); refine box_event ?hg (N := 3) ?hd (cs := #[.int .i64 a1_0, .int .i64 a1_1]) (t := 51) ?hr ?_; (case hd => rfl); (case hg => rfl); (case hr => first | (go_simp; done) | (go_simp; rfl)); intro gb303 hg w14 hbox hb; have n0_ := aS (blk_below (g := gb302) (o := .cells #[.int .i64 a0_0, .int .i64 a0_1] 51 (0, 0)) (sB BK302.out) hb); have n1_ := aS (below_step (sW HB.out) hb); have n2_ := aS (hbox); have n3_ := aS ((by rw [hg]; exact (below_size (sW HB.out)) : w.heap.size ≤ gb303)); have n4_ := aS ((by rw [hg]; exact (below_size (sW HB.out)) : w.heap.size ≤ gb303)); have n5_ := aS ((by rw [hg]; exact Nat.ne_of_lt (blk_lt (g := gb302) (o := .cells #[.int .i64 a0_0, .int .i64 a0_1] 51 (0, 0)) (sB BK302.out)) : gb302 ≠ gb303)); have n6_ := aS ((by rw [hg]; exact Nat.ne_of_gt (blk_lt (g := gb302) (o := .cells #[.int .i64 a0_0, .int .i64 a0_1] 51 (0, 0)) (sB BK302.out)) : gb303 ≠ gb302)); clear BK302 HB; have BK302 := n0_; have HB := n1_; have BK303 := n2_; have GW303 := n3_; have GE303 := n4_; have NB302_303 := n5_; have NB303_302 := n6_; clear n0_ n1_ n2_ n3_ n4_ n5_ n6_; clear hb hbox hg))
 have n0_ := aS (blk_drew BK302.out)
 have n1_ := aS (blk_drew BK303.out)
 have n2_ := aS (below_drew1 HB.out)
 clear BK302 BK303 HB
 have BK302 := n0_; have BK303 := n1_; have HB := n2_
 clear n0_ n1_ n2_
 refine start_ (n := 27) (S := fun w' => w'.cell? ⟨gb302, 0, none⟩ = some (.int .i64 a0_0) ∧ w'.cell? ⟨gb302, 1, none⟩ = some (.int .i64 a0_1) ∧ w'.cell? ⟨gb303, 0, none⟩ = some (.int .i64 a1_0) ∧ w'.cell? ⟨gb303, 1, none⟩ = some (.int .i64 a1_1)) (ds := []) #[false, false, false, false, false, false, false, false, false, false, false, false, false, false, false, false, false, false, false, false, false, false, false, false, false, false, false] (by kernel_rfl) rfl rfl ⟨(blk_cell BK302.out 0).trans rfl, (blk_cell BK302.out 1).trans rfl, (blk_cell BK303.out 0).trans rfl, (blk_cell BK303.out 1).trans rfl⟩ (fun hHeld => ?_); refine with_tabW impl_compareFractions.tab1 impl_compareFractions.bits1 (fun HT_ HW_ => ?_)
 generalize w14.drew = w15 at BK302 BK303 HB hHeld ⊢
 refine pure_ (i := 0) (N := some 5) (v := ?_) (a' := ?_) #[true, false, false, false, false, false, false, false, false, false, false, false, false, false, false, false, false, false, false, false, false, false, false, false, false, false, false] rfl rfl (any_of HT_.out (by kernel_rfl)) (fun _ _ _ h => h) (Or.inl ⟨by rfl, ?_⟩) ?_ ?_
 rotate_left
 ·
  intro w'
  go_simp
  with_reducible rfl
 rotate_left
 ·
  simp only [Act.put, List.setIfInBounds_toArray, List.set_cons_zero, List.set_cons_succ, i64_w, i32_w]
  rfl
 refine pure_ (i := 3) (N := some 8) (v := ?_) (a' := ?_) #[true, false, false, true, false, false, false, false, false, false, false, false, false, false, false, false, false, false, false, false, false, false, false, false, false, false, false] rfl rfl (any_of HT_.out (by kernel_rfl)) (fun _ _ _ h => h) (Or.inl ⟨by rfl, ?_⟩) ?_ ?_
 rotate_left
 ·
  intro w'
  go_simp
  with_reducible rfl
 rotate_left
 ·
  simp only [Act.put, List.setIfInBounds_toArray, List.set_cons_zero, List.set_cons_succ, i64_w, i32_w]
  rfl
 refine pure_ (i := 7) (N := some 12) (v := ?_) (a' := ?_) #[true, false, false, true, false, false, false, true, false, false, false, false, false, false, false, false, false, false, false, false, false, false, false, false, false, false, false] rfl rfl (any_of HT_.out (by kernel_rfl)) (fun _ _ _ h => h) (Or.inl ⟨by rfl, ?_⟩) ?_ ?_
 rotate_left
 ·
  intro w'
  go_simp
  with_reducible rfl
 rotate_left
 ·
  simp only [Act.put, List.setIfInBounds_toArray, List.set_cons_zero, List.set_cons_succ, i64_w, i32_w]
  rfl
 refine pure_ (i := 10) (N := some 15) (v := ?_) (a' := ?_) #[true, false, false, true, false, false, false, true, false, false, true, false, false, false, false, false, false, false, false, false, false, false, false, false, false, false, false] rfl rfl (any_of HT_.out (by kernel_rfl)) (fun _ _ _ h => h) (Or.inl ⟨by rfl, ?_⟩) ?_ ?_
 rotate_left
 ·
  intro w'
  go_simp
  with_reducible rfl
 rotate_left
 ·
  simp only [Act.put, List.setIfInBounds_toArray, List.set_cons_zero, List.set_cons_succ, i64_w, i32_w]
  rfl
 refine pure_ (i := 13) (N := some 18) (v := ?_) (a' := ?_) #[true, false, false, true, false, false, false, true, false, false, true, false, false, true, false, false, false, false, false, false, false, false, false, false, false, false, false] rfl rfl (any_of HT_.out (by kernel_rfl)) (fun _ _ _ h => h) (Or.inl ⟨by rfl, ?_⟩) ?_ ?_
 rotate_left
 ·
  intro w'
  go_simp
  with_reducible rfl
 rotate_left
 ·
  simp only [Act.put, List.setIfInBounds_toArray, List.set_cons_zero, List.set_cons_succ, i64_w, i32_w]
  rfl
 refine pure_ (i := 16) (N := some 21) (v := ?_) (a' := ?_) #[true, false, false, true, false, false, false, true, false, false, true, false, false, true, false, false, true, false, false, false, false, false, false, false, false, false, false] rfl rfl (any_of HT_.out (by kernel_rfl)) (fun _ _ _ h => h) (Or.inl ⟨by rfl, ?_⟩) ?_ ?_
 rotate_left
 ·
  intro w'
  go_simp
  with_reducible rfl
 rotate_left
 ·
  simp only [Act.put, List.setIfInBounds_toArray, List.set_cons_zero, List.set_cons_succ, i64_w, i32_w]
  rfl
 refine pure_ (i := 19) (N := some 24) (v := ?_) (a' := ?_) #[true, false, false, true, false, false, false, true, false, false, true, false, false, true, false, false, true, false, false, true, false, false, false, false, false, false, false] rfl rfl (any_of HT_.out (by kernel_rfl)) (fun _ _ _ h => h) (Or.inl ⟨by rfl, ?_⟩) ?_ ?_
 rotate_left
 ·
  intro w'
  go_simp
  with_reducible rfl
 rotate_left
 ·
  simp only [Act.put, List.setIfInBounds_toArray, List.set_cons_zero, List.set_cons_succ, i64_w, i32_w]
  rfl
 refine take_ (i := 1) (N := some 6) (v := ?_) (a' := ?_) #[true, true, false, true, false, false, false, true, false, false, true, false, false, true, false, false, true, false, false, true, false, false, false, false, false, false, false] rfl rfl (take_ofW HT_.out HW_.out (by kernel_rfl)) (fun _ _ _ h => h) (Or.inl ⟨by rfl, ?_⟩) hHeld ?_ ?_
 rotate_left
 ·
  rintro w' ⟨s0, s1, s2, s3⟩
  go_simp
  with_reducible rfl
 rotate_left
 ·
  simp only [Act.put, List.setIfInBounds_toArray, List.set_cons_zero, List.set_cons_succ, i64_w, i32_w]
  rfl
 refine take_ (i := 4) (N := some 9) (v := ?_) (a' := ?_) #[true, true, false, true, true, false, false, true, false, false, true, false, false, true, false, false, true, false, false, true, false, false, false, false, false, false, false] rfl rfl (take_ofW HT_.out HW_.out (by kernel_rfl)) (fun _ _ _ h => h) (Or.inl ⟨by rfl, ?_⟩) hHeld ?_ ?_
 rotate_left
 ·
  rintro w' ⟨s0, s1, s2, s3⟩
  go_simp
  with_reducible rfl
 rotate_left
 ·
  simp only [Act.put, List.setIfInBounds_toArray, List.set_cons_zero, List.set_cons_succ, i64_w, i32_w]
  rfl
 refine take_ (i := 8) (N := some 13) (v := ?_) (a' := ?_) #[true, true, false, true, true, false, false, true, true, false, true, false, false, true, false, false, true, false, false, true, false, false, false, false, false, false, false] rfl rfl (take_ofW HT_.out HW_.out (by kernel_rfl)) (fun _ _ _ h => h) (Or.inl ⟨by rfl, ?_⟩) hHeld ?_ ?_
 rotate_left
 ·
  rintro w' ⟨s0, s1, s2, s3⟩
  go_simp
  with_reducible rfl
 rotate_left
 ·
  simp only [Act.put, List.setIfInBounds_toArray, List.set_cons_zero, List.set_cons_succ, i64_w, i32_w]
  rfl
 refine take_ (i := 11) (N := some 16) (v := ?_) (a' := ?_) #[true, true, false, true, true, false, false, true, true, false, true, true, false, true, false, false, true, false, false, true, false, false, false, false, false, false, false] rfl rfl (take_ofW HT_.out HW_.out (by kernel_rfl)) (fun _ _ _ h => h) (Or.inl ⟨by rfl, ?_⟩) hHeld ?_ ?_
 rotate_left
 ·
  rintro w' ⟨s0, s1, s2, s3⟩
  go_simp
  with_reducible rfl
 rotate_left
 ·
  simp only [Act.put, List.setIfInBounds_toArray, List.set_cons_zero, List.set_cons_succ, i64_w, i32_w]
  rfl
 refine take_ (i := 14) (N := some 19) (v := ?_) (a' := ?_) #[true, true, false, true, true, false, false, true, true, false, true, true, false, true, true, false, true, false, false, true, false, false, false, false, false, false, false] rfl rfl (take_ofW HT_.out HW_.out (by kernel_rfl)) (fun _ _ _ h => h) (Or.inl ⟨by rfl, ?_⟩) hHeld ?_ ?_
 rotate_left
 ·
  rintro w' ⟨s0, s1, s2, s3⟩
  go_simp
  with_reducible rfl
 rotate_left
 ·
  simp only [Act.put, List.setIfInBounds_toArray, List.set_cons_zero, List.set_cons_succ, i64_w, i32_w]
  rfl
 refine take_ (i := 17) (N := some 22) (v := ?_) (a' := ?_) #[true, true, false, true, true, false, false, true, true, false, true, true, false, true, true, false, true, true, false, true, false, false, false, false, false, false, false] rfl rfl (take_ofW HT_.out HW_.out (by kernel_rfl)) (fun _ _ _ h => h) (Or.inl ⟨by rfl, ?_⟩) hHeld ?_ ?_
 rotate_left
 ·
  rintro w' ⟨s0, s1, s2, s3⟩
  go_simp
  with_reducible rfl
 rotate_left
 ·
  simp only [Act.put, List.setIfInBounds_toArray, List.set_cons_zero, List.set_cons_succ, i64_w, i32_w]
  rfl
 refine take_ (i := 20) (N := some 25) (v := ?_) (a' := ?_) #[true, true, false, true, true, false, false, true, true, false, true, true, false, true, true, false, true, true, false, true, true, false, false, false, false, false, false] rfl rfl (take_ofW HT_.out HW_.out (by kernel_rfl)) (fun _ _ _ h => h) (Or.inl ⟨by rfl, ?_⟩) hHeld ?_ ?_
 rotate_left
 ·
  rintro w' ⟨s0, s1, s2, s3⟩
  go_simp
  with_reducible rfl
 rotate_left
 ·
  simp only [Act.put, List.setIfInBounds_toArray, List.set_cons_zero, List.set_cons_succ, i64_w, i32_w]
  rfl
 refine one_ (i := 2) (N := some 7) #[true, true, true, true, true, false, false, true, true, false, true, true, false, true, true, false, true, true, false, true, true, false, false, false, false, false, false] rfl rfl (one_of HT_.out (by kernel_rfl)) (by decide) (fun K hK => ?_)
 refine goes_ Try.func97 (by kernel_rfl) rfl #[.int .i64 a0_0] (by rfl) rfl rfl sG ?_
 with_reducible refine (impl_sign.calls a0_0 t304 _ A3.out).mono ?_
 rintro e w' ⟨rfl, ⟨nd, rfl⟩⟩
 refine ⟨_, rfl, ?_⟩
 refine hK.out _ _ ⟨(blk_cell BK302.out 0).trans rfl, (blk_cell BK302.out 1).trans rfl, (blk_cell BK303.out 0).trans rfl, (blk_cell BK303.out 1).trans rfl⟩ (fun hHeld => ?_)
 clear hK K
 refine norm_ (a' := ?_) ?_ ?_
 rotate_left
 ·
  show Act.put _ (some 7) _ = _
  simp only [Act.put, List.setIfInBounds_toArray, List.set_cons_zero, List.set_cons_succ, i64_w, i32_w]
  rfl
 refine one_ (i := 5) (N := some 10) #[true, true, true, true, true, true, false, true, true, false, true, true, false, true, true, false, true, true, false, true, true, false, false, false, false, false, false] rfl rfl (one_of HT_.out (by kernel_rfl)) (by decide) (fun K hK => ?_)
 refine goes_ Try.func97 (by kernel_rfl) rfl #[.int .i64 a1_0] (by rfl) rfl rfl sG ?_
 with_reducible refine (impl_sign.calls a1_0 t305 _ A4.out).mono ?_
 rintro e w' ⟨rfl, ⟨nd, rfl⟩⟩
 refine ⟨_, rfl, ?_⟩
 refine hK.out _ _ ⟨(blk_cell BK302.out 0).trans rfl, (blk_cell BK302.out 1).trans rfl, (blk_cell BK303.out 0).trans rfl, (blk_cell BK303.out 1).trans rfl⟩ (fun hHeld => ?_)
 clear hK K
 refine norm_ (a' := ?_) ?_ ?_
 rotate_left
 ·
  show Act.put _ (some 10) _ = _
  simp only [Act.put, List.setIfInBounds_toArray, List.set_cons_zero, List.set_cons_succ, i64_w, i32_w]
  rfl
 refine one_ (i := 6) (N := some 11) #[true, true, true, true, true, true, true, true, true, false, true, true, false, true, true, false, true, true, false, true, true, false, false, false, false, false, false] rfl rfl (one_of HT_.out (by kernel_rfl)) (by decide) (fun K hK => ?_)
 refine goes_ Try.func96 (by kernel_rfl) rfl #[.int .i64 t304, .int .i64 t305] (by rfl) rfl rfl sG ?_
 with_reducible refine (cmp_Compare_int64.calls t304 t305 t306 _ A5.out).mono ?_
 rintro e w' ⟨rfl, ⟨nd, rfl⟩⟩
 refine ⟨_, rfl, ?_⟩
 refine hK.out _ _ ⟨(blk_cell BK302.out 0).trans rfl, (blk_cell BK302.out 1).trans rfl, (blk_cell BK303.out 0).trans rfl, (blk_cell BK303.out 1).trans rfl⟩ (fun hHeld => ?_)
 clear hK K
 refine norm_ (a' := ?_) ?_ ?_
 rotate_left
 ·
  show Act.put _ (some 11) _ = _
  simp only [Act.put, List.setIfInBounds_toArray, List.set_cons_zero, List.set_cons_succ, i64_w, i32_w]
  rfl
 refine one_ (i := 9) (N := some 14) #[true, true, true, true, true, true, true, true, true, true, true, true, false, true, true, false, true, true, false, true, true, false, false, false, false, false, false] rfl rfl (one_of HT_.out (by kernel_rfl)) (by decide) (fun K hK => ?_)
 refine goes_ Try.func97 (by kernel_rfl) rfl #[.int .i64 a0_0] (by rfl) rfl rfl sG ?_
 with_reducible refine (impl_sign.calls a0_0 t307 _ A6.out).mono ?_
 rintro e w' ⟨rfl, ⟨nd, rfl⟩⟩
 refine ⟨_, rfl, ?_⟩
 refine hK.out _ _ ⟨(blk_cell BK302.out 0).trans rfl, (blk_cell BK302.out 1).trans rfl, (blk_cell BK303.out 0).trans rfl, (blk_cell BK303.out 1).trans rfl⟩ (fun hHeld => ?_)
 clear hK K
 refine norm_ (a' := ?_) ?_ ?_
 rotate_left
 ·
  show Act.put _ (some 14) _ = _
  simp only [Act.put, List.setIfInBounds_toArray, List.set_cons_zero, List.set_cons_succ, i64_w, i32_w]
  rfl
 refine one_ (i := 12) (N := some 17) #[true, true, true, true, true, true, true, true, true, true, true, true, true, true, true, false, true, true, false, true, true, false, false, false, false, false, false] rfl rfl (one_of HT_.out (by kernel_rfl)) (by decide) (fun K hK => ?_)
 refine goes_ Try.func99 (by kernel_rfl) rfl #[.int .i64 a0_0] (by rfl) rfl rfl sG ?_
 with_reducible refine (impl_size.calls a0_0 t308 _ A7.out).mono ?_
 rintro e w' ⟨rfl, ⟨nd, rfl⟩⟩
 refine ⟨_, rfl, ?_⟩
 refine hK.out _ _ ⟨(blk_cell BK302.out 0).trans rfl, (blk_cell BK302.out 1).trans rfl, (blk_cell BK303.out 0).trans rfl, (blk_cell BK303.out 1).trans rfl⟩ (fun hHeld => ?_)
 clear hK K
 refine norm_ (a' := ?_) ?_ ?_
 rotate_left
 ·
  show Act.put _ (some 17) _ = _
  simp only [Act.put, List.setIfInBounds_toArray, List.set_cons_zero, List.set_cons_succ, i64_w, i32_w]
  rfl
 refine one_ (i := 15) (N := some 20) #[true, true, true, true, true, true, true, true, true, true, true, true, true, true, true, true, true, true, false, true, true, false, false, false, false, false, false] rfl rfl (one_of HT_.out (by kernel_rfl)) (by decide) (fun K hK => ?_)
 refine goes_ Try.func99 (by kernel_rfl) rfl #[.int .i64 a1_1] (by rfl) rfl rfl sG ?_
 with_reducible refine (impl_size.calls a1_1 t309 _ A8.out).mono ?_
 rintro e w' ⟨rfl, ⟨nd, rfl⟩⟩
 refine ⟨_, rfl, ?_⟩
 refine hK.out _ _ ⟨(blk_cell BK302.out 0).trans rfl, (blk_cell BK302.out 1).trans rfl, (blk_cell BK303.out 0).trans rfl, (blk_cell BK303.out 1).trans rfl⟩ (fun hHeld => ?_)
 clear hK K
 refine norm_ (a' := ?_) ?_ ?_
 rotate_left
 ·
  show Act.put _ (some 20) _ = _
  simp only [Act.put, List.setIfInBounds_toArray, List.set_cons_zero, List.set_cons_succ, i64_w, i32_w]
  rfl
 refine one_ (i := 18) (N := some 23) #[true, true, true, true, true, true, true, true, true, true, true, true, true, true, true, true, true, true, true, true, true, false, false, false, false, false, false] rfl rfl (one_of HT_.out (by kernel_rfl)) (by decide) (fun K hK => ?_)
 refine goes_ Try.func99 (by kernel_rfl) rfl #[.int .i64 a1_0] (by rfl) rfl rfl sG ?_
 with_reducible refine (impl_size.calls a1_0 t310 _ A9.out).mono ?_
 rintro e w' ⟨rfl, ⟨nd, rfl⟩⟩
 refine ⟨_, rfl, ?_⟩
 refine hK.out _ _ ⟨(blk_cell BK302.out 0).trans rfl, (blk_cell BK302.out 1).trans rfl, (blk_cell BK303.out 0).trans rfl, (blk_cell BK303.out 1).trans rfl⟩ (fun hHeld => ?_)
 clear hK K
 refine norm_ (a' := ?_) ?_ ?_
 rotate_left
 ·
  show Act.put _ (some 23) _ = _
  simp only [Act.put, List.setIfInBounds_toArray, List.set_cons_zero, List.set_cons_succ, i64_w, i32_w]
  rfl
 refine one_ (i := 21) (N := some 26) #[true, true, true, true, true, true, true, true, true, true, true, true, true, true, true, true, true, true, true, true, true, true, false, false, false, false, false] rfl rfl (one_of HT_.out (by kernel_rfl)) (by decide) (fun K hK => ?_)
 refine goes_ Try.func99 (by kernel_rfl) rfl #[.int .i64 a0_1] (by rfl) rfl rfl sG ?_
 with_reducible refine (impl_size.calls a0_1 t311 _ A10.out).mono ?_
 rintro e w' ⟨rfl, ⟨nd, rfl⟩⟩
 refine ⟨_, rfl, ?_⟩
 refine hK.out _ _ ⟨(blk_cell BK302.out 0).trans rfl, (blk_cell BK302.out 1).trans rfl, (blk_cell BK303.out 0).trans rfl, (blk_cell BK303.out 1).trans rfl⟩ (fun hHeld => ?_)
 clear hK K
 refine norm_ (a' := ?_) ?_ ?_
 rotate_left
 ·
  show Act.put _ (some 26) _ = _
  simp only [Act.put, List.setIfInBounds_toArray, List.set_cons_zero, List.set_cons_succ, i64_w, i32_w]
  rfl
 refine one_ (i := 22) (N := some 27) #[true, true, true, true, true, true, true, true, true, true, true, true, true, true, true, true, true, true, true, true, true, true, true, false, false, false, false] rfl rfl (one_of HT_.out (by kernel_rfl)) (by decide) (fun K hK => ?_)
 refine goes_ Try.func98 (by kernel_rfl) rfl #[.int .u64 t308, .int .u64 t309, .int .u64 t310, .int .u64 t311] (by rfl) rfl rfl sG ?_
 with_reducible refine (impl_compareProducts.calls k t308 t309 t310 t311 t312 _ A11.out).mono ?_
 rintro e w16 ⟨rfl, hb⟩
 refine ⟨_, rfl, ?_⟩
 have n0_ := aS (blk_below (g := gb302) (o := .cells #[.int .i64 a0_0, .int .i64 a0_1] 51 (0, 0)) (sB BK302.out) hb)
 have n1_ := aS (blk_below (g := gb303) (o := .cells #[.int .i64 a1_0, .int .i64 a1_1] 51 (0, 0)) (sB BK303.out) hb)
 have n2_ := aS (below_step (sW HB.out) hb)
 clear BK302 BK303 HB
 have BK302 := n0_; have BK303 := n1_; have HB := n2_
 clear n0_ n1_ n2_
 (try clear hb); (try clear hb2); (try clear hk); (try clear hi)
 refine hK.out _ _ ⟨(blk_cell BK302.out 0).trans rfl, (blk_cell BK302.out 1).trans rfl, (blk_cell BK303.out 0).trans rfl, (blk_cell BK303.out 1).trans rfl⟩ (fun hHeld => ?_)
 clear hK K
 refine norm_ (a' := ?_) ?_ ?_
 rotate_left
 ·
  show Act.put _ (some 27) _ = _
  simp only [Act.put, List.setIfInBounds_toArray, List.set_cons_zero, List.set_cons_succ, i64_w, i32_w]
  rfl
 refine pure_ (i := 23) (N := some 28) (v := ?_) (a' := ?_) #[true, true, true, true, true, true, true, true, true, true, true, true, true, true, true, true, true, true, true, true, true, true, true, true, false, false, false] rfl rfl (any_of HT_.out (by kernel_rfl)) (fun _ _ _ h => h) (Or.inl ⟨by rfl, ?_⟩) ?_ ?_
 rotate_left
 ·
  intro w'
  go_simp
  with_reducible rfl
 rotate_left
 ·
  simp only [Act.put, List.setIfInBounds_toArray, List.set_cons_zero, List.set_cons_succ, i64_w, i32_w]
  rfl
 refine one_ (i := 24) (N := some 29) #[true, true, true, true, true, true, true, true, true, true, true, true, true, true, true, true, true, true, true, true, true, true, true, true, true, false, false] rfl rfl (one_of HT_.out (by kernel_rfl)) (by decide) (fun K hK => ?_)
 refine Kd.R_lit_step (Kd.int .i64) _ 3 ?hg (N := 29) ?hd (xs := ([t306, wrap64 (t307 * t312)] : List Int)) (inner := [.int .i64 t306, .int .i64 (wrap64 (t307 * t312))]) (ok := fun _ => True) (okp := fun _ => True) ?hr ?hp (fun _ hk => hk) trivial (Below.refl _ _) (Nat.le_refl _) (by simp) ?_; (case hd => rfl); (case hg => rfl); (case hr => first | (go_simp; done) | (go_simp; rfl)); (case hp => exact (Reps.one (show Kd.M (Kd.int .i64) _ _ _ t306 [.int .i64 t306] from rfl) (Reps.one (show Kd.M (Kd.int .i64) _ _ _ (wrap64 (t307 * t312)) [.int .i64 (wrap64 (t307 * t312))] from rfl) (Reps.none _ _))))
 intro v314 w17 ho18 hb hg_ hnew_
 clear hg_ hnew_
 (first | rw [← Ny313.out] at ho18 | (simp only [Int.reduceToNat] at ho18; rw [← Ny313.out] at ho18))
 have n0_ := aS (Kd.R_lower ho18 (below_size (sW HB.out)))
 have n1_ := aS (blk_below (g := gb302) (o := .cells #[.int .i64 a0_0, .int .i64 a0_1] 51 (0, 0)) (sB BK302.out) hb)
 have n2_ := aS (blk_below (g := gb303) (o := .cells #[.int .i64 a1_0, .int .i64 a1_1] 51 (0, 0)) (sB BK303.out) hb)
 have n3_ := aS (below_step (sW HB.out) hb)
 clear BK302 BK303 HB
 have HO315 := n0_; have BK302 := n1_; have BK303 := n2_; have HB := n3_
 clear n0_ n1_ n2_ n3_
 clear hb ho18
 obtain ⟨Ao19, co19, eo19⟩ := Kd.R_slice HO315.out
 (first | subst eo19 | (injection eo19 with f1_ f2_ f3_; have f4_ := f1_.symm; have f5_ := f3_.symm; clear f1_ f2_ f3_; subst f4_; subst f5_))
 refine hK.out _ _ ⟨(blk_cell BK302.out 0).trans rfl, (blk_cell BK302.out 1).trans rfl, (blk_cell BK303.out 0).trans rfl, (blk_cell BK303.out 1).trans rfl⟩ (fun hHeld => ?_)
 clear hK K
 refine norm_ (a' := ?_) ?_ ?_
 rotate_left
 ·
  show Act.put _ (some 29) _ = _
  simp only [Act.put, List.setIfInBounds_toArray, List.set_cons_zero, List.set_cons_succ, i64_w, i32_w]
  rfl
 refine one_ (i := 25) (N := some 30) #[true, true, true, true, true, true, true, true, true, true, true, true, true, true, true, true, true, true, true, true, true, true, true, true, true, true, false] rfl rfl (one_of HT_.out (by kernel_rfl)) (by decide) (fun K hK => ?_)
 refine goes_ Try.func95 (by kernel_rfl) rfl #[.slice Ao19 y313.length co19] (by rfl) rfl rfl sG ?_
 with_reducible refine (cmp_Or_int.calls k _ _ y313 t316 _ ?side1 ?side2 A12.out).mono ?_
 (case side1 => exact sC (Kd.R_reads' HO315.out).2.2)
 (case side2 => exact (Kd.R_reads' HO315.out).2.1)
 rintro e w' ⟨rfl, ⟨nd, rfl⟩⟩
 refine ⟨_, rfl, ?_⟩
 refine hK.out _ _ ⟨(blk_cell BK302.out 0).trans rfl, (blk_cell BK302.out 1).trans rfl, (blk_cell BK303.out 0).trans rfl, (blk_cell BK303.out 1).trans rfl⟩ (fun hHeld => ?_)
 clear hK K
 refine norm_ (a' := ?_) ?_ ?_
 rotate_left
 ·
  show Act.put _ (some 30) _ = _
  simp only [Act.put, List.setIfInBounds_toArray, List.set_cons_zero, List.set_cons_succ, i64_w, i32_w]
  rfl
 refine pure_ (i := 26) (N := some 4) (v := ?_) (a' := ?_) #[true, true, true, true, true, true, true, true, true, true, true, true, true, true, true, true, true, true, true, true, true, true, true, true, true, true, true] rfl rfl (any_of HT_.out (by kernel_rfl)) (fun _ _ _ h => h) (Or.inl ⟨by rfl, ?_⟩) ?_ ?_
 rotate_left
 ·
  intro w'
  go_simp
  with_reducible rfl
 rotate_left
 ·
  simp only [Act.put, List.setIfInBounds_toArray, List.set_cons_zero, List.set_cons_succ, i64_w, i32_w]
  rfl
 refine done_ (done_of HT_.out (by kernel_rfl)) ?_
 try go_wp2
 go_ret
 exact ⟨by first | rfl | (simp [errW_none, errW_some, i64_w]; done) | (simp [errW_none, errW_some] <;> rfl) | (simp [*, errW_none, errW_some] <;> rfl), by repeat (first | (with_reducible first | exact HB.out | apply below_alloc | apply pw_below_drewN | apply below_drew1) | exact HB.out)⟩

/-! ### impl_lineStrength: function 82 -/
mutual
def impl_lineStrength.l0 : Nat → List (S68) → List (S44) → Int → Int → List (S44) → List Int → Int → Int → Option (Int × Int)
 | 0, _, _, _, _, _, _, _, _ => none
 | k + 1, x0, x17, x18, x19, x318000, x318001, x323000, x323001 => if x19 < x18 then (if 0 ≤ x19 then (if x19 < (x17.length : Int) then ((impl_fraction.f k (mn x323000 ((rd_T44 x17 x19).f0)) 1).bind fun bt325 => (impl_lineStrength.l0 k x0 x17 x18 (wrap64 (x19 + 1)) x318000 x318001 bt325.1 bt325.2)) else (none)) else (none)) else (impl_lineStrength.l1 k x0 (x318001.length : Int) 0 x318000 x318001 x323000 x323001)
def impl_lineStrength.l1 : Nat → List (S68) → Int → Int → List (S44) → List Int → Int → Int → Option (Int × Int)
 | 0, _, _, _, _, _, _, _ => none
 | k + 1, x0, x32, x33, x318000, x318001, x323000, x323001 => if x33 < x32 then ((impl_strengthAt.f k x0 x318000 x318001 x33).bind fun bt327 => ((impl_compareFractions.f k bt327.1 bt327.2 x323000 x323001).bind fun t330 => (if t330 < 0 then (impl_lineStrength.l1 k x0 x32 (wrap64 (x33 + 1)) x318000 x318001 bt327.1 bt327.2) else (impl_lineStrength.l1 k x0 x32 (wrap64 (x33 + 1)) x318000 x318001 x323000 x323001)))) else (some (x323000, x323001))
end
def impl_lineStrength.f (k : Nat) (l0 : List (S68)) (l1_0 : List (S44)) (l1_1 : List Int) : Option (Int × Int) := if 0 < (l1_0.length : Int) then ((impl_fraction.f k ((rd_T44 l1_0 0).f0) 1).bind fun bt320 => (impl_lineStrength.l0 k l0 l1_0 (l1_0.length : Int) 0 l1_0 l1_1 bt320.1 bt320.2)) else (none)
theorem impl_lineStrength.mono_l : ∀ k, (∀ y0 y1 y2 y3 y4 y5 y6 y7, LeO (impl_lineStrength.l0 k y0 y1 y2 y3 y4 y5 y6 y7) (impl_lineStrength.l0 (k + 1) y0 y1 y2 y3 y4 y5 y6 y7)) ∧ (∀ y0 y1 y2 y3 y4 y5 y6, LeO (impl_lineStrength.l1 k y0 y1 y2 y3 y4 y5 y6) (impl_lineStrength.l1 (k + 1) y0 y1 y2 y3 y4 y5 y6))
 | 0 => ⟨fun _ _ _ _ _ _ _ _ r h => by simp [impl_lineStrength.l0] at h, fun _ _ _ _ _ _ _ r h => by simp [impl_lineStrength.l1] at h⟩
 | k + 1 => by
  obtain ⟨ih0, ih1⟩ := impl_lineStrength.mono_l k
  refine ⟨?_, ?_⟩
  ·
   intro y0 y1 y2 y3 y4 y5 y6 y7
   unfold impl_lineStrength.l0
   repeat' first
   | (with_reducible exact ih0 _ _ _ _ _ _ _ _)
   | (with_reducible exact ih1 _ _ _ _ _ _ _)
   | (with_reducible exact impl_compareFractions.mono _ _ _ _ _)
   | (with_reducible exact impl_fraction.mono _ _ _)
   | (with_reducible exact impl_strengthAt.mono _ _ _ _ _)
   | (with_reducible exact LeO.refl _)
   | (with_reducible exact LeO.none _)
   | (with_reducible refine LeO.ite ?_ ?_)
   | (with_reducible refine LeO.bind ?_ (fun _ => ?_))
   | exact ih0 _ _ _ _ _ _ _ _
   | exact ih1 _ _ _ _ _ _ _
   | exact impl_compareFractions.mono _ _ _ _ _
   | exact impl_fraction.mono _ _ _
   | exact impl_strengthAt.mono _ _ _ _ _
   | exact LeO.none _
   | refine LeO.ite ?_ ?_
   | refine LeO.bind ?_ (fun _ => ?_)
  ·
   intro y0 y1 y2 y3 y4 y5 y6
   unfold impl_lineStrength.l1
   repeat' first
   | (with_reducible exact ih0 _ _ _ _ _ _ _ _)
   | (with_reducible exact ih1 _ _ _ _ _ _ _)
   | (with_reducible exact impl_compareFractions.mono _ _ _ _ _)
   | (with_reducible exact impl_fraction.mono _ _ _)
   | (with_reducible exact impl_strengthAt.mono _ _ _ _ _)
   | (with_reducible exact LeO.refl _)
   | (with_reducible exact LeO.none _)
   | (with_reducible refine LeO.ite ?_ ?_)
   | (with_reducible refine LeO.bind ?_ (fun _ => ?_))
   | exact ih0 _ _ _ _ _ _ _ _
   | exact ih1 _ _ _ _ _ _ _
   | exact impl_compareFractions.mono _ _ _ _ _
   | exact impl_fraction.mono _ _ _
   | exact impl_strengthAt.mono _ _ _ _ _
   | exact LeO.none _
   | refine LeO.ite ?_ ?_
   | refine LeO.bind ?_ (fun _ => ?_)
theorem impl_lineStrength.mono : ∀ a0 a1 a2 k, LeO (impl_lineStrength.f k a0 a1 a2) (impl_lineStrength.f (k + 1) a0 a1 a2) := by
 intro a0 a1 a2 k
 obtain ⟨ih0, ih1⟩ := impl_lineStrength.mono_l k
 unfold impl_lineStrength.f
 repeat' first
   | (with_reducible exact ih0 _ _ _ _ _ _ _ _)
   | (with_reducible exact ih1 _ _ _ _ _ _ _)
   | (with_reducible exact impl_compareFractions.mono _ _ _ _ _)
   | (with_reducible exact impl_fraction.mono _ _ _)
   | (with_reducible exact impl_strengthAt.mono _ _ _ _ _)
   | (with_reducible exact LeO.refl _)
   | (with_reducible exact LeO.none _)
   | (with_reducible refine LeO.ite ?_ ?_)
   | (with_reducible refine LeO.bind ?_ (fun _ => ?_))
   | exact ih0 _ _ _ _ _ _ _ _
   | exact ih1 _ _ _ _ _ _ _
   | exact impl_compareFractions.mono _ _ _ _ _
   | exact impl_fraction.mono _ _ _
   | exact impl_strengthAt.mono _ _ _ _ _
   | exact LeO.none _
   | refine LeO.ite ?_ ?_
   | refine LeO.bind ?_ (fun _ => ?_)
set_option maxHeartbeats 8000000 in
set_option maxRecDepth 100000 in
theorem impl_lineStrength.calls (k : Nat) (A0 : Option Addr) (c0 : Nat) (l0 : List (S68)) (A1_0 : Option Addr) (c1_0 : Nat) (l1_0 : List (S44)) (A1_1 : Option Addr) (c1_1 : Nat) (l1_1 : List Int) (r1 : Int) (r2 : Int) (w : World) (hr0 : Kd.C k68 w A0 l0.length l0) (hc0 : l0.length ≤ c0) (hr1_0 : Kd.C k44 w A1_0 l1_0.length l1_0) (hc1_0 : l1_0.length ≤ c1_0) (hr1_1 : Kd.C (Kd.int .i64) w A1_1 l1_1.length l1_1) (hc1_1 : l1_1.length ≤ c1_1) (h : impl_lineStrength.f k l0 l1_0 l1_1 = some (r1, r2)) :
  Calls Try.prog 82 #[.slice A0 l0.length c0, .agg #[.slice A1_0 l1_0.length c1_0, .slice A1_1 l1_1.length c1_1]] w fun e w' => e = .returned (.agg #[.int .i64 r1, .int .i64 r2]) ∧ Below w.heap.size w w' := by
 have hu37 := Try.underlying37
 have hu51 := Try.underlying51
 have hu44 := Try.underlying44
 have HR0 := aS hr0
 have HC0 := aS hc0
 clear hr0 hc0
 have HR1_0 := aS hr1_0
 have HC1_0 := aS hc1_0
 clear hr1_0 hc1_0
 have HR1_1 := aS hr1_1
 have HC1_1 := aS hc1_1
 clear hr1_1 hc1_1
 have HB := aS (Below.refl w.heap.size w)
 have H : (if 0 < (l1_0.length : Int) then ((impl_fraction.f k ((rd_T44 l1_0 0).f0) 1).bind fun bt320 => (impl_lineStrength.l0 k l0 l1_0 (l1_0.length : Int) 0 l1_0 l1_1 bt320.1 bt320.2)) else (none)) = some (r1, r2) := h
 clear h
 by_cases c3 : 0 < (l1_0.length : Int)
 ·
  rw [if_pos c3] at H
  have c3b0 : decide (0 < (l1_0.length : Int)) = true := decide_eq_true c3
  have c3b1 : decide (0 < l1_0.length) = true := decide_eq_true (by omega)
  clear c3
  replace H := Option.bind_eq_some_iff.mp H
  obtain ⟨⟨t320, t321⟩, A40, H⟩ := H
  replace H : (impl_lineStrength.l0 k l0 l1_0 (l1_0.length : Int) 0 l1_0 l1_1 t320 t321) = some (r1, r2) := H
  have A4 := aS A40
  clear A40
  have H' := aS H
  clear H
  go_enter Try.func82, Try.ntmps82
  go_wp2_with (first | ((with_reducible refine gate_dst (N := 3) rfl ?_); refine box_event ?hg (N := 3) ?hd (cs := #[.slice A1_0 l1_0.length c1_0, .slice A1_1 l1_1.length c1_1]) (t := 37) ?hr ?_; (case hd => rfl); (case hg => rfl); (case hr => first | (go_simp; done) | (go_simp; rfl)); intro gb317 hg w5 hbox hb; have n0_ := aS (below_step (sW HB.out) hb); have n1_ := aS (hbox); have n2_ := aS ((by rw [hg]; exact (below_size (sW HB.out)) : w.heap.size ≤ gb317)); have n3_ := aS ((by rw [hg]; exact (below_size (sW HB.out)) : w.heap.size ≤ gb317)); clear HB; have HB := n0_; have BK317 := n1_; have GW317 := n2_; have GE317 := n3_; clear n0_ n1_ n2_ n3_; clear hb hbox hg) | ((with_reducible refine gate_dst (N := 4) rfl ?_); refine box_event ?hg (N := 4) ?hd (cs := #[.int .i64 0, .int .i64 0]) (t := 51) ?hr ?_; (case hd => rfl); (case hg => rfl); (case hr => first | (go_simp; done) | (go_simp; rfl)); intro gb318 hg w6 hbox hb; have n0_ := aS (blk_below (g := gb317) (o := .cells #[.slice A1_0 l1_0.length c1_0, .slice A1_1 l1_1.length c1_1] 37 (0, 0)) (sB BK317.out) hb); have n1_ := aS (below_step (sW HB.out) hb); have n2_ := aS (hbox); have n3_ := aS ((by rw [hg]; exact (below_size (sW HB.out)) : w.heap.size ≤ gb318)); have n4_ := aS ((by rw [hg]; exact (below_size (sW HB.out)) : w.heap.size ≤ gb318)); have n5_ := aS ((by rw [hg]; exact Nat.ne_of_lt (blk_lt (g := gb317) (o := .cells #[.slice A1_0 l1_0.length c1_0, .slice A1_1 l1_1.length c1_1] 37 (0, 0)) (sB BK317.out)) : gb317 ≠ gb318)); have n6_ := aS ((by rw [hg]; exact Nat.ne_of_gt (blk_lt (g := gb317) (o := .cells #[.slice A1_0 l1_0.length c1_0, .slice A1_1 l1_1.length c1_1] 37 (0, 0)) (sB BK317.out)) : gb318 ≠ gb317)); clear BK317 HB; have BK317 := n0_; have HB := n1_; have BK318 := n2_; have GW318 := n3_; have GE318 := n4_; have NB317_318 := n5_; have NB318_317 := n6_; clear n0_ n1_ n2_ n3_ n4_ n5_ n6_; clear hb hbox hg; have hnb7 := NB317_318.out; have hnc7 := NB318_317.out; have hcz8_0 : w6.cell? ⟨gb317, 0, none⟩ = some (.slice A1_0 l1_0.length c1_0) := (blk_cell BK317.out 0).trans rfl; have hcz8_1 : w6.cell? ⟨gb317, 1, none⟩ = some (.slice A1_1 l1_1.length c1_1) := (blk_cell BK317.out 1).trans rfl; have hfz8_0 := blk_frozen BK317.out 0; have hfz8_1 := blk_frozen BK317.out 1; have p319 : 0 ≤ (0 : Int) := (by omega); have q319 : 0 < (l1_0.length : Int) := of_decide_eq_true (by first | (with_reducible assumption) | assumption); obtain ⟨ad319, e319, hx319_0, hx319_1⟩ := at_T44 HR1_0.out 0 p319 q319; cases e319; have qi319 : (0 < l1_0.length) = True := eq_true (by omega); (try rw [show ((0 : Int)).toNat = 0 from rfl] at hx319_0); (try rw [show 0 * 2 = 0 from rfl] at hx319_0); (try rw [Addr.add_zero'] at hx319_0); (try rw [show ((0 : Int)).toNat = 0 from rfl] at hx319_1); (try rw [show 0 * 2 = 0 from rfl] at hx319_1); (try rw [Addr.add_zero'] at hx319_1); replace hx319_0 := (HB.out.cell (World.block_lt_of_cell? w _ hx319_0)).trans hx319_0; replace hx319_1 := (HB.out.cell (World.block_lt_of_cell? w _ hx319_1)).trans hx319_1; replace p319 := eq_true p319; replace q319 := eq_true q319) | ((with_reducible refine gate_callee (f := 83) rfl ?_); refine goesL_ (some 15) rfl rfl Try.func83 (by kernel_rfl) rfl #[.int .i64 ((rd_T44 l1_0 0).f0), .int .i64 1] rfl sG ?_; (with_reducible refine (impl_fraction.calls k ((rd_T44 l1_0 0).f0) 1 t320 t321 _ A4.out).mono ?_); rintro e w9 ⟨rfl, hb⟩; refine ⟨_, rfl, ?_⟩; have n0_ := aS (blk_below (g := gb317) (o := .cells #[.slice (some ad319) l1_0.length c1_0, .slice A1_1 l1_1.length c1_1] 37 (0, 0)) (sB BK317.out) hb); have n1_ := aS (blk_below (g := gb318) (o := .cells #[.int .i64 0, .int .i64 0] 51 (0, 0)) (sB BK318.out) hb); have n2_ := aS (below_step (sW HB.out) hb); clear BK317 BK318 HB; have BK317 := n0_; have BK318 := n1_; have HB := n2_; clear n0_ n1_ n2_; (try clear hb); (try clear hb2); (try clear hk); (try clear hi)) | ((with_reducible refine gate_dst (N := 5) rfl ?_); refine box_event ?hg (N := 5) ?hd (cs := #[.int .i64 0, .int .i64 0]) (t := 51) ?hr ?_; (case hd => rfl); (case hg => rfl); (case hr => first | (go_simp; done) | (go_simp; rfl)); intro gb322 hg w10 hbox hb; have n0_ := aS (blk_below (g := gb317) (o := .cells #[.slice (some ad319) l1_0.length c1_0, .slice A1_1 l1_1.length c1_1] 37 (0, 0)) (sB BK317.out) hb); have n1_ := aS (blk_below (g := gb318) (o := .cells #[.int .i64 0, .int .i64 0] 51 (0, 0)) (sB BK318.out) hb); have n2_ := aS (below_step (sW HB.out) hb); have n3_ := aS (hbox); have n4_ := aS ((by rw [hg]; exact (below_size (sW HB.out)) : w.heap.size ≤ gb322)); have n5_ := aS ((by rw [hg]; exact (below_size (sW HB.out)) : w.heap.size ≤ gb322)); have n6_ := aS ((by rw [hg]; exact Nat.ne_of_lt (blk_lt (g := gb317) (o := .cells #[.slice (some ad319) l1_0.length c1_0, .slice A1_1 l1_1.length c1_1] 37 (0, 0)) (sB BK317.out)) : gb317 ≠ gb322)); have n7_ := aS ((by rw [hg]; exact Nat.ne_of_gt (blk_lt (g := gb317) (o := .cells #[.slice (some ad319) l1_0.length c1_0, .slice A1_1 l1_1.length c1_1] 37 (0, 0)) (sB BK317.out)) : gb322 ≠ gb317)); have n8_ := aS ((by rw [hg]; exact Nat.ne_of_lt (blk_lt (g := gb318) (o := .cells #[.int .i64 0, .int .i64 0] 51 (0, 0)) (sB BK318.out)) : gb318 ≠ gb322)); have n9_ := aS ((by rw [hg]; exact Nat.ne_of_gt (blk_lt (g := gb318) (o := .cells #[.int .i64 0, .int .i64 0] 51 (0, 0)) (sB BK318.out)) : gb322 ≠ gb318)); clear BK317 BK318 HB; have BK317 := n0_; have BK318 := n1_; have HB := n2_; have BK322 := n3_; have GW322 := n4_; have GE322 := n5_; have NB317_322 := n6_; have NB322_317 := n7_; have NB318_322 := n8_; have NB322_318 := n9_; clear n0_ n1_ n2_ n3_ n4_ n5_ n6_ n7_ n8_ n9_; clear hb hbox hg; have hnb11 := NB322_317.out; have hnc11 := NB317_322.out; have hnb12 := NB322_318.out; have hnc12 := NB318_322.out; have hcz13_0 : w10.cell? ⟨gb322, 0, none⟩ = some (.int .i64 0) := (blk_cell BK322.out 0).trans rfl; have hcz13_1 : w10.cell? ⟨gb322, 1, none⟩ = some (.int .i64 0) := (blk_cell BK322.out 1).trans rfl; have hfz13_0 := blk_frozen BK322.out 0; have hfz13_1 := blk_frozen BK322.out 1; have hcz14_0 : w10.cell? ⟨gb317, 0, none⟩ = some (.slice (some ad319) l1_0.length c1_0) := (blk_cell BK317.out 0).trans rfl; have hcz14_1 : w10.cell? ⟨gb317, 1, none⟩ = some (.slice A1_1 l1_1.length c1_1) := (blk_cell BK317.out 1).trans rfl; have hfz14_0 := blk_frozen BK317.out 0; have hfz14_1 := blk_frozen BK317.out 1))
  go_loopg [19] k (fun kq v19 w' => ∃ (x19_1 : Int) (x323000_1 : Int) (x323001_1 : Int), v19 = .int .i64 x19_1 ∧ Aside0 (impl_lineStrength.l0 kq l0 l1_0 (l1_0.length : Int) x19_1 l1_0 l1_1 x323000_1 x323001_1 = some (r1, r2)) ∧ Aside0 (kq ≤ k) ∧ Aside0 (w'.heap[gb317]? = some (.cells #[(.slice (some ad319) l1_0.length c1_0), (.slice A1_1 l1_1.length c1_1)] 37 (0, 0))) ∧ Aside0 (w'.heap[gb318]? = some (.cells #[.int .i64 0, .int .i64 0] 51 (0, 0))) ∧ Aside0 (w'.heap[gb322]? = some (.cells #[.int .i64 x323000_1, .int .i64 x323001_1] 51 (0, 0))) ∧ Aside0 (Below w.heap.size w w'))
  case atStart => exact ⟨(0), (t320), (t321), (by first | rfl | (simp; done) | (simp [*]; done) | (simp only [i64_w]; done) | (simp [i64_w]; done)), H', ⟨Nat.le_refl _⟩, ⟨by (with_reducible repeat (first | refine blk_drewN ?_ _ | refine blk_drew ?_ | refine blk_alloc ?_ _)); refine blk_far ?_ NB317_322.out _; (with_reducible repeat (first | refine blk_drewN ?_ _ | refine blk_drew ?_ | refine blk_alloc ?_ _)); refine blk_far ?_ NB317_322.out _; (with_reducible repeat (first | refine blk_drewN ?_ _ | refine blk_drew ?_ | refine blk_alloc ?_ _)); exact BK317.out⟩, ⟨by (with_reducible repeat (first | refine blk_drewN ?_ _ | refine blk_drew ?_ | refine blk_alloc ?_ _)); refine blk_far ?_ NB318_322.out _; (with_reducible repeat (first | refine blk_drewN ?_ _ | refine blk_drew ?_ | refine blk_alloc ?_ _)); refine blk_far ?_ NB318_322.out _; (with_reducible repeat (first | refine blk_drewN ?_ _ | refine blk_drew ?_ | refine blk_alloc ?_ _)); exact BK318.out⟩, ⟨by (with_reducible repeat (first | refine blk_drewN ?_ _ | refine blk_drew ?_ | refine blk_alloc ?_ _)); refine blk_put (cs := #[.int .i64 t320, .int .i64 0]) ?_ 1 _ rfl; (with_reducible repeat (first | refine blk_drewN ?_ _ | refine blk_drew ?_ | refine blk_alloc ?_ _)); refine blk_put (cs := #[.int .i64 0, .int .i64 0]) ?_ 0 _ rfl; (with_reducible repeat (first | refine blk_drewN ?_ _ | refine blk_drew ?_ | refine blk_alloc ?_ _)); exact BK322.out⟩, ⟨by repeat (first | (with_reducible first | exact HB.out | apply below_alloc | apply pw_below_drewN | apply below_drew1 | refine below_set ?_ GE317.out | refine below_set ?_ GE318.out | refine below_set ?_ GE322.out) | exact HB.out)⟩⟩
  case round =>
   clear H'
   (try clear c1); (try clear p2); (try clear c3); (try clear c3b0); (try clear c3b1); (try clear p3); (try clear q3); (try clear hx3); (try clear qi3); (try clear c7); (try clear c8); (try clear c11); (try clear c12); (try clear hcz13_0); (try clear hcz13_1); (try clear hcz14_0); (try clear hcz14_1); (try clear hcz8_0); (try clear hcz8_1); (try clear hfz13_0); (try clear hfz13_1); (try clear hfz14_0); (try clear hfz14_1); (try clear hfz8_0); (try clear hfz8_1); (try clear hx319_0); (try clear hx319_1); (try clear p319); (try clear q319)
   obtain ⟨x19_1, x323000_1, x323001_1, rfl, HA, HK1, BK317, BK318, BK322, HB⟩ := hrel
   cases gk with
   | zero => exact absurd HA.out (by simp [impl_lineStrength.l0])
   | succ k1 =>
    have H := HA.out
    clear HA
    simp only [impl_lineStrength.l0] at H
    by_cases c15 : x19_1 < (l1_0.length : Int)
    ·
     rw [if_pos c15] at H
     have c15b0 : decide (x19_1 < (l1_0.length : Int)) = true := decide_eq_true c15
     clear c15
     by_cases c16 : 0 ≤ x19_1
     ·
      rw [if_pos c16] at H
      have c16b0 : decide (0 ≤ x19_1) = true := decide_eq_true c16
      clear c16
      by_cases c17 : x19_1 < (l1_0.length : Int)
      ·
       rw [if_pos c17] at H
       have c17b0 : decide (x19_1 < (l1_0.length : Int)) = true := decide_eq_true c17
       clear c17
       obtain ⟨ji18, hji18⟩ : ∃ j_ : Int, (mn x323000_1 ((rd_T44 l1_0 x19_1).f0)) = j_ := ⟨_, rfl⟩
       replace H : ((impl_fraction.f k1 (ji18) 1).bind fun bt325 => (impl_lineStrength.l0 k1 l0 l1_0 (l1_0.length : Int) (wrap64 (x19_1 + 1)) l1_0 l1_1 bt325.1 bt325.2)) = some (r1, r2) := by first | (rw [hji18] at H; exact H) | (simp only [hji18] at H ⊢; exact H)
       have hji18_ : (if ((rd_T44 l1_0 x19_1).f0) < x323000_1 then ((rd_T44 l1_0 x19_1).f0) else x323000_1) = ji18 := hji18
       replace H := Option.bind_eq_some_iff.mp H
       obtain ⟨⟨t325, t326⟩, A190, H⟩ := H
       replace H : (impl_lineStrength.l0 k1 l0 l1_0 (l1_0.length : Int) (wrap64 (x19_1 + 1)) l1_0 l1_1 t325 t326) = some (r1, r2) := H
       have A19 := aS A190
       clear A190
       have H' := aS H
       clear H
       have p323 : 0 ≤ (x19_1 : Int) := of_decide_eq_true (by first | (with_reducible assumption) | assumption)
       have q323 : x19_1 < (l1_0.length : Int) := of_decide_eq_true (by first | (with_reducible assumption) | assumption)
       obtain ⟨ad323, e323, hx323_0, hx323_1⟩ := at_T44 HR1_0.out x19_1 p323 q323
       obtain rfl : ad319 = ad323 := (by injection e323)
       replace hx323_0 := (HB.out.cell (World.block_lt_of_cell? w _ hx323_0)).trans hx323_0
       replace hx323_1 := (HB.out.cell (World.block_lt_of_cell? w _ hx323_1)).trans hx323_1
       replace p323 := eq_true p323
       replace q323 := eq_true q323
       go_wp2_with (first | ((with_reducible refine gate_dst (N := 7) rfl ?_); refine box_event ?hg (N := 7) ?hd (cs := #[.int .i64 0, .int .i64 0]) (t := 44) ?hr ?_; (case hd => rfl); (case hg => rfl); (case hr => first | (go_simp; done) | (go_simp; rfl)); intro gb324 hg w20 hbox hb; have n0_ := aS (blk_below (g := gb317) (o := .cells #[.slice (some ad319) l1_0.length c1_0, .slice A1_1 l1_1.length c1_1] 37 (0, 0)) (sB BK317.out) hb); have n1_ := aS (blk_below (g := gb318) (o := .cells #[.int .i64 0, .int .i64 0] 51 (0, 0)) (sB BK318.out) hb); have n2_ := aS (blk_below (g := gb322) (o := .cells #[.int .i64 x323000_1, .int .i64 x323001_1] 51 (0, 0)) (sB BK322.out) hb); have n3_ := aS (below_step (sW HB.out) hb); have n4_ := aS (hbox); have n5_ := aS ((by rw [hg]; exact (below_size (sW HB.out)) : w.heap.size ≤ gb324)); have n6_ := aS ((by rw [hg]; exact (below_size (sW HB.out)) : w.heap.size ≤ gb324)); have n7_ := aS ((by rw [hg]; exact Nat.ne_of_lt (blk_lt (g := gb317) (o := .cells #[.slice (some ad319) l1_0.length c1_0, .slice A1_1 l1_1.length c1_1] 37 (0, 0)) (sB BK317.out)) : gb317 ≠ gb324)); have n8_ := aS ((by rw [hg]; exact Nat.ne_of_gt (blk_lt (g := gb317) (o := .cells #[.slice (some ad319) l1_0.length c1_0, .slice A1_1 l1_1.length c1_1] 37 (0, 0)) (sB BK317.out)) : gb324 ≠ gb317)); have n9_ := aS ((by rw [hg]; exact Nat.ne_of_lt (blk_lt (g := gb318) (o := .cells #[.int .i64 0, .int .i64 0] 51 (0, 0)) (sB BK318.out)) : gb318 ≠ gb324)); have n10_ := aS ((by rw [hg]; exact Nat.ne_of_gt (blk_lt (g := gb318) (o := .cells #[.int .i64 0, .int .i64 0] 51 (0, 0)) (sB BK318.out)) : gb324 ≠ gb318)); have n11_ := aS ((by rw [hg]; exact Nat.ne_of_lt (blk_lt (g := gb322) (o := .cells #[.int .i64 x323000_1, .int .i64 x323001_1] 51 (0, 0)) (sB BK322.out)) : gb322 ≠ gb324)); have n12_ := aS ((by rw [hg]; exact Nat.ne_of_gt (blk_lt (g := gb322) (o := .cells #[.int .i64 x323000_1, .int .i64 x323001_1] 51 (0, 0)) (sB BK322.out)) : gb324 ≠ gb322)); clear BK317 BK318 BK322 HB; have BK317 := n0_; have BK318 := n1_; have BK322 := n2_; have HB := n3_; have BK324 := n4_; have GW324 := n5_; have GE324 := n6_; have NB317_324 := n7_; have NB324_317 := n8_; have NB318_324 := n9_; have NB324_318 := n10_; have NB322_324 := n11_; have NB324_322 := n12_; clear n0_ n1_ n2_ n3_ n4_ n5_ n6_ n7_ n8_ n9_ n10_ n11_ n12_; clear hb hbox hg; have hnb21 := NB324_317.out; have hnc21 := NB317_324.out; have hnb22 := NB324_318.out; have hnc22 := NB318_324.out; have hnb23 := NB324_322.out; have hnc23 := NB322_324.out; have hcz24_0 : w20.cell? ⟨gb324, 0, none⟩ = some (.int .i64 0) := (blk_cell BK324.out 0).trans rfl; have hcz24_1 : w20.cell? ⟨gb324, 1, none⟩ = some (.int .i64 0) := (blk_cell BK324.out 1).trans rfl; have hfz24_0 := blk_frozen BK324.out 0; have hfz24_1 := blk_frozen BK324.out 1; have hnb25 := NB322_317.out; have hnc25 := NB317_322.out; have hnb26 := NB322_318.out; have hnc26 := NB318_322.out; have hcz27_0 : w20.cell? ⟨gb322, 0, none⟩ = some (.int .i64 x323000_1) := (blk_cell BK322.out 0).trans rfl; have hcz27_1 : w20.cell? ⟨gb322, 1, none⟩ = some (.int .i64 x323001_1) := (blk_cell BK322.out 1).trans rfl; have hfz27_0 := blk_frozen BK322.out 0; have hfz27_1 := blk_frozen BK322.out 1) | ((with_reducible refine gate_callee (f := 83) rfl ?_); refine goesL_ (some 28) rfl rfl Try.func83 (by kernel_rfl) rfl #[.int .i64 ji18, .int .i64 1] rfl (by (try simp only [List.map_toArray, List.map_cons, List.map_nil]); first | done | (simp only [hji18]; rfl) | rfl | (simp only [List.length_drop, List.length_take]; rfl)) ?_; (with_reducible refine (impl_fraction.calls k1 ji18 1 t325 t326 _ A19.out).mono ?_); rintro e w28 ⟨rfl, hb⟩; refine ⟨_, rfl, ?_⟩; have n0_ := aS (blk_below (g := gb317) (o := .cells #[.slice (some ad319) l1_0.length c1_0, .slice A1_1 l1_1.length c1_1] 37 (0, 0)) (by (with_reducible repeat (first | refine blk_drewN ?_ _ | refine blk_drew ?_ | refine blk_alloc ?_ _)); refine blk_far ?_ NB317_324.out _; (with_reducible repeat (first | refine blk_drewN ?_ _ | refine blk_drew ?_ | refine blk_alloc ?_ _)); refine blk_far ?_ NB317_324.out _; (with_reducible repeat (first | refine blk_drewN ?_ _ | refine blk_drew ?_ | refine blk_alloc ?_ _)); exact BK317.out) hb); have n1_ := aS (blk_below (g := gb318) (o := .cells #[.int .i64 0, .int .i64 0] 51 (0, 0)) (by (with_reducible repeat (first | refine blk_drewN ?_ _ | refine blk_drew ?_ | refine blk_alloc ?_ _)); refine blk_far ?_ NB318_324.out _; (with_reducible repeat (first | refine blk_drewN ?_ _ | refine blk_drew ?_ | refine blk_alloc ?_ _)); refine blk_far ?_ NB318_324.out _; (with_reducible repeat (first | refine blk_drewN ?_ _ | refine blk_drew ?_ | refine blk_alloc ?_ _)); exact BK318.out) hb); have n2_ := aS (blk_below (g := gb322) (o := .cells #[.int .i64 x323000_1, .int .i64 x323001_1] 51 (0, 0)) (by (with_reducible repeat (first | refine blk_drewN ?_ _ | refine blk_drew ?_ | refine blk_alloc ?_ _)); refine blk_far ?_ NB322_324.out _; (with_reducible repeat (first | refine blk_drewN ?_ _ | refine blk_drew ?_ | refine blk_alloc ?_ _)); refine blk_far ?_ NB322_324.out _; (with_reducible repeat (first | refine blk_drewN ?_ _ | refine blk_drew ?_ | refine blk_alloc ?_ _)); exact BK322.out) hb); have n3_ := aS (blk_below (g := gb324) (o := .cells #[.int .i64 ((rd_T44 l1_0 x19_1).f0), .int .i64 ((rd_T44 l1_0 x19_1).f1)] 44 (0, 0)) (by (with_reducible repeat (first | refine blk_drewN ?_ _ | refine blk_drew ?_ | refine blk_alloc ?_ _)); refine blk_put (cs := #[.int .i64 ((rd_T44 l1_0 x19_1).f0), .int .i64 0]) ?_ 1 _ rfl; (with_reducible repeat (first | refine blk_drewN ?_ _ | refine blk_drew ?_ | refine blk_alloc ?_ _)); refine blk_put (cs := #[.int .i64 0, .int .i64 0]) ?_ 0 _ rfl; (with_reducible repeat (first | refine blk_drewN ?_ _ | refine blk_drew ?_ | refine blk_alloc ?_ _)); exact BK324.out) hb); have n4_ := aS (below_step (sW HB.out) hb); clear BK317 BK318 BK322 BK324 HB; have BK317 := n0_; have BK318 := n1_; have BK322 := n2_; have BK324 := n3_; have HB := n4_; clear n0_ n1_ n2_ n3_ n4_; (try clear hb); (try clear hb2); (try clear hk); (try clear hi); have hcz29_0 : w28.cell? ⟨gb322, 0, none⟩ = some (.int .i64 x323000_1) := (blk_cell BK322.out 0).trans rfl; have hcz29_1 : w28.cell? ⟨gb322, 1, none⟩ = some (.int .i64 x323001_1) := (blk_cell BK322.out 1).trans rfl; have hfz29_0 := blk_frozen BK322.out 0; have hfz29_1 := blk_frozen BK322.out 1))
       go_roundg k1
       case measure => have := HK1.out; omega
       case rel => exact ⟨(wrap64 (x19_1 + 1)), (t325), (t326), (by first | rfl | (simp; done) | (simp [*]; done) | (simp only [i64_w]; done) | (simp [i64_w]; done)), H', ⟨by have := HK1.out; omega⟩, ⟨by (with_reducible repeat (first | refine blk_drewN ?_ _ | refine blk_drew ?_ | refine blk_alloc ?_ _)); refine blk_far ?_ NB317_322.out _; (with_reducible repeat (first | refine blk_drewN ?_ _ | refine blk_drew ?_ | refine blk_alloc ?_ _)); refine blk_far ?_ NB317_322.out _; (with_reducible repeat (first | refine blk_drewN ?_ _ | refine blk_drew ?_ | refine blk_alloc ?_ _)); exact BK317.out⟩, ⟨by (with_reducible repeat (first | refine blk_drewN ?_ _ | refine blk_drew ?_ | refine blk_alloc ?_ _)); refine blk_far ?_ NB318_322.out _; (with_reducible repeat (first | refine blk_drewN ?_ _ | refine blk_drew ?_ | refine blk_alloc ?_ _)); refine blk_far ?_ NB318_322.out _; (with_reducible repeat (first | refine blk_drewN ?_ _ | refine blk_drew ?_ | refine blk_alloc ?_ _)); exact BK318.out⟩, ⟨by (with_reducible repeat (first | refine blk_drewN ?_ _ | refine blk_drew ?_ | refine blk_alloc ?_ _)); refine blk_put (cs := #[.int .i64 t325, .int .i64 x323001_1]) ?_ 1 _ rfl; (with_reducible repeat (first | refine blk_drewN ?_ _ | refine blk_drew ?_ | refine blk_alloc ?_ _)); refine blk_put (cs := #[.int .i64 x323000_1, .int .i64 x323001_1]) ?_ 0 _ rfl; (with_reducible repeat (first | refine blk_drewN ?_ _ | refine blk_drew ?_ | refine blk_alloc ?_ _)); exact BK322.out⟩, ⟨by repeat (first | (with_reducible first | exact HB.out | apply below_alloc | apply pw_below_drewN | apply below_drew1 | refine below_set ?_ GE317.out | refine below_set ?_ GE318.out | refine below_set ?_ GE322.out | refine below_set ?_ GE324.out) | exact HB.out)⟩⟩
      ·
       rw [if_neg c17] at H
       exact absurd H (by simp)
     ·
      rw [if_neg c16] at H
      exact absurd H (by simp)
    ·
     rw [if_neg c15] at H
     have c15b0 : decide (x19_1 < (l1_0.length : Int)) = false := decide_eq_false c15
     clear c15
     have H' := aS H
     clear H
     have hnb30 := NB317_318.out
     have hnc30 := NB318_317.out
     have hnb31 := NB317_322.out
     have hnc31 := NB322_317.out
     have hcz32_0 : wr.cell? ⟨gb317, 0, none⟩ = some (.slice (some ad319) l1_0.length c1_0) := (blk_cell BK317.out 0).trans rfl
     have hcz32_1 : wr.cell? ⟨gb317, 1, none⟩ = some (.slice A1_1 l1_1.length c1_1) := (blk_cell BK317.out 1).trans rfl
     have hfz32_0 := blk_frozen BK317.out 0
     have hfz32_1 := blk_frozen BK317.out 1
     go_wp2
     go_loopg [33] k1 (fun kq v33 w' => ∃ (x33_2 : Int) (x323000_2 : Int) (x323001_2 : Int), v33 = .int .i64 x33_2 ∧ Aside0 (impl_lineStrength.l1 kq l0 (l1_1.length : Int) x33_2 l1_0 l1_1 x323000_2 x323001_2 = some (r1, r2)) ∧ Aside0 (kq ≤ k1) ∧ Aside0 (w'.heap[gb317]? = some (.cells #[(.slice (some ad319) l1_0.length c1_0), (.slice A1_1 l1_1.length c1_1)] 37 (0, 0))) ∧ Aside0 (w'.heap[gb318]? = some (.cells #[.int .i64 0, .int .i64 0] 51 (0, 0))) ∧ Aside0 (w'.heap[gb322]? = some (.cells #[.int .i64 x323000_2, .int .i64 x323001_2] 51 (0, 0))) ∧ Aside0 (Below w.heap.size w w'))
     case atStart => exact ⟨(0), (x323000_1), (x323001_1), (by first | rfl | (simp; done) | (simp [*]; done) | (simp only [i64_w]; done) | (simp [i64_w]; done)), H', ⟨Nat.le_refl _⟩, ⟨by (with_reducible repeat (first | refine blk_drewN ?_ _ | refine blk_drew ?_ | refine blk_alloc ?_ _)); exact BK317.out⟩, ⟨by (with_reducible repeat (first | refine blk_drewN ?_ _ | refine blk_drew ?_ | refine blk_alloc ?_ _)); exact BK318.out⟩, ⟨by (with_reducible repeat (first | refine blk_drewN ?_ _ | refine blk_drew ?_ | refine blk_alloc ?_ _)); exact BK322.out⟩, ⟨by repeat (first | (with_reducible first | exact HB.out | apply below_alloc | apply pw_below_drewN | apply below_drew1 | refine below_set ?_ GE317.out | refine below_set ?_ GE318.out | refine below_set ?_ GE322.out) | exact HB.out)⟩⟩
     case round =>
      clear H'
      (try clear c1); (try clear c2); (try clear p2); (try clear c3); (try clear c3b0); (try clear c3b1); (try clear p3); (try clear q3); (try clear hx3); (try clear qi3); (try clear p6); (try clear c7); (try clear c8); (try clear c11); (try clear c12); (try clear c15); (try clear c15b0); (try clear c16); (try clear c16b0); (try clear c17); (try clear c17b0); (try clear c21); (try clear c22); (try clear c23); (try clear c25); (try clear c26); (try clear c30); (try clear c31); (try clear p31); (try clear q31); (try clear hx31); (try clear qi31); (try clear p32); (try clear q32); (try clear hx32); (try clear hcz13_0); (try clear hcz13_1); (try clear hcz14_0); (try clear hcz14_1); (try clear hcz24_0); (try clear hcz24_1); (try clear hcz27_0); (try clear hcz27_1); (try clear hcz29_0); (try clear hcz29_1); (try clear hcz32_0); (try clear hcz32_1); (try clear hcz8_0); (try clear hcz8_1); (try clear hfz13_0); (try clear hfz13_1); (try clear hfz14_0); (try clear hfz14_1); (try clear hfz24_0); (try clear hfz24_1); (try clear hfz27_0); (try clear hfz27_1); (try clear hfz29_0); (try clear hfz29_1); (try clear hfz32_0); (try clear hfz32_1); (try clear hfz8_0); (try clear hfz8_1); (try clear hx319_0); (try clear hx319_1); (try clear hx323_0); (try clear hx323_1); (try clear p2); (try clear p3); (try clear p319); (try clear p323); (try clear q3); (try clear q319); (try clear q323)
      obtain ⟨x33_2, x323000_2, x323001_2, rfl, HA, HK2, BK317, BK318, BK322, HB⟩ := hrel
      cases gk with
      | zero => exact absurd HA.out (by simp [impl_lineStrength.l1])
      | succ k2 =>
       have H := HA.out
       clear HA
       simp only [impl_lineStrength.l1] at H
       by_cases c33 : x33_2 < (l1_1.length : Int)
       ·
        rw [if_pos c33] at H
        have c33b0 : decide (x33_2 < (l1_1.length : Int)) = true := decide_eq_true c33
        clear c33
        replace H := Option.bind_eq_some_iff.mp H
        obtain ⟨⟨t327, t328⟩, A340, H⟩ := H
        replace H : ((impl_compareFractions.f k2 t327 t328 x323000_2 x323001_2).bind fun t330 => (if t330 < 0 then (impl_lineStrength.l1 k2 l0 (l1_1.length : Int) (wrap64 (x33_2 + 1)) l1_0 l1_1 t327 t328) else (impl_lineStrength.l1 k2 l0 (l1_1.length : Int) (wrap64 (x33_2 + 1)) l1_0 l1_1 x323000_2 x323001_2))) = some (r1, r2) := H
        have A34 := aS A340
        clear A340
        replace H := Option.bind_eq_some_iff.mp H
        obtain ⟨t330, A350, H⟩ := H
        replace H : (if t330 < 0 then (impl_lineStrength.l1 k2 l0 (l1_1.length : Int) (wrap64 (x33_2 + 1)) l1_0 l1_1 t327 t328) else (impl_lineStrength.l1 k2 l0 (l1_1.length : Int) (wrap64 (x33_2 + 1)) l1_0 l1_1 x323000_2 x323001_2)) = some (r1, r2) := H
        have A35 := aS A350
        clear A350
        by_cases c36 : t330 < 0
        ·
         rw [if_pos c36] at H
         have c36b0 : decide (t330 < 0) = true := decide_eq_true c36
         clear c36
         have H' := aS H
         clear H
         have hnb37 := NB317_318.out
         have hnc37 := NB318_317.out
         have hnb38 := NB317_322.out
         have hnc38 := NB322_317.out
         have hcz39_0 : wr.cell? ⟨gb317, 0, none⟩ = some (.slice (some ad319) l1_0.length c1_0) := (blk_cell BK317.out 0).trans rfl
         have hcz39_1 : wr.cell? ⟨gb317, 1, none⟩ = some (.slice A1_1 l1_1.length c1_1) := (blk_cell BK317.out 1).trans rfl
         have hfz39_0 := blk_frozen BK317.out 0
         have hfz39_1 := blk_frozen BK317.out 1
         go_wp2_with (first | ((with_reducible refine gate_callee (f := 72) rfl ?_); refine goesL_ (some 39) rfl rfl Try.func72 (by kernel_rfl) rfl #[.slice A0 l0.length c0, .agg #[.slice (some ad319) l1_0.length c1_0, .slice A1_1 l1_1.length c1_1], .int .i64 x33_2] rfl sG ?_; (with_reducible refine (impl_strengthAt.calls k2 _ _ l0 _ _ l1_0 _ _ l1_1 x33_2 t327 t328 _ ?side1 ?side2 ?side3 ?side4 ?side5 ?side6 A34.out).mono ?_); (case side1 => exact sC (Kd.C_below HR0.out HB.out)); (case side2 => exact HC0.out); (case side3 => exact sC (Kd.C_below HR1_0.out HB.out)); (case side4 => exact HC1_0.out); (case side5 => exact sC (Kd.C_below HR1_1.out HB.out)); (case side6 => exact HC1_1.out); rintro e w40 ⟨rfl, hb⟩; refine ⟨_, rfl, ?_⟩; have n0_ := aS (blk_below (g := gb317) (o := .cells #[.slice (some ad319) l1_0.length c1_0, .slice A1_1 l1_1.length c1_1] 37 (0, 0)) (sB BK317.out) hb); have n1_ := aS (blk_below (g := gb318) (o := .cells #[.int .i64 0, .int .i64 0] 51 (0, 0)) (sB BK318.out) hb); have n2_ := aS (blk_below (g := gb322) (o := .cells #[.int .i64 x323000_2, .int .i64 x323001_2] 51 (0, 0)) (sB BK322.out) hb); have n3_ := aS (below_step (sW HB.out) hb); clear BK317 BK318 BK322 HB; have BK317 := n0_; have BK318 := n1_; have BK322 := n2_; have HB := n3_; clear n0_ n1_ n2_ n3_; (try clear hb); (try clear hb2); (try clear hk); (try clear hi)) | ((with_reducible refine gate_dst (N := 9) rfl ?_); refine box_event ?hg (N := 9) ?hd (cs := #[.int .i64 0, .int .i64 0]) (t := 51) ?hr ?_; (case hd => rfl); (case hg => rfl); (case hr => first | (go_simp; done) | (go_simp; rfl)); intro gb329 hg w41 hbox hb; have n0_ := aS (blk_below (g := gb317) (o := .cells #[.slice (some ad319) l1_0.length c1_0, .slice A1_1 l1_1.length c1_1] 37 (0, 0)) (sB BK317.out) hb); have n1_ := aS (blk_below (g := gb318) (o := .cells #[.int .i64 0, .int .i64 0] 51 (0, 0)) (sB BK318.out) hb); have n2_ := aS (blk_below (g := gb322) (o := .cells #[.int .i64 x323000_2, .int .i64 x323001_2] 51 (0, 0)) (sB BK322.out) hb); have n3_ := aS (below_step (sW HB.out) hb); have n4_ := aS (hbox); have n5_ := aS ((by rw [hg]; exact (below_size (sW HB.out)) : w.heap.size ≤ gb329)); have n6_ := aS ((by rw [hg]; exact (below_size (sW HB.out)) : w.heap.size ≤ gb329)); have n7_ := aS ((by rw [hg]; exact Nat.ne_of_lt (blk_lt (g := gb317) (o := .cells #[.slice (some ad319) l1_0.length c1_0, .slice A1_1 l1_1.length c1_1] 37 (0, 0)) (sB BK317.out)) : gb317 ≠ gb329)); have n8_ := aS ((by rw [hg]; exact Nat.ne_of_gt (blk_lt (g := gb317) (o := .cells #[.slice (some ad319) l1_0.length c1_0, .slice A1_1 l1_1.length c1_1] 37 (0, 0)) (sB BK317.out)) : gb329 ≠ gb317)); have n9_ := aS ((by rw [hg]; exact Nat.ne_of_lt (blk_lt (g := gb318) (o := .cells #[.int .i64 0, .int .i64 0] 51 (0, 0)) (sB BK318.out)) : gb318 ≠ gb329)); have n10_ := aS ((by rw [hg]; exact Nat.ne_of_gt (blk_lt (g := gb318) (o := .cells #[.int .i64 0, .int .i64 0] 51 (0, 0)) (sB BK318.out)) : gb329 ≠ gb318)); have n11_ := aS ((by rw [hg]; exact Nat.ne_of_lt (blk_lt (g := gb322) (o := .cells #[.int .i64 x323000_2, .int .i64 x323001_2] 51 (0, 0)) (sB BK322.out)) : gb322 ≠ gb329)); have n12_ := aS ((by rw [hg]; exact Nat.ne_of_gt (blk_lt (g := gb322) (o := .cells #[.int .i64 x323000_2, .int .i64 x323001_2] 51 (0, 0)) (sB BK322.out)) : gb329 ≠ gb322)); clear BK317 BK318 BK322 HB; have BK317 := n0_; have BK318 := n1_; have BK322 := n2_; have HB := n3_; have BK329 := n4_; have GW329 := n5_; have GE329 := n6_; have NB317_329 := n7_; have NB329_317 := n8_; have NB318_329 := n9_; have NB329_318 := n10_; have NB322_329 := n11_; have NB329_322 := n12_; clear n0_ n1_ n2_ n3_ n4_ n5_ n6_ n7_ n8_ n9_ n10_ n11_ n12_; clear hb hbox hg; have hnb42 := NB329_317.out; have hnc42 := NB317_329.out; have hnb43 := NB329_318.out; have hnc43 := NB318_329.out; have hnb44 := NB329_322.out; have hnc44 := NB322_329.out; have hcz45_0 : w41.cell? ⟨gb329, 0, none⟩ = some (.int .i64 0) := (blk_cell BK329.out 0).trans rfl; have hcz45_1 : w41.cell? ⟨gb329, 1, none⟩ = some (.int .i64 0) := (blk_cell BK329.out 1).trans rfl; have hfz45_0 := blk_frozen BK329.out 0; have hfz45_1 := blk_frozen BK329.out 1; have hnb46 := NB322_318.out; have hnc46 := NB318_322.out; have hcz47_0 : w41.cell? ⟨gb322, 0, none⟩ = some (.int .i64 x323000_2) := (blk_cell BK322.out 0).trans rfl; have hcz47_1 : w41.cell? ⟨gb322, 1, none⟩ = some (.int .i64 x323001_2) := (blk_cell BK322.out 1).trans rfl; have hfz47_0 := blk_frozen BK322.out 0; have hfz47_1 := blk_frozen BK322.out 1) | ((with_reducible refine gate_callee (f := 92) rfl ?_); refine goesL_ (some 42) rfl rfl Try.func92 (by kernel_rfl) rfl #[.agg #[.int .i64 t327, .int .i64 t328], .agg #[.int .i64 x323000_2, .int .i64 x323001_2]] rfl sG ?_; (with_reducible refine (impl_compareFractions.calls k2 t327 t328 x323000_2 x323001_2 t330 _ A35.out).mono ?_); rintro e w48 ⟨rfl, hb⟩; refine ⟨_, rfl, ?_⟩; have n0_ := aS (blk_below (g := gb317) (o := .cells #[.slice (some ad319) l1_0.length c1_0, .slice A1_1 l1_1.length c1_1] 37 (0, 0)) (by (with_reducible repeat (first | refine blk_drewN ?_ _ | refine blk_drew ?_ | refine blk_alloc ?_ _)); refine blk_far ?_ NB317_329.out _; (with_reducible repeat (first | refine blk_drewN ?_ _ | refine blk_drew ?_ | refine blk_alloc ?_ _)); refine blk_far ?_ NB317_329.out _; (with_reducible repeat (first | refine blk_drewN ?_ _ | refine blk_drew ?_ | refine blk_alloc ?_ _)); exact BK317.out) hb); have n1_ := aS (blk_below (g := gb318) (o := .cells #[.int .i64 0, .int .i64 0] 51 (0, 0)) (by (with_reducible repeat (first | refine blk_drewN ?_ _ | refine blk_drew ?_ | refine blk_alloc ?_ _)); refine blk_far ?_ NB318_329.out _; (with_reducible repeat (first | refine blk_drewN ?_ _ | refine blk_drew ?_ | refine blk_alloc ?_ _)); refine blk_far ?_ NB318_329.out _; (with_reducible repeat (first | refine blk_drewN ?_ _ | refine blk_drew ?_ | refine blk_alloc ?_ _)); exact BK318.out) hb); have n2_ := aS (blk_below (g := gb322) (o := .cells #[.int .i64 x323000_2, .int .i64 x323001_2] 51 (0, 0)) (by (with_reducible repeat (first | refine blk_drewN ?_ _ | refine blk_drew ?_ | refine blk_alloc ?_ _)); refine blk_far ?_ NB322_329.out _; (with_reducible repeat (first | refine blk_drewN ?_ _ | refine blk_drew ?_ | refine blk_alloc ?_ _)); refine blk_far ?_ NB322_329.out _; (with_reducible repeat (first | refine blk_drewN ?_ _ | refine blk_drew ?_ | refine blk_alloc ?_ _)); exact BK322.out) hb); have n3_ := aS (blk_below (g := gb329) (o := .cells #[.int .i64 t327, .int .i64 t328] 51 (0, 0)) (by (with_reducible repeat (first | refine blk_drewN ?_ _ | refine blk_drew ?_ | refine blk_alloc ?_ _)); refine blk_put (cs := #[.int .i64 t327, .int .i64 0]) ?_ 1 _ rfl; (with_reducible repeat (first | refine blk_drewN ?_ _ | refine blk_drew ?_ | refine blk_alloc ?_ _)); refine blk_put (cs := #[.int .i64 0, .int .i64 0]) ?_ 0 _ rfl; (with_reducible repeat (first | refine blk_drewN ?_ _ | refine blk_drew ?_ | refine blk_alloc ?_ _)); exact BK329.out) hb); have n4_ := aS (below_step (sW HB.out) hb); clear BK317 BK318 BK322 BK329 HB; have BK317 := n0_; have BK318 := n1_; have BK322 := n2_; have BK329 := n3_; have HB := n4_; clear n0_ n1_ n2_ n3_ n4_; (try clear hb); (try clear hb2); (try clear hk); (try clear hi); have hcz49_0 : w48.cell? ⟨gb329, 0, none⟩ = some (.int .i64 t327) := (blk_cell BK329.out 0).trans rfl; have hcz49_1 : w48.cell? ⟨gb329, 1, none⟩ = some (.int .i64 t328) := (blk_cell BK329.out 1).trans rfl; have hfz49_0 := blk_frozen BK329.out 0; have hfz49_1 := blk_frozen BK329.out 1; have hcz50_0 : w48.cell? ⟨gb322, 0, none⟩ = some (.int .i64 x323000_2) := (blk_cell BK322.out 0).trans rfl; have hcz50_1 : w48.cell? ⟨gb322, 1, none⟩ = some (.int .i64 x323001_2) := (blk_cell BK322.out 1).trans rfl; have hfz50_0 := blk_frozen BK322.out 0; have hfz50_1 := blk_frozen BK322.out 1))
         go_roundg k2
         case measure => have := HK1.out; have := HK2.out; omega
         case rel => exact ⟨(wrap64 (x33_2 + 1)), (t327), (t328), (by first | rfl | (simp; done) | (simp [*]; done) | (simp only [i64_w]; done) | (simp [i64_w]; done)), H', ⟨by have := HK1.out; have := HK2.out; omega⟩, ⟨by (with_reducible repeat (first | refine blk_drewN ?_ _ | refine blk_drew ?_ | refine blk_alloc ?_ _)); refine blk_far ?_ NB317_322.out _; (with_reducible repeat (first | refine blk_drewN ?_ _ | refine blk_drew ?_ | refine blk_alloc ?_ _)); refine blk_far ?_ NB317_322.out _; (with_reducible repeat (first | refine blk_drewN ?_ _ | refine blk_drew ?_ | refine blk_alloc ?_ _)); exact BK317.out⟩, ⟨by (with_reducible repeat (first | refine blk_drewN ?_ _ | refine blk_drew ?_ | refine blk_alloc ?_ _)); refine blk_far ?_ NB318_322.out _; (with_reducible repeat (first | refine blk_drewN ?_ _ | refine blk_drew ?_ | refine blk_alloc ?_ _)); refine blk_far ?_ NB318_322.out _; (with_reducible repeat (first | refine blk_drewN ?_ _ | refine blk_drew ?_ | refine blk_alloc ?_ _)); exact BK318.out⟩, ⟨by (with_reducible repeat (first | refine blk_drewN ?_ _ | refine blk_drew ?_ | refine blk_alloc ?_ _)); refine blk_put (cs := #[.int .i64 t327, .int .i64 x323001_2]) ?_ 1 _ rfl; (with_reducible repeat (first | refine blk_drewN ?_ _ | refine blk_drew ?_ | refine blk_alloc ?_ _)); refine blk_put (cs := #[.int .i64 x323000_2, .int .i64 x323001_2]) ?_ 0 _ rfl; (with_reducible repeat (first | refine blk_drewN ?_ _ | refine blk_drew ?_ | refine blk_alloc ?_ _)); exact BK322.out⟩, ⟨by repeat (first | (with_reducible first | exact HB.out | apply below_alloc | apply pw_below_drewN | apply below_drew1 | refine below_set ?_ GE317.out | refine below_set ?_ GE318.out | refine below_set ?_ GE322.out | refine below_set ?_ GE329.out) | exact HB.out)⟩⟩
        ·
         rw [if_neg c36] at H
         have c36b0 : decide (t330 < 0) = false := decide_eq_false c36
         clear c36
         have H' := aS H
         clear H
         have hnb51 := NB317_318.out
         have hnc51 := NB318_317.out
         have hnb52 := NB317_322.out
         have hnc52 := NB322_317.out
         have hcz53_0 : wr.cell? ⟨gb317, 0, none⟩ = some (.slice (some ad319) l1_0.length c1_0) := (blk_cell BK317.out 0).trans rfl
         have hcz53_1 : wr.cell? ⟨gb317, 1, none⟩ = some (.slice A1_1 l1_1.length c1_1) := (blk_cell BK317.out 1).trans rfl
         have hfz53_0 := blk_frozen BK317.out 0
         have hfz53_1 := blk_frozen BK317.out 1
         go_wp2_with (first | ((with_reducible refine gate_callee (f := 72) rfl ?_); refine goesL_ (some 39) rfl rfl Try.func72 (by kernel_rfl) rfl #[.slice A0 l0.length c0, .agg #[.slice (some ad319) l1_0.length c1_0, .slice A1_1 l1_1.length c1_1], .int .i64 x33_2] rfl sG ?_; (with_reducible refine (impl_strengthAt.calls k2 _ _ l0 _ _ l1_0 _ _ l1_1 x33_2 t327 t328 _ ?side1 ?side2 ?side3 ?side4 ?side5 ?side6 A34.out).mono ?_); (case side1 => exact sC (Kd.C_below HR0.out HB.out)); (case side2 => exact HC0.out); (case side3 => exact sC (Kd.C_below HR1_0.out HB.out)); (case side4 => exact HC1_0.out); (case side5 => exact sC (Kd.C_below HR1_1.out HB.out)); (case side6 => exact HC1_1.out); rintro e w54 ⟨rfl, hb⟩; refine ⟨_, rfl, ?_⟩; have n0_ := aS (blk_below (g := gb317) (o := .cells #[.slice (some ad319) l1_0.length c1_0, .slice A1_1 l1_1.length c1_1] 37 (0, 0)) (sB BK317.out) hb); have n1_ := aS (blk_below (g := gb318) (o := .cells #[.int .i64 0, .int .i64 0] 51 (0, 0)) (sB BK318.out) hb); have n2_ := aS (blk_below (g := gb322) (o := .cells #[.int .i64 x323000_2, .int .i64 x323001_2] 51 (0, 0)) (sB BK322.out) hb); have n3_ := aS (below_step (sW HB.out) hb); clear BK317 BK318 BK322 HB; have BK317 := n0_; have BK318 := n1_; have BK322 := n2_; have HB := n3_; clear n0_ n1_ n2_ n3_; (try clear hb); (try clear hb2); (try clear hk); (try clear hi)) | ((with_reducible refine gate_dst (N := 9) rfl ?_); refine box_event ?hg (N := 9) ?hd (cs := #[.int .i64 0, .int .i64 0]) (t := 51) ?hr ?_; (case hd => rfl); (case hg => rfl); (case hr => first | (go_simp; done) | (go_simp; rfl)); intro gb329 hg w55 hbox hb; have n0_ := aS (blk_below (g := gb317) (o := .cells #[.slice (some ad319) l1_0.length c1_0, .slice A1_1 l1_1.length c1_1] 37 (0, 0)) (sB BK317.out) hb); have n1_ := aS (blk_below (g := gb318) (o := .cells #[.int .i64 0, .int .i64 0] 51 (0, 0)) (sB BK318.out) hb); have n2_ := aS (blk_below (g := gb322) (o := .cells #[.int .i64 x323000_2, .int .i64 x323001_2] 51 (0, 0)) (sB BK322.out) hb); have n3_ := aS (below_step (sW HB.out) hb); have n4_ := aS (hbox); have n5_ := aS ((by rw [hg]; exact (below_size (sW HB.out)) : w.heap.size ≤ gb329)); have n6_ := aS ((by rw [hg]; exact (below_size (sW HB.out)) : w.heap.size ≤ gb329)); have n7_ := aS ((by rw [hg]; exact Nat.ne_of_lt (blk_lt (g := gb317) (o := .cells #[.slice (some ad319) l1_0.length c1_0, .slice A1_1 l1_1.length c1_1] 37 (0, 0)) (sB BK317.out)) : gb317 ≠ gb329)); have n8_ := aS ((by rw [hg]; exact Nat.ne_of_gt (blk_lt (g := gb317) (o := .cells #[.slice (some ad319) l1_0.length c1_0, .slice A1_1 l1_1.length c1_1] 37 (0, 0)) (sB BK317.out)) : gb329 ≠ gb317)); have n9_ := aS ((by rw [hg]; exact Nat.ne_of_lt (blk_lt (g := gb318) (o := .cells #[.int .i64 0, .int .i64 0] 51 (0, 0)) (sB BK318.out)) : gb318 ≠ gb329)); have n10_ := aS ((by rw [hg]; exact Nat.ne_of_gt (blk_lt (g := gb318) (o := .cells #[.int .i64 0, .int .i64 0] 51 (0, 0)) (sB BK318.out)) : gb329 ≠ gb318)); have n11_ := aS ((by rw [hg]; exact Nat.ne_of_lt (blk_lt (g := gb322) (o := .cells #[.int .i64 x323000_2, .int .i64 x323001_2] 51 (0, 0)) (sB BK322.out)) : gb322 ≠ gb329)); have n12_ := aS ((by rw [hg]; exact Nat.ne_of_gt (blk_lt (g := gb322) (o := .cells #[.int .i64 x323000_2, .int .i64 x323001_2] 51 (0, 0)) (sB BK322.out)) : gb329 ≠ gb322)); clear BK317 BK318 BK322 HB; have BK317 := n0_; have BK318 := n1_; have BK322 := n2_; have HB := n3_; have BK329 := n4_; have GW329 := n5_; have GE329 := n6_; have NB317_329 := n7_; have NB329_317 := n8_; have NB318_329 := n9_; have NB329_318 := n10_; have NB322_329 := n11_; have NB329_322 := n12_; clear n0_ n1_ n2_ n3_ n4_ n5_ n6_ n7_ n8_ n9_ n10_ n11_ n12_; clear hb hbox hg; have hnb56 := NB329_317.out; have hnc56 := NB317_329.out; have hnb57 := NB329_318.out; have hnc57 := NB318_329.out; have hnb58 := NB329_322.out; have hnc58 := NB322_329.out; have hcz59_0 : w55.cell? ⟨gb329, 0, none⟩ = some (.int .i64 0) := (blk_cell BK329.out 0).trans rfl; have hcz59_1 : w55.cell? ⟨gb329, 1, none⟩ = some (.int .i64 0) := (blk_cell BK329.out 1).trans rfl; have hfz59_0 := blk_frozen BK329.out 0; have hfz59_1 := blk_frozen BK329.out 1; have hnb60 := NB322_318.out; have hnc60 := NB318_322.out; have hcz61_0 : w55.cell? ⟨gb322, 0, none⟩ = some (.int .i64 x323000_2) := (blk_cell BK322.out 0).trans rfl; have hcz61_1 : w55.cell? ⟨gb322, 1, none⟩ = some (.int .i64 x323001_2) := (blk_cell BK322.out 1).trans rfl; have hfz61_0 := blk_frozen BK322.out 0; have hfz61_1 := blk_frozen BK322.out 1) | ((with_reducible refine gate_callee (f := 92) rfl ?_); refine goesL_ (some 42) rfl rfl Try.func92 (by kernel_rfl) rfl #[.agg #[.int .i64 t327, .int .i64 t328], .agg #[.int .i64 x323000_2, .int .i64 x323001_2]] rfl sG ?_; (with_reducible refine (impl_compareFractions.calls k2 t327 t328 x323000_2 x323001_2 t330 _ A35.out).mono ?_); rintro e w62 ⟨rfl, hb⟩; refine ⟨_, rfl, ?_⟩; have n0_ := aS (blk_below (g := gb317) (o := .cells #[.slice (some ad319) l1_0.length c1_0, .slice A1_1 l1_1.length c1_1] 37 (0, 0)) (by (with_reducible repeat (first | refine blk_drewN ?_ _ | refine blk_drew ?_ | refine blk_alloc ?_ _)); refine blk_far ?_ NB317_329.out _; (with_reducible repeat (first | refine blk_drewN ?_ _ | refine blk_drew ?_ | refine blk_alloc ?_ _)); refine blk_far ?_ NB317_329.out _; (with_reducible repeat (first | refine blk_drewN ?_ _ | refine blk_drew ?_ | refine blk_alloc ?_ _)); exact BK317.out) hb); have n1_ := aS (blk_below (g := gb318) (o := .cells #[.int .i64 0, .int .i64 0] 51 (0, 0)) (by (with_reducible repeat (first | refine blk_drewN ?_ _ | refine blk_drew ?_ | refine blk_alloc ?_ _)); refine blk_far ?_ NB318_329.out _; (with_reducible repeat (first | refine blk_drewN ?_ _ | refine blk_drew ?_ | refine blk_alloc ?_ _)); refine blk_far ?_ NB318_329.out _; (with_reducible repeat (first | refine blk_drewN ?_ _ | refine blk_drew ?_ | refine blk_alloc ?_ _)); exact BK318.out) hb); have n2_ := aS (blk_below (g := gb322) (o := .cells #[.int .i64 x323000_2, .int .i64 x323001_2] 51 (0, 0)) (by (with_reducible repeat (first | refine blk_drewN ?_ _ | refine blk_drew ?_ | refine blk_alloc ?_ _)); refine blk_far ?_ NB322_329.out _; (with_reducible repeat (first | refine blk_drewN ?_ _ | refine blk_drew ?_ | refine blk_alloc ?_ _)); refine blk_far ?_ NB322_329.out _; (with_reducible repeat (first | refine blk_drewN ?_ _ | refine blk_drew ?_ | refine blk_alloc ?_ _)); exact BK322.out) hb); have n3_ := aS (blk_below (g := gb329) (o := .cells #[.int .i64 t327, .int .i64 t328] 51 (0, 0)) (by (with_reducible repeat (first | refine blk_drewN ?_ _ | refine blk_drew ?_ | refine blk_alloc ?_ _)); refine blk_put (cs := #[.int .i64 t327, .int .i64 0]) ?_ 1 _ rfl; (with_reducible repeat (first | refine blk_drewN ?_ _ | refine blk_drew ?_ | refine blk_alloc ?_ _)); refine blk_put (cs := #[.int .i64 0, .int .i64 0]) ?_ 0 _ rfl; (with_reducible repeat (first | refine blk_drewN ?_ _ | refine blk_drew ?_ | refine blk_alloc ?_ _)); exact BK329.out) hb); have n4_ := aS (below_step (sW HB.out) hb); clear BK317 BK318 BK322 BK329 HB; have BK317 := n0_; have BK318 := n1_; have BK322 := n2_; have BK329 := n3_; have HB := n4_; clear n0_ n1_ n2_ n3_ n4_; (try clear hb); (try clear hb2); (try clear hk); (try clear hi)))
         go_roundg k2
         case measure => have := HK1.out; have := HK2.out; omega
         case rel => exact ⟨(wrap64 (x33_2 + 1)), (x323000_2), (x323001_2), (by first | rfl | (simp; done) | (simp [*]; done) | (simp only [i64_w]; done) | (simp [i64_w]; done)), H', ⟨by have := HK1.out; have := HK2.out; omega⟩, ⟨by (with_reducible repeat (first | refine blk_drewN ?_ _ | refine blk_drew ?_ | refine blk_alloc ?_ _)); exact BK317.out⟩, ⟨by (with_reducible repeat (first | refine blk_drewN ?_ _ | refine blk_drew ?_ | refine blk_alloc ?_ _)); exact BK318.out⟩, ⟨by (with_reducible repeat (first | refine blk_drewN ?_ _ | refine blk_drew ?_ | refine blk_alloc ?_ _)); exact BK322.out⟩, ⟨by repeat (first | (with_reducible first | exact HB.out | apply below_alloc | apply pw_below_drewN | apply below_drew1 | refine below_set ?_ GE317.out | refine below_set ?_ GE318.out | refine below_set ?_ GE322.out | refine below_set ?_ GE329.out) | exact HB.out)⟩⟩
       ·
        rw [if_neg c33] at H
        have c33b0 : decide (x33_2 < (l1_1.length : Int)) = false := decide_eq_false c33
        clear c33
        simp only [Option.some.injEq, Prod.mk.injEq] at H
        obtain ⟨rfl, rfl⟩ := H
        have hnb63 := NB322_317.out
        have hnc63 := NB317_322.out
        have hnb64 := NB322_318.out
        have hnc64 := NB318_322.out
        have hcz65_0 : wr.cell? ⟨gb322, 0, none⟩ = some (.int .i64 x323000_2) := (blk_cell BK322.out 0).trans rfl
        have hcz65_1 : wr.cell? ⟨gb322, 1, none⟩ = some (.int .i64 x323001_2) := (blk_cell BK322.out 1).trans rfl
        have hfz65_0 := blk_frozen BK322.out 0
        have hfz65_1 := blk_frozen BK322.out 1
        have hnb66 := NB318_317.out
        have hnc66 := NB317_318.out
        have hcz67_0 : wr.cell? ⟨gb318, 0, none⟩ = some (.int .i64 0) := (blk_cell BK318.out 0).trans rfl
        have hcz67_1 : wr.cell? ⟨gb318, 1, none⟩ = some (.int .i64 0) := (blk_cell BK318.out 1).trans rfl
        have hfz67_0 := blk_frozen BK318.out 0
        have hfz67_1 := blk_frozen BK318.out 1
        go_wp2
        refine bodyPost_ret (results_cell_row rfl _ _ gb318 51 #[.int .i64 x323000_2, .int .i64 x323001_2] (0, 0) _ rfl (by (with_reducible repeat (first | refine blk_drewN ?_ _ | refine blk_drew ?_ | refine blk_alloc ?_ _)); refine blk_put (cs := #[.int .i64 x323000_2, .int .i64 0]) ?_ 1 _ rfl; (with_reducible repeat (first | refine blk_drewN ?_ _ | refine blk_drew ?_ | refine blk_alloc ?_ _)); refine blk_put (cs := #[.int .i64 0, .int .i64 0]) ?_ 0 _ rfl; (with_reducible repeat (first | refine blk_drewN ?_ _ | refine blk_drew ?_ | refine blk_alloc ?_ _)); exact BK318.out) Try.underlying51 rfl (by kernel_rfl)) rfl ?_
        exact ⟨by first | rfl | (simp [errW_none, errW_some, i64_w]; done) | (simp [errW_none, errW_some] <;> rfl) | (simp [*, errW_none, errW_some] <;> rfl), by repeat (first | (with_reducible first | exact HB.out | apply below_alloc | apply pw_below_drewN | apply below_drew1 | refine below_set ?_ GE317.out | refine below_set ?_ GE318.out | refine below_set ?_ GE322.out) | exact HB.out)⟩
 ·
  rw [if_neg c3] at H
  exact absurd H (by simp)

end Go.Proofs.Ytdgodlccejoibaa.QFnExactWeakestPlace

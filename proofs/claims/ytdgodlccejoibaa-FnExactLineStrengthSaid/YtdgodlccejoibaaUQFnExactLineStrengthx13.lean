/- What the Go functions of this law compute, each as a Lean function, and that each call comes to that answer; written by a program of this session. No condition. -/
import Derived.Test.YtdgodlccejoibaaUQFnExactLineStrengthx0
import Derived.Test.YtdgodlccejoibaaUQFnExactLineStrengthx10
import Derived.Test.YtdgodlccejoibaaUQFnExactLineStrengthx11
import Derived.Test.YtdgodlccejoibaaUQFnExactLineStrengthx12
namespace Go.Proofs.Ytdgodlccejoibaa.QFnExactLineStrength
open Go.RowKit Go.Proofs.YtdgodlccejoibaaW.PrintWords Go.Proofs.YtdgodlccejoibaaW.PrintLast Go.Proofs.YtdgodlccejoibaaW.PrintMore
attribute [local go_sem] max2_int min2_int max_two min_two max_three min_three max_four min_four   -- for this text's walks alone
set_option linter.unusedVariables false
set_option linter.unusedSimpArgs false

/-! ### impl_compareProducts: function 98 -/
def impl_compareProducts.f (k : Nat) (a0 : Int) (a1 : Int) (a2 : Int) (a3 : Int) : Option (Int) := (bits_Mul64.f a0 a1).bind fun bt300 => ((bits_Mul64.f a2 a3).bind fun bt302 => ((cmp_Compare_uint64.f bt300.1 bt302.1).bind fun t304 => ((cmp_Compare_uint64.f bt300.2 bt302.2).bind fun t305 => ((cmp_Or_int.f k (([t304, t305] : List Int))).bind fun t309 => (some t309)))))
theorem impl_compareProducts.mono : ∀ a0 a1 a2 a3 k, LeO (impl_compareProducts.f k a0 a1 a2 a3) (impl_compareProducts.f (k + 1) a0 a1 a2 a3) := by
 intro a0 a1 a2 a3 k
 unfold impl_compareProducts.f
 repeat' first
   | (with_reducible exact cmp_Or_int.mono _ _)
   | (with_reducible exact LeO.refl _)
   | (with_reducible exact LeO.none _)
   | (with_reducible refine LeO.ite ?_ ?_)
   | (with_reducible refine LeO.bind ?_ (fun _ => ?_))
   | exact cmp_Or_int.mono _ _
   | exact LeO.none _
   | refine LeO.ite ?_ ?_
   | refine LeO.bind ?_ (fun _ => ?_)
set_option maxHeartbeats 8000000 in
set_option maxRecDepth 100000 in
theorem impl_compareProducts.calls (k : Nat) (a0 : Int) (a1 : Int) (a2 : Int) (a3 : Int) (r : Int) (w : World) (h : impl_compareProducts.f k a0 a1 a2 a3 = some r) :
  Calls Try.prog 98 #[.int .u64 a0, .int .u64 a1, .int .u64 a2, .int .u64 a3] w fun e w' => e = .returned (.int .i64 r) ∧ Below w.heap.size w w' := by
 have HB := aS (Below.refl w.heap.size w)
 have H : ((bits_Mul64.f a0 a1).bind fun bt300 => ((bits_Mul64.f a2 a3).bind fun bt302 => ((cmp_Compare_uint64.f bt300.1 bt302.1).bind fun t304 => ((cmp_Compare_uint64.f bt300.2 bt302.2).bind fun t305 => ((cmp_Or_int.f k (([t304, t305] : List Int))).bind fun t309 => (some t309)))))) = some r := h
 clear h
 replace H := Option.bind_eq_some_iff.mp H
 obtain ⟨⟨t300, t301⟩, A50, H⟩ := H
 replace H : ((bits_Mul64.f a2 a3).bind fun bt302 => ((cmp_Compare_uint64.f t300 bt302.1).bind fun t304 => ((cmp_Compare_uint64.f t301 bt302.2).bind fun t305 => ((cmp_Or_int.f k (([t304, t305] : List Int))).bind fun t309 => (some t309))))) = some r := H
 have A5 := aS A50
 clear A50
 replace H := Option.bind_eq_some_iff.mp H
 obtain ⟨⟨t302, t303⟩, A60, H⟩ := H
 replace H : ((cmp_Compare_uint64.f t300 t302).bind fun t304 => ((cmp_Compare_uint64.f t301 t303).bind fun t305 => ((cmp_Or_int.f k (([t304, t305] : List Int))).bind fun t309 => (some t309)))) = some r := H
 have A6 := aS A60
 clear A60
 replace H := Option.bind_eq_some_iff.mp H
 obtain ⟨t304, A70, H⟩ := H
 replace H : ((cmp_Compare_uint64.f t301 t303).bind fun t305 => ((cmp_Or_int.f k (([t304, t305] : List Int))).bind fun t309 => (some t309))) = some r := H
 have A7 := aS A70
 clear A70
 replace H := Option.bind_eq_some_iff.mp H
 obtain ⟨t305, A80, H⟩ := H
 replace H : ((cmp_Or_int.f k (([t304, t305] : List Int))).bind fun t309 => (some t309)) = some r := H
 have A8 := aS A80
 clear A80
 obtain ⟨y306, hy306⟩ : ∃ y_ : List Int, y_ = (([t304, t305] : List Int)) := ⟨_, rfl⟩
 replace H : ((cmp_Or_int.f k y306).bind fun t309 => (some t309)) = some r := by first | (rw [hy306]; with_reducible exact H) | (have H2_ := (Option.bind_some _ _).symm.trans H; rw [hy306]; with_reducible exact H2_) | (have H2_ := (Option.bind_some _ _).symm.trans H; with_reducible exact H2_) | with_reducible exact H | (rw [hy306]; exact H) | exact H
 have Ny306 := aS hy306
 clear hy306
 replace H := Option.bind_eq_some_iff.mp H
 obtain ⟨t309, A90, H⟩ := H
 replace H : (some t309) = some r := H
 have A9 := aS A90
 clear A90
 obtain rfl := Option.some.inj H
 go_enter Try.func98, Try.ntmps98
 go_wp2_with (first | ((with_reducible refine gate_callee (f := 103) rfl ?_); refine goesL_ (some 16) rfl rfl Try.func103 (by kernel_rfl) rfl #[.int .u64 a0, .int .u64 a1] rfl sG ?_; (with_reducible refine (bits_Mul64.calls a0 a1 t300 t301 _ A5.out).mono ?_); rintro e w' ⟨rfl, ⟨nd, rfl⟩⟩; refine ⟨_, rfl, ?_⟩) | ((with_reducible refine gate_callee (f := 103) rfl ?_); refine goesL_ (some 22) rfl rfl Try.func103 (by kernel_rfl) rfl #[.int .u64 a2, .int .u64 a3] rfl sG ?_; (with_reducible refine (bits_Mul64.calls a2 a3 t302 t303 _ A6.out).mono ?_); rintro e w' ⟨rfl, ⟨nd, rfl⟩⟩; refine ⟨_, rfl, ?_⟩) | ((with_reducible refine gate_callee (f := 104) rfl ?_); refine goesL_ (some 27) rfl rfl Try.func104 (by kernel_rfl) rfl #[.int .u64 t300, .int .u64 t302] rfl sG ?_; (with_reducible refine (cmp_Compare_uint64.calls t300 t302 t304 _ A7.out).mono ?_); rintro e w' ⟨rfl, ⟨nd, rfl⟩⟩; refine ⟨_, rfl, ?_⟩) | ((with_reducible refine gate_callee (f := 104) rfl ?_); refine goesL_ (some 30) rfl rfl Try.func104 (by kernel_rfl) rfl #[.int .u64 t301, .int .u64 t303] rfl sG ?_; (with_reducible refine (cmp_Compare_uint64.calls t301 t303 t305 _ A8.out).mono ?_); rintro e w' ⟨rfl, ⟨nd, rfl⟩⟩; refine ⟨_, rfl, ?_⟩) | ((with_reducible refine gate_dst (N := 31) rfl ?_); refine Kd.R_lit (Kd.int .i64) _ 3 ?hg (N := 31) ?hd (xs := ([t304, t305] : List Int)) (inner := [.int .i64 t304, .int .i64 t305]) (ok := fun _ => True) (okp := fun _ => True) ?hr ?hp (fun _ hk => hk) trivial (Below.refl _ _) (Nat.le_refl _) (by simp) ?_; (case hd => rfl); (case hg => rfl); (case hr => first | (go_simp; done) | (go_simp; rfl)); (case hp => exact (Reps.one (show Kd.M (Kd.int .i64) _ _ _ t304 [.int .i64 t304] from rfl) (Reps.one (show Kd.M (Kd.int .i64) _ _ _ t305 [.int .i64 t305] from rfl) (Reps.none _ _)))); intro v307 w10 ho11 hb hg_ hnew_; clear hg_ hnew_; (first | rw [← Ny306.out] at ho11 | (simp only [Int.reduceToNat] at ho11; rw [← Ny306.out] at ho11)); have n0_ := aS (Kd.R_lower ho11 (below_size (sW HB.out))); have n1_ := aS (below_step (sW HB.out) hb); clear HB; have HO308 := n0_; have HB := n1_; clear n0_ n1_; clear hb ho11; obtain ⟨Ao12, co12, eo12⟩ := Kd.R_slice HO308.out; subst eo12) | ((with_reducible refine gate_callee (f := 95) rfl ?_); refine goesL_ (some 32) rfl rfl Try.func95 (by kernel_rfl) rfl #[.slice Ao12 y306.length co12] rfl sG ?_; (with_reducible refine (cmp_Or_int.calls k _ _ y306 t309 _ ?side1 ?side2 A9.out).mono ?_); (case side1 => exact sC (Kd.R_reads' HO308.out).2.2); (case side2 => exact (Kd.R_reads' HO308.out).2.1); rintro e w' ⟨rfl, ⟨nd, rfl⟩⟩; refine ⟨_, rfl, ?_⟩))
 go_ret
 exact ⟨by first | rfl | (simp [errW_none, errW_some, i64_w]; done) | (simp [errW_none, errW_some] <;> rfl) | (simp [*, errW_none, errW_some] <;> rfl), by repeat (first | (with_reducible first | exact HB.out | apply below_alloc | apply pw_below_drewN | apply below_drew1) | exact HB.out)⟩

/-! ### impl_size: function 99 -/
def impl_size.f (a0 : Int) : Option (Int) := if a0 < 0 then (some (IntKind.u64.wrap (wrap64 (-a0)))) else (some (IntKind.u64.wrap (a0)))
set_option maxHeartbeats 8000000 in
set_option maxRecDepth 100000 in
theorem impl_size.calls (a0 : Int) (r : Int) (w : World) (h : impl_size.f a0 = some r) :
  Calls Try.prog 99 #[.int .i64 a0] w fun e w' => e = .returned (.int .u64 r) ∧ Drawn0 w w' := by
 have H : (if a0 < 0 then (some (IntKind.u64.wrap (wrap64 (-a0)))) else (some (IntKind.u64.wrap (a0)))) = some r := h
 clear h
 by_cases c2 : a0 < 0
 ·
  rw [if_pos c2] at H
  have c2b0 : decide (a0 < 0) = true := decide_eq_true c2
  clear c2
  obtain rfl := Option.some.inj H
  go_enter Try.func99, Try.ntmps99
  go_wp2
  go_ret
  exact ⟨by first | rfl | (simp; done) | (simp [*]; done) | (simp only [i64_w]; done) | (simp [i64_w]; done), by repeat (first | exact Drawn0.refl _ | apply Drawn0.step)⟩
 ·
  rw [if_neg c2] at H
  have c2b0 : decide (a0 < 0) = false := decide_eq_false c2
  clear c2
  obtain rfl := Option.some.inj H
  go_enter Try.func99, Try.ntmps99
  go_wp2
  go_ret
  exact ⟨by first | rfl | (simp; done) | (simp [*]; done) | (simp only [i64_w]; done) | (simp [i64_w]; done), by repeat (first | exact Drawn0.refl _ | apply Drawn0.step)⟩

/-! ### impl_compareFractions: function 92 -/
def impl_compareFractions.f (k : Nat) (a0_0 : Int) (a0_1 : Int) (a1_0 : Int) (a1_1 : Int) : Option (Int) := (impl_sign.f a0_0).bind fun t312 => ((impl_sign.f a1_0).bind fun t313 => ((cmp_Compare_int64.f t312 t313).bind fun t314 => ((impl_sign.f a0_0).bind fun t315 => ((impl_size.f a0_0).bind fun t316 => ((impl_size.f a1_1).bind fun t317 => ((impl_size.f a1_0).bind fun t318 => ((impl_size.f a0_1).bind fun t319 => ((impl_compareProducts.f k t316 t317 t318 t319).bind fun t320 => ((cmp_Or_int.f k (([t314, wrap64 (t315 * t320)] : List Int))).bind fun t324 => (some t324))))))))))
theorem impl_compareFractions.mono : ∀ a0 a1 a2 a3 k, LeO (impl_compareFractions.f k a0 a1 a2 a3) (impl_compareFractions.f (k + 1) a0 a1 a2 a3) := by
 intro a0 a1 a2 a3 k
 unfold impl_compareFractions.f
 repeat' first
   | (with_reducible exact cmp_Or_int.mono _ _)
   | (with_reducible exact impl_compareProducts.mono _ _ _ _ _)
   | (with_reducible exact LeO.refl _)
   | (with_reducible exact LeO.none _)
   | (with_reducible refine LeO.ite ?_ ?_)
   | (with_reducible refine LeO.bind ?_ (fun _ => ?_))
   | exact cmp_Or_int.mono _ _
   | exact impl_compareProducts.mono _ _ _ _ _
   | exact LeO.none _
   | refine LeO.ite ?_ ?_
   | refine LeO.bind ?_ (fun _ => ?_)
def impl_compareFractions.T1 : Bool × List (List Nat × List Nat) := (true, [([], []), ([0], [0]), ([1], [1]), ([], []), ([3], [3]), ([4, 2], [4]), ([2, 5, 5], [2, 5]), ([], []), ([7], [7]), ([8, 6], [8]), ([], []), ([10], [10]), ([11, 9], [11]), ([], []), ([13], [13]), ([14, 12], [14]), ([], []), ([16], [16]), ([17, 15], [17]), ([], []), ([19], [19]), ([20, 18], [20]), ([12, 15, 18, 21, 21], [12, 15, 18, 21]), ([9, 22], [9, 22]), ([6, 23], [6, 23]), ([24, 22], [24]), ([25, 25, 0, 1, 2, 3, 4, 5, 6, 7, 8, 9, 10, 11, 12, 13, 14, 15, 16, 17, 18, 19, 20, 21, 22, 23, 24, 25], [25])])
def impl_compareFractions.B1 : List Nat := [0, 1, 3, 0, 8, 31, 63, 0, 128, 511, 0, 1024, 4095, 0, 8192, 32767, 0, 65536, 262143, 0, 524288, 2097151, 4194303, 8388607, 16777215, 33554431, 67108863]
theorem impl_compareFractions.tab1 : rtab .any (opsOf Try.f92 1) = impl_compareFractions.T1 := by kernel_rfl
theorem impl_compareFractions.bits1 : waitsOk impl_compareFractions.T1.2 impl_compareFractions.B1 = true := by kernel_rfl
set_option maxHeartbeats 8000000 in
set_option maxRecDepth 100000 in
theorem impl_compareFractions.calls (k : Nat) (a0_0 : Int) (a0_1 : Int) (a1_0 : Int) (a1_1 : Int) (r : Int) (w : World) (h : impl_compareFractions.f k a0_0 a0_1 a1_0 a1_1 = some r) :
  Calls Try.prog 92 #[.agg #[.int .i64 a0_0, .int .i64 a0_1], .agg #[.int .i64 a1_0, .int .i64 a1_1]] w fun e w' => e = .returned (.int .i64 r) ∧ Below w.heap.size w w' := by
 have hu51 := Try.underlying51
 have HB := aS (Below.refl w.heap.size w)
 have H : ((impl_sign.f a0_0).bind fun t312 => ((impl_sign.f a1_0).bind fun t313 => ((cmp_Compare_int64.f t312 t313).bind fun t314 => ((impl_sign.f a0_0).bind fun t315 => ((impl_size.f a0_0).bind fun t316 => ((impl_size.f a1_1).bind fun t317 => ((impl_size.f a1_0).bind fun t318 => ((impl_size.f a0_1).bind fun t319 => ((impl_compareProducts.f k t316 t317 t318 t319).bind fun t320 => ((cmp_Or_int.f k (([t314, wrap64 (t315 * t320)] : List Int))).bind fun t324 => (some t324))))))))))) = some r := h
 clear h
 replace H := Option.bind_eq_some_iff.mp H
 obtain ⟨t312, A30, H⟩ := H
 replace H : ((impl_sign.f a1_0).bind fun t313 => ((cmp_Compare_int64.f t312 t313).bind fun t314 => ((impl_sign.f a0_0).bind fun t315 => ((impl_size.f a0_0).bind fun t316 => ((impl_size.f a1_1).bind fun t317 => ((impl_size.f a1_0).bind fun t318 => ((impl_size.f a0_1).bind fun t319 => ((impl_compareProducts.f k t316 t317 t318 t319).bind fun t320 => ((cmp_Or_int.f k (([t314, wrap64 (t315 * t320)] : List Int))).bind fun t324 => (some t324)))))))))) = some r := H
 have A3 := aS A30
 clear A30
 replace H := Option.bind_eq_some_iff.mp H
 obtain ⟨t313, A40, H⟩ := H
 replace H : ((cmp_Compare_int64.f t312 t313).bind fun t314 => ((impl_sign.f a0_0).bind fun t315 => ((impl_size.f a0_0).bind fun t316 => ((impl_size.f a1_1).bind fun t317 => ((impl_size.f a1_0).bind fun t318 => ((impl_size.f a0_1).bind fun t319 => ((impl_compareProducts.f k t316 t317 t318 t319).bind fun t320 => ((cmp_Or_int.f k (([t314, wrap64 (t315 * t320)] : List Int))).bind fun t324 => (some t324))))))))) = some r := H
 have A4 := aS A40
 clear A40
 replace H := Option.bind_eq_some_iff.mp H
 obtain ⟨t314, A50, H⟩ := H
 replace H : ((impl_sign.f a0_0).bind fun t315 => ((impl_size.f a0_0).bind fun t316 => ((impl_size.f a1_1).bind fun t317 => ((impl_size.f a1_0).bind fun t318 => ((impl_size.f a0_1).bind fun t319 => ((impl_compareProducts.f k t316 t317 t318 t319).bind fun t320 => ((cmp_Or_int.f k (([t314, wrap64 (t315 * t320)] : List Int))).bind fun t324 => (some t324)))))))) = some r := H
 have A5 := aS A50
 clear A50
 replace H := Option.bind_eq_some_iff.mp H
 obtain ⟨t315, A60, H⟩ := H
 replace H : ((impl_size.f a0_0).bind fun t316 => ((impl_size.f a1_1).bind fun t317 => ((impl_size.f a1_0).bind fun t318 => ((impl_size.f a0_1).bind fun t319 => ((impl_compareProducts.f k t316 t317 t318 t319).bind fun t320 => ((cmp_Or_int.f k (([t314, wrap64 (t315 * t320)] : List Int))).bind fun t324 => (some t324))))))) = some r := H
 have A6 := aS A60
 clear A60
 replace H := Option.bind_eq_some_iff.mp H
 obtain ⟨t316, A70, H⟩ := H
 replace H : ((impl_size.f a1_1).bind fun t317 => ((impl_size.f a1_0).bind fun t318 => ((impl_size.f a0_1).bind fun t319 => ((impl_compareProducts.f k t316 t317 t318 t319).bind fun t320 => ((cmp_Or_int.f k (([t314, wrap64 (t315 * t320)] : List Int))).bind fun t324 => (some t324)))))) = some r := H
 have A7 := aS A70
 clear A70
 replace H := Option.bind_eq_some_iff.mp H
 obtain ⟨t317, A80, H⟩ := H
 replace H : ((impl_size.f a1_0).bind fun t318 => ((impl_size.f a0_1).bind fun t319 => ((impl_compareProducts.f k t316 t317 t318 t319).bind fun t320 => ((cmp_Or_int.f k (([t314, wrap64 (t315 * t320)] : List Int))).bind fun t324 => (some t324))))) = some r := H
 have A8 := aS A80
 clear A80
 replace H := Option.bind_eq_some_iff.mp H
 obtain ⟨t318, A90, H⟩ := H
 replace H : ((impl_size.f a0_1).bind fun t319 => ((impl_compareProducts.f k t316 t317 t318 t319).bind fun t320 => ((cmp_Or_int.f k (([t314, wrap64 (t315 * t320)] : List Int))).bind fun t324 => (some t324)))) = some r := H
 have A9 := aS A90
 clear A90
 replace H := Option.bind_eq_some_iff.mp H
 obtain ⟨t319, A100, H⟩ := H
 replace H : ((impl_compareProducts.f k t316 t317 t318 t319).bind fun t320 => ((cmp_Or_int.f k (([t314, wrap64 (t315 * t320)] : List Int))).bind fun t324 => (some t324))) = some r := H
 have A10 := aS A100
 clear A100
 replace H := Option.bind_eq_some_iff.mp H
 obtain ⟨t320, A110, H⟩ := H
 replace H : ((cmp_Or_int.f k (([t314, wrap64 (t315 * t320)] : List Int))).bind fun t324 => (some t324)) = some r := H
 have A11 := aS A110
 clear A110
 obtain ⟨y321, hy321⟩ : ∃ y_ : List Int, y_ = (([t314, wrap64 (t315 * t320)] : List Int)) := ⟨_, rfl⟩
 replace H : ((cmp_Or_int.f k y321).bind fun t324 => (some t324)) = some r := by first | (rw [hy321]; with_reducible exact H) | (have H2_ := (Option.bind_some _ _).symm.trans H; rw [hy321]; with_reducible exact H2_) | (have H2_ := (Option.bind_some _ _).symm.trans H; with_reducible exact H2_) | with_reducible exact H | (rw [hy321]; exact H) | exact H
 have Ny321 := aS hy321
 clear hy321
 replace H := Option.bind_eq_some_iff.mp H
 obtain ⟨t324, A120, H⟩ := H
 replace H : (some t324) = some r := H
 have A12 := aS A120
 clear A120
 obtain rfl := Option.some.inj H
 go_enter Try.func92, Try.ntmps92
 try go_wp2_with (first | ((with_reducible refine gate_dst (N := 2) rfl ?_); refine box_event ?hg (N := 2) ?hd (cs := #[.int .i64 a0_0, .int .i64 a0_1]) (t := 51) ?hr ?_; (case hd => rfl); (case hg => rfl); (case hr => first | (go_simp; done) | (go_simp; rfl)); intro gb310 hg w13 hbox hb; have n0_ := aS (below_step (sW HB.out) hb); have n1_ := aS (hbox); have n2_ := aS ((by rw [hg]; exact (below_size (sW HB.out)) : w.heap.size ≤ gb310)); have n3_ := aS ((by rw [hg]; exact (below_size (sW HB.out)) : w.heap.size ≤ gb310)); clear HB; have HB := n0_; have BK310 := n1_; have GW310 := n2_; have GE310 := n3_; clear n0_ n1_ n2_ n3_; clear hb hbox hg) | ((with_reducible refine gate_dst (N := 3) rfl ?_); refine box_event ?hg (N := 3) ?hd (cs := #[.int .i64 a1_0, .int .i64 a1_1]) (t := 51) ?hr ?_; (case hd => rfl); (case hg => rfl); (case hr => first | (go_simp; done) | (go_simp; rfl)); intro gb311 hg w14 hbox hb; have n0_ := aS (blk_below (g := gb310) (o := .cells #[.int .i64 a0_0, .int .i64 a0_1] 51 (0, 0)) (sB BK310.out) hb); have n1_ := aS (below_step (sW HB.out) hb); have n2_ := aS (hbox); have n3_ := aS ((by rw [hg]; exact (below_size (sW HB.out)) : w.heap.size ≤ gb311)); have n4_ := aS ((by rw [hg]; exact (below_size (sW HB.out)) : w.heap.size ≤ gb311)); have n5_ := aS ((by rw [hg]; exact Nat.ne_of_lt (blk_lt (g := gb310) (o := .cells #[.int .i64 a0_0, .int .i64 a0_1] 51 (0, 0)) (sB BK310.out)) : gb310 ≠ gb311)); have n6_ := aS ((by rw [hg]; exact Nat.ne_of_gt (blk_lt (g := gb310) (o := .cells #[.int .i64 a0_0, .int .i64 a0_1] 51 (0, 0)) (sB BK310.out)) : gb311 ≠ gb310)); clear BK310 HB; have BK310 := n0_; have HB := n1_; have BK311 := n2_; have GW311 := n3_; have GE311 := n4_; have NB310_311 := n5_; have NB311_310 := n6_; clear n0_ n1_ n2_ n3_ n4_ n5_ n6_; clear hb hbox hg))
 have n0_ := aS (blk_drew BK310.out)
 have n1_ := aS (blk_drew BK311.out)
 have n2_ := aS (below_drew1 HB.out)
 clear BK310 BK311 HB
 have BK310 := n0_; have BK311 := n1_; have HB := n2_
 clear n0_ n1_ n2_
 refine start_ (n := 27) (S := fun w' => w'.cell? ⟨gb310, 0, none⟩ = some (.int .i64 a0_0) ∧ w'.cell? ⟨gb310, 1, none⟩ = some (.int .i64 a0_1) ∧ w'.cell? ⟨gb311, 0, none⟩ = some (.int .i64 a1_0) ∧ w'.cell? ⟨gb311, 1, none⟩ = some (.int .i64 a1_1)) (ds := []) #[false, false, false, false, false, false, false, false, false, false, false, false, false, false, false, false, false, false, false, false, false, false, false, false, false, false, false] (by kernel_rfl) rfl rfl ⟨(blk_cell BK310.out 0).trans rfl, (blk_cell BK310.out 1).trans rfl, (blk_cell BK311.out 0).trans rfl, (blk_cell BK311.out 1).trans rfl⟩ (fun hHeld => ?_); refine with_tabW impl_compareFractions.tab1 impl_compareFractions.bits1 (fun HT_ HW_ => ?_)
 generalize w14.drew = w15 at BK310 BK311 HB hHeld ⊢
 refine pure_ (i := 0) (N := some 5) (v := ?_) (a' := ?_) #[true, false, false, false, false, false, false, false, false, false, false, false, false, false, false, false, false, false, false, false, false, false, false, false, false, false, false] rfl rfl (any_of HT_.out (by kernel_rfl)) (fun _ _ _ h => h) (Or.inl ⟨by rfl, ?_⟩) ?_ ?_
 rotate_left
 ·
  intro w'
  go_simp
  with_reducible rfl
 rotate_left
 ·
  simp only [Act.put, List.setIfInBounds_toArray, List.set_cons_zero, List.set_cons_succ, i64_w, i32_w]
  rfl
 refine pure_ (i := 3) (N := some 8) (v := ?_) (a' := ?_) #[true, false, false, true, false, false, false, false, false, false, false, false, false, false, false, false, false, false, false, false, false, false, false, false, false, false, false] rfl rfl (any_of HT_.out (by kernel_rfl)) (fun _ _ _ h => h) (Or.inl ⟨by rfl, ?_⟩) ?_ ?_
 rotate_left
 ·
  intro w'
  go_simp
  with_reducible rfl
 rotate_left
 ·
  simp only [Act.put, List.setIfInBounds_toArray, List.set_cons_zero, List.set_cons_succ, i64_w, i32_w]
  rfl
 refine pure_ (i := 7) (N := some 12) (v := ?_) (a' := ?_) #[true, false, false, true, false, false, false, true, false, false, false, false, false, false, false, false, false, false, false, false, false, false, false, false, false, false, false] rfl rfl (any_of HT_.out (by kernel_rfl)) (fun _ _ _ h => h) (Or.inl ⟨by rfl, ?_⟩) ?_ ?_
 rotate_left
 ·
  intro w'
  go_simp
  with_reducible rfl
 rotate_left
 ·
  simp only [Act.put, List.setIfInBounds_toArray, List.set_cons_zero, List.set_cons_succ, i64_w, i32_w]
  rfl
 refine pure_ (i := 10) (N := some 15) (v := ?_) (a' := ?_) #[true, false, false, true, false, false, false, true, false, false, true, false, false, false, false, false, false, false, false, false, false, false, false, false, false, false, false] rfl rfl (any_of HT_.out (by kernel_rfl)) (fun _ _ _ h => h) (Or.inl ⟨by rfl, ?_⟩) ?_ ?_
 rotate_left
 ·
  intro w'
  go_simp
  with_reducible rfl
 rotate_left
 ·
  simp only [Act.put, List.setIfInBounds_toArray, List.set_cons_zero, List.set_cons_succ, i64_w, i32_w]
  rfl
 refine pure_ (i := 13) (N := some 18) (v := ?_) (a' := ?_) #[true, false, false, true, false, false, false, true, false, false, true, false, false, true, false, false, false, false, false, false, false, false, false, false, false, false, false] rfl rfl (any_of HT_.out (by kernel_rfl)) (fun _ _ _ h => h) (Or.inl ⟨by rfl, ?_⟩) ?_ ?_
 rotate_left
 ·
  intro w'
  go_simp
  with_reducible rfl
 rotate_left
 ·
  simp only [Act.put, List.setIfInBounds_toArray, List.set_cons_zero, List.set_cons_succ, i64_w, i32_w]
  rfl
 refine pure_ (i := 16) (N := some 21) (v := ?_) (a' := ?_) #[true, false, false, true, false, false, false, true, false, false, true, false, false, true, false, false, true, false, false, false, false, false, false, false, false, false, false] rfl rfl (any_of HT_.out (by kernel_rfl)) (fun _ _ _ h => h) (Or.inl ⟨by rfl, ?_⟩) ?_ ?_
 rotate_left
 ·
  intro w'
  go_simp
  with_reducible rfl
 rotate_left
 ·
  simp only [Act.put, List.setIfInBounds_toArray, List.set_cons_zero, List.set_cons_succ, i64_w, i32_w]
  rfl
 refine pure_ (i := 19) (N := some 24) (v := ?_) (a' := ?_) #[true, false, false, true, false, false, false, true, false, false, true, false, false, true, false, false, true, false, false, true, false, false, false, false, false, false, false] rfl rfl (any_of HT_.out (by kernel_rfl)) (fun _ _ _ h => h) (Or.inl ⟨by rfl, ?_⟩) ?_ ?_
 rotate_left
 ·
  intro w'
  go_simp
  with_reducible rfl
 rotate_left
 ·
  simp only [Act.put, List.setIfInBounds_toArray, List.set_cons_zero, List.set_cons_succ, i64_w, i32_w]
  rfl
 refine take_ (i := 1) (N := some 6) (v := ?_) (a' := ?_) #[true, true, false, true, false, false, false, true, false, false, true, false, false, true, false, false, true, false, false, true, false, false, false, false, false, false, false] rfl rfl (take_ofW HT_.out HW_.out (by kernel_rfl)) (fun _ _ _ h => h) (Or.inl ⟨by rfl, ?_⟩) hHeld ?_ ?_
 rotate_left
 ·
  rintro w' ⟨s0, s1, s2, s3⟩
  go_simp
  with_reducible rfl
 rotate_left
 ·
  simp only [Act.put, List.setIfInBounds_toArray, List.set_cons_zero, List.set_cons_succ, i64_w, i32_w]
  rfl
 refine take_ (i := 4) (N := some 9) (v := ?_) (a' := ?_) #[true, true, false, true, true, false, false, true, false, false, true, false, false, true, false, false, true, false, false, true, false, false, false, false, false, false, false] rfl rfl (take_ofW HT_.out HW_.out (by kernel_rfl)) (fun _ _ _ h => h) (Or.inl ⟨by rfl, ?_⟩) hHeld ?_ ?_
 rotate_left
 ·
  rintro w' ⟨s0, s1, s2, s3⟩
  go_simp
  with_reducible rfl
 rotate_left
 ·
  simp only [Act.put, List.setIfInBounds_toArray, List.set_cons_zero, List.set_cons_succ, i64_w, i32_w]
  rfl
 refine take_ (i := 8) (N := some 13) (v := ?_) (a' := ?_) #[true, true, false, true, true, false, false, true, true, false, true, false, false, true, false, false, true, false, false, true, false, false, false, false, false, false, false] rfl rfl (take_ofW HT_.out HW_.out (by kernel_rfl)) (fun _ _ _ h => h) (Or.inl ⟨by rfl, ?_⟩) hHeld ?_ ?_
 rotate_left
 ·
  rintro w' ⟨s0, s1, s2, s3⟩
  go_simp
  with_reducible rfl
 rotate_left
 ·
  simp only [Act.put, List.setIfInBounds_toArray, List.set_cons_zero, List.set_cons_succ, i64_w, i32_w]
  rfl
 refine take_ (i := 11) (N := some 16) (v := ?_) (a' := ?_) #[true, true, false, true, true, false, false, true, true, false, true, true, false, true, false, false, true, false, false, true, false, false, false, false, false, false, false] rfl rfl (take_ofW HT_.out HW_.out (by kernel_rfl)) (fun _ _ _ h => h) (Or.inl ⟨by rfl, ?_⟩) hHeld ?_ ?_
 rotate_left
 ·
  rintro w' ⟨s0, s1, s2, s3⟩
  go_simp
  with_reducible rfl
 rotate_left
 ·
  simp only [Act.put, List.setIfInBounds_toArray, List.set_cons_zero, List.set_cons_succ, i64_w, i32_w]
  rfl
 refine take_ (i := 14) (N := some 19) (v := ?_) (a' := ?_) #[true, true, false, true, true, false, false, true, true, false, true, true, false, true, true, false, true, false, false, true, false, false, false, false, false, false, false] rfl rfl (take_ofW HT_.out HW_.out (by kernel_rfl)) (fun _ _ _ h => h) (Or.inl ⟨by rfl, ?_⟩) hHeld ?_ ?_
 rotate_left
 ·
  rintro w' ⟨s0, s1, s2, s3⟩
  go_simp
  with_reducible rfl
 rotate_left
 ·
  simp only [Act.put, List.setIfInBounds_toArray, List.set_cons_zero, List.set_cons_succ, i64_w, i32_w]
  rfl
 refine take_ (i := 17) (N := some 22) (v := ?_) (a' := ?_) #[true, true, false, true, true, false, false, true, true, false, true, true, false, true, true, false, true, true, false, true, false, false, false, false, false, false, false] rfl rfl (take_ofW HT_.out HW_.out (by kernel_rfl)) (fun _ _ _ h => h) (Or.inl ⟨by rfl, ?_⟩) hHeld ?_ ?_
 rotate_left
 ·
  rintro w' ⟨s0, s1, s2, s3⟩
  go_simp
  with_reducible rfl
 rotate_left
 ·
  simp only [Act.put, List.setIfInBounds_toArray, List.set_cons_zero, List.set_cons_succ, i64_w, i32_w]
  rfl
 refine take_ (i := 20) (N := some 25) (v := ?_) (a' := ?_) #[true, true, false, true, true, false, false, true, true, false, true, true, false, true, true, false, true, true, false, true, true, false, false, false, false, false, false] rfl rfl (take_ofW HT_.out HW_.out (by kernel_rfl)) (fun _ _ _ h => h) (Or.inl ⟨by rfl, ?_⟩) hHeld ?_ ?_
 rotate_left
 ·
  rintro w' ⟨s0, s1, s2, s3⟩
  go_simp
  with_reducible rfl
 rotate_left
 ·
  simp only [Act.put, List.setIfInBounds_toArray, List.set_cons_zero, List.set_cons_succ, i64_w, i32_w]
  rfl
 refine one_ (i := 2) (N := some 7) #[true, true, true, true, true, false, false, true, true, false, true, true, false, true, true, false, true, true, false, true, true, false, false, false, false, false, false] rfl rfl (one_of HT_.out (by kernel_rfl)) (by decide) (fun K hK => ?_)
 refine goes_ Try.func97 (by kernel_rfl) rfl #[.int .i64 a0_0] (by rfl) rfl rfl sG ?_
 with_reducible refine (impl_sign.calls a0_0 t312 _ A3.out).mono ?_
 rintro e w' ⟨rfl, ⟨nd, rfl⟩⟩
 refine ⟨_, rfl, ?_⟩
 refine hK.out _ _ ⟨(blk_cell BK310.out 0).trans rfl, (blk_cell BK310.out 1).trans rfl, (blk_cell BK311.out 0).trans rfl, (blk_cell BK311.out 1).trans rfl⟩ (fun hHeld => ?_)
 clear hK K
 refine norm_ (a' := ?_) ?_ ?_
 rotate_left
 ·
  show Act.put _ (some 7) _ = _
  simp only [Act.put, List.setIfInBounds_toArray, List.set_cons_zero, List.set_cons_succ, i64_w, i32_w]
  rfl
 refine one_ (i := 5) (N := some 10) #[true, true, true, true, true, true, false, true, true, false, true, true, false, true, true, false, true, true, false, true, true, false, false, false, false, false, false] rfl rfl (one_of HT_.out (by kernel_rfl)) (by decide) (fun K hK => ?_)
 refine goes_ Try.func97 (by kernel_rfl) rfl #[.int .i64 a1_0] (by rfl) rfl rfl sG ?_
 with_reducible refine (impl_sign.calls a1_0 t313 _ A4.out).mono ?_
 rintro e w' ⟨rfl, ⟨nd, rfl⟩⟩
 refine ⟨_, rfl, ?_⟩
 refine hK.out _ _ ⟨(blk_cell BK310.out 0).trans rfl, (blk_cell BK310.out 1).trans rfl, (blk_cell BK311.out 0).trans rfl, (blk_cell BK311.out 1).trans rfl⟩ (fun hHeld => ?_)
 clear hK K
 refine norm_ (a' := ?_) ?_ ?_
 rotate_left
 ·
  show Act.put _ (some 10) _ = _
  simp only [Act.put, List.setIfInBounds_toArray, List.set_cons_zero, List.set_cons_succ, i64_w, i32_w]
  rfl
 refine one_ (i := 6) (N := some 11) #[true, true, true, true, true, true, true, true, true, false, true, true, false, true, true, false, true, true, false, true, true, false, false, false, false, false, false] rfl rfl (one_of HT_.out (by kernel_rfl)) (by decide) (fun K hK => ?_)
 refine goes_ Try.func96 (by kernel_rfl) rfl #[.int .i64 t312, .int .i64 t313] (by rfl) rfl rfl sG ?_
 with_reducible refine (cmp_Compare_int64.calls t312 t313 t314 _ A5.out).mono ?_
 rintro e w' ⟨rfl, ⟨nd, rfl⟩⟩
 refine ⟨_, rfl, ?_⟩
 refine hK.out _ _ ⟨(blk_cell BK310.out 0).trans rfl, (blk_cell BK310.out 1).trans rfl, (blk_cell BK311.out 0).trans rfl, (blk_cell BK311.out 1).trans rfl⟩ (fun hHeld => ?_)
 clear hK K
 refine norm_ (a' := ?_) ?_ ?_
 rotate_left
 ·
  show Act.put _ (some 11) _ = _
  simp only [Act.put, List.setIfInBounds_toArray, List.set_cons_zero, List.set_cons_succ, i64_w, i32_w]
  rfl
 refine one_ (i := 9) (N := some 14) #[true, true, true, true, true, true, true, true, true, true, true, true, false, true, true, false, true, true, false, true, true, false, false, false, false, false, false] rfl rfl (one_of HT_.out (by kernel_rfl)) (by decide) (fun K hK => ?_)
 refine goes_ Try.func97 (by kernel_rfl) rfl #[.int .i64 a0_0] (by rfl) rfl rfl sG ?_
 with_reducible refine (impl_sign.calls a0_0 t315 _ A6.out).mono ?_
 rintro e w' ⟨rfl, ⟨nd, rfl⟩⟩
 refine ⟨_, rfl, ?_⟩
 refine hK.out _ _ ⟨(blk_cell BK310.out 0).trans rfl, (blk_cell BK310.out 1).trans rfl, (blk_cell BK311.out 0).trans rfl, (blk_cell BK311.out 1).trans rfl⟩ (fun hHeld => ?_)
 clear hK K
 refine norm_ (a' := ?_) ?_ ?_
 rotate_left
 ·
  show Act.put _ (some 14) _ = _
  simp only [Act.put, List.setIfInBounds_toArray, List.set_cons_zero, List.set_cons_succ, i64_w, i32_w]
  rfl
 refine one_ (i := 12) (N := some 17) #[true, true, true, true, true, true, true, true, true, true, true, true, true, true, true, false, true, true, false, true, true, false, false, false, false, false, false] rfl rfl (one_of HT_.out (by kernel_rfl)) (by decide) (fun K hK => ?_)
 refine goes_ Try.func99 (by kernel_rfl) rfl #[.int .i64 a0_0] (by rfl) rfl rfl sG ?_
 with_reducible refine (impl_size.calls a0_0 t316 _ A7.out).mono ?_
 rintro e w' ⟨rfl, ⟨nd, rfl⟩⟩
 refine ⟨_, rfl, ?_⟩
 refine hK.out _ _ ⟨(blk_cell BK310.out 0).trans rfl, (blk_cell BK310.out 1).trans rfl, (blk_cell BK311.out 0).trans rfl, (blk_cell BK311.out 1).trans rfl⟩ (fun hHeld => ?_)
 clear hK K
 refine norm_ (a' := ?_) ?_ ?_
 rotate_left
 ·
  show Act.put _ (some 17) _ = _
  simp only [Act.put, List.setIfInBounds_toArray, List.set_cons_zero, List.set_cons_succ, i64_w, i32_w]
  rfl
 refine one_ (i := 15) (N := some 20) #[true, true, true, true, true, true, true, true, true, true, true, true, true, true, true, true, true, true, false, true, true, false, false, false, false, false, false] rfl rfl (one_of HT_.out (by kernel_rfl)) (by decide) (fun K hK => ?_)
 refine goes_ Try.func99 (by kernel_rfl) rfl #[.int .i64 a1_1] (by rfl) rfl rfl sG ?_
 with_reducible refine (impl_size.calls a1_1 t317 _ A8.out).mono ?_
 rintro e w' ⟨rfl, ⟨nd, rfl⟩⟩
 refine ⟨_, rfl, ?_⟩
 refine hK.out _ _ ⟨(blk_cell BK310.out 0).trans rfl, (blk_cell BK310.out 1).trans rfl, (blk_cell BK311.out 0).trans rfl, (blk_cell BK311.out 1).trans rfl⟩ (fun hHeld => ?_)
 clear hK K
 refine norm_ (a' := ?_) ?_ ?_
 rotate_left
 ·
  show Act.put _ (some 20) _ = _
  simp only [Act.put, List.setIfInBounds_toArray, List.set_cons_zero, List.set_cons_succ, i64_w, i32_w]
  rfl
 refine one_ (i := 18) (N := some 23) #[true, true, true, true, true, true, true, true, true, true, true, true, true, true, true, true, true, true, true, true, true, false, false, false, false, false, false] rfl rfl (one_of HT_.out (by kernel_rfl)) (by decide) (fun K hK => ?_)
 refine goes_ Try.func99 (by kernel_rfl) rfl #[.int .i64 a1_0] (by rfl) rfl rfl sG ?_
 with_reducible refine (impl_size.calls a1_0 t318 _ A9.out).mono ?_
 rintro e w' ⟨rfl, ⟨nd, rfl⟩⟩
 refine ⟨_, rfl, ?_⟩
 refine hK.out _ _ ⟨(blk_cell BK310.out 0).trans rfl, (blk_cell BK310.out 1).trans rfl, (blk_cell BK311.out 0).trans rfl, (blk_cell BK311.out 1).trans rfl⟩ (fun hHeld => ?_)
 clear hK K
 refine norm_ (a' := ?_) ?_ ?_
 rotate_left
 ·
  show Act.put _ (some 23) _ = _
  simp only [Act.put, List.setIfInBounds_toArray, List.set_cons_zero, List.set_cons_succ, i64_w, i32_w]
  rfl
 refine one_ (i := 21) (N := some 26) #[true, true, true, true, true, true, true, true, true, true, true, true, true, true, true, true, true, true, true, true, true, true, false, false, false, false, false] rfl rfl (one_of HT_.out (by kernel_rfl)) (by decide) (fun K hK => ?_)
 refine goes_ Try.func99 (by kernel_rfl) rfl #[.int .i64 a0_1] (by rfl) rfl rfl sG ?_
 with_reducible refine (impl_size.calls a0_1 t319 _ A10.out).mono ?_
 rintro e w' ⟨rfl, ⟨nd, rfl⟩⟩
 refine ⟨_, rfl, ?_⟩
 refine hK.out _ _ ⟨(blk_cell BK310.out 0).trans rfl, (blk_cell BK310.out 1).trans rfl, (blk_cell BK311.out 0).trans rfl, (blk_cell BK311.out 1).trans rfl⟩ (fun hHeld => ?_)
 clear hK K
 refine norm_ (a' := ?_) ?_ ?_
 rotate_left
 ·
  show Act.put _ (some 26) _ = _
  simp only [Act.put, List.setIfInBounds_toArray, List.set_cons_zero, List.set_cons_succ, i64_w, i32_w]
  rfl
 refine one_ (i := 22) (N := some 27) #[true, true, true, true, true, true, true, true, true, true, true, true, true, true, true, true, true, true, true, true, true, true, true, false, false, false, false] rfl rfl (one_of HT_.out (by kernel_rfl)) (by decide) (fun K hK => ?_)
 refine goes_ Try.func98 (by kernel_rfl) rfl #[.int .u64 t316, .int .u64 t317, .int .u64 t318, .int .u64 t319] (by rfl) rfl rfl sG ?_
 with_reducible refine (impl_compareProducts.calls k t316 t317 t318 t319 t320 _ A11.out).mono ?_
 rintro e w16 ⟨rfl, hb⟩
 refine ⟨_, rfl, ?_⟩
 have n0_ := aS (blk_below (g := gb310) (o := .cells #[.int .i64 a0_0, .int .i64 a0_1] 51 (0, 0)) (sB BK310.out) hb)
 have n1_ := aS (blk_below (g := gb311) (o := .cells #[.int .i64 a1_0, .int .i64 a1_1] 51 (0, 0)) (sB BK311.out) hb)
 have n2_ := aS (below_step (sW HB.out) hb)
 clear BK310 BK311 HB
 have BK310 := n0_; have BK311 := n1_; have HB := n2_
 clear n0_ n1_ n2_
 (try clear hb); (try clear hb2); (try clear hk); (try clear hi)
 refine hK.out _ _ ⟨(blk_cell BK310.out 0).trans rfl, (blk_cell BK310.out 1).trans rfl, (blk_cell BK311.out 0).trans rfl, (blk_cell BK311.out 1).trans rfl⟩ (fun hHeld => ?_)
 clear hK K
 refine norm_ (a' := ?_) ?_ ?_
 rotate_left
 ·
  show Act.put _ (some 27) _ = _
  simp only [Act.put, List.setIfInBounds_toArray, List.set_cons_zero, List.set_cons_succ, i64_w, i32_w]
  rfl
 refine pure_ (i := 23) (N := some 28) (v := ?_) (a' := ?_) #[true, true, true, true, true, true, true, true, true, true, true, true, true, true, true, true, true, true, true, true, true, true, true, true, false, false, false] rfl rfl (any_of HT_.out (by kernel_rfl)) (fun _ _ _ h => h) (Or.inl ⟨by rfl, ?_⟩) ?_ ?_
 rotate_left
 ·
  intro w'
  go_simp
  with_reducible rfl
 rotate_left
 ·
  simp only [Act.put, List.setIfInBounds_toArray, List.set_cons_zero, List.set_cons_succ, i64_w, i32_w]
  rfl
 refine one_ (i := 24) (N := some 29) #[true, true, true, true, true, true, true, true, true, true, true, true, true, true, true, true, true, true, true, true, true, true, true, true, true, false, false] rfl rfl (one_of HT_.out (by kernel_rfl)) (by decide) (fun K hK => ?_)
 refine Kd.R_lit_step (Kd.int .i64) _ 3 ?hg (N := 29) ?hd (xs := ([t314, wrap64 (t315 * t320)] : List Int)) (inner := [.int .i64 t314, .int .i64 (wrap64 (t315 * t320))]) (ok := fun _ => True) (okp := fun _ => True) ?hr ?hp (fun _ hk => hk) trivial (Below.refl _ _) (Nat.le_refl _) (by simp) ?_; (case hd => rfl); (case hg => rfl); (case hr => first | (go_simp; done) | (go_simp; rfl)); (case hp => exact (Reps.one (show Kd.M (Kd.int .i64) _ _ _ t314 [.int .i64 t314] from rfl) (Reps.one (show Kd.M (Kd.int .i64) _ _ _ (wrap64 (t315 * t320)) [.int .i64 (wrap64 (t315 * t320))] from rfl) (Reps.none _ _))))
 intro v322 w17 ho18 hb hg_ hnew_
 clear hg_ hnew_
 (first | rw [← Ny321.out] at ho18 | (simp only [Int.reduceToNat] at ho18; rw [← Ny321.out] at ho18))
 have n0_ := aS (Kd.R_lower ho18 (below_size (sW HB.out)))
 have n1_ := aS (blk_below (g := gb310) (o := .cells #[.int .i64 a0_0, .int .i64 a0_1] 51 (0, 0)) (sB BK310.out) hb)
 have n2_ := aS (blk_below (g := gb311) (o := .cells #[.int .i64 a1_0, .int .i64 a1_1] 51 (0, 0)) (sB BK311.out) hb)
 have n3_ := aS (below_step (sW HB.out) hb)
 clear BK310 BK311 HB
 have HO323 := n0_; have BK310 := n1_; have BK311 := n2_; have HB := n3_
 clear n0_ n1_ n2_ n3_
 clear hb ho18
 obtain ⟨Ao19, co19, eo19⟩ := Kd.R_slice HO323.out
 (first | subst eo19 | (injection eo19 with f1_ f2_ f3_; have f4_ := f1_.symm; have f5_ := f3_.symm; clear f1_ f2_ f3_; subst f4_; subst f5_))
 refine hK.out _ _ ⟨(blk_cell BK310.out 0).trans rfl, (blk_cell BK310.out 1).trans rfl, (blk_cell BK311.out 0).trans rfl, (blk_cell BK311.out 1).trans rfl⟩ (fun hHeld => ?_)
 clear hK K
 refine norm_ (a' := ?_) ?_ ?_
 rotate_left
 ·
  show Act.put _ (some 29) _ = _
  simp only [Act.put, List.setIfInBounds_toArray, List.set_cons_zero, List.set_cons_succ, i64_w, i32_w]
  rfl
 refine one_ (i := 25) (N := some 30) #[true, true, true, true, true, true, true, true, true, true, true, true, true, true, true, true, true, true, true, true, true, true, true, true, true, true, false] rfl rfl (one_of HT_.out (by kernel_rfl)) (by decide) (fun K hK => ?_)
 refine goes_ Try.func95 (by kernel_rfl) rfl #[.slice Ao19 y321.length co19] (by rfl) rfl rfl sG ?_
 with_reducible refine (cmp_Or_int.calls k _ _ y321 t324 _ ?side1 ?side2 A12.out).mono ?_
 (case side1 => exact sC (Kd.R_reads' HO323.out).2.2)
 (case side2 => exact (Kd.R_reads' HO323.out).2.1)
 rintro e w' ⟨rfl, ⟨nd, rfl⟩⟩
 refine ⟨_, rfl, ?_⟩
 refine hK.out _ _ ⟨(blk_cell BK310.out 0).trans rfl, (blk_cell BK310.out 1).trans rfl, (blk_cell BK311.out 0).trans rfl, (blk_cell BK311.out 1).trans rfl⟩ (fun hHeld => ?_)
 clear hK K
 refine norm_ (a' := ?_) ?_ ?_
 rotate_left
 ·
  show Act.put _ (some 30) _ = _
  simp only [Act.put, List.setIfInBounds_toArray, List.set_cons_zero, List.set_cons_succ, i64_w, i32_w]
  rfl
 refine pure_ (i := 26) (N := some 4) (v := ?_) (a' := ?_) #[true, true, true, true, true, true, true, true, true, true, true, true, true, true, true, true, true, true, true, true, true, true, true, true, true, true, true] rfl rfl (any_of HT_.out (by kernel_rfl)) (fun _ _ _ h => h) (Or.inl ⟨by rfl, ?_⟩) ?_ ?_
 rotate_left
 ·
  intro w'
  go_simp
  with_reducible rfl
 rotate_left
 ·
  simp only [Act.put, List.setIfInBounds_toArray, List.set_cons_zero, List.set_cons_succ, i64_w, i32_w]
  rfl
 refine done_ (done_of HT_.out (by kernel_rfl)) ?_
 try go_wp2
 go_ret
 exact ⟨by first | rfl | (simp [errW_none, errW_some, i64_w]; done) | (simp [errW_none, errW_some] <;> rfl) | (simp [*, errW_none, errW_some] <;> rfl), by repeat (first | (with_reducible first | exact HB.out | apply below_alloc | apply pw_below_drewN | apply below_drew1) | exact HB.out)⟩

/-! ### impl_lineStrength: function 82 -/
mutual
def impl_lineStrength.l0 : Nat → List (S68) → List (S44) → Int → Int → List (S44) → List Int → Int → Int → Option (Int × Int)
 | 0, _, _, _, _, _, _, _, _ => none
 | k + 1, x0, x17, x18, x19, x326000, x326001, x331000, x331001 => if x19 < x18 then (if 0 ≤ x19 then (if x19 < (x17.length : Int) then ((impl_fraction.f k (mn x331000 ((rd_T44 x17 x19).f0)) 1).bind fun bt333 => (impl_lineStrength.l0 k x0 x17 x18 (wrap64 (x19 + 1)) x326000 x326001 bt333.1 bt333.2)) else (none)) else (none)) else (impl_lineStrength.l1 k x0 (x326001.length : Int) 0 x326000 x326001 x331000 x331001)
def impl_lineStrength.l1 : Nat → List (S68) → Int → Int → List (S44) → List Int → Int → Int → Option (Int × Int)
 | 0, _, _, _, _, _, _, _ => none
 | k + 1, x0, x32, x33, x326000, x326001, x331000, x331001 => if x33 < x32 then ((impl_strengthAt.f k x0 x326000 x326001 x33).bind fun bt335 => ((impl_compareFractions.f k bt335.1 bt335.2 x331000 x331001).bind fun t338 => (if t338 < 0 then (impl_lineStrength.l1 k x0 x32 (wrap64 (x33 + 1)) x326000 x326001 bt335.1 bt335.2) else (impl_lineStrength.l1 k x0 x32 (wrap64 (x33 + 1)) x326000 x326001 x331000 x331001)))) else (some (x331000, x331001))
end
def impl_lineStrength.f (k : Nat) (l0 : List (S68)) (l1_0 : List (S44)) (l1_1 : List Int) : Option (Int × Int) := if 0 < (l1_0.length : Int) then ((impl_fraction.f k ((rd_T44 l1_0 0).f0) 1).bind fun bt328 => (impl_lineStrength.l0 k l0 l1_0 (l1_0.length : Int) 0 l1_0 l1_1 bt328.1 bt328.2)) else (none)
theorem impl_lineStrength.mono_l : ∀ k, (∀ y0 y1 y2 y3 y4 y5 y6 y7, LeO (impl_lineStrength.l0 k y0 y1 y2 y3 y4 y5 y6 y7) (impl_lineStrength.l0 (k + 1) y0 y1 y2 y3 y4 y5 y6 y7)) ∧ (∀ y0 y1 y2 y3 y4 y5 y6, LeO (impl_lineStrength.l1 k y0 y1 y2 y3 y4 y5 y6) (impl_lineStrength.l1 (k + 1) y0 y1 y2 y3 y4 y5 y6))
 | 0 => ⟨fun _ _ _ _ _ _ _ _ r h => by simp [impl_lineStrength.l0] at h, fun _ _ _ _ _ _ _ r h => by simp [impl_lineStrength.l1] at h⟩
 | k + 1 => by
  obtain ⟨ih0, ih1⟩ := impl_lineStrength.mono_l k
  refine ⟨?_, ?_⟩
  ·
   intro y0 y1 y2 y3 y4 y5 y6 y7
   unfold impl_lineStrength.l0
   repeat' first
   | (with_reducible exact ih0 _ _ _ _ _ _ _ _)
   | (with_reducible exact ih1 _ _ _ _ _ _ _)
   | (with_reducible exact impl_compareFractions.mono _ _ _ _ _)
   | (with_reducible exact impl_fraction.mono _ _ _)
   | (with_reducible exact impl_strengthAt.mono _ _ _ _ _)
   | (with_reducible exact LeO.refl _)
   | (with_reducible exact LeO.none _)
   | (with_reducible refine LeO.ite ?_ ?_)
   | (with_reducible refine LeO.bind ?_ (fun _ => ?_))
   | exact ih0 _ _ _ _ _ _ _ _
   | exact ih1 _ _ _ _ _ _ _
   | exact impl_compareFractions.mono _ _ _ _ _
   | exact impl_fraction.mono _ _ _
   | exact impl_strengthAt.mono _ _ _ _ _
   | exact LeO.none _
   | refine LeO.ite ?_ ?_
   | refine LeO.bind ?_ (fun _ => ?_)
  ·
   intro y0 y1 y2 y3 y4 y5 y6
   unfold impl_lineStrength.l1
   repeat' first
   | (with_reducible exact ih0 _ _ _ _ _ _ _ _)
   | (with_reducible exact ih1 _ _ _ _ _ _ _)
   | (with_reducible exact impl_compareFractions.mono _ _ _ _ _)
   | (with_reducible exact impl_fraction.mono _ _ _)
   | (with_reducible exact impl_strengthAt.mono _ _ _ _ _)
   | (with_reducible exact LeO.refl _)
   | (with_reducible exact LeO.none _)
   | (with_reducible refine LeO.ite ?_ ?_)
   | (with_reducible refine LeO.bind ?_ (fun _ => ?_))
   | exact ih0 _ _ _ _ _ _ _ _
   | exact ih1 _ _ _ _ _ _ _
   | exact impl_compareFractions.mono _ _ _ _ _
   | exact impl_fraction.mono _ _ _
   | exact impl_strengthAt.mono _ _ _ _ _
   | exact LeO.none _
   | refine LeO.ite ?_ ?_
   | refine LeO.bind ?_ (fun _ => ?_)
theorem impl_lineStrength.mono : ∀ a0 a1 a2 k, LeO (impl_lineStrength.f k a0 a1 a2) (impl_lineStrength.f (k + 1) a0 a1 a2) := by
 intro a0 a1 a2 k
 obtain ⟨ih0, ih1⟩ := impl_lineStrength.mono_l k
 unfold impl_lineStrength.f
 repeat' first
   | (with_reducible exact ih0 _ _ _ _ _ _ _ _)
   | (with_reducible exact ih1 _ _ _ _ _ _ _)
   | (with_reducible exact impl_compareFractions.mono _ _ _ _ _)
   | (with_reducible exact impl_fraction.mono _ _ _)
   | (with_reducible exact impl_strengthAt.mono _ _ _ _ _)
   | (with_reducible exact LeO.refl _)
   | (with_reducible exact LeO.none _)
   | (with_reducible refine LeO.ite ?_ ?_)
   | (with_reducible refine LeO.bind ?_ (fun _ => ?_))
   | exact ih0 _ _ _ _ _ _ _ _
   | exact ih1 _ _ _ _ _ _ _
   | exact impl_compareFractions.mono _ _ _ _ _
   | exact impl_fraction.mono _ _ _
   | exact impl_strengthAt.mono _ _ _ _ _
   | exact LeO.none _
   | refine LeO.ite ?_ ?_
   | refine LeO.bind ?_ (fun _ => ?_)
set_option maxHeartbeats 8000000 in
set_option maxRecDepth 100000 in
theorem impl_lineStrength.calls (k : Nat) (A0 : Option Addr) (c0 : Nat) (l0 : List (S68)) (A1_0 : Option Addr) (c1_0 : Nat) (l1_0 : List (S44)) (A1_1 : Option Addr) (c1_1 : Nat) (l1_1 : List Int) (r1 : Int) (r2 : Int) (w : World) (hr0 : Kd.C k68 w A0 l0.length l0) (hc0 : l0.length ≤ c0) (hr1_0 : Kd.C k44 w A1_0 l1_0.length l1_0) (hc1_0 : l1_0.length ≤ c1_0) (hr1_1 : Kd.C (Kd.int .i64) w A1_1 l1_1.length l1_1) (hc1_1 : l1_1.length ≤ c1_1) (h : impl_lineStrength.f k l0 l1_0 l1_1 = some (r1, r2)) :
  Calls Try.prog 82 #[.slice A0 l0.length c0, .agg #[.slice A1_0 l1_0.length c1_0, .slice A1_1 l1_1.length c1_1]] w fun e w' => e = .returned (.agg #[.int .i64 r1, .int .i64 r2]) ∧ Below w.heap.size w w' := by
 have hu37 := Try.underlying37
 have hu51 := Try.underlying51
 have hu44 := Try.underlying44
 have HR0 := aS hr0
 have HC0 := aS hc0
 clear hr0 hc0
 have HR1_0 := aS hr1_0
 have HC1_0 := aS hc1_0
 clear hr1_0 hc1_0
 have HR1_1 := aS hr1_1
 have HC1_1 := aS hc1_1
 clear hr1_1 hc1_1
 have HB := aS (Below.refl w.heap.size w)
 have H : (if 0 < (l1_0.length : Int) then ((impl_fraction.f k ((rd_T44 l1_0 0).f0) 1).bind fun bt328 => (impl_lineStrength.l0 k l0 l1_0 (l1_0.length : Int) 0 l1_0 l1_1 bt328.1 bt328.2)) else (none)) = some (r1, r2) := h
 clear h
 by_cases c3 : 0 < (l1_0.length : Int)
 ·
  rw [if_pos c3] at H
  have c3b0 : decide (0 < (l1_0.length : Int)) = true := decide_eq_true c3
  have c3b1 : decide (0 < l1_0.length) = true := decide_eq_true (by omega)
  clear c3
  replace H := Option.bind_eq_some_iff.mp H
  obtain ⟨⟨t328, t329⟩, A40, H⟩ := H
  replace H : (impl_lineStrength.l0 k l0 l1_0 (l1_0.length : Int) 0 l1_0 l1_1 t328 t329) = some (r1, r2) := H
  have A4 := aS A40
  clear A40
  have H' := aS H
  clear H
  go_enter Try.func82, Try.ntmps82
  go_wp2_with (first | ((with_reducible refine gate_dst (N := 3) rfl ?_); refine box_event ?hg (N := 3) ?hd (cs := #[.slice A1_0 l1_0.length c1_0, .slice A1_1 l1_1.length c1_1]) (t := 37) ?hr ?_; (case hd => rfl); (case hg => rfl); (case hr => first | (go_simp; done) | (go_simp; rfl)); intro gb325 hg w5 hbox hb; have n0_ := aS (below_step (sW HB.out) hb); have n1_ := aS (hbox); have n2_ := aS ((by rw [hg]; exact (below_size (sW HB.out)) : w.heap.size ≤ gb325)); have n3_ := aS ((by rw [hg]; exact (below_size (sW HB.out)) : w.heap.size ≤ gb325)); clear HB; have HB := n0_; have BK325 := n1_; have GW325 := n2_; have GE325 := n3_; clear n0_ n1_ n2_ n3_; clear hb hbox hg) | ((with_reducible refine gate_dst (N := 4) rfl ?_); refine box_event ?hg (N := 4) ?hd (cs := #[.int .i64 0, .int .i64 0]) (t := 51) ?hr ?_; (case hd => rfl); (case hg => rfl); (case hr => first | (go_simp; done) | (go_simp; rfl)); intro gb326 hg w6 hbox hb; have n0_ := aS (blk_below (g := gb325) (o := .cells #[.slice A1_0 l1_0.length c1_0, .slice A1_1 l1_1.length c1_1] 37 (0, 0)) (sB BK325.out) hb); have n1_ := aS (below_step (sW HB.out) hb); have n2_ := aS (hbox); have n3_ := aS ((by rw [hg]; exact (below_size (sW HB.out)) : w.heap.size ≤ gb326)); have n4_ := aS ((by rw [hg]; exact (below_size (sW HB.out)) : w.heap.size ≤ gb326)); have n5_ := aS ((by rw [hg]; exact Nat.ne_of_lt (blk_lt (g := gb325) (o := .cells #[.slice A1_0 l1_0.length c1_0, .slice A1_1 l1_1.length c1_1] 37 (0, 0)) (sB BK325.out)) : gb325 ≠ gb326)); have n6_ := aS ((by rw [hg]; exact Nat.ne_of_gt (blk_lt (g := gb325) (o := .cells #[.slice A1_0 l1_0.length c1_0, .slice A1_1 l1_1.length c1_1] 37 (0, 0)) (sB BK325.out)) : gb326 ≠ gb325)); clear BK325 HB; have BK325 := n0_; have HB := n1_; have BK326 := n2_; have GW326 := n3_; have GE326 := n4_; have NB325_326 := n5_; have NB326_325 := n6_; clear n0_ n1_ n2_ n3_ n4_ n5_ n6_; clear hb hbox hg; have hnb7 := NB325_326.out; have hnc7 := NB326_325.out; have hcz8_0 : w6.cell? ⟨gb325, 0, none⟩ = some (.slice A1_0 l1_0.length c1_0) := (blk_cell BK325.out 0).trans rfl; have hcz8_1 : w6.cell? ⟨gb325, 1, none⟩ = some (.slice A1_1 l1_1.length c1_1) := (blk_cell BK325.out 1).trans rfl; have hfz8_0 := blk_frozen BK325.out 0; have hfz8_1 := blk_frozen BK325.out 1; have p327 : 0 ≤ (0 : Int) := (by omega); have q327 : 0 < (l1_0.length : Int) := of_decide_eq_true (by first | (with_reducible assumption) | assumption); obtain ⟨ad327, e327, hx327_0, hx327_1⟩ := at_T44 HR1_0.out 0 p327 q327; cases e327; have qi327 : (0 < l1_0.length) = True := eq_true (by omega); (try rw [show ((0 : Int)).toNat = 0 from rfl] at hx327_0); (try rw [show 0 * 2 = 0 from rfl] at hx327_0); (try rw [Addr.add_zero'] at hx327_0); (try rw [show ((0 : Int)).toNat = 0 from rfl] at hx327_1); (try rw [show 0 * 2 = 0 from rfl] at hx327_1); (try rw [Addr.add_zero'] at hx327_1); replace hx327_0 := (HB.out.cell (World.block_lt_of_cell? w _ hx327_0)).trans hx327_0; replace hx327_1 := (HB.out.cell (World.block_lt_of_cell? w _ hx327_1)).trans hx327_1; replace p327 := eq_true p327; replace q327 := eq_true q327) | ((with_reducible refine gate_callee (f := 83) rfl ?_); refine goesL_ (some 15) rfl rfl Try.func83 (by kernel_rfl) rfl #[.int .i64 ((rd_T44 l1_0 0).f0), .int .i64 1] rfl sG ?_; (with_reducible refine (impl_fraction.calls k ((rd_T44 l1_0 0).f0) 1 t328 t329 _ A4.out).mono ?_); rintro e w9 ⟨rfl, hb⟩; refine ⟨_, rfl, ?_⟩; have n0_ := aS (blk_below (g := gb325) (o := .cells #[.slice (some ad327) l1_0.length c1_0, .slice A1_1 l1_1.length c1_1] 37 (0, 0)) (sB BK325.out) hb); have n1_ := aS (blk_below (g := gb326) (o := .cells #[.int .i64 0, .int .i64 0] 51 (0, 0)) (sB BK326.out) hb); have n2_ := aS (below_step (sW HB.out) hb); clear BK325 BK326 HB; have BK325 := n0_; have BK326 := n1_; have HB := n2_; clear n0_ n1_ n2_; (try clear hb); (try clear hb2); (try clear hk); (try clear hi)) | ((with_reducible refine gate_dst (N := 5) rfl ?_); refine box_event ?hg (N := 5) ?hd (cs := #[.int .i64 0, .int .i64 0]) (t := 51) ?hr ?_; (case hd => rfl); (case hg => rfl); (case hr => first | (go_simp; done) | (go_simp; rfl)); intro gb330 hg w10 hbox hb; have n0_ := aS (blk_below (g := gb325) (o := .cells #[.slice (some ad327) l1_0.length c1_0, .slice A1_1 l1_1.length c1_1] 37 (0, 0)) (sB BK325.out) hb); have n1_ := aS (blk_below (g := gb326) (o := .cells #[.int .i64 0, .int .i64 0] 51 (0, 0)) (sB BK326.out) hb); have n2_ := aS (below_step (sW HB.out) hb); have n3_ := aS (hbox); have n4_ := aS ((by rw [hg]; exact (below_size (sW HB.out)) : w.heap.size ≤ gb330)); have n5_ := aS ((by rw [hg]; exact (below_size (sW HB.out)) : w.heap.size ≤ gb330)); have n6_ := aS ((by rw [hg]; exact Nat.ne_of_lt (blk_lt (g := gb325) (o := .cells #[.slice (some ad327) l1_0.length c1_0, .slice A1_1 l1_1.length c1_1] 37 (0, 0)) (sB BK325.out)) : gb325 ≠ gb330)); have n7_ := aS ((by rw [hg]; exact Nat.ne_of_gt (blk_lt (g := gb325) (o := .cells #[.slice (some ad327) l1_0.length c1_0, .slice A1_1 l1_1.length c1_1] 37 (0, 0)) (sB BK325.out)) : gb330 ≠ gb325)); have n8_ := aS ((by rw [hg]; exact Nat.ne_of_lt (blk_lt (g := gb326) (o := .cells #[.int .i64 0, .int .i64 0] 51 (0, 0)) (sB BK326.out)) : gb326 ≠ gb330)); have n9_ := aS ((by rw [hg]; exact Nat.ne_of_gt (blk_lt (g := gb326) (o := .cells #[.int .i64 0, .int .i64 0] 51 (0, 0)) (sB BK326.out)) : gb330 ≠ gb326)); clear BK325 BK326 HB; have BK325 := n0_; have BK326 := n1_; have HB := n2_; have BK330 := n3_; have GW330 := n4_; have GE330 := n5_; have NB325_330 := n6_; have NB330_325 := n7_; have NB326_330 := n8_; have NB330_326 := n9_; clear n0_ n1_ n2_ n3_ n4_ n5_ n6_ n7_ n8_ n9_; clear hb hbox hg; have hnb11 := NB330_325.out; have hnc11 := NB325_330.out; have hnb12 := NB330_326.out; have hnc12 := NB326_330.out; have hcz13_0 : w10.cell? ⟨gb330, 0, none⟩ = some (.int .i64 0) := (blk_cell BK330.out 0).trans rfl; have hcz13_1 : w10.cell? ⟨gb330, 1, none⟩ = some (.int .i64 0) := (blk_cell BK330.out 1).trans rfl; have hfz13_0 := blk_frozen BK330.out 0; have hfz13_1 := blk_frozen BK330.out 1; have hcz14_0 : w10.cell? ⟨gb325, 0, none⟩ = some (.slice (some ad327) l1_0.length c1_0) := (blk_cell BK325.out 0).trans rfl; have hcz14_1 : w10.cell? ⟨gb325, 1, none⟩ = some (.slice A1_1 l1_1.length c1_1) := (blk_cell BK325.out 1).trans rfl; have hfz14_0 := blk_frozen BK325.out 0; have hfz14_1 := blk_frozen BK325.out 1))
  go_loopg [19] k (fun kq v19 w' => ∃ (x19_1 : Int) (x331000_1 : Int) (x331001_1 : Int), v19 = .int .i64 x19_1 ∧ Aside0 (impl_lineStrength.l0 kq l0 l1_0 (l1_0.length : Int) x19_1 l1_0 l1_1 x331000_1 x331001_1 = some (r1, r2)) ∧ Aside0 (kq ≤ k) ∧ Aside0 (w'.heap[gb325]? = some (.cells #[(.slice (some ad327) l1_0.length c1_0), (.slice A1_1 l1_1.length c1_1)] 37 (0, 0))) ∧ Aside0 (w'.heap[gb326]? = some (.cells #[.int .i64 0, .int .i64 0] 51 (0, 0))) ∧ Aside0 (w'.heap[gb330]? = some (.cells #[.int .i64 x331000_1, .int .i64 x331001_1] 51 (0, 0))) ∧ Aside0 (Below w.heap.size w w'))
  case atStart => exact ⟨(0), (t328), (t329), (by first | rfl | (simp; done) | (simp [*]; done) | (simp only [i64_w]; done) | (simp [i64_w]; done)), H', ⟨Nat.le_refl _⟩, ⟨by (with_reducible repeat (first | refine blk_drewN ?_ _ | refine blk_drew ?_ | refine blk_alloc ?_ _)); refine blk_far ?_ NB325_330.out _; (with_reducible repeat (first | refine blk_drewN ?_ _ | refine blk_drew ?_ | refine blk_alloc ?_ _)); refine blk_far ?_ NB325_330.out _; (with_reducible repeat (first | refine blk_drewN ?_ _ | refine blk_drew ?_ | refine blk_alloc ?_ _)); exact BK325.out⟩, ⟨by (with_reducible repeat (first | refine blk_drewN ?_ _ | refine blk_drew ?_ | refine blk_alloc ?_ _)); refine blk_far ?_ NB326_330.out _; (with_reducible repeat (first | refine blk_drewN ?_ _ | refine blk_drew ?_ | refine blk_alloc ?_ _)); refine blk_far ?_ NB326_330.out _; (with_reducible repeat (first | refine blk_drewN ?_ _ | refine blk_drew ?_ | refine blk_alloc ?_ _)); exact BK326.out⟩, ⟨by (with_reducible repeat (first | refine blk_drewN ?_ _ | refine blk_drew ?_ | refine blk_alloc ?_ _)); refine blk_put (cs := #[.int .i64 t328, .int .i64 0]) ?_ 1 _ rfl; (with_reducible repeat (first | refine blk_drewN ?_ _ | refine blk_drew ?_ | refine blk_alloc ?_ _)); refine blk_put (cs := #[.int .i64 0, .int .i64 0]) ?_ 0 _ rfl; (with_reducible repeat (first | refine blk_drewN ?_ _ | refine blk_drew ?_ | refine blk_alloc ?_ _)); exact BK330.out⟩, ⟨by repeat (first | (with_reducible first | exact HB.out | apply below_alloc | apply pw_below_drewN | apply below_drew1 | refine below_set ?_ GE325.out | refine below_set ?_ GE326.out | refine below_set ?_ GE330.out) | exact HB.out)⟩⟩
  case round =>
   clear H'
   (try clear c1); (try clear p2); (try clear c3); (try clear c3b0); (try clear c3b1); (try clear p3); (try clear q3); (try clear hx3); (try clear qi3); (try clear c7); (try clear c8); (try clear c11); (try clear c12); (try clear hcz13_0); (try clear hcz13_1); (try clear hcz14_0); (try clear hcz14_1); (try clear hcz8_0); (try clear hcz8_1); (try clear hfz13_0); (try clear hfz13_1); (try clear hfz14_0); (try clear hfz14_1); (try clear hfz8_0); (try clear hfz8_1); (try clear hx327_0); (try clear hx327_1); (try clear p327); (try clear q327)
   obtain ⟨x19_1, x331000_1, x331001_1, rfl, HA, HK1, BK325, BK326, BK330, HB⟩ := hrel
   cases gk with
   | zero => exact absurd HA.out (by simp [impl_lineStrength.l0])
   | succ k1 =>
    have H := HA.out
    clear HA
    simp only [impl_lineStrength.l0] at H
    by_cases c15 : x19_1 < (l1_0.length : Int)
    ·
     rw [if_pos c15] at H
     have c15b0 : decide (x19_1 < (l1_0.length : Int)) = true := decide_eq_true c15
     clear c15
     by_cases c16 : 0 ≤ x19_1
     ·
      rw [if_pos c16] at H
      have c16b0 : decide (0 ≤ x19_1) = true := decide_eq_true c16
      clear c16
      by_cases c17 : x19_1 < (l1_0.length : Int)
      ·
       rw [if_pos c17] at H
       have c17b0 : decide (x19_1 < (l1_0.length : Int)) = true := decide_eq_true c17
       clear c17
       obtain ⟨ji18, hji18⟩ : ∃ j_ : Int, (mn x331000_1 ((rd_T44 l1_0 x19_1).f0)) = j_ := ⟨_, rfl⟩
       replace H : ((impl_fraction.f k1 (ji18) 1).bind fun bt333 => (impl_lineStrength.l0 k1 l0 l1_0 (l1_0.length : Int) (wrap64 (x19_1 + 1)) l1_0 l1_1 bt333.1 bt333.2)) = some (r1, r2) := by first | (rw [hji18] at H; exact H) | (simp only [hji18] at H ⊢; exact H)
       have hji18_ : (if ((rd_T44 l1_0 x19_1).f0) < x331000_1 then ((rd_T44 l1_0 x19_1).f0) else x331000_1) = ji18 := hji18
       replace H := Option.bind_eq_some_iff.mp H
       obtain ⟨⟨t333, t334⟩, A190, H⟩ := H
       replace H : (impl_lineStrength.l0 k1 l0 l1_0 (l1_0.length : Int) (wrap64 (x19_1 + 1)) l1_0 l1_1 t333 t334) = some (r1, r2) := H
       have A19 := aS A190
       clear A190
       have H' := aS H
       clear H
       have p331 : 0 ≤ (x19_1 : Int) := of_decide_eq_true (by first | (with_reducible assumption) | assumption)
       have q331 : x19_1 < (l1_0.length : Int) := of_decide_eq_true (by first | (with_reducible assumption) | assumption)
       obtain ⟨ad331, e331, hx331_0, hx331_1⟩ := at_T44 HR1_0.out x19_1 p331 q331
       obtain rfl : ad327 = ad331 := (by injection e331)
       replace hx331_0 := (HB.out.cell (World.block_lt_of_cell? w _ hx331_0)).trans hx331_0
       replace hx331_1 := (HB.out.cell (World.block_lt_of_cell? w _ hx331_1)).trans hx331_1
       replace p331 := eq_true p331
       replace q331 := eq_true q331
       go_wp2_with (first | ((with_reducible refine gate_dst (N := 7) rfl ?_); refine box_event ?hg (N := 7) ?hd (cs := #[.int .i64 0, .int .i64 0]) (t := 44) ?hr ?_; (case hd => rfl); (case hg => rfl); (case hr => first | (go_simp; done) | (go_simp; rfl)); intro gb332 hg w20 hbox hb; have n0_ := aS (blk_below (g := gb325) (o := .cells #[.slice (some ad327) l1_0.length c1_0, .slice A1_1 l1_1.length c1_1] 37 (0, 0)) (sB BK325.out) hb); have n1_ := aS (blk_below (g := gb326) (o := .cells #[.int .i64 0, .int .i64 0] 51 (0, 0)) (sB BK326.out) hb); have n2_ := aS (blk_below (g := gb330) (o := .cells #[.int .i64 x331000_1, .int .i64 x331001_1] 51 (0, 0)) (sB BK330.out) hb); have n3_ := aS (below_step (sW HB.out) hb); have n4_ := aS (hbox); have n5_ := aS ((by rw [hg]; exact (below_size (sW HB.out)) : w.heap.size ≤ gb332)); have n6_ := aS ((by rw [hg]; exact (below_size (sW HB.out)) : w.heap.size ≤ gb332)); have n7_ := aS ((by rw [hg]; exact Nat.ne_of_lt (blk_lt (g := gb325) (o := .cells #[.slice (some ad327) l1_0.length c1_0, .slice A1_1 l1_1.length c1_1] 37 (0, 0)) (sB BK325.out)) : gb325 ≠ gb332)); have n8_ := aS ((by rw [hg]; exact Nat.ne_of_gt (blk_lt (g := gb325) (o := .cells #[.slice (some ad327) l1_0.length c1_0, .slice A1_1 l1_1.length c1_1] 37 (0, 0)) (sB BK325.out)) : gb332 ≠ gb325)); have n9_ := aS ((by rw [hg]; exact Nat.ne_of_lt (blk_lt (g := gb326) (o := .cells #[.int .i64 0, .int .i64 0] 51 (0, 0)) (sB BK326.out)) : gb326 ≠ gb332)); have n10_ := aS ((by rw [hg]; exact Nat.ne_of_gt (blk_lt (g := gb326) (o := .cells #[.int .i64 0, .int .i64 0] 51 (0, 0)) (sB BK326.out)) : gb332 ≠ gb326)); have n11_ := aS ((by rw [hg]; exact Nat.ne_of_lt (blk_lt (g := gb330) (o := .cells #[.int .i64 x331000_1, .int .i64 x331001_1] 51 (0, 0)) (sB BK330.out)) : gb330 ≠ gb332)); have n12_ := aS ((by rw [hg]; exact Nat.ne_of_gt (blk_lt (g := gb330) (o := .cells #[.int .i64 x331000_1, .int .i64 x331001_1] 51 (0, 0)) (sB BK330.out)) : gb332 ≠ gb330)); clear BK325 BK326 BK330 HB; have BK325 := n0_; have BK326 := n1_; have BK330 := n2_; have HB := n3_; have BK332 := n4_; have GW332 := n5_; have GE332 := n6_; have NB325_332 := n7_; have NB332_325 := n8_; have NB326_332 := n9_; have NB332_326 := n10_; have NB330_332 := n11_; have NB332_330 := n12_; clear n0_ n1_ n2_ n3_ n4_ n5_ n6_ n7_ n8_ n9_ n10_ n11_ n12_; clear hb hbox hg; have hnb21 := NB332_325.out; have hnc21 := NB325_332.out; have hnb22 := NB332_326.out; have hnc22 := NB326_332.out; have hnb23 := NB332_330.out; have hnc23 := NB330_332.out; have hcz24_0 : w20.cell? ⟨gb332, 0, none⟩ = some (.int .i64 0) := (blk_cell BK332.out 0).trans rfl; have hcz24_1 : w20.cell? ⟨gb332, 1, none⟩ = some (.int .i64 0) := (blk_cell BK332.out 1).trans rfl; have hfz24_0 := blk_frozen BK332.out 0; have hfz24_1 := blk_frozen BK332.out 1; have hnb25 := NB330_325.out; have hnc25 := NB325_330.out; have hnb26 := NB330_326.out; have hnc26 := NB326_330.out; have hcz27_0 : w20.cell? ⟨gb330, 0, none⟩ = some (.int .i64 x331000_1) := (blk_cell BK330.out 0).trans rfl; have hcz27_1 : w20.cell? ⟨gb330, 1, none⟩ = some (.int .i64 x331001_1) := (blk_cell BK330.out 1).trans rfl; have hfz27_0 := blk_frozen BK330.out 0; have hfz27_1 := blk_frozen BK330.out 1) | ((with_reducible refine gate_callee (f := 83) rfl ?_); refine goesL_ (some 28) rfl rfl Try.func83 (by kernel_rfl) rfl #[.int .i64 ji18, .int .i64 1] rfl (by (try simp only [List.map_toArray, List.map_cons, List.map_nil]); first | done | (simp only [hji18]; rfl) | rfl | (simp only [List.length_drop, List.length_take]; rfl)) ?_; (with_reducible refine (impl_fraction.calls k1 ji18 1 t333 t334 _ A19.out).mono ?_); rintro e w28 ⟨rfl, hb⟩; refine ⟨_, rfl, ?_⟩; have n0_ := aS (blk_below (g := gb325) (o := .cells #[.slice (some ad327) l1_0.length c1_0, .slice A1_1 l1_1.length c1_1] 37 (0, 0)) (by (with_reducible repeat (first | refine blk_drewN ?_ _ | refine blk_drew ?_ | refine blk_alloc ?_ _)); refine blk_far ?_ NB325_332.out _; (with_reducible repeat (first | refine blk_drewN ?_ _ | refine blk_drew ?_ | refine blk_alloc ?_ _)); refine blk_far ?_ NB325_332.out _; (with_reducible repeat (first | refine blk_drewN ?_ _ | refine blk_drew ?_ | refine blk_alloc ?_ _)); exact BK325.out) hb); have n1_ := aS (blk_below (g := gb326) (o := .cells #[.int .i64 0, .int .i64 0] 51 (0, 0)) (by (with_reducible repeat (first | refine blk_drewN ?_ _ | refine blk_drew ?_ | refine blk_alloc ?_ _)); refine blk_far ?_ NB326_332.out _; (with_reducible repeat (first | refine blk_drewN ?_ _ | refine blk_drew ?_ | refine blk_alloc ?_ _)); refine blk_far ?_ NB326_332.out _; (with_reducible repeat (first | refine blk_drewN ?_ _ | refine blk_drew ?_ | refine blk_alloc ?_ _)); exact BK326.out) hb); have n2_ := aS (blk_below (g := gb330) (o := .cells #[.int .i64 x331000_1, .int .i64 x331001_1] 51 (0, 0)) (by (with_reducible repeat (first | refine blk_drewN ?_ _ | refine blk_drew ?_ | refine blk_alloc ?_ _)); refine blk_far ?_ NB330_332.out _; (with_reducible repeat (first | refine blk_drewN ?_ _ | refine blk_drew ?_ | refine blk_alloc ?_ _)); refine blk_far ?_ NB330_332.out _; (with_reducible repeat (first | refine blk_drewN ?_ _ | refine blk_drew ?_ | refine blk_alloc ?_ _)); exact BK330.out) hb); have n3_ := aS (blk_below (g := gb332) (o := .cells #[.int .i64 ((rd_T44 l1_0 x19_1).f0), .int .i64 ((rd_T44 l1_0 x19_1).f1)] 44 (0, 0)) (by (with_reducible repeat (first | refine blk_drewN ?_ _ | refine blk_drew ?_ | refine blk_alloc ?_ _)); refine blk_put (cs := #[.int .i64 ((rd_T44 l1_0 x19_1).f0), .int .i64 0]) ?_ 1 _ rfl; (with_reducible repeat (first | refine blk_drewN ?_ _ | refine blk_drew ?_ | refine blk_alloc ?_ _)); refine blk_put (cs := #[.int .i64 0, .int .i64 0]) ?_ 0 _ rfl; (with_reducible repeat (first | refine blk_drewN ?_ _ | refine blk_drew ?_ | refine blk_alloc ?_ _)); exact BK332.out) hb); have n4_ := aS (below_step (sW HB.out) hb); clear BK325 BK326 BK330 BK332 HB; have BK325 := n0_; have BK326 := n1_; have BK330 := n2_; have BK332 := n3_; have HB := n4_; clear n0_ n1_ n2_ n3_ n4_; (try clear hb); (try clear hb2); (try clear hk); (try clear hi); have hcz29_0 : w28.cell? ⟨gb330, 0, none⟩ = some (.int .i64 x331000_1) := (blk_cell BK330.out 0).trans rfl; have hcz29_1 : w28.cell? ⟨gb330, 1, none⟩ = some (.int .i64 x331001_1) := (blk_cell BK330.out 1).trans rfl; have hfz29_0 := blk_frozen BK330.out 0; have hfz29_1 := blk_frozen BK330.out 1))
       go_roundg k1
       case measure => have := HK1.out; omega
       case rel => exact ⟨(wrap64 (x19_1 + 1)), (t333), (t334), (by first | rfl | (simp; done) | (simp [*]; done) | (simp only [i64_w]; done) | (simp [i64_w]; done)), H', ⟨by have := HK1.out; omega⟩, ⟨by (with_reducible repeat (first | refine blk_drewN ?_ _ | refine blk_drew ?_ | refine blk_alloc ?_ _)); refine blk_far ?_ NB325_330.out _; (with_reducible repeat (first | refine blk_drewN ?_ _ | refine blk_drew ?_ | refine blk_alloc ?_ _)); refine blk_far ?_ NB325_330.out _; (with_reducible repeat (first | refine blk_drewN ?_ _ | refine blk_drew ?_ | refine blk_alloc ?_ _)); exact BK325.out⟩, ⟨by (with_reducible repeat (first | refine blk_drewN ?_ _ | refine blk_drew ?_ | refine blk_alloc ?_ _)); refine blk_far ?_ NB326_330.out _; (with_reducible repeat (first | refine blk_drewN ?_ _ | refine blk_drew ?_ | refine blk_alloc ?_ _)); refine blk_far ?_ NB326_330.out _; (with_reducible repeat (first | refine blk_drewN ?_ _ | refine blk_drew ?_ | refine blk_alloc ?_ _)); exact BK326.out⟩, ⟨by (with_reducible repeat (first | refine blk_drewN ?_ _ | refine blk_drew ?_ | refine blk_alloc ?_ _)); refine blk_put (cs := #[.int .i64 t333, .int .i64 x331001_1]) ?_ 1 _ rfl; (with_reducible repeat (first | refine blk_drewN ?_ _ | refine blk_drew ?_ | refine blk_alloc ?_ _)); refine blk_put (cs := #[.int .i64 x331000_1, .int .i64 x331001_1]) ?_ 0 _ rfl; (with_reducible repeat (first | refine blk_drewN ?_ _ | refine blk_drew ?_ | refine blk_alloc ?_ _)); exact BK330.out⟩, ⟨by repeat (first | (with_reducible first | exact HB.out | apply below_alloc | apply pw_below_drewN | apply below_drew1 | refine below_set ?_ GE325.out | refine below_set ?_ GE326.out | refine below_set ?_ GE330.out | refine below_set ?_ GE332.out) | exact HB.out)⟩⟩
      ·
       rw [if_neg c17] at H
       exact absurd H (by simp)
     ·
      rw [if_neg c16] at H
      exact absurd H (by simp)
    ·
     rw [if_neg c15] at H
     have c15b0 : decide (x19_1 < (l1_0.length : Int)) = false := decide_eq_false c15
     clear c15
     have H' := aS H
     clear H
     have hnb30 := NB325_326.out
     have hnc30 := NB326_325.out
     have hnb31 := NB325_330.out
     have hnc31 := NB330_325.out
     have hcz32_0 : wr.cell? ⟨gb325, 0, none⟩ = some (.slice (some ad327) l1_0.length c1_0) := (blk_cell BK325.out 0).trans rfl
     have hcz32_1 : wr.cell? ⟨gb325, 1, none⟩ = some (.slice A1_1 l1_1.length c1_1) := (blk_cell BK325.out 1).trans rfl
     have hfz32_0 := blk_frozen BK325.out 0
     have hfz32_1 := blk_frozen BK325.out 1
     go_wp2
     go_loopg [33] k1 (fun kq v33 w' => ∃ (x33_2 : Int) (x331000_2 : Int) (x331001_2 : Int), v33 = .int .i64 x33_2 ∧ Aside0 (impl_lineStrength.l1 kq l0 (l1_1.length : Int) x33_2 l1_0 l1_1 x331000_2 x331001_2 = some (r1, r2)) ∧ Aside0 (kq ≤ k1) ∧ Aside0 (w'.heap[gb325]? = some (.cells #[(.slice (some ad327) l1_0.length c1_0), (.slice A1_1 l1_1.length c1_1)] 37 (0, 0))) ∧ Aside0 (w'.heap[gb326]? = some (.cells #[.int .i64 0, .int .i64 0] 51 (0, 0))) ∧ Aside0 (w'.heap[gb330]? = some (.cells #[.int .i64 x331000_2, .int .i64 x331001_2] 51 (0, 0))) ∧ Aside0 (Below w.heap.size w w'))
     case atStart => exact ⟨(0), (x331000_1), (x331001_1), (by first | rfl | (simp; done) | (simp [*]; done) | (simp only [i64_w]; done) | (simp [i64_w]; done)), H', ⟨Nat.le_refl _⟩, ⟨by (with_reducible repeat (first | refine blk_drewN ?_ _ | refine blk_drew ?_ | refine blk_alloc ?_ _)); exact BK325.out⟩, ⟨by (with_reducible repeat (first | refine blk_drewN ?_ _ | refine blk_drew ?_ | refine blk_alloc ?_ _)); exact BK326.out⟩, ⟨by (with_reducible repeat (first | refine blk_drewN ?_ _ | refine blk_drew ?_ | refine blk_alloc ?_ _)); exact BK330.out⟩, ⟨by repeat (first | (with_reducible first | exact HB.out | apply below_alloc | apply pw_below_drewN | apply below_drew1 | refine below_set ?_ GE325.out | refine below_set ?_ GE326.out | refine below_set ?_ GE330.out) | exact HB.out)⟩⟩
     case round =>
      clear H'
      (try clear c1); (try clear c2); (try clear p2); (try clear c3); (try clear c3b0); (try clear c3b1); (try clear p3); (try clear q3); (try clear hx3); (try clear qi3); (try clear p6); (try clear c7); (try clear c8); (try clear c11); (try clear c12); (try clear c15); (try clear c15b0); (try clear c16); (try clear c16b0); (try clear c17); (try clear c17b0); (try clear c21); (try clear c22); (try clear c23); (try clear c25); (try clear c26); (try clear c30); (try clear c31); (try clear p32); (try clear q32); (try clear hx32); (try clear qi32); (try clear hcz13_0); (try clear hcz13_1); (try clear hcz14_0); (try clear hcz14_1); (try clear hcz24_0); (try clear hcz24_1); (try clear hcz27_0); (try clear hcz27_1); (try clear hcz29_0); (try clear hcz29_1); (try clear hcz32_0); (try clear hcz32_1); (try clear hcz8_0); (try clear hcz8_1); (try clear hfz13_0); (try clear hfz13_1); (try clear hfz14_0); (try clear hfz14_1); (try clear hfz24_0); (try clear hfz24_1); (try clear hfz27_0); (try clear hfz27_1); (try clear hfz29_0); (try clear hfz29_1); (try clear hfz32_0); (try clear hfz32_1); (try clear hfz8_0); (try clear hfz8_1); (try clear hx327_0); (try clear hx327_1); (try clear hx331_0); (try clear hx331_1); (try clear p2); (try clear p3); (try clear p327); (try clear p331); (try clear q3); (try clear q327); (try clear q331)
      obtain ⟨x33_2, x331000_2, x331001_2, rfl, HA, HK2, BK325, BK326, BK330, HB⟩ := hrel
      cases gk with
      | zero => exact absurd HA.out (by simp [impl_lineStrength.l1])
      | succ k2 =>
       have H := HA.out
       clear HA
       simp only [impl_lineStrength.l1] at H
       by_cases c33 : x33_2 < (l1_1.length : Int)
       ·
        rw [if_pos c33] at H
        have c33b0 : decide (x33_2 < (l1_1.length : Int)) = true := decide_eq_true c33
        clear c33
        replace H := Option.bind_eq_some_iff.mp H
        obtain ⟨⟨t335, t336⟩, A340, H⟩ := H
        replace H : ((impl_compareFractions.f k2 t335 t336 x331000_2 x331001_2).bind fun t338 => (if t338 < 0 then (impl_lineStrength.l1 k2 l0 (l1_1.length : Int) (wrap64 (x33_2 + 1)) l1_0 l1_1 t335 t336) else (impl_lineStrength.l1 k2 l0 (l1_1.length : Int) (wrap64 (x33_2 + 1)) l1_0 l1_1 x331000_2 x331001_2))) = some (r1, r2) := H
        have A34 := aS A340
        clear A340
        replace H := Option.bind_eq_some_iff.mp H
        obtain ⟨t338, A350, H⟩ := H
        replace H : (if t338 < 0 then (impl_lineStrength.l1 k2 l0 (l1_1.length : Int) (wrap64 (x33_2 + 1)) l1_0 l1_1 t335 t336) else (impl_lineStrength.l1 k2 l0 (l1_1.length : Int) (wrap64 (x33_2 + 1)) l1_0 l1_1 x331000_2 x331001_2)) = some (r1, r2) := H
        have A35 := aS A350
        clear A350
        by_cases c36 : t338 < 0
        ·
         rw [if_pos c36] at H
         have c36b0 : decide (t338 < 0) = true := decide_eq_true c36
         clear c36
         have H' := aS H
         clear H
         have hnb37 := NB325_326.out
         have hnc37 := NB326_325.out
         have hnb38 := NB325_330.out
         have hnc38 := NB330_325.out
         have hcz39_0 : wr.cell? ⟨gb325, 0, none⟩ = some (.slice (some ad327) l1_0.length c1_0) := (blk_cell BK325.out 0).trans rfl
         have hcz39_1 : wr.cell? ⟨gb325, 1, none⟩ = some (.slice A1_1 l1_1.length c1_1) := (blk_cell BK325.out 1).trans rfl
         have hfz39_0 := blk_frozen BK325.out 0
         have hfz39_1 := blk_frozen BK325.out 1
         go_wp2_with (first | ((with_reducible refine gate_callee (f := 72) rfl ?_); refine goesL_ (some 39) rfl rfl Try.func72 (by kernel_rfl) rfl #[.slice A0 l0.length c0, .agg #[.slice (some ad327) l1_0.length c1_0, .slice A1_1 l1_1.length c1_1], .int .i64 x33_2] rfl sG ?_; (with_reducible refine (impl_strengthAt.calls k2 _ _ l0 _ _ l1_0 _ _ l1_1 x33_2 t335 t336 _ ?side1 ?side2 ?side3 ?side4 ?side5 ?side6 A34.out).mono ?_); (case side1 => exact sC (Kd.C_below HR0.out HB.out)); (case side2 => exact HC0.out); (case side3 => exact sC (Kd.C_below HR1_0.out HB.out)); (case side4 => exact HC1_0.out); (case side5 => exact sC (Kd.C_below HR1_1.out HB.out)); (case side6 => exact HC1_1.out); rintro e w40 ⟨rfl, hb⟩; refine ⟨_, rfl, ?_⟩; have n0_ := aS (blk_below (g := gb325) (o := .cells #[.slice (some ad327) l1_0.length c1_0, .slice A1_1 l1_1.length c1_1] 37 (0, 0)) (sB BK325.out) hb); have n1_ := aS (blk_below (g := gb326) (o := .cells #[.int .i64 0, .int .i64 0] 51 (0, 0)) (sB BK326.out) hb); have n2_ := aS (blk_below (g := gb330) (o := .cells #[.int .i64 x331000_2, .int .i64 x331001_2] 51 (0, 0)) (sB BK330.out) hb); have n3_ := aS (below_step (sW HB.out) hb); clear BK325 BK326 BK330 HB; have BK325 := n0_; have BK326 := n1_; have BK330 := n2_; have HB := n3_; clear n0_ n1_ n2_ n3_; (try clear hb); (try clear hb2); (try clear hk); (try clear hi)) | ((with_reducible refine gate_dst (N := 9) rfl ?_); refine box_event ?hg (N := 9) ?hd (cs := #[.int .i64 0, .int .i64 0]) (t := 51) ?hr ?_; (case hd => rfl); (case hg => rfl); (case hr => first | (go_simp; done) | (go_simp; rfl)); intro gb337 hg w41 hbox hb; have n0_ := aS (blk_below (g := gb325) (o := .cells #[.slice (some ad327) l1_0.length c1_0, .slice A1_1 l1_1.length c1_1] 37 (0, 0)) (sB BK325.out) hb); have n1_ := aS (blk_below (g := gb326) (o := .cells #[.int .i64 0, .int .i64 0] 51 (0, 0)) (sB BK326.out) hb); have n2_ := aS (blk_below (g := gb330) (o := .cells #[.int .i64 x331000_2, .int .i64 x331001_2] 51 (0, 0)) (sB BK330.out) hb); have n3_ := aS (below_step (sW HB.out) hb); have n4_ := aS (hbox); have n5_ := aS ((by rw [hg]; exact (below_size (sW HB.out)) : w.heap.size ≤ gb337)); have n6_ := aS ((by rw [hg]; exact (below_size (sW HB.out)) : w.heap.size ≤ gb337)); have n7_ := aS ((by rw [hg]; exact Nat.ne_of_lt (blk_lt (g := gb325) (o := .cells #[.slice (some ad327) l1_0.length c1_0, .slice A1_1 l1_1.length c1_1] 37 (0, 0)) (sB BK325.out)) : gb325 ≠ gb337)); have n8_ := aS ((by rw [hg]; exact Nat.ne_of_gt (blk_lt (g := gb325) (o := .cells #[.slice (some ad327) l1_0.length c1_0, .slice A1_1 l1_1.length c1_1] 37 (0, 0)) (sB BK325.out)) : gb337 ≠ gb325)); have n9_ := aS ((by rw [hg]; exact Nat.ne_of_lt (blk_lt (g := gb326) (o := .cells #[.int .i64 0, .int .i64 0] 51 (0, 0)) (sB BK326.out)) : gb326 ≠ gb337)); have n10_ := aS ((by rw [hg]; exact Nat.ne_of_gt (blk_lt (g := gb326) (o := .cells #[.int .i64 0, .int .i64 0] 51 (0, 0)) (sB BK326.out)) : gb337 ≠ gb326)); have n11_ := aS ((by rw [hg]; exact Nat.ne_of_lt (blk_lt (g := gb330) (o := .cells #[.int .i64 x331000_2, .int .i64 x331001_2] 51 (0, 0)) (sB BK330.out)) : gb330 ≠ gb337)); have n12_ := aS ((by rw [hg]; exact Nat.ne_of_gt (blk_lt (g := gb330) (o := .cells #[.int .i64 x331000_2, .int .i64 x331001_2] 51 (0, 0)) (sB BK330.out)) : gb337 ≠ gb330)); clear BK325 BK326 BK330 HB; have BK325 := n0_; have BK326 := n1_; have BK330 := n2_; have HB := n3_; have BK337 := n4_; have GW337 := n5_; have GE337 := n6_; have NB325_337 := n7_; have NB337_325 := n8_; have NB326_337 := n9_; have NB337_326 := n10_; have NB330_337 := n11_; have NB337_330 := n12_; clear n0_ n1_ n2_ n3_ n4_ n5_ n6_ n7_ n8_ n9_ n10_ n11_ n12_; clear hb hbox hg; have hnb42 := NB337_325.out; have hnc42 := NB325_337.out; have hnb43 := NB337_326.out; have hnc43 := NB326_337.out; have hnb44 := NB337_330.out; have hnc44 := NB330_337.out; have hcz45_0 : w41.cell? ⟨gb337, 0, none⟩ = some (.int .i64 0) := (blk_cell BK337.out 0).trans rfl; have hcz45_1 : w41.cell? ⟨gb337, 1, none⟩ = some (.int .i64 0) := (blk_cell BK337.out 1).trans rfl; have hfz45_0 := blk_frozen BK337.out 0; have hfz45_1 := blk_frozen BK337.out 1; have hnb46 := NB330_326.out; have hnc46 := NB326_330.out; have hcz47_0 : w41.cell? ⟨gb330, 0, none⟩ = some (.int .i64 x331000_2) := (blk_cell BK330.out 0).trans rfl; have hcz47_1 : w41.cell? ⟨gb330, 1, none⟩ = some (.int .i64 x331001_2) := (blk_cell BK330.out 1).trans rfl; have hfz47_0 := blk_frozen BK330.out 0; have hfz47_1 := blk_frozen BK330.out 1) | ((with_reducible refine gate_callee (f := 92) rfl ?_); refine goesL_ (some 42) rfl rfl Try.func92 (by kernel_rfl) rfl #[.agg #[.int .i64 t335, .int .i64 t336], .agg #[.int .i64 x331000_2, .int .i64 x331001_2]] rfl sG ?_; (with_reducible refine (impl_compareFractions.calls k2 t335 t336 x331000_2 x331001_2 t338 _ A35.out).mono ?_); rintro e w48 ⟨rfl, hb⟩; refine ⟨_, rfl, ?_⟩; have n0_ := aS (blk_below (g := gb325) (o := .cells #[.slice (some ad327) l1_0.length c1_0, .slice A1_1 l1_1.length c1_1] 37 (0, 0)) (by (with_reducible repeat (first | refine blk_drewN ?_ _ | refine blk_drew ?_ | refine blk_alloc ?_ _)); refine blk_far ?_ NB325_337.out _; (with_reducible repeat (first | refine blk_drewN ?_ _ | refine blk_drew ?_ | refine blk_alloc ?_ _)); refine blk_far ?_ NB325_337.out _; (with_reducible repeat (first | refine blk_drewN ?_ _ | refine blk_drew ?_ | refine blk_alloc ?_ _)); exact BK325.out) hb); have n1_ := aS (blk_below (g := gb326) (o := .cells #[.int .i64 0, .int .i64 0] 51 (0, 0)) (by (with_reducible repeat (first | refine blk_drewN ?_ _ | refine blk_drew ?_ | refine blk_alloc ?_ _)); refine blk_far ?_ NB326_337.out _; (with_reducible repeat (first | refine blk_drewN ?_ _ | refine blk_drew ?_ | refine blk_alloc ?_ _)); refine blk_far ?_ NB326_337.out _; (with_reducible repeat (first | refine blk_drewN ?_ _ | refine blk_drew ?_ | refine blk_alloc ?_ _)); exact BK326.out) hb); have n2_ := aS (blk_below (g := gb330) (o := .cells #[.int .i64 x331000_2, .int .i64 x331001_2] 51 (0, 0)) (by (with_reducible repeat (first | refine blk_drewN ?_ _ | refine blk_drew ?_ | refine blk_alloc ?_ _)); refine blk_far ?_ NB330_337.out _; (with_reducible repeat (first | refine blk_drewN ?_ _ | refine blk_drew ?_ | refine blk_alloc ?_ _)); refine blk_far ?_ NB330_337.out _; (with_reducible repeat (first | refine blk_drewN ?_ _ | refine blk_drew ?_ | refine blk_alloc ?_ _)); exact BK330.out) hb); have n3_ := aS (blk_below (g := gb337) (o := .cells #[.int .i64 t335, .int .i64 t336] 51 (0, 0)) (by (with_reducible repeat (first | refine blk_drewN ?_ _ | refine blk_drew ?_ | refine blk_alloc ?_ _)); refine blk_put (cs := #[.int .i64 t335, .int .i64 0]) ?_ 1 _ rfl; (with_reducible repeat (first | refine blk_drewN ?_ _ | refine blk_drew ?_ | refine blk_alloc ?_ _)); refine blk_put (cs := #[.int .i64 0, .int .i64 0]) ?_ 0 _ rfl; (with_reducible repeat (first | refine blk_drewN ?_ _ | refine blk_drew ?_ | refine blk_alloc ?_ _)); exact BK337.out) hb); have n4_ := aS (below_step (sW HB.out) hb); clear BK325 BK326 BK330 BK337 HB; have BK325 := n0_; have BK326 := n1_; have BK330 := n2_; have BK337 := n3_; have HB := n4_; clear n0_ n1_ n2_ n3_ n4_; (try clear hb); (try clear hb2); (try clear hk); (try clear hi); have hcz49_0 : w48.cell? ⟨gb337, 0, none⟩ = some (.int .i64 t335) := (blk_cell BK337.out 0).trans rfl; have hcz49_1 : w48.cell? ⟨gb337, 1, none⟩ = some (.int .i64 t336) := (blk_cell BK337.out 1).trans rfl; have hfz49_0 := blk_frozen BK337.out 0; have hfz49_1 := blk_frozen BK337.out 1; have hcz50_0 : w48.cell? ⟨gb330, 0, none⟩ = some (.int .i64 x331000_2) := (blk_cell BK330.out 0).trans rfl; have hcz50_1 : w48.cell? ⟨gb330, 1, none⟩ = some (.int .i64 x331001_2) := (blk_cell BK330.out 1).trans rfl; have hfz50_0 := blk_frozen BK330.out 0; have hfz50_1 := blk_frozen BK330.out 1))
         go_roundg k2
         case measure => have := HK1.out; have := HK2.out; omega
         case rel => exact ⟨(wrap64 (x33_2 + 1)), (t335), (t336), (by first | rfl | (simp; done) | (simp [*]; done) | (simp only [i64_w]; done) | (simp [i64_w]; done)), H', ⟨by have := HK1.out; have := HK2.out; omega⟩, ⟨by (with_reducible repeat (first | refine blk_drewN ?_ _ | refine blk_drew ?_ | refine blk_alloc ?_ _)); refine blk_far ?_ NB325_330.out _; (with_reducible repeat (first | refine blk_drewN ?_ _ | refine blk_drew ?_ | refine blk_alloc ?_ _)); refine blk_far ?_ NB325_330.out _; (with_reducible repeat (first | refine blk_drewN ?_ _ | refine blk_drew ?_ | refine blk_alloc ?_ _)); exact BK325.out⟩, ⟨by (with_reducible repeat (first | refine blk_drewN ?_ _ | refine blk_drew ?_ | refine blk_alloc ?_ _)); refine blk_far ?_ NB326_330.out _; (with_reducible repeat (first | refine blk_drewN ?_ _ | refine blk_drew ?_ | refine blk_alloc ?_ _)); refine blk_far ?_ NB326_330.out _; (with_reducible repeat (first | refine blk_drewN ?_ _ | refine blk_drew ?_ | refine blk_alloc ?_ _)); exact BK326.out⟩, ⟨by (with_reducible repeat (first | refine blk_drewN ?_ _ | refine blk_drew ?_ | refine blk_alloc ?_ _)); refine blk_put (cs := #[.int .i64 t335, .int .i64 x331001_2]) ?_ 1 _ rfl; (with_reducible repeat (first | refine blk_drewN ?_ _ | refine blk_drew ?_ | refine blk_alloc ?_ _)); refine blk_put (cs := #[.int .i64 x331000_2, .int .i64 x331001_2]) ?_ 0 _ rfl; (with_reducible repeat (first | refine blk_drewN ?_ _ | refine blk_drew ?_ | refine blk_alloc ?_ _)); exact BK330.out⟩, ⟨by repeat (first | (with_reducible first | exact HB.out | apply below_alloc | apply pw_below_drewN | apply below_drew1 | refine below_set ?_ GE325.out | refine below_set ?_ GE326.out | refine below_set ?_ GE330.out | refine below_set ?_ GE337.out) | exact HB.out)⟩⟩
        ·
         rw [if_neg c36] at H
         have c36b0 : decide (t338 < 0) = false := decide_eq_false c36
         clear c36
         have H' := aS H
         clear H
         have hnb51 := NB325_326.out
         have hnc51 := NB326_325.out
         have hnb52 := NB325_330.out
         have hnc52 := NB330_325.out
         have hcz53_0 : wr.cell? ⟨gb325, 0, none⟩ = some (.slice (some ad327) l1_0.length c1_0) := (blk_cell BK325.out 0).trans rfl
         have hcz53_1 : wr.cell? ⟨gb325, 1, none⟩ = some (.slice A1_1 l1_1.length c1_1) := (blk_cell BK325.out 1).trans rfl
         have hfz53_0 := blk_frozen BK325.out 0
         have hfz53_1 := blk_frozen BK325.out 1
         go_wp2_with (first | ((with_reducible refine gate_callee (f := 72) rfl ?_); refine goesL_ (some 39) rfl rfl Try.func72 (by kernel_rfl) rfl #[.slice A0 l0.length c0, .agg #[.slice (some ad327) l1_0.length c1_0, .slice A1_1 l1_1.length c1_1], .int .i64 x33_2] rfl sG ?_; (with_reducible refine (impl_strengthAt.calls k2 _ _ l0 _ _ l1_0 _ _ l1_1 x33_2 t335 t336 _ ?side1 ?side2 ?side3 ?side4 ?side5 ?side6 A34.out).mono ?_); (case side1 => exact sC (Kd.C_below HR0.out HB.out)); (case side2 => exact HC0.out); (case side3 => exact sC (Kd.C_below HR1_0.out HB.out)); (case side4 => exact HC1_0.out); (case side5 => exact sC (Kd.C_below HR1_1.out HB.out)); (case side6 => exact HC1_1.out); rintro e w54 ⟨rfl, hb⟩; refine ⟨_, rfl, ?_⟩; have n0_ := aS (blk_below (g := gb325) (o := .cells #[.slice (some ad327) l1_0.length c1_0, .slice A1_1 l1_1.length c1_1] 37 (0, 0)) (sB BK325.out) hb); have n1_ := aS (blk_below (g := gb326) (o := .cells #[.int .i64 0, .int .i64 0] 51 (0, 0)) (sB BK326.out) hb); have n2_ := aS (blk_below (g := gb330) (o := .cells #[.int .i64 x331000_2, .int .i64 x331001_2] 51 (0, 0)) (sB BK330.out) hb); have n3_ := aS (below_step (sW HB.out) hb); clear BK325 BK326 BK330 HB; have BK325 := n0_; have BK326 := n1_; have BK330 := n2_; have HB := n3_; clear n0_ n1_ n2_ n3_; (try clear hb); (try clear hb2); (try clear hk); (try clear hi)) | ((with_reducible refine gate_dst (N := 9) rfl ?_); refine box_event ?hg (N := 9) ?hd (cs := #[.int .i64 0, .int .i64 0]) (t := 51) ?hr ?_; (case hd => rfl); (case hg => rfl); (case hr => first | (go_simp; done) | (go_simp; rfl)); intro gb337 hg w55 hbox hb; have n0_ := aS (blk_below (g := gb325) (o := .cells #[.slice (some ad327) l1_0.length c1_0, .slice A1_1 l1_1.length c1_1] 37 (0, 0)) (sB BK325.out) hb); have n1_ := aS (blk_below (g := gb326) (o := .cells #[.int .i64 0, .int .i64 0] 51 (0, 0)) (sB BK326.out) hb); have n2_ := aS (blk_below (g := gb330) (o := .cells #[.int .i64 x331000_2, .int .i64 x331001_2] 51 (0, 0)) (sB BK330.out) hb); have n3_ := aS (below_step (sW HB.out) hb); have n4_ := aS (hbox); have n5_ := aS ((by rw [hg]; exact (below_size (sW HB.out)) : w.heap.size ≤ gb337)); have n6_ := aS ((by rw [hg]; exact (below_size (sW HB.out)) : w.heap.size ≤ gb337)); have n7_ := aS ((by rw [hg]; exact Nat.ne_of_lt (blk_lt (g := gb325) (o := .cells #[.slice (some ad327) l1_0.length c1_0, .slice A1_1 l1_1.length c1_1] 37 (0, 0)) (sB BK325.out)) : gb325 ≠ gb337)); have n8_ := aS ((by rw [hg]; exact Nat.ne_of_gt (blk_lt (g := gb325) (o := .cells #[.slice (some ad327) l1_0.length c1_0, .slice A1_1 l1_1.length c1_1] 37 (0, 0)) (sB BK325.out)) : gb337 ≠ gb325)); have n9_ := aS ((by rw [hg]; exact Nat.ne_of_lt (blk_lt (g := gb326) (o := .cells #[.int .i64 0, .int .i64 0] 51 (0, 0)) (sB BK326.out)) : gb326 ≠ gb337)); have n10_ := aS ((by rw [hg]; exact Nat.ne_of_gt (blk_lt (g := gb326) (o := .cells #[.int .i64 0, .int .i64 0] 51 (0, 0)) (sB BK326.out)) : gb337 ≠ gb326)); have n11_ := aS ((by rw [hg]; exact Nat.ne_of_lt (blk_lt (g := gb330) (o := .cells #[.int .i64 x331000_2, .int .i64 x331001_2] 51 (0, 0)) (sB BK330.out)) : gb330 ≠ gb337)); have n12_ := aS ((by rw [hg]; exact Nat.ne_of_gt (blk_lt (g := gb330) (o := .cells #[.int .i64 x331000_2, .int .i64 x331001_2] 51 (0, 0)) (sB BK330.out)) : gb337 ≠ gb330)); clear BK325 BK326 BK330 HB; have BK325 := n0_; have BK326 := n1_; have BK330 := n2_; have HB := n3_; have BK337 := n4_; have GW337 := n5_; have GE337 := n6_; have NB325_337 := n7_; have NB337_325 := n8_; have NB326_337 := n9_; have NB337_326 := n10_; have NB330_337 := n11_; have NB337_330 := n12_; clear n0_ n1_ n2_ n3_ n4_ n5_ n6_ n7_ n8_ n9_ n10_ n11_ n12_; clear hb hbox hg; have hnb56 := NB337_325.out; have hnc56 := NB325_337.out; have hnb57 := NB337_326.out; have hnc57 := NB326_337.out; have hnb58 := NB337_330.out; have hnc58 := NB330_337.out; have hcz59_0 : w55.cell? ⟨gb337, 0, none⟩ = some (.int .i64 0) := (blk_cell BK337.out 0).trans rfl; have hcz59_1 : w55.cell? ⟨gb337, 1, none⟩ = some (.int .i64 0) := (blk_cell BK337.out 1).trans rfl; have hfz59_0 := blk_frozen BK337.out 0; have hfz59_1 := blk_frozen BK337.out 1; have hnb60 := NB330_326.out; have hnc60 := NB326_330.out; have hcz61_0 : w55.cell? ⟨gb330, 0, none⟩ = some (.int .i64 x331000_2) := (blk_cell BK330.out 0).trans rfl; have hcz61_1 : w55.cell? ⟨gb330, 1, none⟩ = some (.int .i64 x331001_2) := (blk_cell BK330.out 1).trans rfl; have hfz61_0 := blk_frozen BK330.out 0; have hfz61_1 := blk_frozen BK330.out 1) | ((with_reducible refine gate_callee (f := 92) rfl ?_); refine goesL_ (some 42) rfl rfl Try.func92 (by kernel_rfl) rfl #[.agg #[.int .i64 t335, .int .i64 t336], .agg #[.int .i64 x331000_2, .int .i64 x331001_2]] rfl sG ?_; (with_reducible refine (impl_compareFractions.calls k2 t335 t336 x331000_2 x331001_2 t338 _ A35.out).mono ?_); rintro e w62 ⟨rfl, hb⟩; refine ⟨_, rfl, ?_⟩; have n0_ := aS (blk_below (g := gb325) (o := .cells #[.slice (some ad327) l1_0.length c1_0, .slice A1_1 l1_1.length c1_1] 37 (0, 0)) (by (with_reducible repeat (first | refine blk_drewN ?_ _ | refine blk_drew ?_ | refine blk_alloc ?_ _)); refine blk_far ?_ NB325_337.out _; (with_reducible repeat (first | refine blk_drewN ?_ _ | refine blk_drew ?_ | refine blk_alloc ?_ _)); refine blk_far ?_ NB325_337.out _; (with_reducible repeat (first | refine blk_drewN ?_ _ | refine blk_drew ?_ | refine blk_alloc ?_ _)); exact BK325.out) hb); have n1_ := aS (blk_below (g := gb326) (o := .cells #[.int .i64 0, .int .i64 0] 51 (0, 0)) (by (with_reducible repeat (first | refine blk_drewN ?_ _ | refine blk_drew ?_ | refine blk_alloc ?_ _)); refine blk_far ?_ NB326_337.out _; (with_reducible repeat (first | refine blk_drewN ?_ _ | refine blk_drew ?_ | refine blk_alloc ?_ _)); refine blk_far ?_ NB326_337.out _; (with_reducible repeat (first | refine blk_drewN ?_ _ | refine blk_drew ?_ | refine blk_alloc ?_ _)); exact BK326.out) hb); have n2_ := aS (blk_below (g := gb330) (o := .cells #[.int .i64 x331000_2, .int .i64 x331001_2] 51 (0, 0)) (by (with_reducible repeat (first | refine blk_drewN ?_ _ | refine blk_drew ?_ | refine blk_alloc ?_ _)); refine blk_far ?_ NB330_337.out _; (with_reducible repeat (first | refine blk_drewN ?_ _ | refine blk_drew ?_ | refine blk_alloc ?_ _)); refine blk_far ?_ NB330_337.out _; (with_reducible repeat (first | refine blk_drewN ?_ _ | refine blk_drew ?_ | refine blk_alloc ?_ _)); exact BK330.out) hb); have n3_ := aS (blk_below (g := gb337) (o := .cells #[.int .i64 t335, .int .i64 t336] 51 (0, 0)) (by (with_reducible repeat (first | refine blk_drewN ?_ _ | refine blk_drew ?_ | refine blk_alloc ?_ _)); refine blk_put (cs := #[.int .i64 t335, .int .i64 0]) ?_ 1 _ rfl; (with_reducible repeat (first | refine blk_drewN ?_ _ | refine blk_drew ?_ | refine blk_alloc ?_ _)); refine blk_put (cs := #[.int .i64 0, .int .i64 0]) ?_ 0 _ rfl; (with_reducible repeat (first | refine blk_drewN ?_ _ | refine blk_drew ?_ | refine blk_alloc ?_ _)); exact BK337.out) hb); have n4_ := aS (below_step (sW HB.out) hb); clear BK325 BK326 BK330 BK337 HB; have BK325 := n0_; have BK326 := n1_; have BK330 := n2_; have BK337 := n3_; have HB := n4_; clear n0_ n1_ n2_ n3_ n4_; (try clear hb); (try clear hb2); (try clear hk); (try clear hi)))
         go_roundg k2
         case measure => have := HK1.out; have := HK2.out; omega
         case rel => exact ⟨(wrap64 (x33_2 + 1)), (x331000_2), (x331001_2), (by first | rfl | (simp; done) | (simp [*]; done) | (simp only [i64_w]; done) | (simp [i64_w]; done)), H', ⟨by have := HK1.out; have := HK2.out; omega⟩, ⟨by (with_reducible repeat (first | refine blk_drewN ?_ _ | refine blk_drew ?_ | refine blk_alloc ?_ _)); exact BK325.out⟩, ⟨by (with_reducible repeat (first | refine blk_drewN ?_ _ | refine blk_drew ?_ | refine blk_alloc ?_ _)); exact BK326.out⟩, ⟨by (with_reducible repeat (first | refine blk_drewN ?_ _ | refine blk_drew ?_ | refine blk_alloc ?_ _)); exact BK330.out⟩, ⟨by repeat (first | (with_reducible first | exact HB.out | apply below_alloc | apply pw_below_drewN | apply below_drew1 | refine below_set ?_ GE325.out | refine below_set ?_ GE326.out | refine below_set ?_ GE330.out | refine below_set ?_ GE337.out) | exact HB.out)⟩⟩
       ·
        rw [if_neg c33] at H
        have c33b0 : decide (x33_2 < (l1_1.length : Int)) = false := decide_eq_false c33
        clear c33
        simp only [Option.some.injEq, Prod.mk.injEq] at H
        obtain ⟨rfl, rfl⟩ := H
        have hnb63 := NB330_325.out
        have hnc63 := NB325_330.out
        have hnb64 := NB330_326.out
        have hnc64 := NB326_330.out
        have hcz65_0 : wr.cell? ⟨gb330, 0, none⟩ = some (.int .i64 x331000_2) := (blk_cell BK330.out 0).trans rfl
        have hcz65_1 : wr.cell? ⟨gb330, 1, none⟩ = some (.int .i64 x331001_2) := (blk_cell BK330.out 1).trans rfl
        have hfz65_0 := blk_frozen BK330.out 0
        have hfz65_1 := blk_frozen BK330.out 1
        have hnb66 := NB326_325.out
        have hnc66 := NB325_326.out
        have hcz67_0 : wr.cell? ⟨gb326, 0, none⟩ = some (.int .i64 0) := (blk_cell BK326.out 0).trans rfl
        have hcz67_1 : wr.cell? ⟨gb326, 1, none⟩ = some (.int .i64 0) := (blk_cell BK326.out 1).trans rfl
        have hfz67_0 := blk_frozen BK326.out 0
        have hfz67_1 := blk_frozen BK326.out 1
        go_wp2
        refine bodyPost_ret (results_cell_row rfl _ _ gb326 51 #[.int .i64 x331000_2, .int .i64 x331001_2] (0, 0) _ rfl (by (with_reducible repeat (first | refine blk_drewN ?_ _ | refine blk_drew ?_ | refine blk_alloc ?_ _)); refine blk_put (cs := #[.int .i64 x331000_2, .int .i64 0]) ?_ 1 _ rfl; (with_reducible repeat (first | refine blk_drewN ?_ _ | refine blk_drew ?_ | refine blk_alloc ?_ _)); refine blk_put (cs := #[.int .i64 0, .int .i64 0]) ?_ 0 _ rfl; (with_reducible repeat (first | refine blk_drewN ?_ _ | refine blk_drew ?_ | refine blk_alloc ?_ _)); exact BK326.out) Try.underlying51 rfl (by kernel_rfl)) rfl ?_
        exact ⟨by first | rfl | (simp [errW_none, errW_some, i64_w]; done) | (simp [errW_none, errW_some] <;> rfl) | (simp [*, errW_none, errW_some] <;> rfl), by repeat (first | (with_reducible first | exact HB.out | apply below_alloc | apply pw_below_drewN | apply below_drew1 | refine below_set ?_ GE325.out | refine below_set ?_ GE326.out | refine below_set ?_ GE330.out) | exact HB.out)⟩
 ·
  rw [if_neg c3] at H
  exact absurd H (by simp)

/-! ### impl_LineStrength: function 43 -/
def impl_LineStrength.f (k : Nat) (l0 : List (S68)) (l1_0 : List (S44)) (l1_1 : List Int) : Option (Int × Int × Int) := (impl_ValidJoins.f k l0).bind fun t341 => (if t341 = true then ((impl_validLine.f k l0 l1_0 l1_1).bind fun t342 => (if t342 = true then ((impl_lineStrength.f k l0 l1_0 l1_1).bind fun bt343 => (some (bt343.1, bt343.2, 0))) else (some (0, 0, 1)))) else (some (0, 0, 1)))
theorem impl_LineStrength.mono : ∀ a0 a1 a2 k, LeO (impl_LineStrength.f k a0 a1 a2) (impl_LineStrength.f (k + 1) a0 a1 a2) := by
 intro a0 a1 a2 k
 unfold impl_LineStrength.f
 repeat' first
   | (with_reducible exact impl_ValidJoins.mono _ _)
   | (with_reducible exact impl_lineStrength.mono _ _ _ _)
   | (with_reducible exact impl_validLine.mono _ _ _ _)
   | (with_reducible exact LeO.refl _)
   | (with_reducible exact LeO.none _)
   | (with_reducible refine LeO.ite ?_ ?_)
   | (with_reducible refine LeO.bind ?_ (fun _ => ?_))
   | exact impl_ValidJoins.mono _ _
   | exact impl_lineStrength.mono _ _ _ _
   | exact impl_validLine.mono _ _ _ _
   | exact LeO.none _
   | refine LeO.ite ?_ ?_
   | refine LeO.bind ?_ (fun _ => ?_)
set_option maxHeartbeats 8000000 in
set_option maxRecDepth 100000 in
theorem impl_LineStrength.calls (k : Nat) (A0 : Option Addr) (c0 : Nat) (l0 : List (S68)) (A1_0 : Option Addr) (c1_0 : Nat) (l1_0 : List (S44)) (A1_1 : Option Addr) (c1_1 : Nat) (l1_1 : List Int) (r1 : Int) (r2 : Int) (r3 : Int) (w : World) (hr0 : Kd.C k68 w A0 l0.length l0) (hc0 : l0.length ≤ c0) (hr1_0 : Kd.C k44 w A1_0 l1_0.length l1_0) (hc1_0 : l1_0.length ≤ c1_0) (hr1_1 : Kd.C (Kd.int .i64) w A1_1 l1_1.length l1_1) (hc1_1 : l1_1.length ≤ c1_1) (h : impl_LineStrength.f k l0 l1_0 l1_1 = some (r1, r2, r3)) :
  Calls Try.prog 43 #[.slice A0 l0.length c0, .agg #[.slice A1_0 l1_0.length c1_0, .slice A1_1 l1_1.length c1_1]] w fun e w' => e = .returned (.tuple #[.agg #[.int .i64 r1, .int .i64 r2], .int .i64 r3]) ∧ Below w.heap.size w w' := by
 have hu37 := Try.underlying37
 have hu51 := Try.underlying51
 have HR0 := aS hr0
 have HC0 := aS hc0
 clear hr0 hc0
 have HR1_0 := aS hr1_0
 have HC1_0 := aS hc1_0
 clear hr1_0 hc1_0
 have HR1_1 := aS hr1_1
 have HC1_1 := aS hc1_1
 clear hr1_1 hc1_1
 have HB := aS (Below.refl w.heap.size w)
 have H : ((impl_ValidJoins.f k l0).bind fun t341 => (if t341 = true then ((impl_validLine.f k l0 l1_0 l1_1).bind fun t342 => (if t342 = true then ((impl_lineStrength.f k l0 l1_0 l1_1).bind fun bt343 => (some (bt343.1, bt343.2, 0))) else (some (0, 0, 1)))) else (some (0, 0, 1)))) = some (r1, r2, r3) := h
 clear h
 replace H := Option.bind_eq_some_iff.mp H
 obtain ⟨t341, A30, H⟩ := H
 replace H : (if t341 = true then ((impl_validLine.f k l0 l1_0 l1_1).bind fun t342 => (if t342 = true then ((impl_lineStrength.f k l0 l1_0 l1_1).bind fun bt343 => (some (bt343.1, bt343.2, 0))) else (some (0, 0, 1)))) else (some (0, 0, 1))) = some (r1, r2, r3) := H
 have A3 := aS A30
 clear A30
 by_cases c4 : t341 = true
 ·
  subst c4
  have H1 : ((impl_validLine.f k l0 l1_0 l1_1).bind fun t342 => (if t342 = true then ((impl_lineStrength.f k l0 l1_0 l1_1).bind fun bt343 => (some (bt343.1, bt343.2, 0))) else (some (0, 0, 1)))) = some (r1, r2, r3) := by rw [if_pos rfl] at H; exact H
  clear H
  have H := H1
  clear H1
  replace H := Option.bind_eq_some_iff.mp H
  obtain ⟨t342, A50, H⟩ := H
  replace H : (if t342 = true then ((impl_lineStrength.f k l0 l1_0 l1_1).bind fun bt343 => (some (bt343.1, bt343.2, 0))) else (some (0, 0, 1))) = some (r1, r2, r3) := H
  have A5 := aS A50
  clear A50
  by_cases c6 : t342 = true
  ·
   subst c6
   have H1 : ((impl_lineStrength.f k l0 l1_0 l1_1).bind fun bt343 => (some (bt343.1, bt343.2, 0))) = some (r1, r2, r3) := by rw [if_pos rfl] at H; exact H
   clear H
   have H := H1
   clear H1
   replace H := Option.bind_eq_some_iff.mp H
   obtain ⟨⟨t343, t344⟩, A70, H⟩ := H
   replace H : (some (t343, t344, 0)) = some (r1, r2, r3) := H
   have A7 := aS A70
   clear A70
   simp only [Option.some.injEq, Prod.mk.injEq] at H
   obtain ⟨rfl, rfl, rfl⟩ := H
   go_enter Try.func43, Try.ntmps43
   go_wp2_with (first | ((with_reducible refine gate_dst (N := 3) rfl ?_); refine box_event ?hg (N := 3) ?hd (cs := #[.slice A1_0 l1_0.length c1_0, .slice A1_1 l1_1.length c1_1]) (t := 37) ?hr ?_; (case hd => rfl); (case hg => rfl); (case hr => first | (go_simp; done) | (go_simp; rfl)); intro gb339 hg w8 hbox hb; have n0_ := aS (below_step (sW HB.out) hb); have n1_ := aS (hbox); have n2_ := aS ((by rw [hg]; exact (below_size (sW HB.out)) : w.heap.size ≤ gb339)); have n3_ := aS ((by rw [hg]; exact (below_size (sW HB.out)) : w.heap.size ≤ gb339)); clear HB; have HB := n0_; have BK339 := n1_; have GW339 := n2_; have GE339 := n3_; clear n0_ n1_ n2_ n3_; clear hb hbox hg) | ((with_reducible refine gate_dst (N := 4) rfl ?_); refine box_event ?hg (N := 4) ?hd (cs := #[.int .i64 0, .int .i64 0]) (t := 51) ?hr ?_; (case hd => rfl); (case hg => rfl); (case hr => first | (go_simp; done) | (go_simp; rfl)); intro gb340 hg w9 hbox hb; have n0_ := aS (blk_below (g := gb339) (o := .cells #[.slice A1_0 l1_0.length c1_0, .slice A1_1 l1_1.length c1_1] 37 (0, 0)) (sB BK339.out) hb); have n1_ := aS (below_step (sW HB.out) hb); have n2_ := aS (hbox); have n3_ := aS ((by rw [hg]; exact (below_size (sW HB.out)) : w.heap.size ≤ gb340)); have n4_ := aS ((by rw [hg]; exact (below_size (sW HB.out)) : w.heap.size ≤ gb340)); have n5_ := aS ((by rw [hg]; exact Nat.ne_of_lt (blk_lt (g := gb339) (o := .cells #[.slice A1_0 l1_0.length c1_0, .slice A1_1 l1_1.length c1_1] 37 (0, 0)) (sB BK339.out)) : gb339 ≠ gb340)); have n6_ := aS ((by rw [hg]; exact Nat.ne_of_gt (blk_lt (g := gb339) (o := .cells #[.slice A1_0 l1_0.length c1_0, .slice A1_1 l1_1.length c1_1] 37 (0, 0)) (sB BK339.out)) : gb340 ≠ gb339)); clear BK339 HB; have BK339 := n0_; have HB := n1_; have BK340 := n2_; have GW340 := n3_; have GE340 := n4_; have NB339_340 := n5_; have NB340_339 := n6_; clear n0_ n1_ n2_ n3_ n4_ n5_ n6_; clear hb hbox hg) | ((with_reducible refine gate_callee (f := 16) rfl ?_); refine goesL_ (some 7) rfl rfl Try.func16 (by kernel_rfl) rfl #[.slice A0 l0.length c0] rfl sG ?_; (with_reducible refine (impl_ValidJoins.calls k _ _ l0 true _ ?side1 ?side2 A3.out).mono ?_); (case side1 => exact sC (Kd.C_below HR0.out HB.out)); (case side2 => exact HC0.out); rintro e w10 ⟨rfl, hb⟩; refine ⟨_, rfl, ?_⟩; have n0_ := aS (blk_below (g := gb339) (o := .cells #[.slice A1_0 l1_0.length c1_0, .slice A1_1 l1_1.length c1_1] 37 (0, 0)) (sB BK339.out) hb); have n1_ := aS (blk_below (g := gb340) (o := .cells #[.int .i64 0, .int .i64 0] 51 (0, 0)) (sB BK340.out) hb); have n2_ := aS (below_step (sW HB.out) hb); clear BK339 BK340 HB; have BK339 := n0_; have BK340 := n1_; have HB := n2_; clear n0_ n1_ n2_; (try clear hb); (try clear hb2); (try clear hk); (try clear hi); have hnb11 := NB339_340.out; have hnc11 := NB340_339.out; have hcz12_0 : w10.cell? ⟨gb339, 0, none⟩ = some (.slice A1_0 l1_0.length c1_0) := (blk_cell BK339.out 0).trans rfl; have hcz12_1 : w10.cell? ⟨gb339, 1, none⟩ = some (.slice A1_1 l1_1.length c1_1) := (blk_cell BK339.out 1).trans rfl; have hfz12_0 := blk_frozen BK339.out 0; have hfz12_1 := blk_frozen BK339.out 1) | (go_at_call 67; (with_reducible refine (impl_validLine.calls k _ _ l0 _ _ l1_0 _ _ l1_1 true _ ?side1 ?side2 ?side3 ?side4 ?side5 ?side6 A5.out).mono ?_); (case side1 => exact sC (Kd.C_below HR0.out HB.out)); (case side2 => exact HC0.out); (case side3 => exact sC (Kd.C_below HR1_0.out HB.out)); (case side4 => exact HC1_0.out); (case side5 => exact sC (Kd.C_below HR1_1.out HB.out)); (case side6 => exact HC1_1.out); rintro e w13 ⟨rfl, hb⟩; have n0_ := aS (blk_below (g := gb339) (o := .cells #[.slice A1_0 l1_0.length c1_0, .slice A1_1 l1_1.length c1_1] 37 (0, 0)) (sB BK339.out) hb); have n1_ := aS (blk_below (g := gb340) (o := .cells #[.int .i64 0, .int .i64 0] 51 (0, 0)) (sB BK340.out) hb); have n2_ := aS (below_step (sW HB.out) hb); clear BK339 BK340 HB; have BK339 := n0_; have BK340 := n1_; have HB := n2_; clear n0_ n1_ n2_; (try clear hb); (try clear hb2); (try clear hk); (try clear hi); have hcz14_0 : w13.cell? ⟨gb339, 0, none⟩ = some (.slice A1_0 l1_0.length c1_0) := (blk_cell BK339.out 0).trans rfl; have hcz14_1 : w13.cell? ⟨gb339, 1, none⟩ = some (.slice A1_1 l1_1.length c1_1) := (blk_cell BK339.out 1).trans rfl; have hfz14_0 := blk_frozen BK339.out 0; have hfz14_1 := blk_frozen BK339.out 1) | ((with_reducible refine gate_callee (f := 82) rfl ?_); refine goesL_ (some 18) rfl rfl Try.func82 (by kernel_rfl) rfl #[.slice A0 l0.length c0, .agg #[.slice A1_0 l1_0.length c1_0, .slice A1_1 l1_1.length c1_1]] rfl sG ?_; (with_reducible refine (impl_lineStrength.calls k _ _ l0 _ _ l1_0 _ _ l1_1 t343 t344 _ ?side1 ?side2 ?side3 ?side4 ?side5 ?side6 A7.out).mono ?_); (case side1 => exact sC (Kd.C_below HR0.out HB.out)); (case side2 => exact HC0.out); (case side3 => exact sC (Kd.C_below HR1_0.out HB.out)); (case side4 => exact HC1_0.out); (case side5 => exact sC (Kd.C_below HR1_1.out HB.out)); (case side6 => exact HC1_1.out); rintro e w15 ⟨rfl, hb⟩; refine ⟨_, rfl, ?_⟩; have n0_ := aS (blk_below (g := gb339) (o := .cells #[.slice A1_0 l1_0.length c1_0, .slice A1_1 l1_1.length c1_1] 37 (0, 0)) (sB BK339.out) hb); have n1_ := aS (blk_below (g := gb340) (o := .cells #[.int .i64 0, .int .i64 0] 51 (0, 0)) (sB BK340.out) hb); have n2_ := aS (below_step (sW HB.out) hb); clear BK339 BK340 HB; have BK339 := n0_; have BK340 := n1_; have HB := n2_; clear n0_ n1_ n2_; (try clear hb); (try clear hb2); (try clear hk); (try clear hi); have hcz16_0 : w15.cell? ⟨gb340, 0, none⟩ = some (.int .i64 0) := (blk_cell BK340.out 0).trans rfl; have hcz16_1 : w15.cell? ⟨gb340, 1, none⟩ = some (.int .i64 0) := (blk_cell BK340.out 1).trans rfl; have hfz16_0 := blk_frozen BK340.out 0; have hfz16_1 := blk_frozen BK340.out 1))
   refine bodyPost_ret (results_ct rfl _ _ gb340 51 #[.int .i64 t343, .int .i64 t344] (0, 0) _ rfl (by (with_reducible repeat (first | refine blk_drewN ?_ _ | refine blk_drew ?_ | refine blk_alloc ?_ _)); refine blk_put (cs := #[.int .i64 t343, .int .i64 0]) ?_ 1 _ rfl; (with_reducible repeat (first | refine blk_drewN ?_ _ | refine blk_drew ?_ | refine blk_alloc ?_ _)); refine blk_put (cs := #[.int .i64 0, .int .i64 0]) ?_ 0 _ rfl; (with_reducible repeat (first | refine blk_drewN ?_ _ | refine blk_drew ?_ | refine blk_alloc ?_ _)); exact BK340.out) Try.underlying51 rfl (by kernel_rfl)) rfl ?_
   exact ⟨by first | rfl | (simp [errW_none, errW_some, i64_w]; done) | (simp [errW_none, errW_some] <;> rfl) | (simp [*, errW_none, errW_some] <;> rfl), by repeat (first | (with_reducible first | exact HB.out | apply below_alloc | apply pw_below_drewN | apply below_drew1 | refine below_set ?_ GE339.out | refine below_set ?_ GE340.out) | exact HB.out)⟩
  ·
   replace c6 := Bool.eq_false_iff.mpr c6
   subst c6
   have H1 : (some (0, 0, 1)) = some (r1, r2, r3) := by rw [if_neg (show ¬ (false = true) by decide)] at H; exact H
   clear H
   have H := H1
   clear H1
   simp only [Option.some.injEq, Prod.mk.injEq] at H
   obtain ⟨rfl, rfl, rfl⟩ := H
   go_enter Try.func43, Try.ntmps43
   go_wp2_with (first | ((with_reducible refine gate_dst (N := 3) rfl ?_); refine box_event ?hg (N := 3) ?hd (cs := #[.slice A1_0 l1_0.length c1_0, .slice A1_1 l1_1.length c1_1]) (t := 37) ?hr ?_; (case hd => rfl); (case hg => rfl); (case hr => first | (go_simp; done) | (go_simp; rfl)); intro gb339 hg w17 hbox hb; have n0_ := aS (below_step (sW HB.out) hb); have n1_ := aS (hbox); have n2_ := aS ((by rw [hg]; exact (below_size (sW HB.out)) : w.heap.size ≤ gb339)); have n3_ := aS ((by rw [hg]; exact (below_size (sW HB.out)) : w.heap.size ≤ gb339)); clear HB; have HB := n0_; have BK339 := n1_; have GW339 := n2_; have GE339 := n3_; clear n0_ n1_ n2_ n3_; clear hb hbox hg) | ((with_reducible refine gate_dst (N := 4) rfl ?_); refine box_event ?hg (N := 4) ?hd (cs := #[.int .i64 0, .int .i64 0]) (t := 51) ?hr ?_; (case hd => rfl); (case hg => rfl); (case hr => first | (go_simp; done) | (go_simp; rfl)); intro gb340 hg w18 hbox hb; have n0_ := aS (blk_below (g := gb339) (o := .cells #[.slice A1_0 l1_0.length c1_0, .slice A1_1 l1_1.length c1_1] 37 (0, 0)) (sB BK339.out) hb); have n1_ := aS (below_step (sW HB.out) hb); have n2_ := aS (hbox); have n3_ := aS ((by rw [hg]; exact (below_size (sW HB.out)) : w.heap.size ≤ gb340)); have n4_ := aS ((by rw [hg]; exact (below_size (sW HB.out)) : w.heap.size ≤ gb340)); have n5_ := aS ((by rw [hg]; exact Nat.ne_of_lt (blk_lt (g := gb339) (o := .cells #[.slice A1_0 l1_0.length c1_0, .slice A1_1 l1_1.length c1_1] 37 (0, 0)) (sB BK339.out)) : gb339 ≠ gb340)); have n6_ := aS ((by rw [hg]; exact Nat.ne_of_gt (blk_lt (g := gb339) (o := .cells #[.slice A1_0 l1_0.length c1_0, .slice A1_1 l1_1.length c1_1] 37 (0, 0)) (sB BK339.out)) : gb340 ≠ gb339)); clear BK339 HB; have BK339 := n0_; have HB := n1_; have BK340 := n2_; have GW340 := n3_; have GE340 := n4_; have NB339_340 := n5_; have NB340_339 := n6_; clear n0_ n1_ n2_ n3_ n4_ n5_ n6_; clear hb hbox hg) | ((with_reducible refine gate_callee (f := 16) rfl ?_); refine goesL_ (some 7) rfl rfl Try.func16 (by kernel_rfl) rfl #[.slice A0 l0.length c0] rfl sG ?_; (with_reducible refine (impl_ValidJoins.calls k _ _ l0 true _ ?side1 ?side2 A3.out).mono ?_); (case side1 => exact sC (Kd.C_below HR0.out HB.out)); (case side2 => exact HC0.out); rintro e w19 ⟨rfl, hb⟩; refine ⟨_, rfl, ?_⟩; have n0_ := aS (blk_below (g := gb339) (o := .cells #[.slice A1_0 l1_0.length c1_0, .slice A1_1 l1_1.length c1_1] 37 (0, 0)) (sB BK339.out) hb); have n1_ := aS (blk_below (g := gb340) (o := .cells #[.int .i64 0, .int .i64 0] 51 (0, 0)) (sB BK340.out) hb); have n2_ := aS (below_step (sW HB.out) hb); clear BK339 BK340 HB; have BK339 := n0_; have BK340 := n1_; have HB := n2_; clear n0_ n1_ n2_; (try clear hb); (try clear hb2); (try clear hk); (try clear hi); have hnb20 := NB339_340.out; have hnc20 := NB340_339.out; have hcz21_0 : w19.cell? ⟨gb339, 0, none⟩ = some (.slice A1_0 l1_0.length c1_0) := (blk_cell BK339.out 0).trans rfl; have hcz21_1 : w19.cell? ⟨gb339, 1, none⟩ = some (.slice A1_1 l1_1.length c1_1) := (blk_cell BK339.out 1).trans rfl; have hfz21_0 := blk_frozen BK339.out 0; have hfz21_1 := blk_frozen BK339.out 1) | (go_at_call 67; (with_reducible refine (impl_validLine.calls k _ _ l0 _ _ l1_0 _ _ l1_1 false _ ?side1 ?side2 ?side3 ?side4 ?side5 ?side6 A5.out).mono ?_); (case side1 => exact sC (Kd.C_below HR0.out HB.out)); (case side2 => exact HC0.out); (case side3 => exact sC (Kd.C_below HR1_0.out HB.out)); (case side4 => exact HC1_0.out); (case side5 => exact sC (Kd.C_below HR1_1.out HB.out)); (case side6 => exact HC1_1.out); rintro e w22 ⟨rfl, hb⟩; have n0_ := aS (blk_below (g := gb339) (o := .cells #[.slice A1_0 l1_0.length c1_0, .slice A1_1 l1_1.length c1_1] 37 (0, 0)) (sB BK339.out) hb); have n1_ := aS (blk_below (g := gb340) (o := .cells #[.int .i64 0, .int .i64 0] 51 (0, 0)) (sB BK340.out) hb); have n2_ := aS (below_step (sW HB.out) hb); clear BK339 BK340 HB; have BK339 := n0_; have BK340 := n1_; have HB := n2_; clear n0_ n1_ n2_; (try clear hb); (try clear hb2); (try clear hk); (try clear hi); have hcz23_0 : w22.cell? ⟨gb340, 0, none⟩ = some (.int .i64 0) := (blk_cell BK340.out 0).trans rfl; have hcz23_1 : w22.cell? ⟨gb340, 1, none⟩ = some (.int .i64 0) := (blk_cell BK340.out 1).trans rfl; have hfz23_0 := blk_frozen BK340.out 0; have hfz23_1 := blk_frozen BK340.out 1))
   refine bodyPost_ret (results_ct rfl _ _ gb340 51 #[.int .i64 0, .int .i64 0] (0, 0) _ rfl (by (with_reducible repeat (first | refine blk_drewN ?_ _ | refine blk_drew ?_ | refine blk_alloc ?_ _)); refine blk_put (cs := #[.int .i64 0, .int .i64 0]) ?_ 1 _ rfl; (with_reducible repeat (first | refine blk_drewN ?_ _ | refine blk_drew ?_ | refine blk_alloc ?_ _)); refine blk_put (cs := #[.int .i64 0, .int .i64 0]) ?_ 0 _ rfl; (with_reducible repeat (first | refine blk_drewN ?_ _ | refine blk_drew ?_ | refine blk_alloc ?_ _)); exact BK340.out) Try.underlying51 rfl (by kernel_rfl)) rfl ?_
   exact ⟨by first | rfl | (simp [errW_none, errW_some, i64_w]; done) | (simp [errW_none, errW_some] <;> rfl) | (simp [*, errW_none, errW_some] <;> rfl), by repeat (first | (with_reducible first | exact HB.out | apply below_alloc | apply pw_below_drewN | apply below_drew1 | refine below_set ?_ GE339.out | refine below_set ?_ GE340.out) | exact HB.out)⟩
 ·
  replace c4 := Bool.eq_false_iff.mpr c4
  subst c4
  have H1 : (some (0, 0, 1)) = some (r1, r2, r3) := by rw [if_neg (show ¬ (false = true) by decide)] at H; exact H
  clear H
  have H := H1
  clear H1
  simp only [Option.some.injEq, Prod.mk.injEq] at H
  obtain ⟨rfl, rfl, rfl⟩ := H
  go_enter Try.func43, Try.ntmps43
  go_wp2_with (first | ((with_reducible refine gate_dst (N := 3) rfl ?_); refine box_event ?hg (N := 3) ?hd (cs := #[.slice A1_0 l1_0.length c1_0, .slice A1_1 l1_1.length c1_1]) (t := 37) ?hr ?_; (case hd => rfl); (case hg => rfl); (case hr => first | (go_simp; done) | (go_simp; rfl)); intro gb339 hg w24 hbox hb; have n0_ := aS (below_step (sW HB.out) hb); have n1_ := aS (hbox); have n2_ := aS ((by rw [hg]; exact (below_size (sW HB.out)) : w.heap.size ≤ gb339)); have n3_ := aS ((by rw [hg]; exact (below_size (sW HB.out)) : w.heap.size ≤ gb339)); clear HB; have HB := n0_; have BK339 := n1_; have GW339 := n2_; have GE339 := n3_; clear n0_ n1_ n2_ n3_; clear hb hbox hg) | ((with_reducible refine gate_dst (N := 4) rfl ?_); refine box_event ?hg (N := 4) ?hd (cs := #[.int .i64 0, .int .i64 0]) (t := 51) ?hr ?_; (case hd => rfl); (case hg => rfl); (case hr => first | (go_simp; done) | (go_simp; rfl)); intro gb340 hg w25 hbox hb; have n0_ := aS (blk_below (g := gb339) (o := .cells #[.slice A1_0 l1_0.length c1_0, .slice A1_1 l1_1.length c1_1] 37 (0, 0)) (sB BK339.out) hb); have n1_ := aS (below_step (sW HB.out) hb); have n2_ := aS (hbox); have n3_ := aS ((by rw [hg]; exact (below_size (sW HB.out)) : w.heap.size ≤ gb340)); have n4_ := aS ((by rw [hg]; exact (below_size (sW HB.out)) : w.heap.size ≤ gb340)); have n5_ := aS ((by rw [hg]; exact Nat.ne_of_lt (blk_lt (g := gb339) (o := .cells #[.slice A1_0 l1_0.length c1_0, .slice A1_1 l1_1.length c1_1] 37 (0, 0)) (sB BK339.out)) : gb339 ≠ gb340)); have n6_ := aS ((by rw [hg]; exact Nat.ne_of_gt (blk_lt (g := gb339) (o := .cells #[.slice A1_0 l1_0.length c1_0, .slice A1_1 l1_1.length c1_1] 37 (0, 0)) (sB BK339.out)) : gb340 ≠ gb339)); clear BK339 HB; have BK339 := n0_; have HB := n1_; have BK340 := n2_; have GW340 := n3_; have GE340 := n4_; have NB339_340 := n5_; have NB340_339 := n6_; clear n0_ n1_ n2_ n3_ n4_ n5_ n6_; clear hb hbox hg) | ((with_reducible refine gate_callee (f := 16) rfl ?_); refine goesL_ (some 7) rfl rfl Try.func16 (by kernel_rfl) rfl #[.slice A0 l0.length c0] rfl sG ?_; (with_reducible refine (impl_ValidJoins.calls k _ _ l0 false _ ?side1 ?side2 A3.out).mono ?_); (case side1 => exact sC (Kd.C_below HR0.out HB.out)); (case side2 => exact HC0.out); rintro e w26 ⟨rfl, hb⟩; refine ⟨_, rfl, ?_⟩; have n0_ := aS (blk_below (g := gb339) (o := .cells #[.slice A1_0 l1_0.length c1_0, .slice A1_1 l1_1.length c1_1] 37 (0, 0)) (sB BK339.out) hb); have n1_ := aS (blk_below (g := gb340) (o := .cells #[.int .i64 0, .int .i64 0] 51 (0, 0)) (sB BK340.out) hb); have n2_ := aS (below_step (sW HB.out) hb); clear BK339 BK340 HB; have BK339 := n0_; have BK340 := n1_; have HB := n2_; clear n0_ n1_ n2_; (try clear hb); (try clear hb2); (try clear hk); (try clear hi); have hnb27 := NB340_339.out; have hnc27 := NB339_340.out; have hcz28_0 : w26.cell? ⟨gb340, 0, none⟩ = some (.int .i64 0) := (blk_cell BK340.out 0).trans rfl; have hcz28_1 : w26.cell? ⟨gb340, 1, none⟩ = some (.int .i64 0) := (blk_cell BK340.out 1).trans rfl; have hfz28_0 := blk_frozen BK340.out 0; have hfz28_1 := blk_frozen BK340.out 1))
  refine bodyPost_ret (results_ct rfl _ _ gb340 51 #[.int .i64 0, .int .i64 0] (0, 0) _ rfl (by (with_reducible repeat (first | refine blk_drewN ?_ _ | refine blk_drew ?_ | refine blk_alloc ?_ _)); refine blk_put (cs := #[.int .i64 0, .int .i64 0]) ?_ 1 _ rfl; (with_reducible repeat (first | refine blk_drewN ?_ _ | refine blk_drew ?_ | refine blk_alloc ?_ _)); refine blk_put (cs := #[.int .i64 0, .int .i64 0]) ?_ 0 _ rfl; (with_reducible repeat (first | refine blk_drewN ?_ _ | refine blk_drew ?_ | refine blk_alloc ?_ _)); exact BK340.out) Try.underlying51 rfl (by kernel_rfl)) rfl ?_
  exact ⟨by first | rfl | (simp [errW_none, errW_some, i64_w]; done) | (simp [errW_none, errW_some] <;> rfl) | (simp [*, errW_none, errW_some] <;> rfl), by repeat (first | (with_reducible first | exact HB.out | apply below_alloc | apply pw_below_drewN | apply below_drew1 | refine below_set ?_ GE339.out | refine below_set ?_ GE340.out) | exact HB.out)⟩

end Go.Proofs.Ytdgodlccejoibaa.QFnExactLineStrength

/- What the Go functions of this law compute, each as a Lean function, and that each call comes to that answer; written by a program of this session. No condition. -/
import Derived.Test.YtjhlliacgkjhaaaVQFnExactJoinLinesx0
import Derived.Test.YtjhlliacgkjhaaaVQFnExactJoinLinesx6
import Derived.Test.YtjhlliacgkjhaaaVQFnExactJoinLinesx7
import Derived.Test.YtjhlliacgkjhaaaVQFnExactJoinLinesx8
namespace Go.Proofs.Ytjhlliacgkjhaaa.QFnExactJoinLines
open Go.RowKit Go.Proofs.YtjhlliacgkjhaaaW.PrintWords Go.Proofs.YtjhlliacgkjhaaaW.PrintLast Go.Proofs.YtjhlliacgkjhaaaW.PrintMore
attribute [local go_sem] max2_int min2_int max_two min_two max_three min_three max_four min_four   -- for this text's walks alone
set_option linter.unusedVariables false
set_option linter.unusedSimpArgs false

/-! ### impl_JoinLines: function 17 -/
def impl_JoinLines.j0 : Nat → List (S74) → Int → Bool → List (S91) → List Int → List (S91) → List Int → Option ((List (S91)) × List Int × Int)
 | 0, _, _, _, _, _, _, _ => none
 | k + 1, x0, x3, x25, x270000, x270001, x271000, x271001 => if x25 = true then (some (([] : List (S91)), ([] : List Int), 1)) else ((impl_within.f x3 0 (wrap64 ((x0.length : Int) - 1))).bind fun t275 => (if t275 = true then ((some (([] : List (S91)) : List (S91))).bind fun y276 => (if y276.length + x270000.length < 8796093022208 then ((some (y276 ++ x270000 : List (S91))).bind fun y279 => (if y279.length + x271000.length < 8796093022208 then ((some (y279 ++ x271000 : List (S91))).bind fun y282 => ((some (([] : List Int) : List Int)).bind fun y286 => (if y286.length + x270001.length < 17592186044416 then ((some (y286 ++ x270001 : List Int)).bind fun y289 => ((some (([x3] : List Int) : List Int)).bind fun y292 => (if y289.length + y292.length < 17592186044416 then ((some (y289 ++ y292 : List Int)).bind fun y295 => (if y295.length + x271001.length < 17592186044416 then ((some (y295 ++ x271001 : List Int)).bind fun y298 => ((impl_validLine.f k x0 y282 y298).bind fun t301 => (if t301 = true then (some (y282, y298, 0)) else (some (([] : List (S91)), ([] : List Int), 5))))) else (none))) else (none)))) else (none)))) else (none))) else (none))) else (some (([] : List (S91)), ([] : List Int), 2))))
def impl_JoinLines.f (k : Nat) (l0 : List (S74)) (l1_0 : List (S91)) (l1_1 : List Int) (l2_0 : List (S91)) (l2_1 : List Int) (a3 : Int) : Option ((List (S91)) × List Int × Int) := (impl_ValidJoins.f k l0).bind fun t272 => (if t272 = true then ((impl_validLine.f k l0 l1_0 l1_1).bind fun t273 => (if t273 = true then ((impl_validLine.f k l0 l2_0 l2_1).bind fun t274 => (impl_JoinLines.j0 k l0 a3 (!t274) l1_0 l1_1 l2_0 l2_1)) else (impl_JoinLines.j0 k l0 a3 true l1_0 l1_1 l2_0 l2_1))) else (impl_JoinLines.j0 k l0 a3 true l1_0 l1_1 l2_0 l2_1))
theorem impl_JoinLines.mono_l : ∀ k, (∀ y0 y1 y2 y3 y4 y5 y6, LeO (impl_JoinLines.j0 k y0 y1 y2 y3 y4 y5 y6) (impl_JoinLines.j0 (k + 1) y0 y1 y2 y3 y4 y5 y6))
 | 0 => fun _ _ _ _ _ _ _ r h => by simp [impl_JoinLines.j0] at h
 | k + 1 => by
  have ih0 := impl_JoinLines.mono_l k
  ·
   intro y0 y1 y2 y3 y4 y5 y6
   unfold impl_JoinLines.j0
   repeat' first
   | (with_reducible exact ih0 _ _ _ _ _ _ _)
   | (with_reducible exact impl_ValidJoins.mono _ _)
   | (with_reducible exact impl_validLine.mono _ _ _ _)
   | (with_reducible exact LeO.refl _)
   | (with_reducible exact LeO.none _)
   | (with_reducible refine LeO.ite ?_ ?_)
   | (with_reducible refine LeO.bind ?_ (fun _ => ?_))
   | exact ih0 _ _ _ _ _ _ _
   | exact impl_ValidJoins.mono _ _
   | exact impl_validLine.mono _ _ _ _
   | exact LeO.none _
   | refine LeO.ite ?_ ?_
   | refine LeO.bind ?_ (fun _ => ?_)
theorem impl_JoinLines.mono : ∀ a0 a1 a2 a3 a4 a5 k, LeO (impl_JoinLines.f k a0 a1 a2 a3 a4 a5) (impl_JoinLines.f (k + 1) a0 a1 a2 a3 a4 a5) := by
 intro a0 a1 a2 a3 a4 a5 k
 have ih0 := impl_JoinLines.mono_l k
 unfold impl_JoinLines.f
 repeat' first
   | (with_reducible exact ih0 _ _ _ _ _ _ _)
   | (with_reducible exact impl_ValidJoins.mono _ _)
   | (with_reducible exact impl_validLine.mono _ _ _ _)
   | (with_reducible exact LeO.refl _)
   | (with_reducible exact LeO.none _)
   | (with_reducible refine LeO.ite ?_ ?_)
   | (with_reducible refine LeO.bind ?_ (fun _ => ?_))
   | exact ih0 _ _ _ _ _ _ _
   | exact impl_ValidJoins.mono _ _
   | exact impl_validLine.mono _ _ _ _
   | exact LeO.none _
   | refine LeO.ite ?_ ?_
   | refine LeO.bind ?_ (fun _ => ?_)
def impl_JoinLines.T5 : Bool × List (List Nat × List Nat) := (true, [([], []), ([], []), ([1], [1]), ([0, 2], [0, 2]), ([], []), ([4], [4]), ([3, 5, 3], [3, 5]), ([6], [6]), ([], []), ([8, 7, 6, 0, 1, 2, 3, 4, 5, 6, 7, 8], [7, 8])])
def impl_JoinLines.B5 : List Nat := [0, 0, 2, 7, 0, 16, 63, 127, 0, 511]
theorem impl_JoinLines.tab5 : rtab .any (opsOf Try.f17 5) = impl_JoinLines.T5 := by kernel_rfl
theorem impl_JoinLines.bits5 : waitsOk impl_JoinLines.T5.2 impl_JoinLines.B5 = true := by kernel_rfl
def impl_JoinLines.T6 : Bool × List (List Nat × List Nat) := (true, [([], []), ([], []), ([1], [1]), ([0, 2], [0, 2]), ([], []), ([4], [4]), ([3, 5, 3], [3, 5]), ([], []), ([7], [7]), ([6, 8, 6], [6, 8]), ([0, 1, 2, 3, 4, 5, 6, 7, 8, 9], []), ([10, 9, 9, 0, 1, 2, 3, 4, 5, 6, 7, 8, 9], [9, 10])])
def impl_JoinLines.B6 : List Nat := [0, 0, 2, 7, 0, 16, 63, 0, 128, 511, 1023, 2047]
theorem impl_JoinLines.tab6 : rtab .any (opsOf Try.f17 6) = impl_JoinLines.T6 := by kernel_rfl
theorem impl_JoinLines.bits6 : waitsOk impl_JoinLines.T6.2 impl_JoinLines.B6 = true := by kernel_rfl
def impl_JoinLines.bF (n k : Nat) : Array Bool := ((List.range n).map fun i => k.testBit i).toArray
set_option maxHeartbeats 8000000 in
set_option maxRecDepth 100000 in
theorem impl_JoinLines.calls (k : Nat) (A0 : Option Addr) (c0 : Nat) (l0 : List (S74)) (A1_0 : Option Addr) (c1_0 : Nat) (l1_0 : List (S91)) (A1_1 : Option Addr) (c1_1 : Nat) (l1_1 : List Int) (A2_0 : Option Addr) (c2_0 : Nat) (l2_0 : List (S91)) (A2_1 : Option Addr) (c2_1 : Nat) (l2_1 : List Int) (a3 : Int) (r1 : List (S91)) (r2 : List Int) (r3 : Int) (w : World) (hr0 : Kd.C k74 w A0 l0.length l0) (hc0 : l0.length ≤ c0) (hr1_0 : Kd.C k91 w A1_0 l1_0.length l1_0) (hc1_0 : l1_0.length ≤ c1_0) (hr1_1 : Kd.C (Kd.int .i64) w A1_1 l1_1.length l1_1) (hc1_1 : l1_1.length ≤ c1_1) (hr2_0 : Kd.C k91 w A2_0 l2_0.length l2_0) (hc2_0 : l2_0.length ≤ c2_0) (hr2_1 : Kd.C (Kd.int .i64) w A2_1 l2_1.length l2_1) (hc2_1 : l2_1.length ≤ c2_1) (h : impl_JoinLines.f k l0 l1_0 l1_1 l2_0 l2_1 a3 = some (r1, r2, r3)) :
  Calls Try.prog 17 #[.slice A0 l0.length c0, .agg #[.slice A1_0 l1_0.length c1_0, .slice A1_1 l1_1.length c1_1], .agg #[.slice A2_0 l2_0.length c2_0, .slice A2_1 l2_1.length c2_1], .int .i64 a3] w fun e w' => ∃ v0_ v1_ : Value, e = .returned (.tuple #[.agg #[v0_, v1_], .int .i64 r3]) ∧ Kd.R k91 91 w' w.heap.size (fun _ => True) v0_ r1 ∧ Kd.R (Kd.int .i64) 2 w' w.heap.size (fun _ => True) v1_ r2 ∧ Below w.heap.size w w' := by
 have hu45 := Try.underlying45
 have HR0 := aS hr0
 have HC0 := aS hc0
 clear hr0 hc0
 have HR1_0 := aS hr1_0
 have HC1_0 := aS hc1_0
 clear hr1_0 hc1_0
 have HR1_1 := aS hr1_1
 have HC1_1 := aS hc1_1
 clear hr1_1 hc1_1
 have HR2_0 := aS hr2_0
 have HC2_0 := aS hc2_0
 clear hr2_0 hc2_0
 have HR2_1 := aS hr2_1
 have HC2_1 := aS hc2_1
 clear hr2_1 hc2_1
 have HB := aS (Below.refl w.heap.size w)
 have H : ((impl_ValidJoins.f k l0).bind fun t272 => (if t272 = true then ((impl_validLine.f k l0 l1_0 l1_1).bind fun t273 => (if t273 = true then ((impl_validLine.f k l0 l2_0 l2_1).bind fun t274 => (impl_JoinLines.j0 k l0 a3 (!t274) l1_0 l1_1 l2_0 l2_1)) else (impl_JoinLines.j0 k l0 a3 true l1_0 l1_1 l2_0 l2_1))) else (impl_JoinLines.j0 k l0 a3 true l1_0 l1_1 l2_0 l2_1))) = some (r1, r2, r3) := h
 clear h
 have HC5 := aS H
 clear H
 go_enter Try.func17, Try.ntmps17
 go_upto_region 1 with (first | ((with_reducible refine gate_dst (N := 5) rfl ?_); refine box_event ?hg (N := 5) ?hd (cs := #[.slice A1_0 l1_0.length c1_0, .slice A1_1 l1_1.length c1_1]) (t := 45) ?hr ?_; (case hd => rfl); (case hg => rfl); (case hr => first | (go_simp; done) | (go_simp; rfl)); intro gb269 hg w6 hbox hb; have n0_ := aS (below_step (sW HB.out) hb); have n1_ := aS (hbox); have n2_ := aS ((by rw [hg]; exact (below_size (sW HB.out)) : w.heap.size ≤ gb269)); have n3_ := aS ((by rw [hg]; exact (below_size (sW HB.out)) : w.heap.size ≤ gb269)); clear HB; have HB := n0_; have BK269 := n1_; have GW269 := n2_; have GE269 := n3_; clear n0_ n1_ n2_ n3_; clear hb hbox hg) | ((with_reducible refine gate_dst (N := 6) rfl ?_); refine box_event ?hg (N := 6) ?hd (cs := #[.slice A2_0 l2_0.length c2_0, .slice A2_1 l2_1.length c2_1]) (t := 45) ?hr ?_; (case hd => rfl); (case hg => rfl); (case hr => first | (go_simp; done) | (go_simp; rfl)); intro gb270 hg w7 hbox hb; have n0_ := aS (blk_below (g := gb269) (o := .cells #[.slice A1_0 l1_0.length c1_0, .slice A1_1 l1_1.length c1_1] 45 (0, 0)) (sB BK269.out) hb); have n1_ := aS (below_step (sW HB.out) hb); have n2_ := aS (hbox); have n3_ := aS ((by rw [hg]; exact (below_size (sW HB.out)) : w.heap.size ≤ gb270)); have n4_ := aS ((by rw [hg]; exact (below_size (sW HB.out)) : w.heap.size ≤ gb270)); have n5_ := aS ((by rw [hg]; exact Nat.ne_of_lt (blk_lt (g := gb269) (o := .cells #[.slice A1_0 l1_0.length c1_0, .slice A1_1 l1_1.length c1_1] 45 (0, 0)) (sB BK269.out)) : gb269 ≠ gb270)); have n6_ := aS ((by rw [hg]; exact Nat.ne_of_gt (blk_lt (g := gb269) (o := .cells #[.slice A1_0 l1_0.length c1_0, .slice A1_1 l1_1.length c1_1] 45 (0, 0)) (sB BK269.out)) : gb270 ≠ gb269)); clear BK269 HB; have BK269 := n0_; have HB := n1_; have BK270 := n2_; have GW270 := n3_; have GE270 := n4_; have NB269_270 := n5_; have NB270_269 := n6_; clear n0_ n1_ n2_ n3_ n4_ n5_ n6_; clear hb hbox hg) | ((with_reducible refine gate_dst (N := 8) rfl ?_); refine box_event ?hg (N := 8) ?hd (cs := #[.slice none 0 0, .slice none 0 0]) (t := 45) ?hr ?_; (case hd => rfl); (case hg => rfl); (case hr => first | (go_simp; done) | (go_simp; rfl)); intro gb271 hg w8 hbox hb; have n0_ := aS (blk_below (g := gb269) (o := .cells #[.slice A1_0 l1_0.length c1_0, .slice A1_1 l1_1.length c1_1] 45 (0, 0)) (sB BK269.out) hb); have n1_ := aS (blk_below (g := gb270) (o := .cells #[.slice A2_0 l2_0.length c2_0, .slice A2_1 l2_1.length c2_1] 45 (0, 0)) (sB BK270.out) hb); have n2_ := aS (below_step (sW HB.out) hb); have n3_ := aS (hbox); have n4_ := aS ((by rw [hg]; exact (below_size (sW HB.out)) : w.heap.size ≤ gb271)); have n5_ := aS ((by rw [hg]; exact (below_size (sW HB.out)) : w.heap.size ≤ gb271)); have n6_ := aS ((by rw [hg]; exact Nat.ne_of_lt (blk_lt (g := gb269) (o := .cells #[.slice A1_0 l1_0.length c1_0, .slice A1_1 l1_1.length c1_1] 45 (0, 0)) (sB BK269.out)) : gb269 ≠ gb271)); have n7_ := aS ((by rw [hg]; exact Nat.ne_of_gt (blk_lt (g := gb269) (o := .cells #[.slice A1_0 l1_0.length c1_0, .slice A1_1 l1_1.length c1_1] 45 (0, 0)) (sB BK269.out)) : gb271 ≠ gb269)); have n8_ := aS ((by rw [hg]; exact Nat.ne_of_lt (blk_lt (g := gb270) (o := .cells #[.slice A2_0 l2_0.length c2_0, .slice A2_1 l2_1.length c2_1] 45 (0, 0)) (sB BK270.out)) : gb270 ≠ gb271)); have n9_ := aS ((by rw [hg]; exact Nat.ne_of_gt (blk_lt (g := gb270) (o := .cells #[.slice A2_0 l2_0.length c2_0, .slice A2_1 l2_1.length c2_1] 45 (0, 0)) (sB BK270.out)) : gb271 ≠ gb270)); clear BK269 BK270 HB; have BK269 := n0_; have BK270 := n1_; have HB := n2_; have BK271 := n3_; have GW271 := n4_; have GE271 := n5_; have NB269_271 := n6_; have NB271_269 := n7_; have NB270_271 := n8_; have NB271_270 := n9_; clear n0_ n1_ n2_ n3_ n4_ n5_ n6_ n7_ n8_ n9_; clear hb hbox hg))
 (try simp only [Act.put, List.setIfInBounds_toArray, List.set_cons_zero, List.set_cons_succ])
 go_cut [25] (fun v25 wc => ∃ (kq : Nat) (x25_4 : Bool), v25 = .bool x25_4 ∧ Aside0 (impl_JoinLines.j0 kq l0 a3 x25_4 l1_0 l1_1 l2_0 l2_1 = some (r1, r2, r3)) ∧ Aside0 (kq ≤ k) ∧ Aside0 (wc.heap[gb269]? = some (.cells #[(.slice A1_0 l1_0.length c1_0), (.slice A1_1 l1_1.length c1_1)] 45 (0, 0))) ∧ Aside0 (wc.heap[gb270]? = some (.cells #[(.slice A2_0 l2_0.length c2_0), (.slice A2_1 l2_1.length c2_1)] 45 (0, 0))) ∧ Aside0 (wc.heap[gb271]? = some (.cells #[(.slice none 0 0), (.slice none 0 0)] 45 (0, 0))) ∧ Aside0 (Below w.heap.size w wc))
 case first =>
  have H := HC5.out
  clear HC5
  replace H := Option.bind_eq_some_iff.mp H
  obtain ⟨t272, A90, H⟩ := H
  replace H : (if t272 = true then ((impl_validLine.f k l0 l1_0 l1_1).bind fun t273 => (if t273 = true then ((impl_validLine.f k l0 l2_0 l2_1).bind fun t274 => (impl_JoinLines.j0 k l0 a3 (!t274) l1_0 l1_1 l2_0 l2_1)) else (impl_JoinLines.j0 k l0 a3 true l1_0 l1_1 l2_0 l2_1))) else (impl_JoinLines.j0 k l0 a3 true l1_0 l1_1 l2_0 l2_1)) = some (r1, r2, r3) := H
  have A9 := aS A90
  clear A90
  by_cases c10 : t272 = true
  rotate_left
  ·
   replace c10 := Bool.eq_false_iff.mpr c10
   subst c10
   have H1 : (impl_JoinLines.j0 k l0 a3 true l1_0 l1_1 l2_0 l2_1) = some (r1, r2, r3) := by rw [if_neg (show ¬ (false = true) by decide)] at H; exact H
   clear H
   have H := H1
   clear H1
   have H' := aS H
   clear H
   go_wp2_with (first | ((with_reducible refine gate_callee (f := 41) rfl ?_); refine goesL_ (some 12) rfl rfl Try.func41 (by kernel_rfl) rfl #[.slice A0 l0.length c0] rfl sG ?_; (with_reducible refine (impl_ValidJoins.calls k _ _ l0 false _ ?side1 ?side2 A9.out).mono ?_); (case side1 => exact sC (Kd.C_below HR0.out HB.out)); (case side2 => exact HC0.out); rintro e w27 ⟨rfl, hb⟩; refine ⟨_, rfl, ?_⟩; have n0_ := aS (blk_below (g := gb269) (o := .cells #[.slice A1_0 l1_0.length c1_0, .slice A1_1 l1_1.length c1_1] 45 (0, 0)) (sB BK269.out) hb); have n1_ := aS (blk_below (g := gb270) (o := .cells #[.slice A2_0 l2_0.length c2_0, .slice A2_1 l2_1.length c2_1] 45 (0, 0)) (sB BK270.out) hb); have n2_ := aS (blk_below (g := gb271) (o := .cells #[.slice none 0 0, .slice none 0 0] 45 (0, 0)) (sB BK271.out) hb); have n3_ := aS (below_step (sW HB.out) hb); clear BK269 BK270 BK271 HB; have BK269 := n0_; have BK270 := n1_; have BK271 := n2_; have HB := n3_; clear n0_ n1_ n2_ n3_; (try clear hb); (try clear hb2); (try clear hk); (try clear hi)))
   go_meet
   case rel => exact ⟨_, (true), (by first | rfl | (simp; done) | (simp [*]; done) | (simp only [i64_w]; done) | (simp [i64_w]; done)), H', ⟨by first | omega | exact Nat.le_refl _⟩, ⟨by (with_reducible repeat (first | refine blk_drewN ?_ _ | refine blk_drew ?_ | refine blk_alloc ?_ _)); exact BK269.out⟩, ⟨by (with_reducible repeat (first | refine blk_drewN ?_ _ | refine blk_drew ?_ | refine blk_alloc ?_ _)); exact BK270.out⟩, ⟨by (with_reducible repeat (first | refine blk_drewN ?_ _ | refine blk_drew ?_ | refine blk_alloc ?_ _)); exact BK271.out⟩, ⟨by repeat (first | (with_reducible first | exact HB.out | apply below_alloc | apply pw_below_drewN | apply below_drew1 | refine below_set ?_ GE269.out | refine below_set ?_ GE270.out | refine below_set ?_ GE271.out) | exact HB.out)⟩⟩
  subst c10
  have H1 : ((impl_validLine.f k l0 l1_0 l1_1).bind fun t273 => (if t273 = true then ((impl_validLine.f k l0 l2_0 l2_1).bind fun t274 => (impl_JoinLines.j0 k l0 a3 (!t274) l1_0 l1_1 l2_0 l2_1)) else (impl_JoinLines.j0 k l0 a3 true l1_0 l1_1 l2_0 l2_1))) = some (r1, r2, r3) := by rw [if_pos rfl] at H; exact H
  clear H
  have H := H1
  clear H1
  replace H := Option.bind_eq_some_iff.mp H
  obtain ⟨t273, A110, H⟩ := H
  replace H : (if t273 = true then ((impl_validLine.f k l0 l2_0 l2_1).bind fun t274 => (impl_JoinLines.j0 k l0 a3 (!t274) l1_0 l1_1 l2_0 l2_1)) else (impl_JoinLines.j0 k l0 a3 true l1_0 l1_1 l2_0 l2_1)) = some (r1, r2, r3) := H
  have A11 := aS A110
  clear A110
  by_cases c12 : t273 = true
  rotate_left
  ·
   replace c12 := Bool.eq_false_iff.mpr c12
   subst c12
   have H1 : (impl_JoinLines.j0 k l0 a3 true l1_0 l1_1 l2_0 l2_1) = some (r1, r2, r3) := by rw [if_neg (show ¬ (false = true) by decide)] at H; exact H
   clear H
   have H := H1
   clear H1
   have H' := aS H
   clear H
   go_wp2_with (first | ((with_reducible refine gate_callee (f := 41) rfl ?_); refine goesL_ (some 12) rfl rfl Try.func41 (by kernel_rfl) rfl #[.slice A0 l0.length c0] rfl sG ?_; (with_reducible refine (impl_ValidJoins.calls k _ _ l0 true _ ?side1 ?side2 A9.out).mono ?_); (case side1 => exact sC (Kd.C_below HR0.out HB.out)); (case side2 => exact HC0.out); rintro e w22 ⟨rfl, hb⟩; refine ⟨_, rfl, ?_⟩; have n0_ := aS (blk_below (g := gb269) (o := .cells #[.slice A1_0 l1_0.length c1_0, .slice A1_1 l1_1.length c1_1] 45 (0, 0)) (sB BK269.out) hb); have n1_ := aS (blk_below (g := gb270) (o := .cells #[.slice A2_0 l2_0.length c2_0, .slice A2_1 l2_1.length c2_1] 45 (0, 0)) (sB BK270.out) hb); have n2_ := aS (blk_below (g := gb271) (o := .cells #[.slice none 0 0, .slice none 0 0] 45 (0, 0)) (sB BK271.out) hb); have n3_ := aS (below_step (sW HB.out) hb); clear BK269 BK270 BK271 HB; have BK269 := n0_; have BK270 := n1_; have BK271 := n2_; have HB := n3_; clear n0_ n1_ n2_ n3_; (try clear hb); (try clear hb2); (try clear hk); (try clear hi); have hnb23 := NB269_270.out; have hnc23 := NB270_269.out; have hnb24 := NB269_271.out; have hnc24 := NB271_269.out; have hcz25_0 : w22.cell? ⟨gb269, 0, none⟩ = some (.slice A1_0 l1_0.length c1_0) := (blk_cell BK269.out 0).trans rfl; have hcz25_1 : w22.cell? ⟨gb269, 1, none⟩ = some (.slice A1_1 l1_1.length c1_1) := (blk_cell BK269.out 1).trans rfl; have hfz25_0 := blk_frozen BK269.out 0; have hfz25_1 := blk_frozen BK269.out 1) | (go_at_call 42; (with_reducible refine (impl_validLine.calls k _ _ l0 _ _ l1_0 _ _ l1_1 false _ ?side1 ?side2 ?side3 ?side4 ?side5 ?side6 A11.out).mono ?_); (case side1 => exact sC (Kd.C_below HR0.out HB.out)); (case side2 => exact HC0.out); (case side3 => exact sC (Kd.C_below HR1_0.out HB.out)); (case side4 => exact HC1_0.out); (case side5 => exact sC (Kd.C_below HR1_1.out HB.out)); (case side6 => exact HC1_1.out); rintro e w26 ⟨rfl, hb⟩; have n0_ := aS (blk_below (g := gb269) (o := .cells #[.slice A1_0 l1_0.length c1_0, .slice A1_1 l1_1.length c1_1] 45 (0, 0)) (sB BK269.out) hb); have n1_ := aS (blk_below (g := gb270) (o := .cells #[.slice A2_0 l2_0.length c2_0, .slice A2_1 l2_1.length c2_1] 45 (0, 0)) (sB BK270.out) hb); have n2_ := aS (blk_below (g := gb271) (o := .cells #[.slice none 0 0, .slice none 0 0] 45 (0, 0)) (sB BK271.out) hb); have n3_ := aS (below_step (sW HB.out) hb); clear BK269 BK270 BK271 HB; have BK269 := n0_; have BK270 := n1_; have BK271 := n2_; have HB := n3_; clear n0_ n1_ n2_ n3_; (try clear hb); (try clear hb2); (try clear hk); (try clear hi)))
   go_meet
   case rel => exact ⟨_, (true), (by first | rfl | (simp; done) | (simp [*]; done) | (simp only [i64_w]; done) | (simp [i64_w]; done)), H', ⟨by first | omega | exact Nat.le_refl _⟩, ⟨by (with_reducible repeat (first | refine blk_drewN ?_ _ | refine blk_drew ?_ | refine blk_alloc ?_ _)); exact BK269.out⟩, ⟨by (with_reducible repeat (first | refine blk_drewN ?_ _ | refine blk_drew ?_ | refine blk_alloc ?_ _)); exact BK270.out⟩, ⟨by (with_reducible repeat (first | refine blk_drewN ?_ _ | refine blk_drew ?_ | refine blk_alloc ?_ _)); exact BK271.out⟩, ⟨by repeat (first | (with_reducible first | exact HB.out | apply below_alloc | apply pw_below_drewN | apply below_drew1 | refine below_set ?_ GE269.out | refine below_set ?_ GE270.out | refine below_set ?_ GE271.out) | exact HB.out)⟩⟩
  subst c12
  have H1 : ((impl_validLine.f k l0 l2_0 l2_1).bind fun t274 => (impl_JoinLines.j0 k l0 a3 (!t274) l1_0 l1_1 l2_0 l2_1)) = some (r1, r2, r3) := by rw [if_pos rfl] at H; exact H
  clear H
  have H := H1
  clear H1
  replace H := Option.bind_eq_some_iff.mp H
  obtain ⟨t274, A130, H⟩ := H
  replace H : (impl_JoinLines.j0 k l0 a3 (!t274) l1_0 l1_1 l2_0 l2_1) = some (r1, r2, r3) := H
  have A13 := aS A130
  clear A130
  have H' := aS H
  clear H
  go_wp2_with (first | ((with_reducible refine gate_callee (f := 41) rfl ?_); refine goesL_ (some 12) rfl rfl Try.func41 (by kernel_rfl) rfl #[.slice A0 l0.length c0] rfl sG ?_; (with_reducible refine (impl_ValidJoins.calls k _ _ l0 true _ ?side1 ?side2 A9.out).mono ?_); (case side1 => exact sC (Kd.C_below HR0.out HB.out)); (case side2 => exact HC0.out); rintro e w14 ⟨rfl, hb⟩; refine ⟨_, rfl, ?_⟩; have n0_ := aS (blk_below (g := gb269) (o := .cells #[.slice A1_0 l1_0.length c1_0, .slice A1_1 l1_1.length c1_1] 45 (0, 0)) (sB BK269.out) hb); have n1_ := aS (blk_below (g := gb270) (o := .cells #[.slice A2_0 l2_0.length c2_0, .slice A2_1 l2_1.length c2_1] 45 (0, 0)) (sB BK270.out) hb); have n2_ := aS (blk_below (g := gb271) (o := .cells #[.slice none 0 0, .slice none 0 0] 45 (0, 0)) (sB BK271.out) hb); have n3_ := aS (below_step (sW HB.out) hb); clear BK269 BK270 BK271 HB; have BK269 := n0_; have BK270 := n1_; have BK271 := n2_; have HB := n3_; clear n0_ n1_ n2_ n3_; (try clear hb); (try clear hb2); (try clear hk); (try clear hi); have hnb15 := NB269_270.out; have hnc15 := NB270_269.out; have hnb16 := NB269_271.out; have hnc16 := NB271_269.out; have hcz17_0 : w14.cell? ⟨gb269, 0, none⟩ = some (.slice A1_0 l1_0.length c1_0) := (blk_cell BK269.out 0).trans rfl; have hcz17_1 : w14.cell? ⟨gb269, 1, none⟩ = some (.slice A1_1 l1_1.length c1_1) := (blk_cell BK269.out 1).trans rfl; have hfz17_0 := blk_frozen BK269.out 0; have hfz17_1 := blk_frozen BK269.out 1) | (go_at_call 42; (with_reducible refine (impl_validLine.calls k _ _ l0 _ _ l1_0 _ _ l1_1 true _ ?side1 ?side2 ?side3 ?side4 ?side5 ?side6 A11.out).mono ?_); (case side1 => exact sC (Kd.C_below HR0.out HB.out)); (case side2 => exact HC0.out); (case side3 => exact sC (Kd.C_below HR1_0.out HB.out)); (case side4 => exact HC1_0.out); (case side5 => exact sC (Kd.C_below HR1_1.out HB.out)); (case side6 => exact HC1_1.out); rintro e w18 ⟨rfl, hb⟩; have n0_ := aS (blk_below (g := gb269) (o := .cells #[.slice A1_0 l1_0.length c1_0, .slice A1_1 l1_1.length c1_1] 45 (0, 0)) (sB BK269.out) hb); have n1_ := aS (blk_below (g := gb270) (o := .cells #[.slice A2_0 l2_0.length c2_0, .slice A2_1 l2_1.length c2_1] 45 (0, 0)) (sB BK270.out) hb); have n2_ := aS (blk_below (g := gb271) (o := .cells #[.slice none 0 0, .slice none 0 0] 45 (0, 0)) (sB BK271.out) hb); have n3_ := aS (below_step (sW HB.out) hb); clear BK269 BK270 BK271 HB; have BK269 := n0_; have BK270 := n1_; have BK271 := n2_; have HB := n3_; clear n0_ n1_ n2_ n3_; (try clear hb); (try clear hb2); (try clear hk); (try clear hi); have hnb19 := NB270_271.out; have hnc19 := NB271_270.out; have hcz20_0 : w18.cell? ⟨gb270, 0, none⟩ = some (.slice A2_0 l2_0.length c2_0) := (blk_cell BK270.out 0).trans rfl; have hcz20_1 : w18.cell? ⟨gb270, 1, none⟩ = some (.slice A2_1 l2_1.length c2_1) := (blk_cell BK270.out 1).trans rfl; have hfz20_0 := blk_frozen BK270.out 0; have hfz20_1 := blk_frozen BK270.out 1) | (go_at_call 42; (with_reducible refine (impl_validLine.calls k _ _ l0 _ _ l2_0 _ _ l2_1 t274 _ ?side1 ?side2 ?side3 ?side4 ?side5 ?side6 A13.out).mono ?_); (case side1 => exact sC (Kd.C_below HR0.out HB.out)); (case side2 => exact HC0.out); (case side3 => exact sC (Kd.C_below HR2_0.out HB.out)); (case side4 => exact HC2_0.out); (case side5 => exact sC (Kd.C_below HR2_1.out HB.out)); (case side6 => exact HC2_1.out); rintro e w21 ⟨rfl, hb⟩; have n0_ := aS (blk_below (g := gb269) (o := .cells #[.slice A1_0 l1_0.length c1_0, .slice A1_1 l1_1.length c1_1] 45 (0, 0)) (sB BK269.out) hb); have n1_ := aS (blk_below (g := gb270) (o := .cells #[.slice A2_0 l2_0.length c2_0, .slice A2_1 l2_1.length c2_1] 45 (0, 0)) (sB BK270.out) hb); have n2_ := aS (blk_below (g := gb271) (o := .cells #[.slice none 0 0, .slice none 0 0] 45 (0, 0)) (sB BK271.out) hb); have n3_ := aS (below_step (sW HB.out) hb); clear BK269 BK270 BK271 HB; have BK269 := n0_; have BK270 := n1_; have BK271 := n2_; have HB := n3_; clear n0_ n1_ n2_ n3_; (try clear hb); (try clear hb2); (try clear hk); (try clear hi)))
  go_meet
  case rel => exact ⟨_, (!t274), (by first | rfl | (simp; done) | (simp [*]; done) | (simp only [i64_w]; done) | (simp [i64_w]; done)), H', ⟨by first | omega | exact Nat.le_refl _⟩, ⟨by (with_reducible repeat (first | refine blk_drewN ?_ _ | refine blk_drew ?_ | refine blk_alloc ?_ _)); exact BK269.out⟩, ⟨by (with_reducible repeat (first | refine blk_drewN ?_ _ | refine blk_drew ?_ | refine blk_alloc ?_ _)); exact BK270.out⟩, ⟨by (with_reducible repeat (first | refine blk_drewN ?_ _ | refine blk_drew ?_ | refine blk_alloc ?_ _)); exact BK271.out⟩, ⟨by repeat (first | (with_reducible first | exact HB.out | apply below_alloc | apply pw_below_drewN | apply below_drew1 | refine below_set ?_ GE269.out | refine below_set ?_ GE270.out | refine below_set ?_ GE271.out) | exact HB.out)⟩⟩
 case rest =>
  clear HC5
  (try clear c1); (try clear c2); (try clear p2); (try clear c4); (try clear c10); (try clear c12); (try clear c15); (try clear c16); (try clear c17); (try clear c19); (try clear c23); (try clear c24); (try clear hcz17_0); (try clear hcz17_1); (try clear hcz20_0); (try clear hcz20_1); (try clear hcz25_0); (try clear hcz25_1); (try clear hfz17_0); (try clear hfz17_1); (try clear hfz20_0); (try clear hfz20_1); (try clear hfz25_0); (try clear hfz25_1)
  obtain ⟨kq, x25_4, rfl, HA, HJ4, BK269, BK270, BK271, HB⟩ := hcut
  cases kq with
  | zero => exact absurd HA.out (by simp [impl_JoinLines.j0])
  | succ kj4 =>
   have H := HA.out
   clear HA
   simp only [impl_JoinLines.j0] at H
   by_cases c28 : x25_4 = true
   ·
    subst c28
    have H1 : (some (([] : List (S91)), ([] : List Int), 1)) = some (r1, r2, r3) := by rw [if_pos rfl] at H; exact H
    clear H
    have H := H1
    clear H1
    simp only [Option.some.injEq, Prod.mk.injEq] at H
    obtain ⟨rfl, rfl, rfl⟩ := H
    have hnb29 := NB271_269.out
    have hnc29 := NB269_271.out
    have hnb30 := NB271_270.out
    have hnc30 := NB270_271.out
    have hcz31_0 : wc.cell? ⟨gb271, 0, none⟩ = some (.slice none 0 0) := (blk_cell BK271.out 0).trans rfl
    have hcz31_1 : wc.cell? ⟨gb271, 1, none⟩ = some (.slice none 0 0) := (blk_cell BK271.out 1).trans rfl
    have hfz31_0 := blk_frozen BK271.out 0
    have hfz31_1 := blk_frozen BK271.out 1
    go_wp2
    refine bodyPost_ret (results_ct rfl _ _ gb271 45 #[.slice none 0 0, .slice none 0 0] (0, 0) _ rfl (by (with_reducible repeat (first | refine blk_drewN ?_ _ | refine blk_drew ?_ | refine blk_alloc ?_ _)); refine blk_put (cs := #[.slice none 0 0, .slice none 0 0]) ?_ 1 _ rfl; (with_reducible repeat (first | refine blk_drewN ?_ _ | refine blk_drew ?_ | refine blk_alloc ?_ _)); refine blk_put (cs := #[.slice none 0 0, .slice none 0 0]) ?_ 0 _ rfl; (with_reducible repeat (first | refine blk_drewN ?_ _ | refine blk_drew ?_ | refine blk_alloc ?_ _)); exact BK271.out) Try.underlying45 rfl (by kernel_rfl)) rfl ?_
    exact ⟨_, _, by first | rfl | (simp [errW_none, errW_some, i64_w]; done) | (simp [errW_none, errW_some] <;> rfl) | (simp [*, errW_none, errW_some] <;> rfl), by first | exact Kd.R_nil _ _ _ _ _ | exact Kd.N_nil _ _ _ _ _ | exact Kd.V_nil _ _ _ _ _ | exact Kd.Q_nil _ _ _ _ _ | exact Kd.S_nil _ _ _ _ _, by first | exact Kd.R_nil _ _ _ _ _ | exact Kd.N_nil _ _ _ _ _ | exact Kd.V_nil _ _ _ _ _ | exact Kd.Q_nil _ _ _ _ _ | exact Kd.S_nil _ _ _ _ _, by repeat (first | (with_reducible first | exact HB.out | apply below_alloc | apply pw_below_drewN | apply below_drew1 | refine below_set ?_ GE269.out | refine below_set ?_ GE270.out | refine below_set ?_ GE271.out) | exact HB.out)⟩
   ·
    replace c28 := Bool.eq_false_iff.mpr c28
    subst c28
    have H1 : ((impl_within.f a3 0 (wrap64 ((l0.length : Int) - 1))).bind fun t275 => (if t275 = true then ((some (([] : List (S91)) : List (S91))).bind fun y276 => (if y276.length + l1_0.length < 8796093022208 then ((some (y276 ++ l1_0 : List (S91))).bind fun y279 => (if y279.length + l2_0.length < 8796093022208 then ((some (y279 ++ l2_0 : List (S91))).bind fun y282 => ((some (([] : List Int) : List Int)).bind fun y286 => (if y286.length + l1_1.length < 17592186044416 then ((some (y286 ++ l1_1 : List Int)).bind fun y289 => ((some (([a3] : List Int) : List Int)).bind fun y292 => (if y289.length + y292.length < 17592186044416 then ((some (y289 ++ y292 : List Int)).bind fun y295 => (if y295.length + l2_1.length < 17592186044416 then ((some (y295 ++ l2_1 : List Int)).bind fun y298 => ((impl_validLine.f kj4 l0 y282 y298).bind fun t301 => (if t301 = true then (some (y282, y298, 0)) else (some (([] : List (S91)), ([] : List Int), 5))))) else (none))) else (none)))) else (none)))) else (none))) else (none))) else (some (([] : List (S91)), ([] : List Int), 2)))) = some (r1, r2, r3) := by rw [if_neg (show ¬ (false = true) by decide)] at H; exact H
    clear H
    have H := H1
    clear H1
    replace H := Option.bind_eq_some_iff.mp H
    obtain ⟨t275, A320, H⟩ := H
    replace H : (if t275 = true then ((some (([] : List (S91)) : List (S91))).bind fun y276 => (if y276.length + l1_0.length < 8796093022208 then ((some (y276 ++ l1_0 : List (S91))).bind fun y279 => (if y279.length + l2_0.length < 8796093022208 then ((some (y279 ++ l2_0 : List (S91))).bind fun y282 => ((some (([] : List Int) : List Int)).bind fun y286 => (if y286.length + l1_1.length < 17592186044416 then ((some (y286 ++ l1_1 : List Int)).bind fun y289 => ((some (([a3] : List Int) : List Int)).bind fun y292 => (if y289.length + y292.length < 17592186044416 then ((some (y289 ++ y292 : List Int)).bind fun y295 => (if y295.length + l2_1.length < 17592186044416 then ((some (y295 ++ l2_1 : List Int)).bind fun y298 => ((impl_validLine.f kj4 l0 y282 y298).bind fun t301 => (if t301 = true then (some (y282, y298, 0)) else (some (([] : List (S91)), ([] : List Int), 5))))) else (none))) else (none)))) else (none)))) else (none))) else (none))) else (some (([] : List (S91)), ([] : List Int), 2))) = some (r1, r2, r3) := H
    have A32 := aS A320
    clear A320
    have HC33 := aS H
    clear H
    go_upto_if 32 with (first | ((with_reducible refine gate_callee (f := 26) rfl ?_); refine goesL_ (some 31) rfl rfl Try.func26 (by kernel_rfl) rfl #[.int .i64 a3, .int .i64 0, .int .i64 (wrap64 ((l0.length : Int) - 1))] rfl sG ?_; (with_reducible refine (impl_within.calls a3 0 (wrap64 ((l0.length : Int) - 1)) t275 _ A32.out).mono ?_); rintro e w' ⟨rfl, ⟨nd, rfl⟩⟩; refine ⟨_, rfl, ?_⟩))
    (try simp only [Act.put, List.setIfInBounds_toArray, List.set_cons_zero, List.set_cons_succ])
    have H := HC33.out
    clear HC33
    by_cases c34 : t275 = true
    ·
     subst c34
     have H1 : ((some (([] : List (S91)) : List (S91))).bind fun y276 => (if y276.length + l1_0.length < 8796093022208 then ((some (y276 ++ l1_0 : List (S91))).bind fun y279 => (if y279.length + l2_0.length < 8796093022208 then ((some (y279 ++ l2_0 : List (S91))).bind fun y282 => ((some (([] : List Int) : List Int)).bind fun y286 => (if y286.length + l1_1.length < 17592186044416 then ((some (y286 ++ l1_1 : List Int)).bind fun y289 => ((some (([a3] : List Int) : List Int)).bind fun y292 => (if y289.length + y292.length < 17592186044416 then ((some (y289 ++ y292 : List Int)).bind fun y295 => (if y295.length + l2_1.length < 17592186044416 then ((some (y295 ++ l2_1 : List Int)).bind fun y298 => ((impl_validLine.f kj4 l0 y282 y298).bind fun t301 => (if t301 = true then (some (y282, y298, 0)) else (some (([] : List (S91)), ([] : List Int), 5))))) else (none))) else (none)))) else (none)))) else (none))) else (none))) = some (r1, r2, r3) := by rw [if_pos rfl] at H; exact H
     clear H
     have H := H1
     clear H1
     obtain ⟨y276, hy276⟩ : ∃ y_ : List (S91), y_ = (([] : List (S91))) := ⟨_, rfl⟩
     replace H : (if y276.length + l1_0.length < 8796093022208 then ((some (y276 ++ l1_0 : List (S91))).bind fun y279 => (if y279.length + l2_0.length < 8796093022208 then ((some (y279 ++ l2_0 : List (S91))).bind fun y282 => ((some (([] : List Int) : List Int)).bind fun y286 => (if y286.length + l1_1.length < 17592186044416 then ((some (y286 ++ l1_1 : List Int)).bind fun y289 => ((some (([a3] : List Int) : List Int)).bind fun y292 => (if y289.length + y292.length < 17592186044416 then ((some (y289 ++ y292 : List Int)).bind fun y295 => (if y295.length + l2_1.length < 17592186044416 then ((some (y295 ++ l2_1 : List Int)).bind fun y298 => ((impl_validLine.f kj4 l0 y282 y298).bind fun t301 => (if t301 = true then (some (y282, y298, 0)) else (some (([] : List (S91)), ([] : List Int), 5))))) else (none))) else (none)))) else (none)))) else (none))) else (none)) = some (r1, r2, r3) := by first | (rw [hy276]; with_reducible exact H) | (have H2_ := (Option.bind_some _ _).symm.trans H; rw [hy276]; with_reducible exact H2_) | (have H2_ := (Option.bind_some _ _).symm.trans H; with_reducible exact H2_) | with_reducible exact H | (rw [hy276]; exact H) | exact H
     have Ny276 := aS hy276
     clear hy276
     by_cases c35 : y276.length + l1_0.length < 8796093022208
     rotate_left
     ·
      rw [if_neg c35] at H
      exact absurd H (by simp)
     rw [if_pos c35] at H
     have LMc35 := aS c35
     clear c35
     obtain ⟨y279, hy279⟩ : ∃ y_ : List (S91), y_ = (y276 ++ l1_0) := ⟨_, rfl⟩
     replace H : (if y279.length + l2_0.length < 8796093022208 then ((some (y279 ++ l2_0 : List (S91))).bind fun y282 => ((some (([] : List Int) : List Int)).bind fun y286 => (if y286.length + l1_1.length < 17592186044416 then ((some (y286 ++ l1_1 : List Int)).bind fun y289 => ((some (([a3] : List Int) : List Int)).bind fun y292 => (if y289.length + y292.length < 17592186044416 then ((some (y289 ++ y292 : List Int)).bind fun y295 => (if y295.length + l2_1.length < 17592186044416 then ((some (y295 ++ l2_1 : List Int)).bind fun y298 => ((impl_validLine.f kj4 l0 y282 y298).bind fun t301 => (if t301 = true then (some (y282, y298, 0)) else (some (([] : List (S91)), ([] : List Int), 5))))) else (none))) else (none)))) else (none)))) else (none)) = some (r1, r2, r3) := by first | (rw [hy279]; with_reducible exact H) | (have H2_ := (Option.bind_some _ _).symm.trans H; rw [hy279]; with_reducible exact H2_) | (have H2_ := (Option.bind_some _ _).symm.trans H; with_reducible exact H2_) | with_reducible exact H | (rw [hy279]; exact H) | exact H
     have Ny279 := aS hy279
     clear hy279
     by_cases c36 : y279.length + l2_0.length < 8796093022208
     rotate_left
     ·
      rw [if_neg c36] at H
      exact absurd H (by simp)
     rw [if_pos c36] at H
     have LMc36 := aS c36
     clear c36
     obtain ⟨y282, hy282⟩ : ∃ y_ : List (S91), y_ = (y279 ++ l2_0) := ⟨_, rfl⟩
     replace H : ((some (([] : List Int) : List Int)).bind fun y286 => (if y286.length + l1_1.length < 17592186044416 then ((some (y286 ++ l1_1 : List Int)).bind fun y289 => ((some (([a3] : List Int) : List Int)).bind fun y292 => (if y289.length + y292.length < 17592186044416 then ((some (y289 ++ y292 : List Int)).bind fun y295 => (if y295.length + l2_1.length < 17592186044416 then ((some (y295 ++ l2_1 : List Int)).bind fun y298 => ((impl_validLine.f kj4 l0 y282 y298).bind fun t301 => (if t301 = true then (some (y282, y298, 0)) else (some (([] : List (S91)), ([] : List Int), 5))))) else (none))) else (none)))) else (none))) = some (r1, r2, r3) := by first | (rw [hy282]; with_reducible exact H) | (have H2_ := (Option.bind_some _ _).symm.trans H; rw [hy282]; with_reducible exact H2_) | (have H2_ := (Option.bind_some _ _).symm.trans H; with_reducible exact H2_) | with_reducible exact H | (rw [hy282]; exact H) | exact H
     have Ny282 := aS hy282
     clear hy282
     obtain ⟨y286, hy286⟩ : ∃ y_ : List Int, y_ = (([] : List Int)) := ⟨_, rfl⟩
     replace H : (if y286.length + l1_1.length < 17592186044416 then ((some (y286 ++ l1_1 : List Int)).bind fun y289 => ((some (([a3] : List Int) : List Int)).bind fun y292 => (if y289.length + y292.length < 17592186044416 then ((some (y289 ++ y292 : List Int)).bind fun y295 => (if y295.length + l2_1.length < 17592186044416 then ((some (y295 ++ l2_1 : List Int)).bind fun y298 => ((impl_validLine.f kj4 l0 y282 y298).bind fun t301 => (if t301 = true then (some (y282, y298, 0)) else (some (([] : List (S91)), ([] : List Int), 5))))) else (none))) else (none)))) else (none)) = some (r1, r2, r3) := by first | (rw [hy286]; with_reducible exact H) | (have H2_ := (Option.bind_some _ _).symm.trans H; rw [hy286]; with_reducible exact H2_) | (have H2_ := (Option.bind_some _ _).symm.trans H; with_reducible exact H2_) | with_reducible exact H | (rw [hy286]; exact H) | exact H
     have Ny286 := aS hy286
     clear hy286
     by_cases c37 : y286.length + l1_1.length < 17592186044416
     rotate_left
     ·
      rw [if_neg c37] at H
      exact absurd H (by simp)
     rw [if_pos c37] at H
     have LMc37 := aS c37
     clear c37
     obtain ⟨y289, hy289⟩ : ∃ y_ : List Int, y_ = (y286 ++ l1_1) := ⟨_, rfl⟩
     replace H : ((some (([a3] : List Int) : List Int)).bind fun y292 => (if y289.length + y292.length < 17592186044416 then ((some (y289 ++ y292 : List Int)).bind fun y295 => (if y295.length + l2_1.length < 17592186044416 then ((some (y295 ++ l2_1 : List Int)).bind fun y298 => ((impl_validLine.f kj4 l0 y282 y298).bind fun t301 => (if t301 = true then (some (y282, y298, 0)) else (some (([] : List (S91)), ([] : List Int), 5))))) else (none))) else (none))) = some (r1, r2, r3) := by first | (rw [hy289]; with_reducible exact H) | (have H2_ := (Option.bind_some _ _).symm.trans H; rw [hy289]; with_reducible exact H2_) | (have H2_ := (Option.bind_some _ _).symm.trans H; with_reducible exact H2_) | with_reducible exact H | (rw [hy289]; exact H) | exact H
     have Ny289 := aS hy289
     clear hy289
     obtain ⟨y292, hy292⟩ : ∃ y_ : List Int, y_ = (([a3] : List Int)) := ⟨_, rfl⟩
     replace H : (if y289.length + y292.length < 17592186044416 then ((some (y289 ++ y292 : List Int)).bind fun y295 => (if y295.length + l2_1.length < 17592186044416 then ((some (y295 ++ l2_1 : List Int)).bind fun y298 => ((impl_validLine.f kj4 l0 y282 y298).bind fun t301 => (if t301 = true then (some (y282, y298, 0)) else (some (([] : List (S91)), ([] : List Int), 5))))) else (none))) else (none)) = some (r1, r2, r3) := by first | (rw [hy292]; with_reducible exact H) | (have H2_ := (Option.bind_some _ _).symm.trans H; rw [hy292]; with_reducible exact H2_) | (have H2_ := (Option.bind_some _ _).symm.trans H; with_reducible exact H2_) | with_reducible exact H | (rw [hy292]; exact H) | exact H
     have Ny292 := aS hy292
     clear hy292
     by_cases c38 : y289.length + y292.length < 17592186044416
     rotate_left
     ·
      rw [if_neg c38] at H
      exact absurd H (by simp)
     rw [if_pos c38] at H
     have LMc38 := aS c38
     clear c38
     obtain ⟨y295, hy295⟩ : ∃ y_ : List Int, y_ = (y289 ++ y292) := ⟨_, rfl⟩
     replace H : (if y295.length + l2_1.length < 17592186044416 then ((some (y295 ++ l2_1 : List Int)).bind fun y298 => ((impl_validLine.f kj4 l0 y282 y298).bind fun t301 => (if t301 = true then (some (y282, y298, 0)) else (some (([] : List (S91)), ([] : List Int), 5))))) else (none)) = some (r1, r2, r3) := by first | (rw [hy295]; with_reducible exact H) | (have H2_ := (Option.bind_some _ _).symm.trans H; rw [hy295]; with_reducible exact H2_) | (have H2_ := (Option.bind_some _ _).symm.trans H; with_reducible exact H2_) | with_reducible exact H | (rw [hy295]; exact H) | exact H
     have Ny295 := aS hy295
     clear hy295
     by_cases c39 : y295.length + l2_1.length < 17592186044416
     rotate_left
     ·
      rw [if_neg c39] at H
      exact absurd H (by simp)
     rw [if_pos c39] at H
     have LMc39 := aS c39
     clear c39
     obtain ⟨y298, hy298⟩ : ∃ y_ : List Int, y_ = (y295 ++ l2_1) := ⟨_, rfl⟩
     replace H : ((impl_validLine.f kj4 l0 y282 y298).bind fun t301 => (if t301 = true then (some (y282, y298, 0)) else (some (([] : List (S91)), ([] : List Int), 5)))) = some (r1, r2, r3) := by first | (rw [hy298]; with_reducible exact H) | (have H2_ := (Option.bind_some _ _).symm.trans H; rw [hy298]; with_reducible exact H2_) | (have H2_ := (Option.bind_some _ _).symm.trans H; with_reducible exact H2_) | with_reducible exact H | (rw [hy298]; exact H) | exact H
     have Ny298 := aS hy298
     clear hy298
     replace H := Option.bind_eq_some_iff.mp H
     obtain ⟨t301, A400, H⟩ := H
     replace H : (if t301 = true then (some (y282, y298, 0)) else (some (([] : List (S91)), ([] : List Int), 5))) = some (r1, r2, r3) := H
     have A40 := aS A400
     clear A400
     have HC41 := aS H
     clear H
     try go_wp2
     replace BK269 := aS (blk_drewN BK269.out nd)
     replace BK270 := aS (blk_drewN BK270.out nd)
     replace BK271 := aS (blk_drewN BK271.out nd)
     replace HB := aS (pw_below_drewN HB.out nd)
     generalize wc.drewN nd = wc at BK269 BK270 BK271 HB ⊢
     have n0_ := aS (blk_drew BK269.out)
     have n1_ := aS (blk_drew BK270.out)
     have n2_ := aS (blk_drew BK271.out)
     have n3_ := aS (below_drew1 HB.out)
     clear BK269 BK270 BK271 HB
     have BK269 := n0_; have BK270 := n1_; have BK271 := n2_; have HB := n3_
     clear n0_ n1_ n2_ n3_
     refine start_ (n := 10) (S := fun w' => w'.cell? ⟨gb269, 0, none⟩ = some (.slice A1_0 l1_0.length c1_0) ∧ w'.cell? ⟨gb269, 1, none⟩ = some (.slice A1_1 l1_1.length c1_1) ∧ w'.cell? ⟨gb270, 0, none⟩ = some (.slice A2_0 l2_0.length c2_0) ∧ w'.cell? ⟨gb270, 1, none⟩ = some (.slice A2_1 l2_1.length c2_1)) (ds := []) #[false, false, false, false, false, false, false, false, false, false] (by kernel_rfl) rfl rfl ⟨(blk_cell BK269.out 0).trans rfl, (blk_cell BK269.out 1).trans rfl, (blk_cell BK270.out 0).trans rfl, (blk_cell BK270.out 1).trans rfl⟩ (fun hHeld => ?_); refine with_tabW impl_JoinLines.tab5 impl_JoinLines.bits5 (fun HT_ HW_ => ?_)
     generalize wc.drew = w42 at BK269 BK270 BK271 HB hHeld ⊢
     refine pure_ (i := 1) (N := some 35) (v := ?_) (a' := ?_) (impl_JoinLines.bF 10 2) rfl rfl (any_of HT_.out (by kernel_rfl)) (fun _ _ _ h => h) (Or.inl ⟨by rfl, ?_⟩) ?_ ?_
     rotate_left
     ·
      intro w'
      go_simp
      with_reducible rfl
     rotate_left
     ·
      exact sP
     refine pure_ (i := 4) (N := some 38) (v := ?_) (a' := ?_) (impl_JoinLines.bF 10 18) rfl rfl (any_of HT_.out (by kernel_rfl)) (fun _ _ _ h => h) (Or.inl ⟨by rfl, ?_⟩) ?_ ?_
     rotate_left
     ·
      intro w'
      go_simp
      with_reducible rfl
     rotate_left
     ·
      exact sP
     refine take_ (i := 2) (N := some 36) (v := ?_) (a' := ?_) (impl_JoinLines.bF 10 22) rfl rfl (take_ofW HT_.out HW_.out (by kernel_rfl)) (fun _ _ _ h => h) (Or.inl ⟨by rfl, ?_⟩) hHeld ?_ ?_
     rotate_left
     ·
      rintro w' ⟨s0, s1, s2, s3⟩
      go_simp
      with_reducible rfl
     rotate_left
     ·
      exact sP
     refine take_ (i := 5) (N := some 39) (v := ?_) (a' := ?_) (impl_JoinLines.bF 10 54) rfl rfl (take_ofW HT_.out HW_.out (by kernel_rfl)) (fun _ _ _ h => h) (Or.inl ⟨by rfl, ?_⟩) hHeld ?_ ?_
     rotate_left
     ·
      rintro w' ⟨s0, s1, s2, s3⟩
      go_simp
      with_reducible rfl
     rotate_left
     ·
      exact sP
     refine join_ (σ := Value × Value × Value × Nat) 1 #[true, true, true, true, true, true, true, true, true, false] (fun s_ => [(34, s_.1), (37, s_.2.1), (40, s_.2.2.1), (10, .pointer (some ⟨s_.2.2.2, 0, none⟩)), (41, .agg #[s_.2.2.1, .slice none 0 0])]) (fun s_ w' => (w'.cell? ⟨gb269, 0, none⟩ = some (.slice A1_0 l1_0.length c1_0) ∧ w'.cell? ⟨gb269, 1, none⟩ = some (.slice A1_1 l1_1.length c1_1) ∧ w'.cell? ⟨gb270, 0, none⟩ = some (.slice A2_0 l2_0.length c2_0) ∧ w'.cell? ⟨gb270, 1, none⟩ = some (.slice A2_1 l2_1.length c2_1)) ∧ (Kd.R k91 91 w' w.heap.size (fun _ => True) s_.2.2.1 y282) ∧ (w'.heap[gb269]? = some (.cells #[.slice A1_0 l1_0.length c1_0, .slice A1_1 l1_1.length c1_1] 45 (0, 0))) ∧ (w'.heap[gb270]? = some (.cells #[.slice A2_0 l2_0.length c2_0, .slice A2_1 l2_1.length c2_1] 45 (0, 0))) ∧ (w'.heap[gb271]? = some (.cells #[.slice none 0 0, .slice none 0 0] 45 (0, 0))) ∧ (w'.heap[s_.2.2.2]? = some (.cells #[.slice none 0 0, .slice none 0 0] 45 (0, 0))) ∧ (w.heap.size ≤ s_.2.2.2) ∧ (w.heap.size ≤ s_.2.2.2) ∧ (gb269 ≠ s_.2.2.2) ∧ (s_.2.2.2 ≠ gb269) ∧ (gb270 ≠ s_.2.2.2) ∧ (s_.2.2.2 ≠ gb270) ∧ (gb271 ≠ s_.2.2.2) ∧ (s_.2.2.2 ≠ gb271) ∧ (Below w.heap.size w w')) ?_ ?_
     rotate_left
     ·
      intro hCont
      refine two_ (i := 0) (j := 8) (Ni := some 34) (Nj := some 10) #[true, true, true, false, true, true, false, false, false, false] #[false, true, true, false, true, true, false, false, true, false] rfl rfl rfl rfl (two_of HT_.out (by kernel_rfl)) (by decide) (by decide) (fun K hK => ?_) (fun K hK => ?_)
      ·
       skip
       refine Kd.R_lit_step k91 _ 91 ?hg (N := 34) ?hd (xs := ([] : List (S91))) (inner := []) (ok := fun _ => True) (okp := fun _ => True) ?hr ?hp (fun _ hk => hk) trivial (Below.refl _ _) (Nat.le_refl _) (by simp) ?_; (case hd => rfl); (case hg => rfl); (case hr => first | (go_simp; done) | (go_simp; rfl)); (case hp => exact (Reps.none _ _))
       intro v277 w43 ho44 hb hg_ hnew_
       clear hg_ hnew_
       (first | rw [← Ny276.out] at ho44 | (simp only [Int.reduceToNat] at ho44; rw [← Ny276.out] at ho44))
       have n0_ := aS (Kd.R_lower ho44 (below_size (sW HB.out)))
       have n1_ := aS (blk_below (g := gb269) (o := .cells #[.slice A1_0 l1_0.length c1_0, .slice A1_1 l1_1.length c1_1] 45 (0, 0)) (sB BK269.out) hb)
       have n2_ := aS (blk_below (g := gb270) (o := .cells #[.slice A2_0 l2_0.length c2_0, .slice A2_1 l2_1.length c2_1] 45 (0, 0)) (sB BK270.out) hb)
       have n3_ := aS (blk_below (g := gb271) (o := .cells #[.slice none 0 0, .slice none 0 0] 45 (0, 0)) (sB BK271.out) hb)
       have n4_ := aS (below_step (sW HB.out) hb)
       clear BK269 BK270 BK271 HB
       have HO278 := n0_; have BK269 := n1_; have BK270 := n2_; have BK271 := n3_; have HB := n4_
       clear n0_ n1_ n2_ n3_ n4_
       clear hb ho44
       refine hK.out _ _ ⟨(blk_cell BK269.out 0).trans rfl, (blk_cell BK269.out 1).trans rfl, (blk_cell BK270.out 0).trans rfl, (blk_cell BK270.out 1).trans rfl⟩ (fun hHeld => ?_)
       clear hK K
       refine norm_ (a' := ?_) ?_ ?_
       rotate_left
       ·
        show Act.put _ (some 34) _ = _
        exact sP
       refine two_ (i := 3) (j := 8) (Ni := some 37) (Nj := some 10) #[true, true, true, true, true, true, false, false, false, false] #[true, true, true, false, true, true, false, false, true, false] rfl rfl rfl rfl (two_of HT_.out (by kernel_rfl)) (by decide) (by decide) (fun K hK => ?_) (fun K hK => ?_)
       ·
        skip
        refine Kd.R_append_rows_step k91 (w0 := w) w.heap.size (by rfl) (.tmp 34) (.tmp 36) 43 91 (.agg #[(.int .i64 0), (.int .i64 0)]) 16 rfl Try.underlying43 info91 rfl (by decide) (by omega) v277 y276 l1_0 _ _ _ (fun _ => True) (fun _ => False) rfl rfl ?aO ?aR (fun _ _ h => h) (fun _ h => h.elim) ?aF ?aB ?aS ?aL ?_
        (case aR => repeat (first | exact (Kd.C_below HR1_0.out HB.out) | (with_reducible refine Kd.C_alloc ?_ _) | (with_reducible refine Kd.C_drewN ?_ _) | (with_reducible refine Kd.C_drew ?_)))
        (case aB => exact (sW HB.out))
        (case aF => exact (fun _ _ => trivial))
        (case aO => exact (sR HO278.out))
        (case aS => exact (below_size (sW HB.out)))
        (case aL => have := LMc35.out; omega)
        intro v280 w45 ho hb hg hat
        rw [← Ny279.out] at ho
        have n0_ := aS (blk_grown (g := gb269) (o := .cells #[.slice A1_0 l1_0.length c1_0, .slice A1_1 l1_1.length c1_1] 45 (0, 0)) (sB BK269.out) hg (Kd.R_ne HO278.out BK269.out (by decide)))
        have n1_ := aS (blk_grown (g := gb270) (o := .cells #[.slice A2_0 l2_0.length c2_0, .slice A2_1 l2_1.length c2_1] 45 (0, 0)) (sB BK270.out) hg (Kd.R_ne HO278.out BK270.out (by decide)))
        have n2_ := aS (blk_grown (g := gb271) (o := .cells #[.slice none 0 0, .slice none 0 0] 45 (0, 0)) (sB BK271.out) hg (Kd.R_ne HO278.out BK271.out (by decide)))
        have n3_ := aS (hb)
        have n4_ := aS (ho)
        clear BK269 BK270 BK271 HB HO278
        have BK269 := n0_; have BK270 := n1_; have BK271 := n2_; have HB := n3_; have HO281 := n4_
        clear n0_ n1_ n2_ n3_ n4_
        clear ho hb hg hat
        refine hK.out _ _ ⟨(blk_cell BK269.out 0).trans rfl, (blk_cell BK269.out 1).trans rfl, (blk_cell BK270.out 0).trans rfl, (blk_cell BK270.out 1).trans rfl⟩ (fun hHeld => ?_)
        clear hK K
        refine norm_ (a' := ?_) ?_ ?_
        rotate_left
        ·
         show Act.put _ (some 37) _ = _
         exact sP
        refine two_ (i := 6) (j := 8) (Ni := some 40) (Nj := some 10) #[true, true, true, true, true, true, true, false, false, false] #[true, true, true, true, true, true, false, false, true, false] rfl rfl rfl rfl (two_of HT_.out (by kernel_rfl)) (by decide) (by decide) (fun K hK => ?_) (fun K hK => ?_)
        ·
         skip
         refine Kd.R_append_rows_step k91 (w0 := w) w.heap.size (by rfl) (.tmp 37) (.tmp 39) 43 91 (.agg #[(.int .i64 0), (.int .i64 0)]) 16 rfl Try.underlying43 info91 rfl (by decide) (by omega) v280 y279 l2_0 _ _ _ (fun _ => True) (fun _ => False) rfl rfl ?aO ?aR (fun _ _ h => h) (fun _ h => h.elim) ?aF ?aB ?aS ?aL ?_
         (case aR => repeat (first | exact (Kd.C_below HR2_0.out HB.out) | (with_reducible refine Kd.C_alloc ?_ _) | (with_reducible refine Kd.C_drewN ?_ _) | (with_reducible refine Kd.C_drew ?_)))
         (case aB => exact (sW HB.out))
         (case aF => exact (fun _ _ => trivial))
         (case aO => exact (sR HO281.out))
         (case aS => exact (below_size (sW HB.out)))
         (case aL => have := LMc36.out; omega)
         intro v283 w46 ho hb hg hat
         rw [← Ny282.out] at ho
         have n0_ := aS (blk_grown (g := gb269) (o := .cells #[.slice A1_0 l1_0.length c1_0, .slice A1_1 l1_1.length c1_1] 45 (0, 0)) (sB BK269.out) hg (Kd.R_ne HO281.out BK269.out (by decide)))
         have n1_ := aS (blk_grown (g := gb270) (o := .cells #[.slice A2_0 l2_0.length c2_0, .slice A2_1 l2_1.length c2_1] 45 (0, 0)) (sB BK270.out) hg (Kd.R_ne HO281.out BK270.out (by decide)))
         have n2_ := aS (blk_grown (g := gb271) (o := .cells #[.slice none 0 0, .slice none 0 0] 45 (0, 0)) (sB BK271.out) hg (Kd.R_ne HO281.out BK271.out (by decide)))
         have n3_ := aS (hb)
         have n4_ := aS (ho)
         clear BK269 BK270 BK271 HB HO281
         have BK269 := n0_; have BK270 := n1_; have BK271 := n2_; have HB := n3_; have HO284 := n4_
         clear n0_ n1_ n2_ n3_ n4_
         clear ho hb hg hat
         obtain ⟨Ao47, co47, eo47⟩ := Kd.R_slice HO284.out
         (first | subst eo47 | (injection eo47 with f1_ f2_ f3_; have f4_ := f1_.symm; have f5_ := f3_.symm; clear f1_ f2_ f3_; subst f4_; subst f5_))
         refine hK.out _ _ ⟨(blk_cell BK269.out 0).trans rfl, (blk_cell BK269.out 1).trans rfl, (blk_cell BK270.out 0).trans rfl, (blk_cell BK270.out 1).trans rfl⟩ (fun hHeld => ?_)
         clear hK K
         refine norm_ (a' := ?_) ?_ ?_
         rotate_left
         ·
          show Act.put _ (some 40) _ = _
          exact sP
         refine pure_ (i := 7) (N := some 41) (v := ?_) (a' := ?_) (impl_JoinLines.bF 10 255) rfl rfl (any_of HT_.out (by kernel_rfl)) (fun _ _ _ h => h) (Or.inl ⟨by rfl, ?_⟩) ?_ ?_
         rotate_left
         ·
          intro w'
          go_simp
          with_reducible rfl
         rotate_left
         ·
          exact sP
         refine one_ (i := 8) (N := some 10) #[true, true, true, true, true, true, true, true, true, false] rfl rfl (one_of HT_.out (by kernel_rfl)) (by decide) (fun K hK => ?_)
         refine box_step ?hg (N := 10) ?hd (cs := #[.slice none 0 0, .slice none 0 0]) (t := 45) ?hr ?_; (case hd => rfl); (case hg => rfl); (case hr => first | (go_simp; done) | (go_simp; rfl))
         intro gb285 hg w48 hbox hb
         have n0_ := aS (Kd.R_below (sR HO284.out) hb)
         have n1_ := aS (blk_below (g := gb269) (o := .cells #[.slice A1_0 l1_0.length c1_0, .slice A1_1 l1_1.length c1_1] 45 (0, 0)) (sB BK269.out) hb)
         have n2_ := aS (blk_below (g := gb270) (o := .cells #[.slice A2_0 l2_0.length c2_0, .slice A2_1 l2_1.length c2_1] 45 (0, 0)) (sB BK270.out) hb)
         have n3_ := aS (blk_below (g := gb271) (o := .cells #[.slice none 0 0, .slice none 0 0] 45 (0, 0)) (sB BK271.out) hb)
         have n4_ := aS (below_step (sW HB.out) hb)
         have n5_ := aS (hbox)
         have n6_ := aS ((by rw [hg]; exact (below_size (sW HB.out)) : w.heap.size ≤ gb285))
         have n7_ := aS ((by rw [hg]; exact (below_size (sW HB.out)) : w.heap.size ≤ gb285))
         have n8_ := aS ((by rw [hg]; exact Nat.ne_of_lt (blk_lt (g := gb269) (o := .cells #[.slice A1_0 l1_0.length c1_0, .slice A1_1 l1_1.length c1_1] 45 (0, 0)) (sB BK269.out)) : gb269 ≠ gb285))
         have n9_ := aS ((by rw [hg]; exact Nat.ne_of_gt (blk_lt (g := gb269) (o := .cells #[.slice A1_0 l1_0.length c1_0, .slice A1_1 l1_1.length c1_1] 45 (0, 0)) (sB BK269.out)) : gb285 ≠ gb269))
         have n10_ := aS ((by rw [hg]; exact Nat.ne_of_lt (blk_lt (g := gb270) (o := .cells #[.slice A2_0 l2_0.length c2_0, .slice A2_1 l2_1.length c2_1] 45 (0, 0)) (sB BK270.out)) : gb270 ≠ gb285))
         have n11_ := aS ((by rw [hg]; exact Nat.ne_of_gt (blk_lt (g := gb270) (o := .cells #[.slice A2_0 l2_0.length c2_0, .slice A2_1 l2_1.length c2_1] 45 (0, 0)) (sB BK270.out)) : gb285 ≠ gb270))
         have n12_ := aS ((by rw [hg]; exact Nat.ne_of_lt (blk_lt (g := gb271) (o := .cells #[.slice none 0 0, .slice none 0 0] 45 (0, 0)) (sB BK271.out)) : gb271 ≠ gb285))
         have n13_ := aS ((by rw [hg]; exact Nat.ne_of_gt (blk_lt (g := gb271) (o := .cells #[.slice none 0 0, .slice none 0 0] 45 (0, 0)) (sB BK271.out)) : gb285 ≠ gb271))
         clear HO284 BK269 BK270 BK271 HB
         have HO284 := n0_; have BK269 := n1_; have BK270 := n2_; have BK271 := n3_; have HB := n4_; have BK285 := n5_; have GW285 := n6_; have GE285 := n7_; have NB269_285 := n8_; have NB285_269 := n9_; have NB270_285 := n10_; have NB285_270 := n11_; have NB271_285 := n12_; have NB285_271 := n13_
         clear n0_ n1_ n2_ n3_ n4_ n5_ n6_ n7_ n8_ n9_ n10_ n11_ n12_ n13_
         clear hb hbox hg
         refine hK.out _ _ ⟨(blk_cell BK269.out 0).trans rfl, (blk_cell BK269.out 1).trans rfl, (blk_cell BK270.out 0).trans rfl, (blk_cell BK270.out 1).trans rfl⟩ (fun hHeld => ?_)
         clear hK K
         refine norm_ (a' := ?_) ?_ ?_
         rotate_left
         ·
          show Act.put _ (some 10) _ = _
          exact sP
         exact norm_ (by simp only [putAll, Act.put, List.setIfInBounds_toArray, List.set_cons_zero, List.set_cons_succ]) (hCont (v277, v280, .slice Ao47 y282.length co47, gb285) _ ⟨hHeld, (sR HO284.out), (sB BK269.out), (sB BK270.out), (sB BK271.out), (sB BK285.out), GW285.out, GE285.out, NB269_285.out, NB285_269.out, NB270_285.out, NB285_270.out, NB271_285.out, NB285_271.out, (sW HB.out)⟩)
        ·
         skip
         refine box_step ?hg (N := 10) ?hd (cs := #[.slice none 0 0, .slice none 0 0]) (t := 45) ?hr ?_; (case hd => rfl); (case hg => rfl); (case hr => first | (go_simp; done) | (go_simp; rfl))
         intro gb285 hg w46 hbox hb
         have n0_ := aS (Kd.R_below (sR HO281.out) hb)
         have n1_ := aS (blk_below (g := gb269) (o := .cells #[.slice A1_0 l1_0.length c1_0, .slice A1_1 l1_1.length c1_1] 45 (0, 0)) (sB BK269.out) hb)
         have n2_ := aS (blk_below (g := gb270) (o := .cells #[.slice A2_0 l2_0.length c2_0, .slice A2_1 l2_1.length c2_1] 45 (0, 0)) (sB BK270.out) hb)
         have n3_ := aS (blk_below (g := gb271) (o := .cells #[.slice none 0 0, .slice none 0 0] 45 (0, 0)) (sB BK271.out) hb)
         have n4_ := aS (below_step (sW HB.out) hb)
         have n5_ := aS (hbox)
         have n6_ := aS ((by rw [hg]; exact (below_size (sW HB.out)) : w.heap.size ≤ gb285))
         have n7_ := aS ((by rw [hg]; exact (below_size (sW HB.out)) : w.heap.size ≤ gb285))
         have n8_ := aS ((by rw [hg]; exact Nat.ne_of_lt (blk_lt (g := gb269) (o := .cells #[.slice A1_0 l1_0.length c1_0, .slice A1_1 l1_1.length c1_1] 45 (0, 0)) (sB BK269.out)) : gb269 ≠ gb285))
         have n9_ := aS ((by rw [hg]; exact Nat.ne_of_gt (blk_lt (g := gb269) (o := .cells #[.slice A1_0 l1_0.length c1_0, .slice A1_1 l1_1.length c1_1] 45 (0, 0)) (sB BK269.out)) : gb285 ≠ gb269))
         have n10_ := aS ((by rw [hg]; exact Nat.ne_of_lt (blk_lt (g := gb270) (o := .cells #[.slice A2_0 l2_0.length c2_0, .slice A2_1 l2_1.length c2_1] 45 (0, 0)) (sB BK270.out)) : gb270 ≠ gb285))
         have n11_ := aS ((by rw [hg]; exact Nat.ne_of_gt (blk_lt (g := gb270) (o := .cells #[.slice A2_0 l2_0.length c2_0, .slice A2_1 l2_1.length c2_1] 45 (0, 0)) (sB BK270.out)) : gb285 ≠ gb270))
         have n12_ := aS ((by rw [hg]; exact Nat.ne_of_lt (blk_lt (g := gb271) (o := .cells #[.slice none 0 0, .slice none 0 0] 45 (0, 0)) (sB BK271.out)) : gb271 ≠ gb285))
         have n13_ := aS ((by rw [hg]; exact Nat.ne_of_gt (blk_lt (g := gb271) (o := .cells #[.slice none 0 0, .slice none 0 0] 45 (0, 0)) (sB BK271.out)) : gb285 ≠ gb271))
         clear HO281 BK269 BK270 BK271 HB
         have HO281 := n0_; have BK269 := n1_; have BK270 := n2_; have BK271 := n3_; have HB := n4_; have BK285 := n5_; have GW285 := n6_; have GE285 := n7_; have NB269_285 := n8_; have NB285_269 := n9_; have NB270_285 := n10_; have NB285_270 := n11_; have NB271_285 := n12_; have NB285_271 := n13_
         clear n0_ n1_ n2_ n3_ n4_ n5_ n6_ n7_ n8_ n9_ n10_ n11_ n12_ n13_
         clear hb hbox hg
         refine hK.out _ _ ⟨(blk_cell BK269.out 0).trans rfl, (blk_cell BK269.out 1).trans rfl, (blk_cell BK270.out 0).trans rfl, (blk_cell BK270.out 1).trans rfl⟩ (fun hHeld => ?_)
         clear hK K
         refine norm_ (a' := ?_) ?_ ?_
         rotate_left
         ·
          show Act.put _ (some 10) _ = _
          exact sP
         refine one_ (i := 6) (N := some 40) #[true, true, true, true, true, true, true, false, true, false] rfl rfl (one_of HT_.out (by kernel_rfl)) (by decide) (fun K hK => ?_)
         refine Kd.R_append_rows_step k91 (w0 := w) w.heap.size (by rfl) (.tmp 37) (.tmp 39) 43 91 (.agg #[(.int .i64 0), (.int .i64 0)]) 16 rfl Try.underlying43 info91 rfl (by decide) (by omega) v280 y279 l2_0 _ _ _ (fun _ => True) (fun _ => False) rfl rfl ?aO ?aR (fun _ _ h => h) (fun _ h => h.elim) ?aF ?aB ?aS ?aL ?_
         (case aR => repeat (first | exact (Kd.C_below HR2_0.out HB.out) | (with_reducible refine Kd.C_alloc ?_ _) | (with_reducible refine Kd.C_drewN ?_ _) | (with_reducible refine Kd.C_drew ?_)))
         (case aB => exact (sW HB.out))
         (case aF => exact (fun _ _ => trivial))
         (case aO => exact (sR HO281.out))
         (case aS => exact (below_size (sW HB.out)))
         (case aL => have := LMc36.out; omega)
         intro v283 w47 ho hb hg hat
         rw [← Ny282.out] at ho
         have n0_ := aS (blk_grown (g := gb269) (o := .cells #[.slice A1_0 l1_0.length c1_0, .slice A1_1 l1_1.length c1_1] 45 (0, 0)) (sB BK269.out) hg (Kd.R_ne HO281.out BK269.out (by decide)))
         have n1_ := aS (blk_grown (g := gb270) (o := .cells #[.slice A2_0 l2_0.length c2_0, .slice A2_1 l2_1.length c2_1] 45 (0, 0)) (sB BK270.out) hg (Kd.R_ne HO281.out BK270.out (by decide)))
         have n2_ := aS (blk_grown (g := gb271) (o := .cells #[.slice none 0 0, .slice none 0 0] 45 (0, 0)) (sB BK271.out) hg (Kd.R_ne HO281.out BK271.out (by decide)))
         have n3_ := aS (blk_grown (g := gb285) (o := .cells #[.slice none 0 0, .slice none 0 0] 45 (0, 0)) (sB BK285.out) hg (Kd.R_ne HO281.out BK285.out (by decide)))
         have n4_ := aS (hb)
         have n5_ := aS (ho)
         clear BK269 BK270 BK271 BK285 HB HO281
         have BK269 := n0_; have BK270 := n1_; have BK271 := n2_; have BK285 := n3_; have HB := n4_; have HO284 := n5_
         clear n0_ n1_ n2_ n3_ n4_ n5_
         clear ho hb hg hat
         obtain ⟨Ao48, co48, eo48⟩ := Kd.R_slice HO284.out
         (first | subst eo48 | (injection eo48 with f1_ f2_ f3_; have f4_ := f1_.symm; have f5_ := f3_.symm; clear f1_ f2_ f3_; subst f4_; subst f5_))
         refine hK.out _ _ ⟨(blk_cell BK269.out 0).trans rfl, (blk_cell BK269.out 1).trans rfl, (blk_cell BK270.out 0).trans rfl, (blk_cell BK270.out 1).trans rfl⟩ (fun hHeld => ?_)
         clear hK K
         refine norm_ (a' := ?_) ?_ ?_
         rotate_left
         ·
          show Act.put _ (some 40) _ = _
          exact sP
         refine pure_ (i := 7) (N := some 41) (v := ?_) (a' := ?_) (impl_JoinLines.bF 10 511) rfl rfl (any_of HT_.out (by kernel_rfl)) (fun _ _ _ h => h) (Or.inl ⟨by rfl, ?_⟩) ?_ ?_
         rotate_left
         ·
          intro w'
          go_simp
          with_reducible rfl
         rotate_left
         ·
          exact sP
         exact norm_ (by simp only [putAll, Act.put, List.setIfInBounds_toArray, List.set_cons_zero, List.set_cons_succ]) (hCont (v277, v280, .slice Ao48 y282.length co48, gb285) _ ⟨hHeld, (sR HO284.out), (sB BK269.out), (sB BK270.out), (sB BK271.out), (sB BK285.out), GW285.out, GE285.out, NB269_285.out, NB285_269.out, NB270_285.out, NB285_270.out, NB271_285.out, NB285_271.out, (sW HB.out)⟩)
       ·
        skip
        refine box_step ?hg (N := 10) ?hd (cs := #[.slice none 0 0, .slice none 0 0]) (t := 45) ?hr ?_; (case hd => rfl); (case hg => rfl); (case hr => first | (go_simp; done) | (go_simp; rfl))
        intro gb285 hg w45 hbox hb
        have n0_ := aS (Kd.R_below (sR HO278.out) hb)
        have n1_ := aS (blk_below (g := gb269) (o := .cells #[.slice A1_0 l1_0.length c1_0, .slice A1_1 l1_1.length c1_1] 45 (0, 0)) (sB BK269.out) hb)
        have n2_ := aS (blk_below (g := gb270) (o := .cells #[.slice A2_0 l2_0.length c2_0, .slice A2_1 l2_1.length c2_1] 45 (0, 0)) (sB BK270.out) hb)
        have n3_ := aS (blk_below (g := gb271) (o := .cells #[.slice none 0 0, .slice none 0 0] 45 (0, 0)) (sB BK271.out) hb)
        have n4_ := aS (below_step (sW HB.out) hb)
        have n5_ := aS (hbox)
        have n6_ := aS ((by rw [hg]; exact (below_size (sW HB.out)) : w.heap.size ≤ gb285))
        have n7_ := aS ((by rw [hg]; exact (below_size (sW HB.out)) : w.heap.size ≤ gb285))
        have n8_ := aS ((by rw [hg]; exact Nat.ne_of_lt (blk_lt (g := gb269) (o := .cells #[.slice A1_0 l1_0.length c1_0, .slice A1_1 l1_1.length c1_1] 45 (0, 0)) (sB BK269.out)) : gb269 ≠ gb285))
        have n9_ := aS ((by rw [hg]; exact Nat.ne_of_gt (blk_lt (g := gb269) (o := .cells #[.slice A1_0 l1_0.length c1_0, .slice A1_1 l1_1.length c1_1] 45 (0, 0)) (sB BK269.out)) : gb285 ≠ gb269))
        have n10_ := aS ((by rw [hg]; exact Nat.ne_of_lt (blk_lt (g := gb270) (o := .cells #[.slice A2_0 l2_0.length c2_0, .slice A2_1 l2_1.length c2_1] 45 (0, 0)) (sB BK270.out)) : gb270 ≠ gb285))
        have n11_ := aS ((by rw [hg]; exact Nat.ne_of_gt (blk_lt (g := gb270) (o := .cells #[.slice A2_0 l2_0.length c2_0, .slice A2_1 l2_1.length c2_1] 45 (0, 0)) (sB BK270.out)) : gb285 ≠ gb270))
        have n12_ := aS ((by rw [hg]; exact Nat.ne_of_lt (blk_lt (g := gb271) (o := .cells #[.slice none 0 0, .slice none 0 0] 45 (0, 0)) (sB BK271.out)) : gb271 ≠ gb285))
        have n13_ := aS ((by rw [hg]; exact Nat.ne_of_gt (blk_lt (g := gb271) (o := .cells #[.slice none 0 0, .slice none 0 0] 45 (0, 0)) (sB BK271.out)) : gb285 ≠ gb271))
        clear HO278 BK269 BK270 BK271 HB
        have HO278 := n0_; have BK269 := n1_; have BK270 := n2_; have BK271 := n3_; have HB := n4_; have BK285 := n5_; have GW285 := n6_; have GE285 := n7_; have NB269_285 := n8_; have NB285_269 := n9_; have NB270_285 := n10_; have NB285_270 := n11_; have NB271_285 := n12_; have NB285_271 := n13_
        clear n0_ n1_ n2_ n3_ n4_ n5_ n6_ n7_ n8_ n9_ n10_ n11_ n12_ n13_
        clear hb hbox hg
        refine hK.out _ _ ⟨(blk_cell BK269.out 0).trans rfl, (blk_cell BK269.out 1).trans rfl, (blk_cell BK270.out 0).trans rfl, (blk_cell BK270.out 1).trans rfl⟩ (fun hHeld => ?_)
        clear hK K
        refine norm_ (a' := ?_) ?_ ?_
        rotate_left
        ·
         show Act.put _ (some 10) _ = _
         exact sP
        refine one_ (i := 3) (N := some 37) #[true, true, true, true, true, true, false, false, true, false] rfl rfl (one_of HT_.out (by kernel_rfl)) (by decide) (fun K hK => ?_)
        refine Kd.R_append_rows_step k91 (w0 := w) w.heap.size (by rfl) (.tmp 34) (.tmp 36) 43 91 (.agg #[(.int .i64 0), (.int .i64 0)]) 16 rfl Try.underlying43 info91 rfl (by decide) (by omega) v277 y276 l1_0 _ _ _ (fun _ => True) (fun _ => False) rfl rfl ?aO ?aR (fun _ _ h => h) (fun _ h => h.elim) ?aF ?aB ?aS ?aL ?_
        (case aR => repeat (first | exact (Kd.C_below HR1_0.out HB.out) | (with_reducible refine Kd.C_alloc ?_ _) | (with_reducible refine Kd.C_drewN ?_ _) | (with_reducible refine Kd.C_drew ?_)))
        (case aB => exact (sW HB.out))
        (case aF => exact (fun _ _ => trivial))
        (case aO => exact (sR HO278.out))
        (case aS => exact (below_size (sW HB.out)))
        (case aL => have := LMc35.out; omega)
        intro v280 w46 ho hb hg hat
        rw [← Ny279.out] at ho
        have n0_ := aS (blk_grown (g := gb269) (o := .cells #[.slice A1_0 l1_0.length c1_0, .slice A1_1 l1_1.length c1_1] 45 (0, 0)) (sB BK269.out) hg (Kd.R_ne HO278.out BK269.out (by decide)))
        have n1_ := aS (blk_grown (g := gb270) (o := .cells #[.slice A2_0 l2_0.length c2_0, .slice A2_1 l2_1.length c2_1] 45 (0, 0)) (sB BK270.out) hg (Kd.R_ne HO278.out BK270.out (by decide)))
        have n2_ := aS (blk_grown (g := gb271) (o := .cells #[.slice none 0 0, .slice none 0 0] 45 (0, 0)) (sB BK271.out) hg (Kd.R_ne HO278.out BK271.out (by decide)))
        have n3_ := aS (blk_grown (g := gb285) (o := .cells #[.slice none 0 0, .slice none 0 0] 45 (0, 0)) (sB BK285.out) hg (Kd.R_ne HO278.out BK285.out (by decide)))
        have n4_ := aS (hb)
        have n5_ := aS (ho)
        clear BK269 BK270 BK271 BK285 HB HO278
        have BK269 := n0_; have BK270 := n1_; have BK271 := n2_; have BK285 := n3_; have HB := n4_; have HO281 := n5_
        clear n0_ n1_ n2_ n3_ n4_ n5_
        clear ho hb hg hat
        refine hK.out _ _ ⟨(blk_cell BK269.out 0).trans rfl, (blk_cell BK269.out 1).trans rfl, (blk_cell BK270.out 0).trans rfl, (blk_cell BK270.out 1).trans rfl⟩ (fun hHeld => ?_)
        clear hK K
        refine norm_ (a' := ?_) ?_ ?_
        rotate_left
        ·
         show Act.put _ (some 37) _ = _
         exact sP
        refine one_ (i := 6) (N := some 40) #[true, true, true, true, true, true, true, false, true, false] rfl rfl (one_of HT_.out (by kernel_rfl)) (by decide) (fun K hK => ?_)
        refine Kd.R_append_rows_step k91 (w0 := w) w.heap.size (by rfl) (.tmp 37) (.tmp 39) 43 91 (.agg #[(.int .i64 0), (.int .i64 0)]) 16 rfl Try.underlying43 info91 rfl (by decide) (by omega) v280 y279 l2_0 _ _ _ (fun _ => True) (fun _ => False) rfl rfl ?aO ?aR (fun _ _ h => h) (fun _ h => h.elim) ?aF ?aB ?aS ?aL ?_
        (case aR => repeat (first | exact (Kd.C_below HR2_0.out HB.out) | (with_reducible refine Kd.C_alloc ?_ _) | (with_reducible refine Kd.C_drewN ?_ _) | (with_reducible refine Kd.C_drew ?_)))
        (case aB => exact (sW HB.out))
        (case aF => exact (fun _ _ => trivial))
        (case aO => exact (sR HO281.out))
        (case aS => exact (below_size (sW HB.out)))
        (case aL => have := LMc36.out; omega)
        intro v283 w47 ho hb hg hat
        rw [← Ny282.out] at ho
        have n0_ := aS (blk_grown (g := gb269) (o := .cells #[.slice A1_0 l1_0.length c1_0, .slice A1_1 l1_1.length c1_1] 45 (0, 0)) (sB BK269.out) hg (Kd.R_ne HO281.out BK269.out (by decide)))
        have n1_ := aS (blk_grown (g := gb270) (o := .cells #[.slice A2_0 l2_0.length c2_0, .slice A2_1 l2_1.length c2_1] 45 (0, 0)) (sB BK270.out) hg (Kd.R_ne HO281.out BK270.out (by decide)))
        have n2_ := aS (blk_grown (g := gb271) (o := .cells #[.slice none 0 0, .slice none 0 0] 45 (0, 0)) (sB BK271.out) hg (Kd.R_ne HO281.out BK271.out (by decide)))
        have n3_ := aS (blk_grown (g := gb285) (o := .cells #[.slice none 0 0, .slice none 0 0] 45 (0, 0)) (sB BK285.out) hg (Kd.R_ne HO281.out BK285.out (by decide)))
        have n4_ := aS (hb)
        have n5_ := aS (ho)
        clear BK269 BK270 BK271 BK285 HB HO281
        have BK269 := n0_; have BK270 := n1_; have BK271 := n2_; have BK285 := n3_; have HB := n4_; have HO284 := n5_
        clear n0_ n1_ n2_ n3_ n4_ n5_
        clear ho hb hg hat
        obtain ⟨Ao48, co48, eo48⟩ := Kd.R_slice HO284.out
        (first | subst eo48 | (injection eo48 with f1_ f2_ f3_; have f4_ := f1_.symm; have f5_ := f3_.symm; clear f1_ f2_ f3_; subst f4_; subst f5_))
        refine hK.out _ _ ⟨(blk_cell BK269.out 0).trans rfl, (blk_cell BK269.out 1).trans rfl, (blk_cell BK270.out 0).trans rfl, (blk_cell BK270.out 1).trans rfl⟩ (fun hHeld => ?_)
        clear hK K
        refine norm_ (a' := ?_) ?_ ?_
        rotate_left
        ·
         show Act.put _ (some 40) _ = _
         exact sP
        refine pure_ (i := 7) (N := some 41) (v := ?_) (a' := ?_) (impl_JoinLines.bF 10 511) rfl rfl (any_of HT_.out (by kernel_rfl)) (fun _ _ _ h => h) (Or.inl ⟨by rfl, ?_⟩) ?_ ?_
        rotate_left
        ·
         intro w'
         go_simp
         with_reducible rfl
        rotate_left
        ·
         exact sP
        exact norm_ (by simp only [putAll, Act.put, List.setIfInBounds_toArray, List.set_cons_zero, List.set_cons_succ]) (hCont (v277, v280, .slice Ao48 y282.length co48, gb285) _ ⟨hHeld, (sR HO284.out), (sB BK269.out), (sB BK270.out), (sB BK271.out), (sB BK285.out), GW285.out, GE285.out, NB269_285.out, NB285_269.out, NB270_285.out, NB285_270.out, NB271_285.out, NB285_271.out, (sW HB.out)⟩)
      ·
       skip
       refine box_step ?hg (N := 10) ?hd (cs := #[.slice none 0 0, .slice none 0 0]) (t := 45) ?hr ?_; (case hd => rfl); (case hg => rfl); (case hr => first | (go_simp; done) | (go_simp; rfl))
       intro gb285 hg w43 hbox hb
       have n0_ := aS (blk_below (g := gb269) (o := .cells #[.slice A1_0 l1_0.length c1_0, .slice A1_1 l1_1.length c1_1] 45 (0, 0)) (sB BK269.out) hb)
       have n1_ := aS (blk_below (g := gb270) (o := .cells #[.slice A2_0 l2_0.length c2_0, .slice A2_1 l2_1.length c2_1] 45 (0, 0)) (sB BK270.out) hb)
       have n2_ := aS (blk_below (g := gb271) (o := .cells #[.slice none 0 0, .slice none 0 0] 45 (0, 0)) (sB BK271.out) hb)
       have n3_ := aS (below_step (sW HB.out) hb)
       have n4_ := aS (hbox)
       have n5_ := aS ((by rw [hg]; exact (below_size (sW HB.out)) : w.heap.size ≤ gb285))
       have n6_ := aS ((by rw [hg]; exact (below_size (sW HB.out)) : w.heap.size ≤ gb285))
       have n7_ := aS ((by rw [hg]; exact Nat.ne_of_lt (blk_lt (g := gb269) (o := .cells #[.slice A1_0 l1_0.length c1_0, .slice A1_1 l1_1.length c1_1] 45 (0, 0)) (sB BK269.out)) : gb269 ≠ gb285))
       have n8_ := aS ((by rw [hg]; exact Nat.ne_of_gt (blk_lt (g := gb269) (o := .cells #[.slice A1_0 l1_0.length c1_0, .slice A1_1 l1_1.length c1_1] 45 (0, 0)) (sB BK269.out)) : gb285 ≠ gb269))
       have n9_ := aS ((by rw [hg]; exact Nat.ne_of_lt (blk_lt (g := gb270) (o := .cells #[.slice A2_0 l2_0.length c2_0, .slice A2_1 l2_1.length c2_1] 45 (0, 0)) (sB BK270.out)) : gb270 ≠ gb285))
       have n10_ := aS ((by rw [hg]; exact Nat.ne_of_gt (blk_lt (g := gb270) (o := .cells #[.slice A2_0 l2_0.length c2_0, .slice A2_1 l2_1.length c2_1] 45 (0, 0)) (sB BK270.out)) : gb285 ≠ gb270))
       have n11_ := aS ((by rw [hg]; exact Nat.ne_of_lt (blk_lt (g := gb271) (o := .cells #[.slice none 0 0, .slice none 0 0] 45 (0, 0)) (sB BK271.out)) : gb271 ≠ gb285))
       have n12_ := aS ((by rw [hg]; exact Nat.ne_of_gt (blk_lt (g := gb271) (o := .cells #[.slice none 0 0, .slice none 0 0] 45 (0, 0)) (sB BK271.out)) : gb285 ≠ gb271))
       clear BK269 BK270 BK271 HB
       have BK269 := n0_; have BK270 := n1_; have BK271 := n2_; have HB := n3_; have BK285 := n4_; have GW285 := n5_; have GE285 := n6_; have NB269_285 := n7_; have NB285_269 := n8_; have NB270_285 := n9_; have NB285_270 := n10_; have NB271_285 := n11_; have NB285_271 := n12_
       clear n0_ n1_ n2_ n3_ n4_ n5_ n6_ n7_ n8_ n9_ n10_ n11_ n12_
       clear hb hbox hg
       refine hK.out _ _ ⟨(blk_cell BK269.out 0).trans rfl, (blk_cell BK269.out 1).trans rfl, (blk_cell BK270.out 0).trans rfl, (blk_cell BK270.out 1).trans rfl⟩ (fun hHeld => ?_)
       clear hK K
       refine norm_ (a' := ?_) ?_ ?_
       rotate_left
       ·
        show Act.put _ (some 10) _ = _
        exact sP
       refine one_ (i := 0) (N := some 34) #[true, true, true, false, true, true, false, false, true, false] rfl rfl (one_of HT_.out (by kernel_rfl)) (by decide) (fun K hK => ?_)
       refine Kd.R_lit_step k91 _ 91 ?hg (N := 34) ?hd (xs := ([] : List (S91))) (inner := []) (ok := fun _ => True) (okp := fun _ => True) ?hr ?hp (fun _ hk => hk) trivial (Below.refl _ _) (Nat.le_refl _) (by simp) ?_; (case hd => rfl); (case hg => rfl); (case hr => first | (go_simp; done) | (go_simp; rfl)); (case hp => exact (Reps.none _ _))
       intro v277 w44 ho45 hb hg_ hnew_
       clear hg_ hnew_
       (first | rw [← Ny276.out] at ho45 | (simp only [Int.reduceToNat] at ho45; rw [← Ny276.out] at ho45))
       have n0_ := aS (Kd.R_lower ho45 (below_size (sW HB.out)))
       have n1_ := aS (blk_below (g := gb269) (o := .cells #[.slice A1_0 l1_0.length c1_0, .slice A1_1 l1_1.length c1_1] 45 (0, 0)) (sB BK269.out) hb)
       have n2_ := aS (blk_below (g := gb270) (o := .cells #[.slice A2_0 l2_0.length c2_0, .slice A2_1 l2_1.length c2_1] 45 (0, 0)) (sB BK270.out) hb)
       have n3_ := aS (blk_below (g := gb271) (o := .cells #[.slice none 0 0, .slice none 0 0] 45 (0, 0)) (sB BK271.out) hb)
       have n4_ := aS (blk_below (g := gb285) (o := .cells #[.slice none 0 0, .slice none 0 0] 45 (0, 0)) (sB BK285.out) hb)
       have n5_ := aS (below_step (sW HB.out) hb)
       clear BK269 BK270 BK271 BK285 HB
       have HO278 := n0_; have BK269 := n1_; have BK270 := n2_; have BK271 := n3_; have BK285 := n4_; have HB := n5_
       clear n0_ n1_ n2_ n3_ n4_ n5_
       clear hb ho45
       refine hK.out _ _ ⟨(blk_cell BK269.out 0).trans rfl, (blk_cell BK269.out 1).trans rfl, (blk_cell BK270.out 0).trans rfl, (blk_cell BK270.out 1).trans rfl⟩ (fun hHeld => ?_)
       clear hK K
       refine norm_ (a' := ?_) ?_ ?_
       rotate_left
       ·
        show Act.put _ (some 34) _ = _
        exact sP
       refine one_ (i := 3) (N := some 37) #[true, true, true, true, true, true, false, false, true, false] rfl rfl (one_of HT_.out (by kernel_rfl)) (by decide) (fun K hK => ?_)
       refine Kd.R_append_rows_step k91 (w0 := w) w.heap.size (by rfl) (.tmp 34) (.tmp 36) 43 91 (.agg #[(.int .i64 0), (.int .i64 0)]) 16 rfl Try.underlying43 info91 rfl (by decide) (by omega) v277 y276 l1_0 _ _ _ (fun _ => True) (fun _ => False) rfl rfl ?aO ?aR (fun _ _ h => h) (fun _ h => h.elim) ?aF ?aB ?aS ?aL ?_
       (case aR => repeat (first | exact (Kd.C_below HR1_0.out HB.out) | (with_reducible refine Kd.C_alloc ?_ _) | (with_reducible refine Kd.C_drewN ?_ _) | (with_reducible refine Kd.C_drew ?_)))
       (case aB => exact (sW HB.out))
       (case aF => exact (fun _ _ => trivial))
       (case aO => exact (sR HO278.out))
       (case aS => exact (below_size (sW HB.out)))
       (case aL => have := LMc35.out; omega)
       intro v280 w46 ho hb hg hat
       rw [← Ny279.out] at ho
       have n0_ := aS (blk_grown (g := gb269) (o := .cells #[.slice A1_0 l1_0.length c1_0, .slice A1_1 l1_1.length c1_1] 45 (0, 0)) (sB BK269.out) hg (Kd.R_ne HO278.out BK269.out (by decide)))
       have n1_ := aS (blk_grown (g := gb270) (o := .cells #[.slice A2_0 l2_0.length c2_0, .slice A2_1 l2_1.length c2_1] 45 (0, 0)) (sB BK270.out) hg (Kd.R_ne HO278.out BK270.out (by decide)))
       have n2_ := aS (blk_grown (g := gb271) (o := .cells #[.slice none 0 0, .slice none 0 0] 45 (0, 0)) (sB BK271.out) hg (Kd.R_ne HO278.out BK271.out (by decide)))
       have n3_ := aS (blk_grown (g := gb285) (o := .cells #[.slice none 0 0, .slice none 0 0] 45 (0, 0)) (sB BK285.out) hg (Kd.R_ne HO278.out BK285.out (by decide)))
       have n4_ := aS (hb)
       have n5_ := aS (ho)
       clear BK269 BK270 BK271 BK285 HB HO278
       have BK269 := n0_; have BK270 := n1_; have BK271 := n2_; have BK285 := n3_; have HB := n4_; have HO281 := n5_
       clear n0_ n1_ n2_ n3_ n4_ n5_
       clear ho hb hg hat
       refine hK.out _ _ ⟨(blk_cell BK269.out 0).trans rfl, (blk_cell BK269.out 1).trans rfl, (blk_cell BK270.out 0).trans rfl, (blk_cell BK270.out 1).trans rfl⟩ (fun hHeld => ?_)
       clear hK K
       refine norm_ (a' := ?_) ?_ ?_
       rotate_left
       ·
        show Act.put _ (some 37) _ = _
        exact sP
       refine one_ (i := 6) (N := some 40) #[true, true, true, true, true, true, true, false, true, false] rfl rfl (one_of HT_.out (by kernel_rfl)) (by decide) (fun K hK => ?_)
       refine Kd.R_append_rows_step k91 (w0 := w) w.heap.size (by rfl) (.tmp 37) (.tmp 39) 43 91 (.agg #[(.int .i64 0), (.int .i64 0)]) 16 rfl Try.underlying43 info91 rfl (by decide) (by omega) v280 y279 l2_0 _ _ _ (fun _ => True) (fun _ => False) rfl rfl ?aO ?aR (fun _ _ h => h) (fun _ h => h.elim) ?aF ?aB ?aS ?aL ?_
       (case aR => repeat (first | exact (Kd.C_below HR2_0.out HB.out) | (with_reducible refine Kd.C_alloc ?_ _) | (with_reducible refine Kd.C_drewN ?_ _) | (with_reducible refine Kd.C_drew ?_)))
       (case aB => exact (sW HB.out))
       (case aF => exact (fun _ _ => trivial))
       (case aO => exact (sR HO281.out))
       (case aS => exact (below_size (sW HB.out)))
       (case aL => have := LMc36.out; omega)
       intro v283 w47 ho hb hg hat
       rw [← Ny282.out] at ho
       have n0_ := aS (blk_grown (g := gb269) (o := .cells #[.slice A1_0 l1_0.length c1_0, .slice A1_1 l1_1.length c1_1] 45 (0, 0)) (sB BK269.out) hg (Kd.R_ne HO281.out BK269.out (by decide)))
       have n1_ := aS (blk_grown (g := gb270) (o := .cells #[.slice A2_0 l2_0.length c2_0, .slice A2_1 l2_1.length c2_1] 45 (0, 0)) (sB BK270.out) hg (Kd.R_ne HO281.out BK270.out (by decide)))
       have n2_ := aS (blk_grown (g := gb271) (o := .cells #[.slice none 0 0, .slice none 0 0] 45 (0, 0)) (sB BK271.out) hg (Kd.R_ne HO281.out BK271.out (by decide)))
       have n3_ := aS (blk_grown (g := gb285) (o := .cells #[.slice none 0 0, .slice none 0 0] 45 (0, 0)) (sB BK285.out) hg (Kd.R_ne HO281.out BK285.out (by decide)))
       have n4_ := aS (hb)
       have n5_ := aS (ho)
       clear BK269 BK270 BK271 BK285 HB HO281
       have BK269 := n0_; have BK270 := n1_; have BK271 := n2_; have BK285 := n3_; have HB := n4_; have HO284 := n5_
       clear n0_ n1_ n2_ n3_ n4_ n5_
       clear ho hb hg hat
       obtain ⟨Ao48, co48, eo48⟩ := Kd.R_slice HO284.out
       (first | subst eo48 | (injection eo48 with f1_ f2_ f3_; have f4_ := f1_.symm; have f5_ := f3_.symm; clear f1_ f2_ f3_; subst f4_; subst f5_))
       refine hK.out _ _ ⟨(blk_cell BK269.out 0).trans rfl, (blk_cell BK269.out 1).trans rfl, (blk_cell BK270.out 0).trans rfl, (blk_cell BK270.out 1).trans rfl⟩ (fun hHeld => ?_)
       clear hK K
       refine norm_ (a' := ?_) ?_ ?_
       rotate_left
       ·
        show Act.put _ (some 40) _ = _
        exact sP
       refine pure_ (i := 7) (N := some 41) (v := ?_) (a' := ?_) (impl_JoinLines.bF 10 511) rfl rfl (any_of HT_.out (by kernel_rfl)) (fun _ _ _ h => h) (Or.inl ⟨by rfl, ?_⟩) ?_ ?_
       rotate_left
       ·
        intro w'
        go_simp
        with_reducible rfl
       rotate_left
       ·
        exact sP
       exact norm_ (by simp only [putAll, Act.put, List.setIfInBounds_toArray, List.set_cons_zero, List.set_cons_succ]) (hCont (v277, v280, .slice Ao48 y282.length co48, gb285) _ ⟨hHeld, (sR HO284.out), (sB BK269.out), (sB BK270.out), (sB BK271.out), (sB BK285.out), GW285.out, GE285.out, NB269_285.out, NB285_269.out, NB270_285.out, NB285_270.out, NB271_285.out, NB285_271.out, (sW HB.out)⟩)
     rintro ⟨v277, v280, v283, gb285⟩ w49 ⟨hS_, h0_, h1_, h2_, h3_, h4_, h5_, h6_, h7_, h8_, h9_, h10_, h11_, h12_, h13_⟩
     have n0_ : Aside0 (Kd.R k91 91 w49 w.heap.size (fun _ => True) v283 y282) := ⟨h0_⟩
     have n1_ : Aside0 (w49.heap[gb269]? = some (.cells #[.slice A1_0 l1_0.length c1_0, .slice A1_1 l1_1.length c1_1] 45 (0, 0))) := ⟨h1_⟩
     have n2_ : Aside0 (w49.heap[gb270]? = some (.cells #[.slice A2_0 l2_0.length c2_0, .slice A2_1 l2_1.length c2_1] 45 (0, 0))) := ⟨h2_⟩
     have n3_ : Aside0 (w49.heap[gb271]? = some (.cells #[.slice none 0 0, .slice none 0 0] 45 (0, 0))) := ⟨h3_⟩
     have n4_ : Aside0 (w49.heap[gb285]? = some (.cells #[.slice none 0 0, .slice none 0 0] 45 (0, 0))) := ⟨h4_⟩
     have n5_ : Aside0 (w.heap.size ≤ gb285) := ⟨h5_⟩
     have n6_ : Aside0 (w.heap.size ≤ gb285) := ⟨h6_⟩
     have n7_ : Aside0 (gb269 ≠ gb285) := ⟨h7_⟩
     have n8_ : Aside0 (gb285 ≠ gb269) := ⟨h8_⟩
     have n9_ : Aside0 (gb270 ≠ gb285) := ⟨h9_⟩
     have n10_ : Aside0 (gb285 ≠ gb270) := ⟨h10_⟩
     have n11_ : Aside0 (gb271 ≠ gb285) := ⟨h11_⟩
     have n12_ : Aside0 (gb285 ≠ gb271) := ⟨h12_⟩
     have n13_ : Aside0 (Below w.heap.size w w49) := ⟨h13_⟩
     clear BK269 BK270 BK271 HB
     clear h0_ h1_ h2_ h3_ h4_ h5_ h6_ h7_ h8_ h9_ h10_ h11_ h12_ h13_
     have HO284 := n0_; have BK269 := n1_; have BK270 := n2_; have BK271 := n3_; have BK285 := n4_; have GW285 := n5_; have GE285 := n6_; have NB269_285 := n7_; have NB285_269 := n8_; have NB270_285 := n9_; have NB285_270 := n10_; have NB271_285 := n11_; have NB285_271 := n12_; have HB := n13_
     clear n0_ n1_ n2_ n3_ n4_ n5_ n6_ n7_ n8_ n9_ n10_ n11_ n12_ n13_
     have hHeld : w49.cell? ⟨gb269, 0, none⟩ = some (.slice A1_0 l1_0.length c1_0) ∧ w49.cell? ⟨gb269, 1, none⟩ = some (.slice A1_1 l1_1.length c1_1) ∧ w49.cell? ⟨gb270, 0, none⟩ = some (.slice A2_0 l2_0.length c2_0) ∧ w49.cell? ⟨gb270, 1, none⟩ = some (.slice A2_1 l2_1.length c2_1) := hS_
     obtain ⟨Ao50, co50, eo50⟩ := Kd.R_slice HO284.out
     (first | subst eo50 | (injection eo50 with f1_ f2_ f3_; have f4_ := f1_.symm; have f5_ := f3_.symm; clear f1_ f2_ f3_; subst f4_; subst f5_))
     refine norm_ (a' := ?_) ?_ ?_
     rotate_left
     ·
      simp only [putAll, Act.put, List.setIfInBounds_toArray, List.set_cons_zero, List.set_cons_succ]
      rfl
     refine one_ (i := 9) (N := none) #[true, true, true, true, true, true, true, true, true, true] rfl rfl (one_of HT_.out (by kernel_rfl)) (by decide) (fun K hK => ?_)
     have hs51 : w49.cell? ⟨gb285, 0, none⟩ = some (.slice none 0 0) := (blk_cell BK285.out 0).trans rfl
     have hfs51 := blk_frozen BK285.out 0
     have hns51_0 := NB269_285.out
     have hns51_1 := NB270_285.out
     have hns51_2 := NB271_285.out
     have hms51_0 := NB285_269.out
     have hms51_1 := NB285_270.out
     have hms51_2 := NB285_271.out
     have hs52 : w49.cell? ⟨gb285, 1, none⟩ = some (.slice none 0 0) := (blk_cell BK285.out 1).trans rfl
     have hfs52 := blk_frozen BK285.out 1
     have hns52_0 := NB269_285.out
     have hns52_1 := NB270_285.out
     have hns52_2 := NB271_285.out
     have hms52_0 := NB285_269.out
     have hms52_1 := NB285_270.out
     have hms52_2 := NB285_271.out
     refine skip_ (w1 := ?_) (by rfl) rfl ?_ ?_
     rotate_left
     ·
      go_simp
      rfl
     refine hK.out _ _ ⟨((cell_far (p := ⟨gb285, _, none⟩) NB269_285.out _).trans (((cell_far (p := ⟨gb285, _, none⟩) NB269_285.out _).trans (hHeld.1)))), ((cell_far (p := ⟨gb285, _, none⟩) NB269_285.out _).trans (((cell_far (p := ⟨gb285, _, none⟩) NB269_285.out _).trans (hHeld.2.1)))), ((cell_far (p := ⟨gb285, _, none⟩) NB270_285.out _).trans (((cell_far (p := ⟨gb285, _, none⟩) NB270_285.out _).trans (hHeld.2.2.1)))), ((cell_far (p := ⟨gb285, _, none⟩) NB270_285.out _).trans (((cell_far (p := ⟨gb285, _, none⟩) NB270_285.out _).trans (hHeld.2.2.2))))⟩ (fun hHeld => ?_)
     clear hK K
     refine done_ (done_of HT_.out (by kernel_rfl)) ?_
     try go_wp2
     have n0_ : Aside0 (Kd.R k91 91 ((w49.setCell ⟨gb285, 0, none⟩ (.slice Ao50 y282.length co50)).setCell ⟨gb285, 1, none⟩ (.slice none 0 0)) w.heap.size (fun _ => True) (.slice Ao50 y282.length co50) y282) := ⟨by (with_reducible repeat (first | apply Kd.R_alloc | apply Kd.R_drewN | apply Kd.R_drew)); exact Kd.R_mono (Kd.R_far (p := ⟨gb285, 1, none⟩) (Kd.R_far (p := ⟨gb285, 0, none⟩) (Kd.R_types HO284.out BK285.out (by decide)) (fun _ hk => hk.2) (.slice Ao50 y282.length co50)) (fun _ hk => hk.2) (.slice none 0 0)) (fun _ hk => trivial)⟩
     have n1_ : Aside0 (((w49.setCell ⟨gb285, 0, none⟩ (.slice Ao50 y282.length co50)).setCell ⟨gb285, 1, none⟩ (.slice none 0 0)).heap[gb269]? = some (.cells #[.slice A1_0 l1_0.length c1_0, .slice A1_1 l1_1.length c1_1] 45 (0, 0))) := ⟨by (with_reducible repeat (first | refine blk_drewN ?_ _ | refine blk_drew ?_ | refine blk_alloc ?_ _)); refine blk_far ?_ NB269_285.out _; (with_reducible repeat (first | refine blk_drewN ?_ _ | refine blk_drew ?_ | refine blk_alloc ?_ _)); refine blk_far ?_ NB269_285.out _; (with_reducible repeat (first | refine blk_drewN ?_ _ | refine blk_drew ?_ | refine blk_alloc ?_ _)); exact BK269.out⟩
     have n2_ : Aside0 (((w49.setCell ⟨gb285, 0, none⟩ (.slice Ao50 y282.length co50)).setCell ⟨gb285, 1, none⟩ (.slice none 0 0)).heap[gb270]? = some (.cells #[.slice A2_0 l2_0.length c2_0, .slice A2_1 l2_1.length c2_1] 45 (0, 0))) := ⟨by (with_reducible repeat (first | refine blk_drewN ?_ _ | refine blk_drew ?_ | refine blk_alloc ?_ _)); refine blk_far ?_ NB270_285.out _; (with_reducible repeat (first | refine blk_drewN ?_ _ | refine blk_drew ?_ | refine blk_alloc ?_ _)); refine blk_far ?_ NB270_285.out _; (with_reducible repeat (first | refine blk_drewN ?_ _ | refine blk_drew ?_ | refine blk_alloc ?_ _)); exact BK270.out⟩
     have n3_ : Aside0 (((w49.setCell ⟨gb285, 0, none⟩ (.slice Ao50 y282.length co50)).setCell ⟨gb285, 1, none⟩ (.slice none 0 0)).heap[gb271]? = some (.cells #[.slice none 0 0, .slice none 0 0] 45 (0, 0))) := ⟨by (with_reducible repeat (first | refine blk_drewN ?_ _ | refine blk_drew ?_ | refine blk_alloc ?_ _)); refine blk_far ?_ NB271_285.out _; (with_reducible repeat (first | refine blk_drewN ?_ _ | refine blk_drew ?_ | refine blk_alloc ?_ _)); refine blk_far ?_ NB271_285.out _; (with_reducible repeat (first | refine blk_drewN ?_ _ | refine blk_drew ?_ | refine blk_alloc ?_ _)); exact BK271.out⟩
     have n4_ : Aside0 (((w49.setCell ⟨gb285, 0, none⟩ (.slice Ao50 y282.length co50)).setCell ⟨gb285, 1, none⟩ (.slice none 0 0)).heap[gb285]? = some (.cells #[.slice Ao50 y282.length co50, .slice none 0 0] 45 (0, 0))) := ⟨by (with_reducible repeat (first | refine blk_drewN ?_ _ | refine blk_drew ?_ | refine blk_alloc ?_ _)); refine blk_put (cs := #[.slice Ao50 y282.length co50, .slice none 0 0]) ?_ 1 _ rfl; (with_reducible repeat (first | refine blk_drewN ?_ _ | refine blk_drew ?_ | refine blk_alloc ?_ _)); refine blk_put (cs := #[.slice none 0 0, .slice none 0 0]) ?_ 0 _ rfl; (with_reducible repeat (first | refine blk_drewN ?_ _ | refine blk_drew ?_ | refine blk_alloc ?_ _)); exact BK285.out⟩
     have n5_ : Aside0 (Below w.heap.size w ((w49.setCell ⟨gb285, 0, none⟩ (.slice Ao50 y282.length co50)).setCell ⟨gb285, 1, none⟩ (.slice none 0 0))) := ⟨by repeat (first | (with_reducible first | exact HB.out | apply below_alloc | apply pw_below_drewN | apply below_drew1 | refine below_set ?_ GE269.out | refine below_set ?_ GE270.out | refine below_set ?_ GE271.out | refine below_set ?_ GE285.out) | exact HB.out)⟩
     (try clear HO284); (try clear BK269); (try clear BK270); (try clear BK271); (try clear BK285); (try clear HB)
     generalize ((w49.setCell ⟨gb285, 0, none⟩ (.slice Ao50 y282.length co50)).setCell ⟨gb285, 1, none⟩ (.slice none 0 0)) = w53 at n0_ n1_ n2_ n3_ n4_ n5_ ⊢
     have HO284 := n0_; have BK269 := n1_; have BK270 := n2_; have BK271 := n3_; have BK285 := n4_; have HB := n5_
     clear n0_ n1_ n2_ n3_ n4_ n5_
     have n0_ := aS (Kd.R_drew HO284.out)
     have n1_ := aS (blk_drew BK269.out)
     have n2_ := aS (blk_drew BK270.out)
     have n3_ := aS (blk_drew BK271.out)
     have n4_ := aS (blk_drew BK285.out)
     have n5_ := aS (below_drew1 HB.out)
     clear HO284 BK269 BK270 BK271 BK285 HB
     have HO284 := n0_; have BK269 := n1_; have BK270 := n2_; have BK271 := n3_; have BK285 := n4_; have HB := n5_
     clear n0_ n1_ n2_ n3_ n4_ n5_
     refine start_ (n := 12) (S := fun w' => w'.cell? ⟨gb269, 0, none⟩ = some (.slice A1_0 l1_0.length c1_0) ∧ w'.cell? ⟨gb269, 1, none⟩ = some (.slice A1_1 l1_1.length c1_1) ∧ w'.cell? ⟨gb270, 0, none⟩ = some (.slice A2_0 l2_0.length c2_0) ∧ w'.cell? ⟨gb270, 1, none⟩ = some (.slice A2_1 l2_1.length c2_1)) (ds := []) #[false, false, false, false, false, false, false, false, false, false, false, false] (by kernel_rfl) rfl rfl ⟨(blk_cell BK269.out 0).trans rfl, (blk_cell BK269.out 1).trans rfl, (blk_cell BK270.out 0).trans rfl, (blk_cell BK270.out 1).trans rfl⟩ (fun hHeld => ?_); refine with_tabW impl_JoinLines.tab6 impl_JoinLines.bits6 (fun HT_ HW_ => ?_)
     generalize w53.drew = w54 at HO284 BK269 BK270 BK271 BK285 HB hHeld ⊢
     refine pure_ (i := 1) (N := some 43) (v := ?_) (a' := ?_) (impl_JoinLines.bF 12 2) rfl rfl (any_of HT_.out (by kernel_rfl)) (fun _ _ _ h => h) (Or.inl ⟨by rfl, ?_⟩) ?_ ?_
     rotate_left
     ·
      intro w'
      go_simp
      with_reducible rfl
     rotate_left
     ·
      exact sP
     refine pure_ (i := 4) (N := some 46) (v := ?_) (a' := ?_) (impl_JoinLines.bF 12 18) rfl rfl (any_of HT_.out (by kernel_rfl)) (fun _ _ _ h => h) (Or.inl ⟨by rfl, ?_⟩) ?_ ?_
     rotate_left
     ·
      intro w'
      go_simp
      with_reducible rfl
     rotate_left
     ·
      exact sP
     refine pure_ (i := 7) (N := some 49) (v := ?_) (a' := ?_) (impl_JoinLines.bF 12 146) rfl rfl (any_of HT_.out (by kernel_rfl)) (fun _ _ _ h => h) (Or.inl ⟨by rfl, ?_⟩) ?_ ?_
     rotate_left
     ·
      intro w'
      go_simp
      with_reducible rfl
     rotate_left
     ·
      exact sP
     refine take_ (i := 2) (N := some 44) (v := ?_) (a' := ?_) (impl_JoinLines.bF 12 150) rfl rfl (take_ofW HT_.out HW_.out (by kernel_rfl)) (fun _ _ _ h => h) (Or.inl ⟨by rfl, ?_⟩) hHeld ?_ ?_
     rotate_left
     ·
      rintro w' ⟨s0, s1, s2, s3⟩
      go_simp
      with_reducible rfl
     rotate_left
     ·
      exact sP
     refine take_ (i := 8) (N := some 50) (v := ?_) (a' := ?_) (impl_JoinLines.bF 12 406) rfl rfl (take_ofW HT_.out HW_.out (by kernel_rfl)) (fun _ _ _ h => h) (Or.inl ⟨by rfl, ?_⟩) hHeld ?_ ?_
     rotate_left
     ·
      rintro w' ⟨s0, s1, s2, s3⟩
      go_simp
      with_reducible rfl
     rotate_left
     ·
      exact sP
     refine join_ (σ := Value × Value × Value) 4 #[true, true, true, true, true, true, false, true, true, false, false, false] (fun s_ => [(42, s_.1), (45, s_.2.1), (47, s_.2.2)]) (fun s_ w' => (w'.cell? ⟨gb269, 0, none⟩ = some (.slice A1_0 l1_0.length c1_0) ∧ w'.cell? ⟨gb269, 1, none⟩ = some (.slice A1_1 l1_1.length c1_1) ∧ w'.cell? ⟨gb270, 0, none⟩ = some (.slice A2_0 l2_0.length c2_0) ∧ w'.cell? ⟨gb270, 1, none⟩ = some (.slice A2_1 l2_1.length c2_1)) ∧ (Kd.R k91 91 w' w.heap.size (fun _ => True) (.slice Ao50 y282.length co50) y282) ∧ (Kd.R (Kd.int .i64) 2 w' w.heap.size (fun k_ => some k_ ≠ (s_.2.2 : Value).ownBlock) s_.2.1 y289) ∧ (Kd.R (Kd.int .i64) 2 w' w.heap.size (fun k_ => some k_ ≠ (s_.2.1 : Value).ownBlock) s_.2.2 y292) ∧ (w'.heap[gb269]? = some (.cells #[.slice A1_0 l1_0.length c1_0, .slice A1_1 l1_1.length c1_1] 45 (0, 0))) ∧ (w'.heap[gb270]? = some (.cells #[.slice A2_0 l2_0.length c2_0, .slice A2_1 l2_1.length c2_1] 45 (0, 0))) ∧ (w'.heap[gb271]? = some (.cells #[.slice none 0 0, .slice none 0 0] 45 (0, 0))) ∧ (w'.heap[gb285]? = some (.cells #[.slice Ao50 y282.length co50, .slice none 0 0] 45 (0, 0))) ∧ (Below w.heap.size w w')) ?_ ?_
     rotate_left
     ·
      intro hCont
      refine two_ (i := 0) (j := 5) (Ni := some 42) (Nj := some 47) #[true, true, true, false, true, false, false, true, true, false, false, false] #[false, true, true, false, true, true, false, true, true, false, false, false] rfl rfl rfl rfl (two_of HT_.out (by kernel_rfl)) (by decide) (by decide) (fun K hK => ?_) (fun K hK => ?_)
      ·
       skip
       refine Kd.R_lit_step (Kd.int .i64) _ 2 ?hg (N := 42) ?hd (xs := ([] : List Int)) (inner := []) (ok := fun _ => True) (okp := fun _ => True) ?hr ?hp (fun _ hk => hk) trivial (Below.refl _ _) (Nat.le_refl _) (by simp) ?_; (case hd => rfl); (case hg => rfl); (case hr => first | (go_simp; done) | (go_simp; rfl)); (case hp => exact (Reps.none _ _))
       intro v287 w55 ho56 hb hg_ hnew_
       clear hg_ hnew_
       (first | rw [← Ny286.out] at ho56 | (simp only [Int.reduceToNat] at ho56; rw [← Ny286.out] at ho56))
       have n0_ := aS (Kd.R_below (sR HO284.out) hb)
       have n1_ := aS (Kd.R_lower ho56 (below_size (sW HB.out)))
       have n2_ := aS (blk_below (g := gb269) (o := .cells #[.slice A1_0 l1_0.length c1_0, .slice A1_1 l1_1.length c1_1] 45 (0, 0)) (sB BK269.out) hb)
       have n3_ := aS (blk_below (g := gb270) (o := .cells #[.slice A2_0 l2_0.length c2_0, .slice A2_1 l2_1.length c2_1] 45 (0, 0)) (sB BK270.out) hb)
       have n4_ := aS (blk_below (g := gb271) (o := .cells #[.slice none 0 0, .slice none 0 0] 45 (0, 0)) (sB BK271.out) hb)
       have n5_ := aS (blk_below (g := gb285) (o := .cells #[.slice Ao50 y282.length co50, .slice none 0 0] 45 (0, 0)) (sB BK285.out) hb)
       have n6_ := aS (below_step (sW HB.out) hb)
       clear HO284 BK269 BK270 BK271 BK285 HB
       have HO284 := n0_; have HO288 := n1_; have BK269 := n2_; have BK270 := n3_; have BK271 := n4_; have BK285 := n5_; have HB := n6_
       clear n0_ n1_ n2_ n3_ n4_ n5_ n6_
       clear hb ho56
       refine hK.out _ _ ⟨(blk_cell BK269.out 0).trans rfl, (blk_cell BK269.out 1).trans rfl, (blk_cell BK270.out 0).trans rfl, (blk_cell BK270.out 1).trans rfl⟩ (fun hHeld => ?_)
       clear hK K
       refine norm_ (a' := ?_) ?_ ?_
       rotate_left
       ·
        show Act.put _ (some 42) _ = _
        exact sP
       refine two_ (i := 3) (j := 5) (Ni := some 45) (Nj := some 47) #[true, true, true, true, true, false, false, true, true, false, false, false] #[true, true, true, false, true, true, false, true, true, false, false, false] rfl rfl rfl rfl (two_of HT_.out (by kernel_rfl)) (by decide) (by decide) (fun K hK => ?_) (fun K hK => ?_)
       ·
        skip
        refine Kd.R_append_rows_step (Kd.int .i64) (w0 := w) w.heap.size (by rfl) (.tmp 42) (.tmp 44) 38 2 (.int .i64 0) 8 rfl Try.underlying38 info2 rfl (by decide) (by omega) v287 y286 l1_1 _ _ _ (fun _ => True) (fun _ => False) rfl rfl ?aO ?aR (fun _ _ h => h) (fun _ h => h.elim) ?aF ?aB ?aS ?aL ?_
        (case aR => repeat (first | exact (Kd.C_below HR1_1.out HB.out) | (with_reducible refine Kd.C_alloc ?_ _) | (with_reducible refine Kd.C_drewN ?_ _) | (with_reducible refine Kd.C_drew ?_)))
        (case aB => exact (sW HB.out))
        (case aF => exact (fun _ _ => trivial))
        (case aO => exact (sR HO288.out))
        (case aS => exact (below_size (sW HB.out)))
        (case aL => have := LMc37.out; omega)
        intro v290 w57 ho hb hg hat
        rw [← Ny289.out] at ho
        have n0_ := aS (blk_grown (g := gb269) (o := .cells #[.slice A1_0 l1_0.length c1_0, .slice A1_1 l1_1.length c1_1] 45 (0, 0)) (sB BK269.out) hg (Kd.R_ne HO288.out BK269.out (by decide)))
        have n1_ := aS (blk_grown (g := gb270) (o := .cells #[.slice A2_0 l2_0.length c2_0, .slice A2_1 l2_1.length c2_1] 45 (0, 0)) (sB BK270.out) hg (Kd.R_ne HO288.out BK270.out (by decide)))
        have n2_ := aS (blk_grown (g := gb271) (o := .cells #[.slice none 0 0, .slice none 0 0] 45 (0, 0)) (sB BK271.out) hg (Kd.R_ne HO288.out BK271.out (by decide)))
        have n3_ := aS (Kd.R_over' (sR HO284.out) (Kd.R_typed (sR HO288.out)) (by decide) hg)
        have n4_ := aS (blk_grown (g := gb285) (o := .cells #[.slice Ao50 y282.length co50, .slice none 0 0] 45 (0, 0)) (sB BK285.out) hg (Kd.R_ne HO288.out BK285.out (by decide)))
        have n5_ := aS (hb)
        have n6_ := aS (ho)
        clear BK269 BK270 BK271 HO284 BK285 HB HO288
        have BK269 := n0_; have BK270 := n1_; have BK271 := n2_; have HO284 := n3_; have BK285 := n4_; have HB := n5_; have HO291 := n6_
        clear n0_ n1_ n2_ n3_ n4_ n5_ n6_
        clear ho hb hg hat
        refine hK.out _ _ ⟨(blk_cell BK269.out 0).trans rfl, (blk_cell BK269.out 1).trans rfl, (blk_cell BK270.out 0).trans rfl, (blk_cell BK270.out 1).trans rfl⟩ (fun hHeld => ?_)
        clear hK K
        refine norm_ (a' := ?_) ?_ ?_
        rotate_left
        ·
         show Act.put _ (some 45) _ = _
         exact sP
        refine one_ (i := 5) (N := some 47) #[true, true, true, true, true, true, false, true, true, false, false, false] rfl rfl (one_of HT_.out (by kernel_rfl)) (by decide) (fun K hK => ?_)
        refine Kd.R_lit_step (Kd.int .i64) _ 2 ?hg (N := 47) ?hd (xs := ([a3] : List Int)) (inner := [.int .i64 a3]) (ok := fun _ => True) (okp := fun _ => True) ?hr ?hp (fun _ hk => hk) trivial (Below.refl _ _) (Nat.le_refl _) (by simp) ?_; (case hd => rfl); (case hg => rfl); (case hr => first | (go_simp; done) | (go_simp; rfl)); (case hp => exact (Reps.one (show Kd.M (Kd.int .i64) _ _ _ a3 [.int .i64 a3] from rfl) (Reps.none _ _)))
        intro v293 w58 ho59 hb hg_ hnew_
        clear hg_ hnew_
        (first | rw [← Ny292.out] at ho59 | (simp only [Int.reduceToNat] at ho59; rw [← Ny292.out] at ho59))
        have n0_ := aS (Kd.R_below (sR HO284.out) hb)
        have n1_ := aS (Kd.R_elder' (sR HO291.out) (Kd.R_base ho59) hb)
        have n2_ := aS (Kd.R_lower (Kd.R_new' ho59 (Kd.R_lt (sR HO291.out))) (below_size (sW HB.out)))
        have n3_ := aS (blk_below (g := gb269) (o := .cells #[.slice A1_0 l1_0.length c1_0, .slice A1_1 l1_1.length c1_1] 45 (0, 0)) (sB BK269.out) hb)
        have n4_ := aS (blk_below (g := gb270) (o := .cells #[.slice A2_0 l2_0.length c2_0, .slice A2_1 l2_1.length c2_1] 45 (0, 0)) (sB BK270.out) hb)
        have n5_ := aS (blk_below (g := gb271) (o := .cells #[.slice none 0 0, .slice none 0 0] 45 (0, 0)) (sB BK271.out) hb)
        have n6_ := aS (blk_below (g := gb285) (o := .cells #[.slice Ao50 y282.length co50, .slice none 0 0] 45 (0, 0)) (sB BK285.out) hb)
        have n7_ := aS (below_step (sW HB.out) hb)
        clear HO284 HO291 BK269 BK270 BK271 BK285 HB
        have HO284 := n0_; have HO291 := n1_; have HO294 := n2_; have BK269 := n3_; have BK270 := n4_; have BK271 := n5_; have BK285 := n6_; have HB := n7_
        clear n0_ n1_ n2_ n3_ n4_ n5_ n6_ n7_
        clear hb ho59
        refine hK.out _ _ ⟨(blk_cell BK269.out 0).trans rfl, (blk_cell BK269.out 1).trans rfl, (blk_cell BK270.out 0).trans rfl, (blk_cell BK270.out 1).trans rfl⟩ (fun hHeld => ?_)
        clear hK K
        refine norm_ (a' := ?_) ?_ ?_
        rotate_left
        ·
         show Act.put _ (some 47) _ = _
         exact sP
        exact norm_ (by simp only [putAll, Act.put, List.setIfInBounds_toArray, List.set_cons_zero, List.set_cons_succ]) (hCont (v287, v290, v293) _ ⟨hHeld, (sR HO284.out), (sR (Kd.R_mono HO291.out (fun _ hk => hk.2))), (sR (Kd.R_mono HO294.out (fun _ hk => hk.2))), (sB BK269.out), (sB BK270.out), (sB BK271.out), (sB BK285.out), (sW HB.out)⟩)
       ·
        skip
        refine Kd.R_lit_step (Kd.int .i64) _ 2 ?hg (N := 47) ?hd (xs := ([a3] : List Int)) (inner := [.int .i64 a3]) (ok := fun _ => True) (okp := fun _ => True) ?hr ?hp (fun _ hk => hk) trivial (Below.refl _ _) (Nat.le_refl _) (by simp) ?_; (case hd => rfl); (case hg => rfl); (case hr => first | (go_simp; done) | (go_simp; rfl)); (case hp => exact (Reps.one (show Kd.M (Kd.int .i64) _ _ _ a3 [.int .i64 a3] from rfl) (Reps.none _ _)))
        intro v293 w57 ho58 hb hg_ hnew_
        clear hg_ hnew_
        (first | rw [← Ny292.out] at ho58 | (simp only [Int.reduceToNat] at ho58; rw [← Ny292.out] at ho58))
        have n0_ := aS (Kd.R_below (sR HO284.out) hb)
        have n1_ := aS (Kd.R_elder' (sR HO288.out) (Kd.R_base ho58) hb)
        have n2_ := aS (Kd.R_lower (Kd.R_new' ho58 (Kd.R_lt (sR HO288.out))) (below_size (sW HB.out)))
        have n3_ := aS (blk_below (g := gb269) (o := .cells #[.slice A1_0 l1_0.length c1_0, .slice A1_1 l1_1.length c1_1] 45 (0, 0)) (sB BK269.out) hb)
        have n4_ := aS (blk_below (g := gb270) (o := .cells #[.slice A2_0 l2_0.length c2_0, .slice A2_1 l2_1.length c2_1] 45 (0, 0)) (sB BK270.out) hb)
        have n5_ := aS (blk_below (g := gb271) (o := .cells #[.slice none 0 0, .slice none 0 0] 45 (0, 0)) (sB BK271.out) hb)
        have n6_ := aS (blk_below (g := gb285) (o := .cells #[.slice Ao50 y282.length co50, .slice none 0 0] 45 (0, 0)) (sB BK285.out) hb)
        have n7_ := aS (below_step (sW HB.out) hb)
        clear HO284 HO288 BK269 BK270 BK271 BK285 HB
        have HO284 := n0_; have HO288 := n1_; have HO294 := n2_; have BK269 := n3_; have BK270 := n4_; have BK271 := n5_; have BK285 := n6_; have HB := n7_
        clear n0_ n1_ n2_ n3_ n4_ n5_ n6_ n7_
        clear hb ho58
        refine hK.out _ _ ⟨(blk_cell BK269.out 0).trans rfl, (blk_cell BK269.out 1).trans rfl, (blk_cell BK270.out 0).trans rfl, (blk_cell BK270.out 1).trans rfl⟩ (fun hHeld => ?_)
        clear hK K
        refine norm_ (a' := ?_) ?_ ?_
        rotate_left
        ·
         show Act.put _ (some 47) _ = _
         exact sP
        refine one_ (i := 3) (N := some 45) #[true, true, true, true, true, true, false, true, true, false, false, false] rfl rfl (one_of HT_.out (by kernel_rfl)) (by decide) (fun K hK => ?_)
        refine Kd.R_append_rows_step (Kd.int .i64) (w0 := w) w.heap.size (by rfl) (.tmp 42) (.tmp 44) 38 2 (.int .i64 0) 8 rfl Try.underlying38 info2 rfl (by decide) (by omega) v287 y286 l1_1 _ _ _ (fun k_ => some k_ ≠ (v293 : Value).ownBlock) (fun _ => False) rfl rfl ?aO ?aR (fun _ _ h => h) (fun _ h => h.elim) ?aF ?aB ?aS ?aL ?_
        (case aR => repeat (first | exact (Kd.C_below HR1_1.out HB.out) | (with_reducible refine Kd.C_alloc ?_ _) | (with_reducible refine Kd.C_drewN ?_ _) | (with_reducible refine Kd.C_drew ?_)))
        (case aB => exact (sW HB.out))
        (case aF => exact (fun k_ hk => Kd.fresh' (Kd.R_lt (sR HO294.out)) k_ hk))
        (case aO => exact (sR (Kd.R_mono HO288.out (fun _ hk => hk.2))))
        (case aS => exact (below_size (sW HB.out)))
        (case aL => have := LMc37.out; omega)
        intro v290 w59 ho hb hg hat
        rw [← Ny289.out] at ho
        have n0_ := aS (blk_grown (g := gb269) (o := .cells #[.slice A1_0 l1_0.length c1_0, .slice A1_1 l1_1.length c1_1] 45 (0, 0)) (sB BK269.out) hg (Kd.R_ne HO288.out BK269.out (by decide)))
        have n1_ := aS (blk_grown (g := gb270) (o := .cells #[.slice A2_0 l2_0.length c2_0, .slice A2_1 l2_1.length c2_1] 45 (0, 0)) (sB BK270.out) hg (Kd.R_ne HO288.out BK270.out (by decide)))
        have n2_ := aS (blk_grown (g := gb271) (o := .cells #[.slice none 0 0, .slice none 0 0] 45 (0, 0)) (sB BK271.out) hg (Kd.R_ne HO288.out BK271.out (by decide)))
        have n3_ := aS (Kd.R_over' (sR HO284.out) (Kd.R_typed (sR HO288.out)) (by decide) hg)
        have n4_ := aS (blk_grown (g := gb285) (o := .cells #[.slice Ao50 y282.length co50, .slice none 0 0] 45 (0, 0)) (sB BK285.out) hg (Kd.R_ne HO288.out BK285.out (by decide)))
        have n5_ := aS (Kd.R_after (ok := (fun _ => True)) (sR HO294.out) hg hat)
        have n6_ := aS (hb)
        have n7_ := aS (ho)
        clear BK269 BK270 BK271 HO284 BK285 HO294 HB HO288
        have BK269 := n0_; have BK270 := n1_; have BK271 := n2_; have HO284 := n3_; have BK285 := n4_; have HO294 := n5_; have HB := n6_; have HO291 := n7_
        clear n0_ n1_ n2_ n3_ n4_ n5_ n6_ n7_
        clear ho hb hg hat
        refine hK.out _ _ ⟨(blk_cell BK269.out 0).trans rfl, (blk_cell BK269.out 1).trans rfl, (blk_cell BK270.out 0).trans rfl, (blk_cell BK270.out 1).trans rfl⟩ (fun hHeld => ?_)
        clear hK K
        refine norm_ (a' := ?_) ?_ ?_
        rotate_left
        ·
         show Act.put _ (some 45) _ = _
         exact sP
        exact norm_ (by simp only [putAll, Act.put, List.setIfInBounds_toArray, List.set_cons_zero, List.set_cons_succ]) (hCont (v287, v290, v293) _ ⟨hHeld, (sR HO284.out), (sR HO291.out), (sR (Kd.R_mono HO294.out (fun _ hk => hk.2))), (sB BK269.out), (sB BK270.out), (sB BK271.out), (sB BK285.out), (sW HB.out)⟩)
      ·
       skip
       refine Kd.R_lit_step (Kd.int .i64) _ 2 ?hg (N := 47) ?hd (xs := ([a3] : List Int)) (inner := [.int .i64 a3]) (ok := fun _ => True) (okp := fun _ => True) ?hr ?hp (fun _ hk => hk) trivial (Below.refl _ _) (Nat.le_refl _) (by simp) ?_; (case hd => rfl); (case hg => rfl); (case hr => first | (go_simp; done) | (go_simp; rfl)); (case hp => exact (Reps.one (show Kd.M (Kd.int .i64) _ _ _ a3 [.int .i64 a3] from rfl) (Reps.none _ _)))
       intro v293 w55 ho56 hb hg_ hnew_
       clear hg_ hnew_
       (first | rw [← Ny292.out] at ho56 | (simp only [Int.reduceToNat] at ho56; rw [← Ny292.out] at ho56))
       have n0_ := aS (Kd.R_below (sR HO284.out) hb)
       have n1_ := aS (Kd.R_lower ho56 (below_size (sW HB.out)))
       have n2_ := aS (blk_below (g := gb269) (o := .cells #[.slice A1_0 l1_0.length c1_0, .slice A1_1 l1_1.length c1_1] 45 (0, 0)) (sB BK269.out) hb)
       have n3_ := aS (blk_below (g := gb270) (o := .cells #[.slice A2_0 l2_0.length c2_0, .slice A2_1 l2_1.length c2_1] 45 (0, 0)) (sB BK270.out) hb)
       have n4_ := aS (blk_below (g := gb271) (o := .cells #[.slice none 0 0, .slice none 0 0] 45 (0, 0)) (sB BK271.out) hb)
       have n5_ := aS (blk_below (g := gb285) (o := .cells #[.slice Ao50 y282.length co50, .slice none 0 0] 45 (0, 0)) (sB BK285.out) hb)
       have n6_ := aS (below_step (sW HB.out) hb)
       clear HO284 BK269 BK270 BK271 BK285 HB
       have HO284 := n0_; have HO294 := n1_; have BK269 := n2_; have BK270 := n3_; have BK271 := n4_; have BK285 := n5_; have HB := n6_
       clear n0_ n1_ n2_ n3_ n4_ n5_ n6_
       clear hb ho56
       refine hK.out _ _ ⟨(blk_cell BK269.out 0).trans rfl, (blk_cell BK269.out 1).trans rfl, (blk_cell BK270.out 0).trans rfl, (blk_cell BK270.out 1).trans rfl⟩ (fun hHeld => ?_)
       clear hK K
       refine norm_ (a' := ?_) ?_ ?_
       rotate_left
       ·
        show Act.put _ (some 47) _ = _
        exact sP
       refine one_ (i := 0) (N := some 42) #[true, true, true, false, true, true, false, true, true, false, false, false] rfl rfl (one_of HT_.out (by kernel_rfl)) (by decide) (fun K hK => ?_)
       refine Kd.R_lit_step (Kd.int .i64) _ 2 ?hg (N := 42) ?hd (xs := ([] : List Int)) (inner := []) (ok := fun _ => True) (okp := fun _ => True) ?hr ?hp (fun _ hk => hk) trivial (Below.refl _ _) (Nat.le_refl _) (by simp) ?_; (case hd => rfl); (case hg => rfl); (case hr => first | (go_simp; done) | (go_simp; rfl)); (case hp => exact (Reps.none _ _))
       intro v287 w57 ho58 hb hg_ hnew_
       clear hg_ hnew_
       (first | rw [← Ny286.out] at ho58 | (simp only [Int.reduceToNat] at ho58; rw [← Ny286.out] at ho58))
       have n0_ := aS (Kd.R_below (sR HO284.out) hb)
       have n1_ := aS (Kd.R_elder' (sR HO294.out) (Kd.R_base ho58) hb)
       have n2_ := aS (Kd.R_lower (Kd.R_new' ho58 (Kd.R_lt (sR HO294.out))) (below_size (sW HB.out)))
       have n3_ := aS (blk_below (g := gb269) (o := .cells #[.slice A1_0 l1_0.length c1_0, .slice A1_1 l1_1.length c1_1] 45 (0, 0)) (sB BK269.out) hb)
       have n4_ := aS (blk_below (g := gb270) (o := .cells #[.slice A2_0 l2_0.length c2_0, .slice A2_1 l2_1.length c2_1] 45 (0, 0)) (sB BK270.out) hb)
       have n5_ := aS (blk_below (g := gb271) (o := .cells #[.slice none 0 0, .slice none 0 0] 45 (0, 0)) (sB BK271.out) hb)
       have n6_ := aS (blk_below (g := gb285) (o := .cells #[.slice Ao50 y282.length co50, .slice none 0 0] 45 (0, 0)) (sB BK285.out) hb)
       have n7_ := aS (below_step (sW HB.out) hb)
       clear HO284 HO294 BK269 BK270 BK271 BK285 HB
       have HO284 := n0_; have HO294 := n1_; have HO288 := n2_; have BK269 := n3_; have BK270 := n4_; have BK271 := n5_; have BK285 := n6_; have HB := n7_
       clear n0_ n1_ n2_ n3_ n4_ n5_ n6_ n7_
       clear hb ho58
       refine hK.out _ _ ⟨(blk_cell BK269.out 0).trans rfl, (blk_cell BK269.out 1).trans rfl, (blk_cell BK270.out 0).trans rfl, (blk_cell BK270.out 1).trans rfl⟩ (fun hHeld => ?_)
       clear hK K
       refine norm_ (a' := ?_) ?_ ?_
       rotate_left
       ·
        show Act.put _ (some 42) _ = _
        exact sP
       refine one_ (i := 3) (N := some 45) #[true, true, true, true, true, true, false, true, true, false, false, false] rfl rfl (one_of HT_.out (by kernel_rfl)) (by decide) (fun K hK => ?_)
       refine Kd.R_append_rows_step (Kd.int .i64) (w0 := w) w.heap.size (by rfl) (.tmp 42) (.tmp 44) 38 2 (.int .i64 0) 8 rfl Try.underlying38 info2 rfl (by decide) (by omega) v287 y286 l1_1 _ _ _ (fun k_ => some k_ ≠ (v293 : Value).ownBlock) (fun _ => False) rfl rfl ?aO ?aR (fun _ _ h => h) (fun _ h => h.elim) ?aF ?aB ?aS ?aL ?_
       (case aR => repeat (first | exact (Kd.C_below HR1_1.out HB.out) | (with_reducible refine Kd.C_alloc ?_ _) | (with_reducible refine Kd.C_drewN ?_ _) | (with_reducible refine Kd.C_drew ?_)))
       (case aB => exact (sW HB.out))
       (case aF => exact (fun k_ hk => Kd.fresh' (Kd.R_lt (sR HO294.out)) k_ hk))
       (case aO => exact (sR (Kd.R_mono HO288.out (fun _ hk => hk.2))))
       (case aS => exact (below_size (sW HB.out)))
       (case aL => have := LMc37.out; omega)
       intro v290 w59 ho hb hg hat
       rw [← Ny289.out] at ho
       have n0_ := aS (blk_grown (g := gb269) (o := .cells #[.slice A1_0 l1_0.length c1_0, .slice A1_1 l1_1.length c1_1] 45 (0, 0)) (sB BK269.out) hg (Kd.R_ne HO288.out BK269.out (by decide)))
       have n1_ := aS (blk_grown (g := gb270) (o := .cells #[.slice A2_0 l2_0.length c2_0, .slice A2_1 l2_1.length c2_1] 45 (0, 0)) (sB BK270.out) hg (Kd.R_ne HO288.out BK270.out (by decide)))
       have n2_ := aS (blk_grown (g := gb271) (o := .cells #[.slice none 0 0, .slice none 0 0] 45 (0, 0)) (sB BK271.out) hg (Kd.R_ne HO288.out BK271.out (by decide)))
       have n3_ := aS (Kd.R_over' (sR HO284.out) (Kd.R_typed (sR HO288.out)) (by decide) hg)
       have n4_ := aS (blk_grown (g := gb285) (o := .cells #[.slice Ao50 y282.length co50, .slice none 0 0] 45 (0, 0)) (sB BK285.out) hg (Kd.R_ne HO288.out BK285.out (by decide)))
       have n5_ := aS (Kd.R_after (ok := (fun _ => True)) (sR HO294.out) hg hat)
       have n6_ := aS (hb)
       have n7_ := aS (ho)
       clear BK269 BK270 BK271 HO284 BK285 HO294 HB HO288
       have BK269 := n0_; have BK270 := n1_; have BK271 := n2_; have HO284 := n3_; have BK285 := n4_; have HO294 := n5_; have HB := n6_; have HO291 := n7_
       clear n0_ n1_ n2_ n3_ n4_ n5_ n6_ n7_
       clear ho hb hg hat
       refine hK.out _ _ ⟨(blk_cell BK269.out 0).trans rfl, (blk_cell BK269.out 1).trans rfl, (blk_cell BK270.out 0).trans rfl, (blk_cell BK270.out 1).trans rfl⟩ (fun hHeld => ?_)
       clear hK K
       refine norm_ (a' := ?_) ?_ ?_
       rotate_left
       ·
        show Act.put _ (some 45) _ = _
        exact sP
       exact norm_ (by simp only [putAll, Act.put, List.setIfInBounds_toArray, List.set_cons_zero, List.set_cons_succ]) (hCont (v287, v290, v293) _ ⟨hHeld, (sR HO284.out), (sR HO291.out), (sR (Kd.R_mono HO294.out (fun _ hk => hk.2))), (sB BK269.out), (sB BK270.out), (sB BK271.out), (sB BK285.out), (sW HB.out)⟩)
     rintro ⟨v287, v290, v293⟩ w60 ⟨hS_, h0_, h1_, h2_, h3_, h4_, h5_, h6_, h7_⟩
     have n0_ : Aside0 (Kd.R k91 91 w60 w.heap.size (fun _ => True) (.slice Ao50 y282.length co50) y282) := ⟨h0_⟩
     have n1_ : Aside0 (Kd.R (Kd.int .i64) 2 w60 w.heap.size (fun k_ => some k_ ≠ (v293 : Value).ownBlock) v290 y289) := ⟨h1_⟩
     have n2_ : Aside0 (Kd.R (Kd.int .i64) 2 w60 w.heap.size (fun k_ => some k_ ≠ (v290 : Value).ownBlock) v293 y292) := ⟨h2_⟩
     have n3_ : Aside0 (w60.heap[gb269]? = some (.cells #[.slice A1_0 l1_0.length c1_0, .slice A1_1 l1_1.length c1_1] 45 (0, 0))) := ⟨h3_⟩
     have n4_ : Aside0 (w60.heap[gb270]? = some (.cells #[.slice A2_0 l2_0.length c2_0, .slice A2_1 l2_1.length c2_1] 45 (0, 0))) := ⟨h4_⟩
     have n5_ : Aside0 (w60.heap[gb271]? = some (.cells #[.slice none 0 0, .slice none 0 0] 45 (0, 0))) := ⟨h5_⟩
     have n6_ : Aside0 (w60.heap[gb285]? = some (.cells #[.slice Ao50 y282.length co50, .slice none 0 0] 45 (0, 0))) := ⟨h6_⟩
     have n7_ : Aside0 (Below w.heap.size w w60) := ⟨h7_⟩
     clear HO284 BK269 BK270 BK271 BK285 HB
     clear h0_ h1_ h2_ h3_ h4_ h5_ h6_ h7_
     have HO284 := n0_; have HO291 := n1_; have HO294 := n2_; have BK269 := n3_; have BK270 := n4_; have BK271 := n5_; have BK285 := n6_; have HB := n7_
     clear n0_ n1_ n2_ n3_ n4_ n5_ n6_ n7_
     have hHeld : w60.cell? ⟨gb269, 0, none⟩ = some (.slice A1_0 l1_0.length c1_0) ∧ w60.cell? ⟨gb269, 1, none⟩ = some (.slice A1_1 l1_1.length c1_1) ∧ w60.cell? ⟨gb270, 0, none⟩ = some (.slice A2_0 l2_0.length c2_0) ∧ w60.cell? ⟨gb270, 1, none⟩ = some (.slice A2_1 l2_1.length c2_1) := hS_
     obtain ⟨Ao62, co62, eo62⟩ := Kd.R_slice HO294.out
     (first | subst eo62 | (injection eo62 with f1_ f2_ f3_; have f4_ := f1_.symm; have f5_ := f3_.symm; clear f1_ f2_ f3_; subst f4_; subst f5_))
     refine norm_ (a' := ?_) ?_ ?_
     rotate_left
     ·
      simp only [putAll, Act.put, List.setIfInBounds_toArray, List.set_cons_zero, List.set_cons_succ]
      rfl
     refine one_ (i := 6) (N := some 48) #[true, true, true, true, true, true, true, true, true, false, false, false] rfl rfl (one_of HT_.out (by kernel_rfl)) (by decide) (fun K hK => ?_)
     refine Kd.R_append_rows_step (Kd.int .i64) (w0 := w) w.heap.size (by rfl) (.tmp 45) (.tmp 47) 38 2 (.int .i64 0) 8 rfl Try.underlying38 info2 rfl (by decide) (by omega) v290 y289 y292 _ _ _ (fun k_ => some k_ ≠ (.slice Ao62 y292.length co62 : Value).ownBlock) (fun _ => False) rfl rfl ?aO ?aR (fun _ _ h => h) (fun _ h => h.elim) ?aF ?aB ?aS ?aL ?_
     (case aR => repeat (first | exact (Kd.R_reads' HO294.out).2.2 | (with_reducible refine Kd.C_alloc ?_ _) | (with_reducible refine Kd.C_drewN ?_ _) | (with_reducible refine Kd.C_drew ?_)))
     (case aB => exact (sW HB.out))
     (case aF => exact (fun k_ hk => Kd.fresh' (Kd.R_lt (sR HO294.out)) k_ hk))
     (case aO => exact (sR HO291.out))
     (case aS => exact (below_size (sW HB.out)))
     (case aL => have := LMc38.out; omega)
     intro v296 w61 ho hb hg hat
     rw [← Ny295.out] at ho
     have n0_ := aS (blk_grown (g := gb269) (o := .cells #[.slice A1_0 l1_0.length c1_0, .slice A1_1 l1_1.length c1_1] 45 (0, 0)) (sB BK269.out) hg (Kd.R_ne HO291.out BK269.out (by decide)))
     have n1_ := aS (blk_grown (g := gb270) (o := .cells #[.slice A2_0 l2_0.length c2_0, .slice A2_1 l2_1.length c2_1] 45 (0, 0)) (sB BK270.out) hg (Kd.R_ne HO291.out BK270.out (by decide)))
     have n2_ := aS (blk_grown (g := gb271) (o := .cells #[.slice none 0 0, .slice none 0 0] 45 (0, 0)) (sB BK271.out) hg (Kd.R_ne HO291.out BK271.out (by decide)))
     have n3_ := aS (Kd.R_over' (sR HO284.out) (Kd.R_typed (sR HO291.out)) (by decide) hg)
     have n4_ := aS (blk_grown (g := gb285) (o := .cells #[.slice Ao50 y282.length co50, .slice none 0 0] 45 (0, 0)) (sB BK285.out) hg (Kd.R_ne HO291.out BK285.out (by decide)))
     have n5_ := aS (Kd.R_after (ok := (fun _ => True)) (sR (Kd.R_mono HO294.out (fun _ hk => ⟨trivial, hk⟩))) hg hat)
     have n6_ := aS (hb)
     have n7_ := aS (ho)
     clear BK269 BK270 BK271 HO284 BK285 HO294 HB HO291
     have BK269 := n0_; have BK270 := n1_; have BK271 := n2_; have HO284 := n3_; have BK285 := n4_; have HO294 := n5_; have HB := n6_; have HO297 := n7_
     clear n0_ n1_ n2_ n3_ n4_ n5_ n6_ n7_
     clear ho hb hg hat
     refine hK.out _ _ ⟨(blk_cell BK269.out 0).trans rfl, (blk_cell BK269.out 1).trans rfl, (blk_cell BK270.out 0).trans rfl, (blk_cell BK270.out 1).trans rfl⟩ (fun hHeld => ?_)
     clear hK K
     refine norm_ (a' := ?_) ?_ ?_
     rotate_left
     ·
      show Act.put _ (some 48) _ = _
      exact sP
     refine one_ (i := 9) (N := some 51) #[true, true, true, true, true, true, true, true, true, true, false, false] rfl rfl (one_of HT_.out (by kernel_rfl)) (by decide) (fun K hK => ?_)
     refine Kd.R_append_rows_step (Kd.int .i64) (w0 := w) w.heap.size (by rfl) (.tmp 48) (.tmp 50) 38 2 (.int .i64 0) 8 rfl Try.underlying38 info2 rfl (by decide) (by omega) v296 y295 l2_1 _ _ _ (fun k_ => some k_ ≠ (.slice Ao62 y292.length co62 : Value).ownBlock) (fun _ => False) rfl rfl ?aO ?aR (fun _ _ h => h) (fun _ h => h.elim) ?aF ?aB ?aS ?aL ?_
     (case aR => repeat (first | exact (Kd.C_below HR2_1.out HB.out) | (with_reducible refine Kd.C_alloc ?_ _) | (with_reducible refine Kd.C_drewN ?_ _) | (with_reducible refine Kd.C_drew ?_)))
     (case aB => exact (sW HB.out))
     (case aF => exact (fun k_ hk => Kd.fresh' (Kd.R_lt (sR HO294.out)) k_ hk))
     (case aO => exact (sR HO297.out))
     (case aS => exact (below_size (sW HB.out)))
     (case aL => have := LMc39.out; omega)
     intro v299 w63 ho hb hg hat
     rw [← Ny298.out] at ho
     have n0_ := aS (blk_grown (g := gb269) (o := .cells #[.slice A1_0 l1_0.length c1_0, .slice A1_1 l1_1.length c1_1] 45 (0, 0)) (sB BK269.out) hg (Kd.R_ne HO297.out BK269.out (by decide)))
     have n1_ := aS (blk_grown (g := gb270) (o := .cells #[.slice A2_0 l2_0.length c2_0, .slice A2_1 l2_1.length c2_1] 45 (0, 0)) (sB BK270.out) hg (Kd.R_ne HO297.out BK270.out (by decide)))
     have n2_ := aS (blk_grown (g := gb271) (o := .cells #[.slice none 0 0, .slice none 0 0] 45 (0, 0)) (sB BK271.out) hg (Kd.R_ne HO297.out BK271.out (by decide)))
     have n3_ := aS (Kd.R_over' (sR HO284.out) (Kd.R_typed (sR HO297.out)) (by decide) hg)
     have n4_ := aS (blk_grown (g := gb285) (o := .cells #[.slice Ao50 y282.length co50, .slice none 0 0] 45 (0, 0)) (sB BK285.out) hg (Kd.R_ne HO297.out BK285.out (by decide)))
     have n5_ := aS (Kd.R_after (ok := (fun _ => True)) (sR HO294.out) hg hat)
     have n6_ := aS (hb)
     have n7_ := aS (ho)
     clear BK269 BK270 BK271 HO284 BK285 HO294 HB HO297
     have BK269 := n0_; have BK270 := n1_; have BK271 := n2_; have HO284 := n3_; have BK285 := n4_; have HO294 := n5_; have HB := n6_; have HO300 := n7_
     clear n0_ n1_ n2_ n3_ n4_ n5_ n6_ n7_
     clear ho hb hg hat
     obtain ⟨Ao64, co64, eo64⟩ := Kd.R_slice HO300.out
     (first | subst eo64 | (injection eo64 with f1_ f2_ f3_; have f4_ := f1_.symm; have f5_ := f3_.symm; clear f1_ f2_ f3_; subst f4_; subst f5_))
     refine hK.out _ _ ⟨(blk_cell BK269.out 0).trans rfl, (blk_cell BK269.out 1).trans rfl, (blk_cell BK270.out 0).trans rfl, (blk_cell BK270.out 1).trans rfl⟩ (fun hHeld => ?_)
     clear hK K
     refine norm_ (a' := ?_) ?_ ?_
     rotate_left
     ·
      show Act.put _ (some 51) _ = _
      exact sP
     refine pure_ (i := 10) (N := some 52) (v := ?_) (a' := ?_) (impl_JoinLines.bF 12 2047) rfl rfl (any_of HT_.out (by kernel_rfl)) (fun _ _ _ h => h) (Or.inl ⟨by rfl, ?_⟩) ?_ ?_
     rotate_left
     ·
      intro w'
      go_simp
      with_reducible rfl
     rotate_left
     ·
      exact sP
     refine one_ (i := 11) (N := none) #[true, true, true, true, true, true, true, true, true, true, true, true] rfl rfl (one_of HT_.out (by kernel_rfl)) (by decide) (fun K hK => ?_)
     have hs65 : w63.cell? ⟨gb285, 1, none⟩ = some (.slice none 0 0) := (blk_cell BK285.out 1).trans rfl
     have hfs65 := blk_frozen BK285.out 1
     have hns65_0 := NB269_285.out
     have hns65_1 := NB270_285.out
     have hns65_2 := NB271_285.out
     have hms65_0 := NB285_269.out
     have hms65_1 := NB285_270.out
     have hms65_2 := NB285_271.out
     refine skip_ (w1 := ?_) (by rfl) rfl ?_ ?_
     rotate_left
     ·
      go_simp
      rfl
     refine hK.out _ _ ⟨((cell_far (p := ⟨gb285, _, none⟩) NB269_285.out _).trans (hHeld.1)), ((cell_far (p := ⟨gb285, _, none⟩) NB269_285.out _).trans (hHeld.2.1)), ((cell_far (p := ⟨gb285, _, none⟩) NB270_285.out _).trans (hHeld.2.2.1)), ((cell_far (p := ⟨gb285, _, none⟩) NB270_285.out _).trans (hHeld.2.2.2))⟩ (fun hHeld => ?_)
     clear hK K
     refine done_ (done_of HT_.out (by kernel_rfl)) ?_
     have hnb66 := NB285_269.out
     have hnc66 := NB269_285.out
     have hnb67 := NB285_270.out
     have hnc67 := NB270_285.out
     have hnb68 := NB285_271.out
     have hnc68 := NB271_285.out
     have hcz69_0 : w63.cell? ⟨gb285, 0, none⟩ = some (.slice Ao50 y282.length co50) := (blk_cell BK285.out 0).trans rfl
     have hcz69_1 : w63.cell? ⟨gb285, 1, none⟩ = some (.slice none 0 0) := (blk_cell BK285.out 1).trans rfl
     have hfz69_0 := blk_frozen BK285.out 0
     have hfz69_1 := blk_frozen BK285.out 1
     go_upto_if 56 with (first | ((with_reducible refine gate_callee (f := 42) rfl ?_); refine goesL_ (some 55) rfl rfl Try.func42 (by kernel_rfl) rfl #[.slice A0 l0.length c0, .agg #[.slice Ao50 y282.length co50, .slice Ao64 y298.length co64]] rfl sG ?_; (with_reducible refine (impl_validLine.calls kj4 _ _ l0 _ _ y282 _ _ y298 t301 _ ?side1 ?side2 ?side3 ?side4 ?side5 ?side6 A40.out).mono ?_); (case side1 => exact Kd.C_below HR0.out (sW HB.out)); (case side2 => exact HC0.out); (case side3 => refine (Kd.R_reads' (e := 91) (base := w.heap.size) (ok := fun k_ => True) (n := y282.length) (c := co50) ?_).2.2; exact (sR (Kd.R_mono (Kd.R_far (p := ⟨gb285, 1, none⟩) (Kd.R_types HO284.out BK285.out (by decide)) (fun _ hk => hk.2) (.slice Ao64 y298.length co64)) (fun _ h_ => h_.1)))); (case side4 => exact (Kd.R_reads' HO284.out).2.1); (case side5 => refine (Kd.R_reads' (e := 2) (base := w.heap.size) (ok := fun k_ => some k_ ≠ (.slice Ao62 y292.length co62 : Value).ownBlock) (n := y298.length) (c := co64) ?_).2.2; exact (sR (Kd.R_mono (Kd.R_far (p := ⟨gb285, 1, none⟩) (Kd.R_types HO300.out BK285.out (by decide)) (fun _ hk => hk.2) (.slice Ao64 y298.length co64)) (fun _ h_ => h_.1)))); (case side6 => exact (Kd.R_reads' HO300.out).2.1); rintro e w70 ⟨rfl, hb⟩; refine ⟨_, rfl, ?_⟩; have n0_ := aS (Kd.R_below (sR (Kd.R_mono (Kd.R_far (p := ⟨gb285, 1, none⟩) (Kd.R_types HO284.out BK285.out (by decide)) (fun _ hk => hk.2) (.slice Ao64 y298.length co64)) (fun _ h_ => h_.1))) hb); have n1_ := aS (Kd.R_below (sR (Kd.R_mono (Kd.R_far (p := ⟨gb285, 1, none⟩) (Kd.R_types HO294.out BK285.out (by decide)) (fun _ hk => hk.2) (.slice Ao64 y298.length co64)) (fun _ h_ => h_.1))) hb); have n2_ := aS (Kd.R_below (sR (Kd.R_mono (Kd.R_far (p := ⟨gb285, 1, none⟩) (Kd.R_types HO300.out BK285.out (by decide)) (fun _ hk => hk.2) (.slice Ao64 y298.length co64)) (fun _ h_ => h_.1))) hb); have n3_ := aS (blk_below (g := gb269) (o := .cells #[.slice A1_0 l1_0.length c1_0, .slice A1_1 l1_1.length c1_1] 45 (0, 0)) (by (with_reducible repeat (first | refine blk_drewN ?_ _ | refine blk_drew ?_ | refine blk_alloc ?_ _)); refine blk_far ?_ NB269_285.out _; (with_reducible repeat (first | refine blk_drewN ?_ _ | refine blk_drew ?_ | refine blk_alloc ?_ _)); exact BK269.out) hb); have n4_ := aS (blk_below (g := gb270) (o := .cells #[.slice A2_0 l2_0.length c2_0, .slice A2_1 l2_1.length c2_1] 45 (0, 0)) (by (with_reducible repeat (first | refine blk_drewN ?_ _ | refine blk_drew ?_ | refine blk_alloc ?_ _)); refine blk_far ?_ NB270_285.out _; (with_reducible repeat (first | refine blk_drewN ?_ _ | refine blk_drew ?_ | refine blk_alloc ?_ _)); exact BK270.out) hb); have n5_ := aS (blk_below (g := gb271) (o := .cells #[.slice none 0 0, .slice none 0 0] 45 (0, 0)) (by (with_reducible repeat (first | refine blk_drewN ?_ _ | refine blk_drew ?_ | refine blk_alloc ?_ _)); refine blk_far ?_ NB271_285.out _; (with_reducible repeat (first | refine blk_drewN ?_ _ | refine blk_drew ?_ | refine blk_alloc ?_ _)); exact BK271.out) hb); have n6_ := aS (blk_below (g := gb285) (o := .cells #[.slice Ao50 y282.length co50, .slice Ao64 y298.length co64] 45 (0, 0)) (by (with_reducible repeat (first | refine blk_drewN ?_ _ | refine blk_drew ?_ | refine blk_alloc ?_ _)); refine blk_put (cs := #[.slice Ao50 y282.length co50, .slice none 0 0]) ?_ 1 _ rfl; (with_reducible repeat (first | refine blk_drewN ?_ _ | refine blk_drew ?_ | refine blk_alloc ?_ _)); exact BK285.out) hb); have n7_ := aS (below_step (sW HB.out) hb); clear HO284 HO294 HO300 BK269 BK270 BK271 BK285 HB; have HO284 := n0_; have HO294 := n1_; have HO300 := n2_; have BK269 := n3_; have BK270 := n4_; have BK271 := n5_; have BK285 := n6_; have HB := n7_; clear n0_ n1_ n2_ n3_ n4_ n5_ n6_ n7_; (try clear hb); (try clear hb2); (try clear hk); (try clear hi)))
     (try simp only [Act.put, List.setIfInBounds_toArray, List.set_cons_zero, List.set_cons_succ])
     have H := HC41.out
     clear HC41
     by_cases c71 : t301 = true
     rotate_left
     ·
      replace c71 := Bool.eq_false_iff.mpr c71
      subst c71
      have H1 : (some (([] : List (S91)), ([] : List Int), 5)) = some (r1, r2, r3) := by rw [if_neg (show ¬ (false = true) by decide)] at H; exact H
      clear H
      have H := H1
      clear H1
      simp only [Option.some.injEq, Prod.mk.injEq] at H
      obtain ⟨rfl, rfl, rfl⟩ := H
      have hnb75 := NB271_285.out
      have hnc75 := NB285_271.out
      have hcz76_0 : w70.cell? ⟨gb271, 0, none⟩ = some (.slice none 0 0) := (blk_cell BK271.out 0).trans rfl
      have hcz76_1 : w70.cell? ⟨gb271, 1, none⟩ = some (.slice none 0 0) := (blk_cell BK271.out 1).trans rfl
      have hfz76_0 := blk_frozen BK271.out 0
      have hfz76_1 := blk_frozen BK271.out 1
      go_wp2
      refine bodyPost_ret (results_ct rfl _ _ gb271 45 #[.slice none 0 0, .slice none 0 0] (0, 0) _ rfl (by (with_reducible repeat (first | refine blk_drewN ?_ _ | refine blk_drew ?_ | refine blk_alloc ?_ _)); refine blk_put (cs := #[.slice none 0 0, .slice none 0 0]) ?_ 1 _ rfl; (with_reducible repeat (first | refine blk_drewN ?_ _ | refine blk_drew ?_ | refine blk_alloc ?_ _)); refine blk_put (cs := #[.slice none 0 0, .slice none 0 0]) ?_ 0 _ rfl; (with_reducible repeat (first | refine blk_drewN ?_ _ | refine blk_drew ?_ | refine blk_alloc ?_ _)); exact BK271.out) Try.underlying45 rfl (by kernel_rfl)) rfl ?_
      exact ⟨_, _, by first | rfl | (simp [errW_none, errW_some, i64_w]; done) | (simp [errW_none, errW_some] <;> rfl) | (simp [*, errW_none, errW_some] <;> rfl), by first | exact Kd.R_nil _ _ _ _ _ | exact Kd.N_nil _ _ _ _ _ | exact Kd.V_nil _ _ _ _ _ | exact Kd.Q_nil _ _ _ _ _ | exact Kd.S_nil _ _ _ _ _, by first | exact Kd.R_nil _ _ _ _ _ | exact Kd.N_nil _ _ _ _ _ | exact Kd.V_nil _ _ _ _ _ | exact Kd.Q_nil _ _ _ _ _ | exact Kd.S_nil _ _ _ _ _, by repeat (first | (with_reducible first | exact HB.out | apply below_alloc | apply pw_below_drewN | apply below_drew1 | refine below_set ?_ GE271.out | refine below_set ?_ GE285.out) | exact HB.out)⟩
     subst c71
     have H1 : (some (y282, y298, 0)) = some (r1, r2, r3) := by rw [if_pos rfl] at H; exact H
     clear H
     have H := H1
     clear H1
     simp only [Option.some.injEq, Prod.mk.injEq] at H
     obtain ⟨rfl, rfl, rfl⟩ := H
     have hnb72 := NB285_271.out
     have hnc72 := NB271_285.out
     have hcz73_0 : w70.cell? ⟨gb285, 0, none⟩ = some (.slice Ao50 y282.length co50) := (blk_cell BK285.out 0).trans rfl
     have hcz73_1 : w70.cell? ⟨gb285, 1, none⟩ = some (.slice Ao64 y298.length co64) := (blk_cell BK285.out 1).trans rfl
     have hfz73_0 := blk_frozen BK285.out 0
     have hfz73_1 := blk_frozen BK285.out 1
     have hcz74_0 : w70.cell? ⟨gb271, 0, none⟩ = some (.slice none 0 0) := (blk_cell BK271.out 0).trans rfl
     have hcz74_1 : w70.cell? ⟨gb271, 1, none⟩ = some (.slice none 0 0) := (blk_cell BK271.out 1).trans rfl
     have hfz74_0 := blk_frozen BK271.out 0
     have hfz74_1 := blk_frozen BK271.out 1
     go_wp2
     refine bodyPost_ret (results_ct rfl _ _ gb271 45 #[.slice Ao50 y282.length co50, .slice Ao64 y298.length co64] (0, 0) _ rfl (by (with_reducible repeat (first | refine blk_drewN ?_ _ | refine blk_drew ?_ | refine blk_alloc ?_ _)); refine blk_put (cs := #[.slice Ao50 y282.length co50, .slice none 0 0]) ?_ 1 _ rfl; (with_reducible repeat (first | refine blk_drewN ?_ _ | refine blk_drew ?_ | refine blk_alloc ?_ _)); refine blk_put (cs := #[.slice none 0 0, .slice none 0 0]) ?_ 0 _ rfl; (with_reducible repeat (first | refine blk_drewN ?_ _ | refine blk_drew ?_ | refine blk_alloc ?_ _)); exact BK271.out) Try.underlying45 rfl (by kernel_rfl)) rfl ?_
     exact ⟨_, _, by first | rfl | (simp [errW_none, errW_some, i64_w]; done) | (simp [errW_none, errW_some] <;> rfl) | (simp [*, errW_none, errW_some] <;> rfl), by (with_reducible repeat (first | apply Kd.R_alloc | apply Kd.R_drewN | apply Kd.R_drew)); exact Kd.R_mono (Kd.R_far (p := ⟨gb271, 1, none⟩) (Kd.R_far (p := ⟨gb271, 0, none⟩) (Kd.R_types HO284.out BK271.out (by decide)) (fun _ hk => hk.2) (.slice Ao50 y282.length co50)) (fun _ hk => hk.2) (.slice Ao64 y298.length co64)) (fun _ hk => trivial), by (with_reducible repeat (first | apply Kd.R_alloc | apply Kd.R_drewN | apply Kd.R_drew)); exact Kd.R_mono (Kd.R_far (p := ⟨gb271, 1, none⟩) (Kd.R_far (p := ⟨gb271, 0, none⟩) (Kd.R_types HO300.out BK271.out (by decide)) (fun _ hk => hk.2) (.slice Ao50 y282.length co50)) (fun _ hk => hk.2) (.slice Ao64 y298.length co64)) (fun _ hk => trivial), by repeat (first | (with_reducible first | exact HB.out | apply below_alloc | apply pw_below_drewN | apply below_drew1 | refine below_set ?_ GE271.out | refine below_set ?_ GE285.out) | exact HB.out)⟩
    ·
     replace c34 := Bool.eq_false_iff.mpr c34
     subst c34
     have H1 : (some (([] : List (S91)), ([] : List Int), 2)) = some (r1, r2, r3) := by rw [if_neg (show ¬ (false = true) by decide)] at H; exact H
     clear H
     have H := H1
     clear H1
     simp only [Option.some.injEq, Prod.mk.injEq] at H
     obtain ⟨rfl, rfl, rfl⟩ := H
     have hnb77 := NB271_269.out
     have hnc77 := NB269_271.out
     have hnb78 := NB271_270.out
     have hnc78 := NB270_271.out
     have hcz79_0 : wc.cell? ⟨gb271, 0, none⟩ = some (.slice none 0 0) := (blk_cell BK271.out 0).trans rfl
     have hcz79_1 : wc.cell? ⟨gb271, 1, none⟩ = some (.slice none 0 0) := (blk_cell BK271.out 1).trans rfl
     have hfz79_0 := blk_frozen BK271.out 0
     have hfz79_1 := blk_frozen BK271.out 1
     go_wp2
     refine bodyPost_ret (results_ct rfl _ _ gb271 45 #[.slice none 0 0, .slice none 0 0] (0, 0) _ rfl (by (with_reducible repeat (first | refine blk_drewN ?_ _ | refine blk_drew ?_ | refine blk_alloc ?_ _)); refine blk_put (cs := #[.slice none 0 0, .slice none 0 0]) ?_ 1 _ rfl; (with_reducible repeat (first | refine blk_drewN ?_ _ | refine blk_drew ?_ | refine blk_alloc ?_ _)); refine blk_put (cs := #[.slice none 0 0, .slice none 0 0]) ?_ 0 _ rfl; (with_reducible repeat (first | refine blk_drewN ?_ _ | refine blk_drew ?_ | refine blk_alloc ?_ _)); exact BK271.out) Try.underlying45 rfl (by kernel_rfl)) rfl ?_
     exact ⟨_, _, by first | rfl | (simp [errW_none, errW_some, i64_w]; done) | (simp [errW_none, errW_some] <;> rfl) | (simp [*, errW_none, errW_some] <;> rfl), by first | exact Kd.R_nil _ _ _ _ _ | exact Kd.N_nil _ _ _ _ _ | exact Kd.V_nil _ _ _ _ _ | exact Kd.Q_nil _ _ _ _ _ | exact Kd.S_nil _ _ _ _ _, by first | exact Kd.R_nil _ _ _ _ _ | exact Kd.N_nil _ _ _ _ _ | exact Kd.V_nil _ _ _ _ _ | exact Kd.Q_nil _ _ _ _ _ | exact Kd.S_nil _ _ _ _ _, by repeat (first | (with_reducible first | exact HB.out | apply below_alloc | apply pw_below_drewN | apply below_drew1 | refine below_set ?_ GE269.out | refine below_set ?_ GE270.out | refine below_set ?_ GE271.out) | exact HB.out)⟩

end Go.Proofs.Ytjhlliacgkjhaaa.QFnExactJoinLines

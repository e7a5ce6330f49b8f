/- What the Go functions of this law compute, each as a Lean function, and that each call comes to that answer; written by a program of this session. No condition. -/
import Derived.Test.YtginmioklkcgbaaVQFnExactLongestLinex0
import Derived.Test.YtginmioklkcgbaaVQFnExactLongestLinex2
namespace Go.Proofs.Ytginmioklkcgbaa.QFnExactLongestLine
open Go.RowKit Go.Proofs.YtginmioklkcgbaaW.PrintWords Go.Proofs.YtginmioklkcgbaaW.PrintLast Go.Proofs.YtginmioklkcgbaaW.PrintMore
attribute [local go_sem] max2_int min2_int max_two min_two max_three min_three max_four min_four   -- for this text's walks alone
set_option linter.unusedVariables false
set_option linter.unusedSimpArgs false

/-! ### spec_BestJoin: function 23 -/
mutual
def spec_BestJoin.j0 : Nat → List (S61) → Int → Bool → Int → Int → Int → Int → Option (Int × Int)
 | 0, _, _, _, _, _, _, _ => none
 | k + 1, x0, x3, x24, x132000, x132001, x133000, x133001 => if x24 = true then (some (0, 1)) else ((spec_l03Need.f x3).bind fun t136 => (if t136 = true then (spec_BestJoin.l0 k x0 x3 (-1) 0 x132000 x132001 x133000 x133001) else (some (0, 2))))
def spec_BestJoin.l0 : Nat → List (S61) → Int → Int → Int → Int → Int → Int → Int → Option (Int × Int)
 | 0, _, _, _, _, _, _, _, _ => none
 | k + 1, x0, x3, x10, x11, x132000, x132001, x133000, x133001 => if x11 < (x0.length : Int) then (if 0 ≤ x11 then ((spec_l03JoinedAt.f [rd_T61 x0 x11] x132000 x132001 x133000 x133001).bind fun t138 => (if t138 < (wrap64 (1000 * x3)) then (spec_BestJoin.l0 k x0 x3 x10 (wrap64 (x11 + 1)) x132000 x132001 x133000 x133001) else (if x10 < 0 then (spec_BestJoin.l0 k x0 x3 x11 (wrap64 (x11 + 1)) x132000 x132001 x133000 x133001) else (if 0 ≤ x10 then (if x10 < (x0.length : Int) then (if ((rd_T61 x0 x11).f2) < ((rd_T61 x0 x10).f2) then (spec_BestJoin.l0 k x0 x3 x11 (wrap64 (x11 + 1)) x132000 x132001 x133000 x133001) else (spec_BestJoin.l0 k x0 x3 x10 (wrap64 (x11 + 1)) x132000 x132001 x133000 x133001)) else (none)) else (none))))) else (none)) else (if x10 < 0 then (some (0, 3)) else (some (x10, 0)))
end
def spec_BestJoin.f (k : Nat) (l0 : List (S61)) (a1_0 : Int) (a1_1 : Int) (a2_0 : Int) (a2_1 : Int) (a3 : Int) : Option (Int × Int) := (spec_l03Ok.f k l0).bind fun t133 => (if t133 = true then ((spec_l03Piece.f a1_0 a1_1).bind fun t134 => (if t134 = true then ((spec_l03Piece.f a2_0 a2_1).bind fun t135 => (spec_BestJoin.j0 k l0 a3 (!t135) a1_0 a1_1 a2_0 a2_1)) else (spec_BestJoin.j0 k l0 a3 true a1_0 a1_1 a2_0 a2_1))) else (spec_BestJoin.j0 k l0 a3 true a1_0 a1_1 a2_0 a2_1))
theorem spec_BestJoin.mono_l : ∀ k, (∀ y0 y1 y2 y3 y4 y5 y6, LeO (spec_BestJoin.j0 k y0 y1 y2 y3 y4 y5 y6) (spec_BestJoin.j0 (k + 1) y0 y1 y2 y3 y4 y5 y6)) ∧ (∀ y0 y1 y2 y3 y4 y5 y6 y7, LeO (spec_BestJoin.l0 k y0 y1 y2 y3 y4 y5 y6 y7) (spec_BestJoin.l0 (k + 1) y0 y1 y2 y3 y4 y5 y6 y7))
 | 0 => ⟨fun _ _ _ _ _ _ _ r h => by simp [spec_BestJoin.j0] at h, fun _ _ _ _ _ _ _ _ r h => by simp [spec_BestJoin.l0] at h⟩
 | k + 1 => by
  obtain ⟨ih0, ih1⟩ := spec_BestJoin.mono_l k
  refine ⟨?_, ?_⟩
  ·
   intro y0 y1 y2 y3 y4 y5 y6
   unfold spec_BestJoin.j0
   repeat' first
   | (with_reducible exact ih0 _ _ _ _ _ _ _)
   | (with_reducible exact ih1 _ _ _ _ _ _ _ _)
   | (with_reducible exact spec_l03Ok.mono _ _)
   | (with_reducible exact LeO.refl _)
   | (with_reducible exact LeO.none _)
   | (with_reducible refine LeO.ite ?_ ?_)
   | (with_reducible refine LeO.bind ?_ (fun _ => ?_))
   | exact ih0 _ _ _ _ _ _ _
   | exact ih1 _ _ _ _ _ _ _ _
   | exact spec_l03Ok.mono _ _
   | exact LeO.none _
   | refine LeO.ite ?_ ?_
   | refine LeO.bind ?_ (fun _ => ?_)
  ·
   intro y0 y1 y2 y3 y4 y5 y6 y7
   unfold spec_BestJoin.l0
   repeat' first
   | (with_reducible exact ih0 _ _ _ _ _ _ _)
   | (with_reducible exact ih1 _ _ _ _ _ _ _ _)
   | (with_reducible exact spec_l03Ok.mono _ _)
   | (with_reducible exact LeO.refl _)
   | (with_reducible exact LeO.none _)
   | (with_reducible refine LeO.ite ?_ ?_)
   | (with_reducible refine LeO.bind ?_ (fun _ => ?_))
   | exact ih0 _ _ _ _ _ _ _
   | exact ih1 _ _ _ _ _ _ _ _
   | exact spec_l03Ok.mono _ _
   | exact LeO.none _
   | refine LeO.ite ?_ ?_
   | refine LeO.bind ?_ (fun _ => ?_)
theorem spec_BestJoin.mono : ∀ a0 a1 a2 a3 a4 a5 k, LeO (spec_BestJoin.f k a0 a1 a2 a3 a4 a5) (spec_BestJoin.f (k + 1) a0 a1 a2 a3 a4 a5) := by
 intro a0 a1 a2 a3 a4 a5 k
 obtain ⟨ih0, ih1⟩ := spec_BestJoin.mono_l k
 unfold spec_BestJoin.f
 repeat' first
   | (with_reducible exact ih0 _ _ _ _ _ _ _)
   | (with_reducible exact ih1 _ _ _ _ _ _ _ _)
   | (with_reducible exact spec_l03Ok.mono _ _)
   | (with_reducible exact LeO.refl _)
   | (with_reducible exact LeO.none _)
   | (with_reducible refine LeO.ite ?_ ?_)
   | (with_reducible refine LeO.bind ?_ (fun _ => ?_))
   | exact ih0 _ _ _ _ _ _ _
   | exact ih1 _ _ _ _ _ _ _ _
   | exact spec_l03Ok.mono _ _
   | exact LeO.none _
   | refine LeO.ite ?_ ?_
   | refine LeO.bind ?_ (fun _ => ?_)
def spec_BestJoin.T9 : Bool × List (List Nat × List Nat) := (true, [([], []), ([], []), ([0, 1], [0, 1]), ([], []), ([], []), ([2, 3, 4], [2, 3, 4]), ([], []), ([6], [6]), ([5, 7], [5, 7])])
def spec_BestJoin.B9 : List Nat := [0, 0, 3, 0, 0, 31, 0, 64, 255]
theorem spec_BestJoin.tab9 : rtab .any (opsOf Try.f23 9) = spec_BestJoin.T9 := by kernel_rfl
theorem spec_BestJoin.bits9 : waitsOk spec_BestJoin.T9.2 spec_BestJoin.B9 = true := by kernel_rfl
def spec_BestJoin.T10 : Bool × List (List Nat × List Nat) := (true, [([], []), ([0], [0]), ([1], [1]), ([2], [2]), ([2], [2]), ([3, 4, 2], [2, 3, 4]), ([5, 2], [2, 5]), ([6, 2], [2, 6]), ([2], [2]), ([2], [2]), ([8, 9, 2], [2, 8, 9]), ([10, 2], [2, 10]), ([11, 2], [2, 11]), ([7, 12, 2], [2, 7, 12]), ([2, 13], [2, 13])])
def spec_BestJoin.B10 : List Nat := [0, 1, 3, 7, 7, 31, 63, 127, 7, 7, 775, 1799, 3847, 8191, 16383]
theorem spec_BestJoin.tab10 : rtab .any (opsOf Try.f23 10) = spec_BestJoin.T10 := by kernel_rfl
theorem spec_BestJoin.bits10 : waitsOk spec_BestJoin.T10.2 spec_BestJoin.B10 = true := by kernel_rfl
def spec_BestJoin.bF (n k : Nat) : Array Bool := ((List.range n).map fun i => k.testBit i).toArray
set_option maxHeartbeats 8000000 in
set_option maxRecDepth 100000 in
theorem spec_BestJoin.calls (k : Nat) (A0 : Option Addr) (c0 : Nat) (l0 : List (S61)) (a1_0 : Int) (a1_1 : Int) (a2_0 : Int) (a2_1 : Int) (a3 : Int) (r1 : Int) (r2 : Int) (w : World) (hr0 : Kd.C k61 w A0 l0.length l0) (hc0 : l0.length ≤ c0) (h : spec_BestJoin.f k l0 a1_0 a1_1 a2_0 a2_1 a3 = some (r1, r2)) :
  Calls Try.prog 23 #[.slice A0 l0.length c0, .agg #[.int .i64 a1_0, .int .i64 a1_1], .agg #[.int .i64 a2_0, .int .i64 a2_1], .int .i64 a3] w fun e w' => e = .returned (.tuple #[.int .i64 r1, .int .i64 r2]) ∧ Below w.heap.size w w' := by
 have hu45 := Try.underlying45
 have HR0 := aS hr0
 have HC0 := aS hc0
 clear hr0 hc0
 have HB := aS (Below.refl w.heap.size w)
 have H : ((spec_l03Ok.f k l0).bind fun t133 => (if t133 = true then ((spec_l03Piece.f a1_0 a1_1).bind fun t134 => (if t134 = true then ((spec_l03Piece.f a2_0 a2_1).bind fun t135 => (spec_BestJoin.j0 k l0 a3 (!t135) a1_0 a1_1 a2_0 a2_1)) else (spec_BestJoin.j0 k l0 a3 true a1_0 a1_1 a2_0 a2_1))) else (spec_BestJoin.j0 k l0 a3 true a1_0 a1_1 a2_0 a2_1))) = some (r1, r2) := h
 clear h
 have HC5 := aS H
 clear H
 go_enter Try.func23, Try.ntmps23
 go_upto_region 1 with (first | ((with_reducible refine gate_dst (N := 5) rfl ?_); refine box_event ?hg (N := 5) ?hd (cs := #[.int .i64 a1_0, .int .i64 a1_1]) (t := 45) ?hr ?_; (case hd => rfl); (case hg => rfl); (case hr => first | (go_simp; done) | (go_simp; rfl)); intro gb131 hg w6 hbox hb; have n0_ := aS (below_step (sW HB.out) hb); have n1_ := aS (hbox); have n2_ := aS ((by rw [hg]; exact (below_size (sW HB.out)) : w.heap.size ≤ gb131)); have n3_ := aS ((by rw [hg]; exact (below_size (sW HB.out)) : w.heap.size ≤ gb131)); clear HB; have HB := n0_; have BK131 := n1_; have GW131 := n2_; have GE131 := n3_; clear n0_ n1_ n2_ n3_; clear hb hbox hg) | ((with_reducible refine gate_dst (N := 6) rfl ?_); refine box_event ?hg (N := 6) ?hd (cs := #[.int .i64 a2_0, .int .i64 a2_1]) (t := 45) ?hr ?_; (case hd => rfl); (case hg => rfl); (case hr => first | (go_simp; done) | (go_simp; rfl)); intro gb132 hg w7 hbox hb; have n0_ := aS (blk_below (g := gb131) (o := .cells #[.int .i64 a1_0, .int .i64 a1_1] 45 (0, 0)) (sB BK131.out) hb); have n1_ := aS (below_step (sW HB.out) hb); have n2_ := aS (hbox); have n3_ := aS ((by rw [hg]; exact (below_size (sW HB.out)) : w.heap.size ≤ gb132)); have n4_ := aS ((by rw [hg]; exact (below_size (sW HB.out)) : w.heap.size ≤ gb132)); have n5_ := aS ((by rw [hg]; exact Nat.ne_of_lt (blk_lt (g := gb131) (o := .cells #[.int .i64 a1_0, .int .i64 a1_1] 45 (0, 0)) (sB BK131.out)) : gb131 ≠ gb132)); have n6_ := aS ((by rw [hg]; exact Nat.ne_of_gt (blk_lt (g := gb131) (o := .cells #[.int .i64 a1_0, .int .i64 a1_1] 45 (0, 0)) (sB BK131.out)) : gb132 ≠ gb131)); clear BK131 HB; have BK131 := n0_; have HB := n1_; have BK132 := n2_; have GW132 := n3_; have GE132 := n4_; have NB131_132 := n5_; have NB132_131 := n6_; clear n0_ n1_ n2_ n3_ n4_ n5_ n6_; clear hb hbox hg))
 (try simp only [Act.put, List.setIfInBounds_toArray, List.set_cons_zero, List.set_cons_succ])
 go_cut [24] (fun v24 wc => ∃ (kq : Nat) (x24_4 : Bool), v24 = .bool x24_4 ∧ Aside0 (spec_BestJoin.j0 kq l0 a3 x24_4 a1_0 a1_1 a2_0 a2_1 = some (r1, r2)) ∧ Aside0 (kq ≤ k) ∧ Aside0 (wc.heap[gb131]? = some (.cells #[.int .i64 a1_0, .int .i64 a1_1] 45 (0, 0))) ∧ Aside0 (wc.heap[gb132]? = some (.cells #[.int .i64 a2_0, .int .i64 a2_1] 45 (0, 0))) ∧ Aside0 (Below w.heap.size w wc))
 case first =>
  have H := HC5.out
  clear HC5
  replace H := Option.bind_eq_some_iff.mp H
  obtain ⟨t133, A80, H⟩ := H
  replace H : (if t133 = true then ((spec_l03Piece.f a1_0 a1_1).bind fun t134 => (if t134 = true then ((spec_l03Piece.f a2_0 a2_1).bind fun t135 => (spec_BestJoin.j0 k l0 a3 (!t135) a1_0 a1_1 a2_0 a2_1)) else (spec_BestJoin.j0 k l0 a3 true a1_0 a1_1 a2_0 a2_1))) else (spec_BestJoin.j0 k l0 a3 true a1_0 a1_1 a2_0 a2_1)) = some (r1, r2) := H
  have A8 := aS A80
  clear A80
  by_cases c9 : t133 = true
  rotate_left
  ·
   replace c9 := Bool.eq_false_iff.mpr c9
   subst c9
   have H1 : (spec_BestJoin.j0 k l0 a3 true a1_0 a1_1 a2_0 a2_1) = some (r1, r2) := by rw [if_neg (show ¬ (false = true) by decide)] at H; exact H
   clear H
   have H := H1
   clear H1
   have H' := aS H
   clear H
   go_wp2_with (first | ((with_reducible refine gate_callee (f := 43) rfl ?_); refine goesL_ (some 13) rfl rfl Try.func43 (by kernel_rfl) rfl #[.slice A0 l0.length c0] rfl sG ?_; (with_reducible refine (spec_l03Ok.calls k _ _ l0 false _ ?side1 ?side2 A8.out).mono ?_); (case side1 => exact sC (Kd.C_below HR0.out HB.out)); (case side2 => exact HC0.out); rintro e w23 ⟨rfl, hb⟩; refine ⟨_, rfl, ?_⟩; have n0_ := aS (blk_below (g := gb131) (o := .cells #[.int .i64 a1_0, .int .i64 a1_1] 45 (0, 0)) (sB BK131.out) hb); have n1_ := aS (blk_below (g := gb132) (o := .cells #[.int .i64 a2_0, .int .i64 a2_1] 45 (0, 0)) (sB BK132.out) hb); have n2_ := aS (below_step (sW HB.out) hb); clear BK131 BK132 HB; have BK131 := n0_; have BK132 := n1_; have HB := n2_; clear n0_ n1_ n2_; (try clear hb); (try clear hb2); (try clear hk); (try clear hi)))
   go_meet
   case rel => exact ⟨_, (true), (by first | rfl | (simp; done) | (simp [*]; done) | (simp only [i64_w]; done) | (simp [i64_w]; done)), H', ⟨by first | omega | exact Nat.le_refl _⟩, ⟨by (with_reducible repeat (first | refine blk_drewN ?_ _ | refine blk_drew ?_ | refine blk_alloc ?_ _)); exact BK131.out⟩, ⟨by (with_reducible repeat (first | refine blk_drewN ?_ _ | refine blk_drew ?_ | refine blk_alloc ?_ _)); exact BK132.out⟩, ⟨by repeat (first | (with_reducible first | exact HB.out | apply below_alloc | apply pw_below_drewN | apply below_drew1 | refine below_set ?_ GE131.out | refine below_set ?_ GE132.out) | exact HB.out)⟩⟩
  subst c9
  have H1 : ((spec_l03Piece.f a1_0 a1_1).bind fun t134 => (if t134 = true then ((spec_l03Piece.f a2_0 a2_1).bind fun t135 => (spec_BestJoin.j0 k l0 a3 (!t135) a1_0 a1_1 a2_0 a2_1)) else (spec_BestJoin.j0 k l0 a3 true a1_0 a1_1 a2_0 a2_1))) = some (r1, r2) := by rw [if_pos rfl] at H; exact H
  clear H
  have H := H1
  clear H1
  replace H := Option.bind_eq_some_iff.mp H
  obtain ⟨t134, A100, H⟩ := H
  replace H : (if t134 = true then ((spec_l03Piece.f a2_0 a2_1).bind fun t135 => (spec_BestJoin.j0 k l0 a3 (!t135) a1_0 a1_1 a2_0 a2_1)) else (spec_BestJoin.j0 k l0 a3 true a1_0 a1_1 a2_0 a2_1)) = some (r1, r2) := H
  have A10 := aS A100
  clear A100
  by_cases c11 : t134 = true
  rotate_left
  ·
   replace c11 := Bool.eq_false_iff.mpr c11
   subst c11
   have H1 : (spec_BestJoin.j0 k l0 a3 true a1_0 a1_1 a2_0 a2_1) = some (r1, r2) := by rw [if_neg (show ¬ (false = true) by decide)] at H; exact H
   clear H
   have H := H1
   clear H1
   have H' := aS H
   clear H
   go_wp2_with (first | ((with_reducible refine gate_callee (f := 43) rfl ?_); refine goesL_ (some 13) rfl rfl Try.func43 (by kernel_rfl) rfl #[.slice A0 l0.length c0] rfl sG ?_; (with_reducible refine (spec_l03Ok.calls k _ _ l0 true _ ?side1 ?side2 A8.out).mono ?_); (case side1 => exact sC (Kd.C_below HR0.out HB.out)); (case side2 => exact HC0.out); rintro e w19 ⟨rfl, hb⟩; refine ⟨_, rfl, ?_⟩; have n0_ := aS (blk_below (g := gb131) (o := .cells #[.int .i64 a1_0, .int .i64 a1_1] 45 (0, 0)) (sB BK131.out) hb); have n1_ := aS (blk_below (g := gb132) (o := .cells #[.int .i64 a2_0, .int .i64 a2_1] 45 (0, 0)) (sB BK132.out) hb); have n2_ := aS (below_step (sW HB.out) hb); clear BK131 BK132 HB; have BK131 := n0_; have BK132 := n1_; have HB := n2_; clear n0_ n1_ n2_; (try clear hb); (try clear hb2); (try clear hk); (try clear hi); have hnb20 := NB131_132.out; have hnc20 := NB132_131.out; have hcz21_0 : w19.cell? ⟨gb131, 0, none⟩ = some (.int .i64 a1_0) := (blk_cell BK131.out 0).trans rfl; have hcz21_1 : w19.cell? ⟨gb131, 1, none⟩ = some (.int .i64 a1_1) := (blk_cell BK131.out 1).trans rfl; have hfz21_0 := blk_frozen BK131.out 0; have hfz21_1 := blk_frozen BK131.out 1) | (go_at_call 44; (with_reducible refine (spec_l03Piece.calls a1_0 a1_1 false _ A10.out).mono ?_); rintro e w22 ⟨rfl, hb⟩; have n0_ := aS (blk_below (g := gb131) (o := .cells #[.int .i64 a1_0, .int .i64 a1_1] 45 (0, 0)) (sB BK131.out) hb); have n1_ := aS (blk_below (g := gb132) (o := .cells #[.int .i64 a2_0, .int .i64 a2_1] 45 (0, 0)) (sB BK132.out) hb); have n2_ := aS (below_step (sW HB.out) hb); clear BK131 BK132 HB; have BK131 := n0_; have BK132 := n1_; have HB := n2_; clear n0_ n1_ n2_; (try clear hb); (try clear hb2); (try clear hk); (try clear hi)))
   go_meet
   case rel => exact ⟨_, (true), (by first | rfl | (simp; done) | (simp [*]; done) | (simp only [i64_w]; done) | (simp [i64_w]; done)), H', ⟨by first | omega | exact Nat.le_refl _⟩, ⟨by (with_reducible repeat (first | refine blk_drewN ?_ _ | refine blk_drew ?_ | refine blk_alloc ?_ _)); exact BK131.out⟩, ⟨by (with_reducible repeat (first | refine blk_drewN ?_ _ | refine blk_drew ?_ | refine blk_alloc ?_ _)); exact BK132.out⟩, ⟨by repeat (first | (with_reducible first | exact HB.out | apply below_alloc | apply pw_below_drewN | apply below_drew1 | refine below_set ?_ GE131.out | refine below_set ?_ GE132.out) | exact HB.out)⟩⟩
  subst c11
  have H1 : ((spec_l03Piece.f a2_0 a2_1).bind fun t135 => (spec_BestJoin.j0 k l0 a3 (!t135) a1_0 a1_1 a2_0 a2_1)) = some (r1, r2) := by rw [if_pos rfl] at H; exact H
  clear H
  have H := H1
  clear H1
  replace H := Option.bind_eq_some_iff.mp H
  obtain ⟨t135, A120, H⟩ := H
  replace H : (spec_BestJoin.j0 k l0 a3 (!t135) a1_0 a1_1 a2_0 a2_1) = some (r1, r2) := H
  have A12 := aS A120
  clear A120
  have H' := aS H
  clear H
  go_wp2_with (first | ((with_reducible refine gate_callee (f := 43) rfl ?_); refine goesL_ (some 13) rfl rfl Try.func43 (by kernel_rfl) rfl #[.slice A0 l0.length c0] rfl sG ?_; (with_reducible refine (spec_l03Ok.calls k _ _ l0 true _ ?side1 ?side2 A8.out).mono ?_); (case side1 => exact sC (Kd.C_below HR0.out HB.out)); (case side2 => exact HC0.out); rintro e w13 ⟨rfl, hb⟩; refine ⟨_, rfl, ?_⟩; have n0_ := aS (blk_below (g := gb131) (o := .cells #[.int .i64 a1_0, .int .i64 a1_1] 45 (0, 0)) (sB BK131.out) hb); have n1_ := aS (blk_below (g := gb132) (o := .cells #[.int .i64 a2_0, .int .i64 a2_1] 45 (0, 0)) (sB BK132.out) hb); have n2_ := aS (below_step (sW HB.out) hb); clear BK131 BK132 HB; have BK131 := n0_; have BK132 := n1_; have HB := n2_; clear n0_ n1_ n2_; (try clear hb); (try clear hb2); (try clear hk); (try clear hi); have hnb14 := NB131_132.out; have hnc14 := NB132_131.out; have hcz15_0 : w13.cell? ⟨gb131, 0, none⟩ = some (.int .i64 a1_0) := (blk_cell BK131.out 0).trans rfl; have hcz15_1 : w13.cell? ⟨gb131, 1, none⟩ = some (.int .i64 a1_1) := (blk_cell BK131.out 1).trans rfl; have hfz15_0 := blk_frozen BK131.out 0; have hfz15_1 := blk_frozen BK131.out 1) | (go_at_call 44; (with_reducible refine (spec_l03Piece.calls a1_0 a1_1 true _ A10.out).mono ?_); rintro e w16 ⟨rfl, hb⟩; have n0_ := aS (blk_below (g := gb131) (o := .cells #[.int .i64 a1_0, .int .i64 a1_1] 45 (0, 0)) (sB BK131.out) hb); have n1_ := aS (blk_below (g := gb132) (o := .cells #[.int .i64 a2_0, .int .i64 a2_1] 45 (0, 0)) (sB BK132.out) hb); have n2_ := aS (below_step (sW HB.out) hb); clear BK131 BK132 HB; have BK131 := n0_; have BK132 := n1_; have HB := n2_; clear n0_ n1_ n2_; (try clear hb); (try clear hb2); (try clear hk); (try clear hi); have hcz17_0 : w16.cell? ⟨gb132, 0, none⟩ = some (.int .i64 a2_0) := (blk_cell BK132.out 0).trans rfl; have hcz17_1 : w16.cell? ⟨gb132, 1, none⟩ = some (.int .i64 a2_1) := (blk_cell BK132.out 1).trans rfl; have hfz17_0 := blk_frozen BK132.out 0; have hfz17_1 := blk_frozen BK132.out 1) | (go_at_call 44; (with_reducible refine (spec_l03Piece.calls a2_0 a2_1 t135 _ A12.out).mono ?_); rintro e w18 ⟨rfl, hb⟩; have n0_ := aS (blk_below (g := gb131) (o := .cells #[.int .i64 a1_0, .int .i64 a1_1] 45 (0, 0)) (sB BK131.out) hb); have n1_ := aS (blk_below (g := gb132) (o := .cells #[.int .i64 a2_0, .int .i64 a2_1] 45 (0, 0)) (sB BK132.out) hb); have n2_ := aS (below_step (sW HB.out) hb); clear BK131 BK132 HB; have BK131 := n0_; have BK132 := n1_; have HB := n2_; clear n0_ n1_ n2_; (try clear hb); (try clear hb2); (try clear hk); (try clear hi)))
  go_meet
  case rel => exact ⟨_, (!t135), (by first | rfl | (simp; done) | (simp [*]; done) | (simp only [i64_w]; done) | (simp [i64_w]; done)), H', ⟨by first | omega | exact Nat.le_refl _⟩, ⟨by (with_reducible repeat (first | refine blk_drewN ?_ _ | refine blk_drew ?_ | refine blk_alloc ?_ _)); exact BK131.out⟩, ⟨by (with_reducible repeat (first | refine blk_drewN ?_ _ | refine blk_drew ?_ | refine blk_alloc ?_ _)); exact BK132.out⟩, ⟨by repeat (first | (with_reducible first | exact HB.out | apply below_alloc | apply pw_below_drewN | apply below_drew1 | refine below_set ?_ GE131.out | refine below_set ?_ GE132.out) | exact HB.out)⟩⟩
 case rest =>
  clear HC5
  (try clear c1); (try clear c2); (try clear p2); (try clear c4); (try clear c9); (try clear c11); (try clear c14); (try clear c20); (try clear c23); (try clear hcz15_0); (try clear hcz15_1); (try clear hcz17_0); (try clear hcz17_1); (try clear hcz21_0); (try clear hcz21_1); (try clear hfz15_0); (try clear hfz15_1); (try clear hfz17_0); (try clear hfz17_1); (try clear hfz21_0); (try clear hfz21_1)
  obtain ⟨kq, x24_4, rfl, HA, HJ4, BK131, BK132, HB⟩ := hcut
  cases kq with
  | zero => exact absurd HA.out (by simp [spec_BestJoin.j0])
  | succ kj4 =>
   have H := HA.out
   clear HA
   simp only [spec_BestJoin.j0] at H
   by_cases c24 : x24_4 = true
   ·
    subst c24
    have H1 : (some (0, 1)) = some (r1, r2) := by rw [if_pos rfl] at H; exact H
    clear H
    have H := H1
    clear H1
    simp only [Option.some.injEq, Prod.mk.injEq] at H
    obtain ⟨rfl, rfl⟩ := H
    go_wp2
    go_ret2
    exact ⟨by first | rfl | (simp [errW_none, errW_some, i64_w]; done) | (simp [errW_none, errW_some] <;> rfl) | (simp [*, errW_none, errW_some] <;> rfl), by repeat (first | (with_reducible first | exact HB.out | apply below_alloc | apply pw_below_drewN | apply below_drew1) | exact HB.out)⟩
   ·
    replace c24 := Bool.eq_false_iff.mpr c24
    subst c24
    have H1 : ((spec_l03Need.f a3).bind fun t136 => (if t136 = true then (spec_BestJoin.l0 kj4 l0 a3 (-1) 0 a1_0 a1_1 a2_0 a2_1) else (some (0, 2)))) = some (r1, r2) := by rw [if_neg (show ¬ (false = true) by decide)] at H; exact H
    clear H
    have H := H1
    clear H1
    replace H := Option.bind_eq_some_iff.mp H
    obtain ⟨t136, A250, H⟩ := H
    replace H : (if t136 = true then (spec_BestJoin.l0 kj4 l0 a3 (-1) 0 a1_0 a1_1 a2_0 a2_1) else (some (0, 2))) = some (r1, r2) := H
    have A25 := aS A250
    clear A250
    have HC26 := aS H
    clear H
    go_upto_if 27 with (first | ((with_reducible refine gate_callee (f := 45) rfl ?_); refine goesL_ (some 26) rfl rfl Try.func45 (by kernel_rfl) rfl #[.int .i64 a3] rfl sG ?_; (with_reducible refine (spec_l03Need.calls a3 t136 _ A25.out).mono ?_); rintro e w' ⟨rfl, ⟨nd, rfl⟩⟩; refine ⟨_, rfl, ?_⟩))
    (try simp only [Act.put, List.setIfInBounds_toArray, List.set_cons_zero, List.set_cons_succ])
    have H := HC26.out
    clear HC26
    by_cases c27 : t136 = true
    ·
     subst c27
     have H1 : (spec_BestJoin.l0 kj4 l0 a3 (-1) 0 a1_0 a1_1 a2_0 a2_1) = some (r1, r2) := by rw [if_pos rfl] at H; exact H
     clear H
     have H := H1
     clear H1
     have H' := aS H
     clear H
     go_wp2
     go_loopg [10, 11] kj4 (fun kq v10 v11 w' => ∃ (x10_2 : Int) (x11_2 : Int), v10 = .int .i64 x10_2 ∧ v11 = .int .i64 x11_2 ∧ Aside0 (spec_BestJoin.l0 kq l0 a3 x10_2 x11_2 a1_0 a1_1 a2_0 a2_1 = some (r1, r2)) ∧ Aside0 (kq ≤ kj4) ∧ Aside0 (w'.heap[gb131]? = some (.cells #[.int .i64 a1_0, .int .i64 a1_1] 45 (0, 0))) ∧ Aside0 (w'.heap[gb132]? = some (.cells #[.int .i64 a2_0, .int .i64 a2_1] 45 (0, 0))) ∧ Aside0 (Below w.heap.size w w'))
     case atStart => exact ⟨((-1)), (0), (by first | rfl | (simp; done) | (simp [*]; done) | (simp only [i64_w]; done) | (simp [i64_w]; done)), (by first | rfl | (simp; done) | (simp [*]; done) | (simp only [i64_w]; done) | (simp [i64_w]; done)), H', ⟨Nat.le_refl _⟩, ⟨by (with_reducible repeat (first | refine blk_drewN ?_ _ | refine blk_drew ?_ | refine blk_alloc ?_ _)); exact BK131.out⟩, ⟨by (with_reducible repeat (first | refine blk_drewN ?_ _ | refine blk_drew ?_ | refine blk_alloc ?_ _)); exact BK132.out⟩, ⟨by repeat (first | (with_reducible first | exact HB.out | apply below_alloc | apply pw_below_drewN | apply below_drew1 | refine below_set ?_ GE131.out | refine below_set ?_ GE132.out) | exact HB.out)⟩⟩
     case round =>
      clear H'
      (try clear c1); (try clear c2); (try clear p2); (try clear c4); (try clear c9); (try clear c11); (try clear c14); (try clear c20); (try clear c23); (try clear c24); (try clear c27); (try clear hcz15_0); (try clear hcz15_1); (try clear hcz17_0); (try clear hcz17_1); (try clear hcz21_0); (try clear hcz21_1); (try clear hfz15_0); (try clear hfz15_1); (try clear hfz17_0); (try clear hfz17_1); (try clear hfz21_0); (try clear hfz21_1); (try clear p2)
      obtain ⟨x10_2, x11_2, rfl, rfl, HA, HK2, BK131, BK132, HB⟩ := hrel
      cases gk with
      | zero => exact absurd HA.out (by simp [spec_BestJoin.l0])
      | succ k2 =>
       have H := HA.out
       clear HA
       simp only [spec_BestJoin.l0] at H
       by_cases c28 : x11_2 < (l0.length : Int)
       rotate_left
       ·
        rw [if_neg c28] at H
        have c28b0 : decide (x11_2 < (l0.length : Int)) = false := decide_eq_false c28
        clear c28
        (first | rw [c28b0] | (simp only [i64_w, i32_w]; rw [c28b0]) | (rw [c28b2]; simp only [Bool.not_false, Bool.not_true]) | skip)
        by_cases c42 : x10_2 < 0
        ·
         rw [if_pos c42] at H
         have c42b0 : decide (x10_2 < 0) = true := decide_eq_true c42
         clear c42
         simp only [Option.some.injEq, Prod.mk.injEq] at H
         obtain ⟨rfl, rfl⟩ := H
         go_wp2
         go_ret2
         exact ⟨by first | rfl | (simp [errW_none, errW_some, i64_w]; done) | (simp [errW_none, errW_some] <;> rfl) | (simp [*, errW_none, errW_some] <;> rfl), by repeat (first | (with_reducible first | exact HB.out | apply below_alloc | apply pw_below_drewN | apply below_drew1) | exact HB.out)⟩
        rw [if_neg c42] at H
        have c42b0 : decide (x10_2 < 0) = false := decide_eq_false c42
        clear c42
        simp only [Option.some.injEq, Prod.mk.injEq] at H
        obtain ⟨rfl, rfl⟩ := H
        go_wp2
        go_ret2
        exact ⟨by first | rfl | (simp [errW_none, errW_some, i64_w]; done) | (simp [errW_none, errW_some] <;> rfl) | (simp [*, errW_none, errW_some] <;> rfl), by repeat (first | (with_reducible first | exact HB.out | apply below_alloc | apply pw_below_drewN | apply below_drew1) | exact HB.out)⟩
       rw [if_pos c28] at H
       have c28b0 : decide (x11_2 < (l0.length : Int)) = true := decide_eq_true c28
       clear c28
       (first | rw [c28b0] | (simp only [i64_w, i32_w]; rw [c28b0]) | (rw [c28b2]; simp only [Bool.not_false, Bool.not_true]) | skip)
       by_cases c29 : 0 ≤ x11_2
       rotate_left
       ·
        rw [if_neg c29] at H
        exact absurd H (by simp)
       rw [if_pos c29] at H
       have c29b0 : decide (0 ≤ x11_2) = true := decide_eq_true c29
       clear c29
       replace H := Option.bind_eq_some_iff.mp H
       obtain ⟨t138, A300, H⟩ := H
       replace H : (if t138 < (wrap64 (1000 * a3)) then (spec_BestJoin.l0 k2 l0 a3 x10_2 (wrap64 (x11_2 + 1)) a1_0 a1_1 a2_0 a2_1) else (if x10_2 < 0 then (spec_BestJoin.l0 k2 l0 a3 x11_2 (wrap64 (x11_2 + 1)) a1_0 a1_1 a2_0 a2_1) else (if 0 ≤ x10_2 then (if x10_2 < (l0.length : Int) then (if ((rd_T61 l0 x11_2).f2) < ((rd_T61 l0 x10_2).f2) then (spec_BestJoin.l0 k2 l0 a3 x11_2 (wrap64 (x11_2 + 1)) a1_0 a1_1 a2_0 a2_1) else (spec_BestJoin.l0 k2 l0 a3 x10_2 (wrap64 (x11_2 + 1)) a1_0 a1_1 a2_0 a2_1)) else (none)) else (none)))) = some (r1, r2) := H
       have A30 := aS A300
       clear A300
       have HC31 := aS H
       clear H
       try go_wp2
       have n0_ := aS (blk_drew BK131.out)
       have n1_ := aS (blk_drew BK132.out)
       have n2_ := aS (below_drew1 HB.out)
       clear BK131 BK132 HB
       have BK131 := n0_; have BK132 := n1_; have HB := n2_
       clear n0_ n1_ n2_
       have p137 : 0 ≤ (x11_2 : Int) := of_decide_eq_true (by first | (with_reducible assumption) | assumption)
       have q137 : x11_2 < (l0.length : Int) := of_decide_eq_true (by first | (with_reducible assumption) | assumption)
       obtain ⟨ad137, e137, hx137_0, hx137_1, hx137_2⟩ := at_T61 HR0.out x11_2 p137 q137
       have hw137_2 := hx137_2
       have hw137_1 := hx137_1
       have hw137_0 := hx137_0
       cases e137
       replace hx137_0 := (HB.out.cell (World.block_lt_of_cell? w _ hx137_0)).trans hx137_0
       replace hx137_1 := (HB.out.cell (World.block_lt_of_cell? w _ hx137_1)).trans hx137_1
       replace hx137_2 := (HB.out.cell (World.block_lt_of_cell? w _ hx137_2)).trans hx137_2
       replace p137 := eq_true p137
       replace q137 := eq_true q137
       refine start_ (n := 9) (S := fun w' => w'.cell? ⟨gb131, 0, none⟩ = some (.int .i64 a1_0) ∧ w'.cell? ⟨gb131, 1, none⟩ = some (.int .i64 a1_1) ∧ w'.cell? ⟨gb132, 0, none⟩ = some (.int .i64 a2_0) ∧ w'.cell? ⟨gb132, 1, none⟩ = some (.int .i64 a2_1) ∧ w'.cell? (ad137.add ((x11_2).toNat * 3)) = some (.string ((rd_T61 l0 x11_2).f0)) ∧ w'.cell? ⟨(ad137.add ((x11_2).toNat * 3)).block, (ad137.add ((x11_2).toNat * 3)).off + 1, none⟩ = some (.int .i64 ((rd_T61 l0 x11_2).f1)) ∧ w'.cell? ⟨(ad137.add ((x11_2).toNat * 3)).block, (ad137.add ((x11_2).toNat * 3)).off + 2, none⟩ = some (.int .i64 ((rd_T61 l0 x11_2).f2))) (ds := []) #[false, false, false, false, false, false, false, false, false] (by kernel_rfl) rfl rfl ⟨(blk_cell BK131.out 0).trans rfl, (blk_cell BK131.out 1).trans rfl, (blk_cell BK132.out 0).trans rfl, (blk_cell BK132.out 1).trans rfl, ((HB.out.cell (World.block_lt_of_cell? w _ hw137_0)).trans hw137_0), ((HB.out.cell (World.block_lt_of_cell? w _ hw137_1)).trans hw137_1), ((HB.out.cell (World.block_lt_of_cell? w _ hw137_2)).trans hw137_2)⟩ (fun hHeld => ?_); refine with_tabW spec_BestJoin.tab9 spec_BestJoin.bits9 (fun HT_ HW_ => ?_)
       generalize wr.drew = w32 at BK131 BK132 HB hx137_0 hx137_1 hx137_2 hHeld ⊢
       refine pure_ (i := 0) (N := some 34) (v := ?_) (a' := ?_) (spec_BestJoin.bF 9 1) rfl rfl (any_of HT_.out (by kernel_rfl)) (fun _ _ _ h => h) (Or.inl ⟨by rfl, ?_⟩) ?_ ?_
       rotate_left
       ·
        intro w'
        go_simp
        with_reducible rfl
       rotate_left
       ·
        exact sP
       refine pure_ (i := 1) (N := some 35) (v := ?_) (a' := ?_) (spec_BestJoin.bF 9 3) rfl rfl (any_of HT_.out (by kernel_rfl)) (fun _ _ _ h => h) (Or.inl ⟨by rfl, ?_⟩) ?_ ?_
       rotate_left
       ·
        intro w'
        go_simp
        with_reducible rfl
       rotate_left
       ·
        exact sP
       refine pure_ (i := 2) (N := some 36) (v := ?_) (a' := ?_) (spec_BestJoin.bF 9 7) rfl rfl (any_of HT_.out (by kernel_rfl)) (fun _ _ _ h => h) (Or.inl ⟨by rfl, ?_⟩) ?_ ?_
       rotate_left
       ·
        intro w'
        go_simp
        with_reducible rfl
       rotate_left
       ·
        exact sP
       refine pure_ (i := 6) (N := some 40) (v := ?_) (a' := ?_) (spec_BestJoin.bF 9 71) rfl rfl (any_of HT_.out (by kernel_rfl)) (fun _ _ _ h => h) (Or.inl ⟨by rfl, ?_⟩) ?_ ?_
       rotate_left
       ·
        intro w'
        go_simp
        with_reducible rfl
       rotate_left
       ·
        exact sP
       refine pure_ (i := 7) (N := some 41) (v := ?_) (a' := ?_) (spec_BestJoin.bF 9 199) rfl rfl (any_of HT_.out (by kernel_rfl)) (fun _ _ _ h => h) (Or.inl ⟨by rfl, ?_⟩) ?_ ?_
       rotate_left
       ·
        intro w'
        go_simp
        with_reducible rfl
       rotate_left
       ·
        exact sP
       refine take_ (i := 3) (N := some 37) (v := ?_) (a' := ?_) (spec_BestJoin.bF 9 207) rfl rfl (take_ofW HT_.out HW_.out (by kernel_rfl)) (fun _ _ _ h => h) (Or.inl ⟨by rfl, ?_⟩) hHeld ?_ ?_
       rotate_left
       ·
        rintro w' ⟨s0, s1, s2, s3, s4, s5, s6⟩
        go_simp
        with_reducible rfl
       rotate_left
       ·
        exact sP
       refine take_ (i := 4) (N := some 38) (v := ?_) (a' := ?_) (spec_BestJoin.bF 9 223) rfl rfl (take_ofW HT_.out HW_.out (by kernel_rfl)) (fun _ _ _ h => h) (Or.inl ⟨by rfl, ?_⟩) hHeld ?_ ?_
       rotate_left
       ·
        rintro w' ⟨s0, s1, s2, s3, s4, s5, s6⟩
        go_simp
        with_reducible rfl
       rotate_left
       ·
        exact sP
       refine one_ (i := 5) (N := some 39) #[true, true, true, true, true, true, true, true, false] rfl rfl (one_of HT_.out (by kernel_rfl)) (by decide) (fun K hK => ?_)
       refine goes_ Try.func69 (by kernel_rfl) rfl #[.pointer (some (ad137.add ((x11_2).toNat * 3))), .agg #[.int .i64 a1_0, .int .i64 a1_1], .agg #[.int .i64 a2_0, .int .i64 a2_1]] (by rfl) rfl rfl sG ?_
       with_reducible refine (spec_l03JoinedAt.calls _ 1 [rd_T61 l0 x11_2] a1_0 a1_1 a2_0 a2_1 t138 _ ?side1 ?side2 A30.out).mono ?_
       (case side1 => refine elem_C ?_ z61 x11_2 (of_decide_eq_true (by first | (with_reducible assumption) | assumption)) (of_decide_eq_true (by first | (with_reducible assumption) | assumption)); repeat (first | exact (Kd.C_below HR0.out HB.out) | (with_reducible refine Kd.C_alloc ?_ _) | (with_reducible refine Kd.C_drewN ?_ _) | (with_reducible refine Kd.C_drew ?_)))
       (case side2 => exact Nat.le_refl _)
       rintro e w33 ⟨rfl, hb⟩
       refine ⟨_, rfl, ?_⟩
       have n0_ := aS (blk_below (g := gb131) (o := .cells #[.int .i64 a1_0, .int .i64 a1_1] 45 (0, 0)) (sB BK131.out) hb)
       have n1_ := aS (blk_below (g := gb132) (o := .cells #[.int .i64 a2_0, .int .i64 a2_1] 45 (0, 0)) (sB BK132.out) hb)
       have n2_ := aS (below_step (sW HB.out) hb)
       clear BK131 BK132 HB
       have BK131 := n0_; have BK132 := n1_; have HB := n2_
       clear n0_ n1_ n2_
       (try clear hb); (try clear hb2); (try clear hk); (try clear hi)
       refine hK.out _ _ ⟨(blk_cell BK131.out 0).trans rfl, (blk_cell BK131.out 1).trans rfl, (blk_cell BK132.out 0).trans rfl, (blk_cell BK132.out 1).trans rfl, ((HB.out.cell (World.block_lt_of_cell? w _ hw137_0)).trans hw137_0), ((HB.out.cell (World.block_lt_of_cell? w _ hw137_1)).trans hw137_1), ((HB.out.cell (World.block_lt_of_cell? w _ hw137_2)).trans hw137_2)⟩ (fun hHeld => ?_)
       clear hK K
       refine norm_ (a' := ?_) ?_ ?_
       rotate_left
       ·
        show Act.put _ (some 39) _ = _
        exact sP
       refine pure_ (i := 8) (N := some 42) (v := ?_) (a' := ?_) (spec_BestJoin.bF 9 511) rfl rfl (any_of HT_.out (by kernel_rfl)) (fun _ _ _ h => h) (Or.inl ⟨by rfl, ?_⟩) ?_ ?_
       rotate_left
       ·
        intro w'
        go_simp
        with_reducible rfl
       rotate_left
       ·
        exact sP
       refine done_ (done_of HT_.out (by kernel_rfl)) ?_
       go_upto_if 42 with (fail)
       have H := HC31.out
       clear HC31
       by_cases c34 : t138 < (wrap64 (1000 * a3))
       ·
        rw [if_pos c34] at H
        have c34b0 : decide (t138 < (wrap64 (1000 * a3))) = true := decide_eq_true c34
        clear c34
        (first | rw [c34b0] | (simp only [i64_w, i32_w]; rw [c34b0]) | (rw [c34b2]; simp only [Bool.not_false, Bool.not_true]) | skip)
        have H' := aS H
        clear H
        go_wp2
        go_roundg k2
        case measure => have := HJ4.out; have := HK2.out; omega
        case rel => exact ⟨(x10_2), (wrap64 (x11_2 + 1)), (by first | rfl | (simp; done) | (simp [*]; done) | (simp only [i64_w]; done) | (simp [i64_w]; done)), (by first | rfl | (simp; done) | (simp [*]; done) | (simp only [i64_w]; done) | (simp [i64_w]; done)), H', ⟨by have := HJ4.out; have := HK2.out; omega⟩, ⟨by (with_reducible repeat (first | refine blk_drewN ?_ _ | refine blk_drew ?_ | refine blk_alloc ?_ _)); exact BK131.out⟩, ⟨by (with_reducible repeat (first | refine blk_drewN ?_ _ | refine blk_drew ?_ | refine blk_alloc ?_ _)); exact BK132.out⟩, ⟨by repeat (first | (with_reducible first | exact HB.out | apply below_alloc | apply pw_below_drewN | apply below_drew1 | refine below_set ?_ GE131.out | refine below_set ?_ GE132.out) | exact HB.out)⟩⟩
       rw [if_neg c34] at H
       have c34b0 : decide (t138 < (wrap64 (1000 * a3))) = false := decide_eq_false c34
       clear c34
       (first | rw [c34b0] | (simp only [i64_w, i32_w]; rw [c34b0]) | (rw [c34b2]; simp only [Bool.not_false, Bool.not_true]) | skip)
       by_cases c35 : x10_2 < 0
       ·
        rw [if_pos c35] at H
        have c35b0 : decide (x10_2 < 0) = true := decide_eq_true c35
        clear c35
        have H' := aS H
        clear H
        try go_wp2
        have n0_ := aS (blk_drew BK131.out)
        have n1_ := aS (blk_drew BK132.out)
        have n2_ := aS (below_drew1 HB.out)
        clear BK131 BK132 HB
        have BK131 := n0_; have BK132 := n1_; have HB := n2_
        clear n0_ n1_ n2_
        refine start_ (n := 15) (S := fun w' => True) (ds := []) #[false, false, false, false, false, false, false, false, false, false, false, false, false, false, false] (by kernel_rfl) rfl rfl trivial (fun hHeld => ?_); refine with_tabW spec_BestJoin.tab10 spec_BestJoin.bits10 (fun HT_ HW_ => ?_)
        generalize w33.drew = w36 at BK131 BK132 HB hHeld ⊢
        refine pure_ (i := 0) (N := some 43) (v := ?_) (a' := ?_) (spec_BestJoin.bF 15 1) rfl rfl (any_of HT_.out (by kernel_rfl)) (fun _ _ _ h => h) (Or.inl ⟨by rfl, ?_⟩) ?_ ?_
        rotate_left
        ·
         intro w'
         go_simp
         with_reducible rfl
        rotate_left
        ·
         exact sP
        refine pure_ (i := 1) (N := some 44) (v := ?_) (a' := ?_) (spec_BestJoin.bF 15 3) rfl rfl (any_of HT_.out (by kernel_rfl)) (fun _ _ _ h => h) (Or.inl ⟨by rfl, ?_⟩) ?_ ?_
        rotate_left
        ·
         intro w'
         go_simp
         with_reducible rfl
        rotate_left
        ·
         exact sP
        refine pure_ (i := 2) (N := some 45) (v := ?_) (a' := ?_) (spec_BestJoin.bF 15 7) rfl rfl (any_of HT_.out (by kernel_rfl)) (fun _ _ _ h => h) (Or.inl ⟨by rfl, ?_⟩) ?_ ?_
        rotate_left
        ·
         intro w'
         go_simp
         with_reducible rfl
        rotate_left
        ·
         exact sP
        refine pure_ (i := 3) (N := some 46) (v := undef) (a' := ?_) (spec_BestJoin.bF 15 15) rfl rfl (any_of HT_.out (by kernel_rfl)) (fun _ _ _ h => h) (Or.inr ⟨by rfl, rfl⟩) ?_ ?_
        rotate_left
        ·
         exact sP
        refine pure_ (i := 4) (N := some 47) (v := undef) (a' := ?_) (spec_BestJoin.bF 15 31) rfl rfl (any_of HT_.out (by kernel_rfl)) (fun _ _ _ h => h) (Or.inr ⟨by rfl, rfl⟩) ?_ ?_
        rotate_left
        ·
         exact sP
        refine pure_ (i := 5) (N := some 48) (v := undef) (a' := ?_) (spec_BestJoin.bF 15 63) rfl rfl (any_of HT_.out (by kernel_rfl)) (fun _ _ _ h => h) (Or.inr ⟨by rfl, rfl⟩) ?_ ?_
        rotate_left
        ·
         exact sP
        refine pure_ (i := 6) (N := some 49) (v := undef) (a' := ?_) (spec_BestJoin.bF 15 127) rfl rfl (any_of HT_.out (by kernel_rfl)) (fun _ _ _ h => h) (Or.inr ⟨by rfl, rfl⟩) ?_ ?_
        rotate_left
        ·
         exact sP
        refine pure_ (i := 7) (N := some 50) (v := undef) (a' := ?_) (spec_BestJoin.bF 15 255) rfl rfl (any_of HT_.out (by kernel_rfl)) (fun _ _ _ h => h) (Or.inr ⟨by rfl, rfl⟩) ?_ ?_
        rotate_left
        ·
         exact sP
        refine pure_ (i := 8) (N := some 51) (v := undef) (a' := ?_) (spec_BestJoin.bF 15 511) rfl rfl (any_of HT_.out (by kernel_rfl)) (fun _ _ _ h => h) (Or.inr ⟨by rfl, rfl⟩) ?_ ?_
        rotate_left
        ·
         exact sP
        refine pure_ (i := 9) (N := some 52) (v := undef) (a' := ?_) (spec_BestJoin.bF 15 1023) rfl rfl (any_of HT_.out (by kernel_rfl)) (fun _ _ _ h => h) (Or.inr ⟨by rfl, rfl⟩) ?_ ?_
        rotate_left
        ·
         exact sP
        refine pure_ (i := 10) (N := some 53) (v := undef) (a' := ?_) (spec_BestJoin.bF 15 2047) rfl rfl (any_of HT_.out (by kernel_rfl)) (fun _ _ _ h => h) (Or.inr ⟨by rfl, rfl⟩) ?_ ?_
        rotate_left
        ·
         exact sP
        refine pure_ (i := 11) (N := some 54) (v := undef) (a' := ?_) (spec_BestJoin.bF 15 4095) rfl rfl (any_of HT_.out (by kernel_rfl)) (fun _ _ _ h => h) (Or.inr ⟨by rfl, rfl⟩) ?_ ?_
        rotate_left
        ·
         exact sP
        refine pure_ (i := 12) (N := some 55) (v := undef) (a' := ?_) (spec_BestJoin.bF 15 8191) rfl rfl (any_of HT_.out (by kernel_rfl)) (fun _ _ _ h => h) (Or.inr ⟨by rfl, rfl⟩) ?_ ?_
        rotate_left
        ·
         exact sP
        refine pure_ (i := 13) (N := some 56) (v := undef) (a' := ?_) (spec_BestJoin.bF 15 16383) rfl rfl (any_of HT_.out (by kernel_rfl)) (fun _ _ _ h => h) (Or.inr ⟨by rfl, rfl⟩) ?_ ?_
        rotate_left
        ·
         exact sP
        refine pure_ (i := 14) (N := some 57) (v := ?_) (a' := ?_) (spec_BestJoin.bF 15 32767) rfl rfl (any_of HT_.out (by kernel_rfl)) (fun _ _ _ h => h) (Or.inl ⟨by rfl, ?_⟩) ?_ ?_
        rotate_left
        ·
         intro w'
         go_simp
         with_reducible rfl
        rotate_left
        ·
         exact sP
        refine done_ (done_of HT_.out (by kernel_rfl)) ?_
        try go_wp2
        go_roundg k2
        case measure => have := HJ4.out; have := HK2.out; omega
        case rel => exact ⟨(x11_2), (wrap64 (x11_2 + 1)), (by first | rfl | (simp; done) | (simp [*]; done) | (simp only [i64_w]; done) | (simp [i64_w]; done)), (by first | rfl | (simp; done) | (simp [*]; done) | (simp only [i64_w]; done) | (simp [i64_w]; done)), H', ⟨by have := HJ4.out; have := HK2.out; omega⟩, ⟨by (with_reducible repeat (first | refine blk_drewN ?_ _ | refine blk_drew ?_ | refine blk_alloc ?_ _)); exact BK131.out⟩, ⟨by (with_reducible repeat (first | refine blk_drewN ?_ _ | refine blk_drew ?_ | refine blk_alloc ?_ _)); exact BK132.out⟩, ⟨by repeat (first | (with_reducible first | exact HB.out | apply below_alloc | apply pw_below_drewN | apply below_drew1 | refine below_set ?_ GE131.out | refine below_set ?_ GE132.out) | exact HB.out)⟩⟩
       rw [if_neg c35] at H
       have c35b0 : decide (x10_2 < 0) = false := decide_eq_false c35
       clear c35
       by_cases c37 : 0 ≤ x10_2
       rotate_left
       ·
        rw [if_neg c37] at H
        exact absurd H (by simp)
       rw [if_pos c37] at H
       have c37b0 : decide (0 ≤ x10_2) = true := decide_eq_true c37
       clear c37
       by_cases c38 : x10_2 < (l0.length : Int)
       rotate_left
       ·
        rw [if_neg c38] at H
        exact absurd H (by simp)
       rw [if_pos c38] at H
       have c38b0 : decide (x10_2 < (l0.length : Int)) = true := decide_eq_true c38
       clear c38
       by_cases c39 : ((rd_T61 l0 x11_2).f2) < ((rd_T61 l0 x10_2).f2)
       ·
        rw [if_pos c39] at H
        have c39b0 : decide (((rd_T61 l0 x11_2).f2) < ((rd_T61 l0 x10_2).f2)) = true := decide_eq_true c39
        clear c39
        have H' := aS H
        clear H
        try go_wp2
        have n0_ := aS (blk_drew BK131.out)
        have n1_ := aS (blk_drew BK132.out)
        have n2_ := aS (below_drew1 HB.out)
        clear BK131 BK132 HB
        have BK131 := n0_; have BK132 := n1_; have HB := n2_
        clear n0_ n1_ n2_
        have p139 : 0 ≤ (x11_2 : Int) := of_decide_eq_true (by first | (with_reducible assumption) | assumption)
        have q139 : x11_2 < (l0.length : Int) := of_decide_eq_true (by first | (with_reducible assumption) | assumption)
        obtain ⟨ad139, e139, hx139_0, hx139_1, hx139_2⟩ := at_T61 HR0.out x11_2 p139 q139
        have hw139_2 := hx139_2
        have hw139_1 := hx139_1
        have hw139_0 := hx139_0
        obtain rfl : ad137 = ad139 := (by injection e139)
        replace hx139_0 := (HB.out.cell (World.block_lt_of_cell? w _ hx139_0)).trans hx139_0
        replace hx139_1 := (HB.out.cell (World.block_lt_of_cell? w _ hx139_1)).trans hx139_1
        replace hx139_2 := (HB.out.cell (World.block_lt_of_cell? w _ hx139_2)).trans hx139_2
        replace p139 := eq_true p139
        replace q139 := eq_true q139
        have p140 : 0 ≤ (x10_2 : Int) := of_decide_eq_true (by first | (with_reducible assumption) | assumption)
        have q140 : x10_2 < (l0.length : Int) := of_decide_eq_true (by first | (with_reducible assumption) | assumption)
        obtain ⟨ad140, e140, hx140_0, hx140_1, hx140_2⟩ := at_T61 HR0.out x10_2 p140 q140
        have hw140_2 := hx140_2
        have hw140_1 := hx140_1
        have hw140_0 := hx140_0
        obtain rfl : ad137 = ad140 := (by injection e140)
        replace hx140_0 := (HB.out.cell (World.block_lt_of_cell? w _ hx140_0)).trans hx140_0
        replace hx140_1 := (HB.out.cell (World.block_lt_of_cell? w _ hx140_1)).trans hx140_1
        replace hx140_2 := (HB.out.cell (World.block_lt_of_cell? w _ hx140_2)).trans hx140_2
        replace p140 := eq_true p140
        replace q140 := eq_true q140
        refine start_ (n := 15) (S := fun w' => w'.cell? (ad137.add ((x11_2).toNat * 3)) = some (.string ((rd_T61 l0 x11_2).f0)) ∧ w'.cell? ⟨(ad137.add ((x11_2).toNat * 3)).block, (ad137.add ((x11_2).toNat * 3)).off + 1, none⟩ = some (.int .i64 ((rd_T61 l0 x11_2).f1)) ∧ w'.cell? ⟨(ad137.add ((x11_2).toNat * 3)).block, (ad137.add ((x11_2).toNat * 3)).off + 2, none⟩ = some (.int .i64 ((rd_T61 l0 x11_2).f2)) ∧ w'.cell? (ad137.add ((x10_2).toNat * 3)) = some (.string ((rd_T61 l0 x10_2).f0)) ∧ w'.cell? ⟨(ad137.add ((x10_2).toNat * 3)).block, (ad137.add ((x10_2).toNat * 3)).off + 1, none⟩ = some (.int .i64 ((rd_T61 l0 x10_2).f1)) ∧ w'.cell? ⟨(ad137.add ((x10_2).toNat * 3)).block, (ad137.add ((x10_2).toNat * 3)).off + 2, none⟩ = some (.int .i64 ((rd_T61 l0 x10_2).f2))) (ds := []) #[false, false, false, false, false, false, false, false, false, false, false, false, false, false, false] (by kernel_rfl) rfl rfl ⟨((HB.out.cell (World.block_lt_of_cell? w _ hw139_0)).trans hw139_0), ((HB.out.cell (World.block_lt_of_cell? w _ hw139_1)).trans hw139_1), ((HB.out.cell (World.block_lt_of_cell? w _ hw139_2)).trans hw139_2), ((HB.out.cell (World.block_lt_of_cell? w _ hw140_0)).trans hw140_0), ((HB.out.cell (World.block_lt_of_cell? w _ hw140_1)).trans hw140_1), ((HB.out.cell (World.block_lt_of_cell? w _ hw140_2)).trans hw140_2)⟩ (fun hHeld => ?_); refine with_tabW spec_BestJoin.tab10 spec_BestJoin.bits10 (fun HT_ HW_ => ?_)
        generalize w33.drew = w40 at BK131 BK132 HB hx139_0 hx139_1 hx139_2 hx140_0 hx140_1 hx140_2 hHeld ⊢
        refine pure_ (i := 0) (N := some 43) (v := ?_) (a' := ?_) (spec_BestJoin.bF 15 1) rfl rfl (any_of HT_.out (by kernel_rfl)) (fun _ _ _ h => h) (Or.inl ⟨by rfl, ?_⟩) ?_ ?_
        rotate_left
        ·
         intro w'
         go_simp
         with_reducible rfl
        rotate_left
        ·
         exact sP
        refine pure_ (i := 1) (N := some 44) (v := ?_) (a' := ?_) (spec_BestJoin.bF 15 3) rfl rfl (any_of HT_.out (by kernel_rfl)) (fun _ _ _ h => h) (Or.inl ⟨by rfl, ?_⟩) ?_ ?_
        rotate_left
        ·
         intro w'
         go_simp
         with_reducible rfl
        rotate_left
        ·
         exact sP
        refine pure_ (i := 2) (N := some 45) (v := ?_) (a' := ?_) (spec_BestJoin.bF 15 7) rfl rfl (any_of HT_.out (by kernel_rfl)) (fun _ _ _ h => h) (Or.inl ⟨by rfl, ?_⟩) ?_ ?_
        rotate_left
        ·
         intro w'
         go_simp
         with_reducible rfl
        rotate_left
        ·
         exact sP
        refine pure_ (i := 3) (N := some 46) (v := ?_) (a' := ?_) (spec_BestJoin.bF 15 15) rfl rfl (any_of HT_.out (by kernel_rfl)) (fun _ _ _ h => h) (Or.inl ⟨by rfl, ?_⟩) ?_ ?_
        rotate_left
        ·
         intro w'
         go_simp
         with_reducible rfl
        rotate_left
        ·
         exact sP
        refine pure_ (i := 4) (N := some 47) (v := ?_) (a' := ?_) (spec_BestJoin.bF 15 31) rfl rfl (any_of HT_.out (by kernel_rfl)) (fun _ _ _ h => h) (Or.inl ⟨by rfl, ?_⟩) ?_ ?_
        rotate_left
        ·
         intro w'
         go_simp
         with_reducible rfl
        rotate_left
        ·
         exact sP
        refine pure_ (i := 5) (N := some 48) (v := ?_) (a' := ?_) (spec_BestJoin.bF 15 63) rfl rfl (any_of HT_.out (by kernel_rfl)) (fun _ _ _ h => h) (Or.inl ⟨by rfl, ?_⟩) ?_ ?_
        rotate_left
        ·
         intro w'
         go_simp
         with_reducible rfl
        rotate_left
        ·
         exact sP
        refine pure_ (i := 6) (N := some 49) (v := ?_) (a' := ?_) (spec_BestJoin.bF 15 127) rfl rfl (any_of HT_.out (by kernel_rfl)) (fun _ _ _ h => h) (Or.inl ⟨by rfl, ?_⟩) ?_ ?_
        rotate_left
        ·
         intro w'
         go_simp
         with_reducible rfl
        rotate_left
        ·
         exact sP
        refine pure_ (i := 8) (N := some 51) (v := ?_) (a' := ?_) (spec_BestJoin.bF 15 383) rfl rfl (any_of HT_.out (by kernel_rfl)) (fun _ _ _ h => h) (Or.inl ⟨by rfl, ?_⟩) ?_ ?_
        rotate_left
        ·
         intro w'
         go_simp
         with_reducible rfl
        rotate_left
        ·
         exact sP
        refine pure_ (i := 9) (N := some 52) (v := ?_) (a' := ?_) (spec_BestJoin.bF 15 895) rfl rfl (any_of HT_.out (by kernel_rfl)) (fun _ _ _ h => h) (Or.inl ⟨by rfl, ?_⟩) ?_ ?_
        rotate_left
        ·
         intro w'
         go_simp
         with_reducible rfl
        rotate_left
        ·
         exact sP
        refine pure_ (i := 10) (N := some 53) (v := ?_) (a' := ?_) (spec_BestJoin.bF 15 1919) rfl rfl (any_of HT_.out (by kernel_rfl)) (fun _ _ _ h => h) (Or.inl ⟨by rfl, ?_⟩) ?_ ?_
        rotate_left
        ·
         intro w'
         go_simp
         with_reducible rfl
        rotate_left
        ·
         exact sP
        refine pure_ (i := 11) (N := some 54) (v := ?_) (a' := ?_) (spec_BestJoin.bF 15 3967) rfl rfl (any_of HT_.out (by kernel_rfl)) (fun _ _ _ h => h) (Or.inl ⟨by rfl, ?_⟩) ?_ ?_
        rotate_left
        ·
         intro w'
         go_simp
         with_reducible rfl
        rotate_left
        ·
         exact sP
        refine take_ (i := 7) (N := some 50) (v := ?_) (a' := ?_) (spec_BestJoin.bF 15 4095) rfl rfl (take_ofW HT_.out HW_.out (by kernel_rfl)) (fun _ _ _ h => h) (Or.inl ⟨by rfl, ?_⟩) hHeld ?_ ?_
        rotate_left
        ·
         rintro w' ⟨s0, s1, s2, s3, s4, s5⟩
         go_simp
         with_reducible rfl
        rotate_left
        ·
         exact sP
        refine take_ (i := 12) (N := some 55) (v := ?_) (a' := ?_) (spec_BestJoin.bF 15 8191) rfl rfl (take_ofW HT_.out HW_.out (by kernel_rfl)) (fun _ _ _ h => h) (Or.inl ⟨by rfl, ?_⟩) hHeld ?_ ?_
        rotate_left
        ·
         rintro w' ⟨s0, s1, s2, s3, s4, s5⟩
         go_simp
         with_reducible rfl
        rotate_left
        ·
         exact sP
        refine pure_ (i := 13) (N := some 56) (v := ?_) (a' := ?_) (spec_BestJoin.bF 15 16383) rfl rfl (any_of HT_.out (by kernel_rfl)) (fun _ _ _ h => h) (Or.inl ⟨by rfl, ?_⟩) ?_ ?_
        rotate_left
        ·
         intro w'
         go_simp
         with_reducible rfl
        rotate_left
        ·
         exact sP
        refine pure_ (i := 14) (N := some 57) (v := ?_) (a' := ?_) (spec_BestJoin.bF 15 32767) rfl rfl (any_of HT_.out (by kernel_rfl)) (fun _ _ _ h => h) (Or.inl ⟨by rfl, ?_⟩) ?_ ?_
        rotate_left
        ·
         intro w'
         go_simp
         with_reducible rfl
        rotate_left
        ·
         exact sP
        refine done_ (done_of HT_.out (by kernel_rfl)) ?_
        try go_wp2
        go_roundg k2
        case measure => have := HJ4.out; have := HK2.out; omega
        case rel => exact ⟨(x11_2), (wrap64 (x11_2 + 1)), (by first | rfl | (simp; done) | (simp [*]; done) | (simp only [i64_w]; done) | (simp [i64_w]; done)), (by first | rfl | (simp; done) | (simp [*]; done) | (simp only [i64_w]; done) | (simp [i64_w]; done)), H', ⟨by have := HJ4.out; have := HK2.out; omega⟩, ⟨by (with_reducible repeat (first | refine blk_drewN ?_ _ | refine blk_drew ?_ | refine blk_alloc ?_ _)); exact BK131.out⟩, ⟨by (with_reducible repeat (first | refine blk_drewN ?_ _ | refine blk_drew ?_ | refine blk_alloc ?_ _)); exact BK132.out⟩, ⟨by repeat (first | (with_reducible first | exact HB.out | apply below_alloc | apply pw_below_drewN | apply below_drew1 | refine below_set ?_ GE131.out | refine below_set ?_ GE132.out) | exact HB.out)⟩⟩
       rw [if_neg c39] at H
       have c39b0 : decide (((rd_T61 l0 x11_2).f2) < ((rd_T61 l0 x10_2).f2)) = false := decide_eq_false c39
       clear c39
       have H' := aS H
       clear H
       try go_wp2
       have n0_ := aS (blk_drew BK131.out)
       have n1_ := aS (blk_drew BK132.out)
       have n2_ := aS (below_drew1 HB.out)
       clear BK131 BK132 HB
       have BK131 := n0_; have BK132 := n1_; have HB := n2_
       clear n0_ n1_ n2_
       have p139 : 0 ≤ (x11_2 : Int) := of_decide_eq_true (by first | (with_reducible assumption) | assumption)
       have q139 : x11_2 < (l0.length : Int) := of_decide_eq_true (by first | (with_reducible assumption) | assumption)
       obtain ⟨ad139, e139, hx139_0, hx139_1, hx139_2⟩ := at_T61 HR0.out x11_2 p139 q139
       have hw139_2 := hx139_2
       have hw139_1 := hx139_1
       have hw139_0 := hx139_0
       obtain rfl : ad137 = ad139 := (by injection e139)
       replace hx139_0 := (HB.out.cell (World.block_lt_of_cell? w _ hx139_0)).trans hx139_0
       replace hx139_1 := (HB.out.cell (World.block_lt_of_cell? w _ hx139_1)).trans hx139_1
       replace hx139_2 := (HB.out.cell (World.block_lt_of_cell? w _ hx139_2)).trans hx139_2
       replace p139 := eq_true p139
       replace q139 := eq_true q139
       have p140 : 0 ≤ (x10_2 : Int) := of_decide_eq_true (by first | (with_reducible assumption) | assumption)
       have q140 : x10_2 < (l0.length : Int) := of_decide_eq_true (by first | (with_reducible assumption) | assumption)
       obtain ⟨ad140, e140, hx140_0, hx140_1, hx140_2⟩ := at_T61 HR0.out x10_2 p140 q140
       have hw140_2 := hx140_2
       have hw140_1 := hx140_1
       have hw140_0 := hx140_0
       obtain rfl : ad137 = ad140 := (by injection e140)
       replace hx140_0 := (HB.out.cell (World.block_lt_of_cell? w _ hx140_0)).trans hx140_0
       replace hx140_1 := (HB.out.cell (World.block_lt_of_cell? w _ hx140_1)).trans hx140_1
       replace hx140_2 := (HB.out.cell (World.block_lt_of_cell? w _ hx140_2)).trans hx140_2
       replace p140 := eq_true p140
       replace q140 := eq_true q140
       refine start_ (n := 15) (S := fun w' => w'.cell? (ad137.add ((x11_2).toNat * 3)) = some (.string ((rd_T61 l0 x11_2).f0)) ∧ w'.cell? ⟨(ad137.add ((x11_2).toNat * 3)).block, (ad137.add ((x11_2).toNat * 3)).off + 1, none⟩ = some (.int .i64 ((rd_T61 l0 x11_2).f1)) ∧ w'.cell? ⟨(ad137.add ((x11_2).toNat * 3)).block, (ad137.add ((x11_2).toNat * 3)).off + 2, none⟩ = some (.int .i64 ((rd_T61 l0 x11_2).f2)) ∧ w'.cell? (ad137.add ((x10_2).toNat * 3)) = some (.string ((rd_T61 l0 x10_2).f0)) ∧ w'.cell? ⟨(ad137.add ((x10_2).toNat * 3)).block, (ad137.add ((x10_2).toNat * 3)).off + 1, none⟩ = some (.int .i64 ((rd_T61 l0 x10_2).f1)) ∧ w'.cell? ⟨(ad137.add ((x10_2).toNat * 3)).block, (ad137.add ((x10_2).toNat * 3)).off + 2, none⟩ = some (.int .i64 ((rd_T61 l0 x10_2).f2))) (ds := []) #[false, false, false, false, false, false, false, false, false, false, false, false, false, false, false] (by kernel_rfl) rfl rfl ⟨((HB.out.cell (World.block_lt_of_cell? w _ hw139_0)).trans hw139_0), ((HB.out.cell (World.block_lt_of_cell? w _ hw139_1)).trans hw139_1), ((HB.out.cell (World.block_lt_of_cell? w _ hw139_2)).trans hw139_2), ((HB.out.cell (World.block_lt_of_cell? w _ hw140_0)).trans hw140_0), ((HB.out.cell (World.block_lt_of_cell? w _ hw140_1)).trans hw140_1), ((HB.out.cell (World.block_lt_of_cell? w _ hw140_2)).trans hw140_2)⟩ (fun hHeld => ?_); refine with_tabW spec_BestJoin.tab10 spec_BestJoin.bits10 (fun HT_ HW_ => ?_)
       generalize w33.drew = w41 at BK131 BK132 HB hx139_0 hx139_1 hx139_2 hx140_0 hx140_1 hx140_2 hHeld ⊢
       refine pure_ (i := 0) (N := some 43) (v := ?_) (a' := ?_) (spec_BestJoin.bF 15 1) rfl rfl (any_of HT_.out (by kernel_rfl)) (fun _ _ _ h => h) (Or.inl ⟨by rfl, ?_⟩) ?_ ?_
       rotate_left
       ·
        intro w'
        go_simp
        with_reducible rfl
       rotate_left
       ·
        exact sP
       refine pure_ (i := 1) (N := some 44) (v := ?_) (a' := ?_) (spec_BestJoin.bF 15 3) rfl rfl (any_of HT_.out (by kernel_rfl)) (fun _ _ _ h => h) (Or.inl ⟨by rfl, ?_⟩) ?_ ?_
       rotate_left
       ·
        intro w'
        go_simp
        with_reducible rfl
       rotate_left
       ·
        exact sP
       refine pure_ (i := 2) (N := some 45) (v := ?_) (a' := ?_) (spec_BestJoin.bF 15 7) rfl rfl (any_of HT_.out (by kernel_rfl)) (fun _ _ _ h => h) (Or.inl ⟨by rfl, ?_⟩) ?_ ?_
       rotate_left
       ·
        intro w'
        go_simp
        with_reducible rfl
       rotate_left
       ·
        exact sP
       refine pure_ (i := 3) (N := some 46) (v := ?_) (a' := ?_) (spec_BestJoin.bF 15 15) rfl rfl (any_of HT_.out (by kernel_rfl)) (fun _ _ _ h => h) (Or.inl ⟨by rfl, ?_⟩) ?_ ?_
       rotate_left
       ·
        intro w'
        go_simp
        with_reducible rfl
       rotate_left
       ·
        exact sP
       refine pure_ (i := 4) (N := some 47) (v := ?_) (a' := ?_) (spec_BestJoin.bF 15 31) rfl rfl (any_of HT_.out (by kernel_rfl)) (fun _ _ _ h => h) (Or.inl ⟨by rfl, ?_⟩) ?_ ?_
       rotate_left
       ·
        intro w'
        go_simp
        with_reducible rfl
       rotate_left
       ·
        exact sP
       refine pure_ (i := 5) (N := some 48) (v := ?_) (a' := ?_) (spec_BestJoin.bF 15 63) rfl rfl (any_of HT_.out (by kernel_rfl)) (fun _ _ _ h => h) (Or.inl ⟨by rfl, ?_⟩) ?_ ?_
       rotate_left
       ·
        intro w'
        go_simp
        with_reducible rfl
       rotate_left
       ·
        exact sP
       refine pure_ (i := 6) (N := some 49) (v := ?_) (a' := ?_) (spec_BestJoin.bF 15 127) rfl rfl (any_of HT_.out (by kernel_rfl)) (fun _ _ _ h => h) (Or.inl ⟨by rfl, ?_⟩) ?_ ?_
       rotate_left
       ·
        intro w'
        go_simp
        with_reducible rfl
       rotate_left
       ·
        exact sP
       refine pure_ (i := 8) (N := some 51) (v := ?_) (a' := ?_) (spec_BestJoin.bF 15 383) rfl rfl (any_of HT_.out (by kernel_rfl)) (fun _ _ _ h => h) (Or.inl ⟨by rfl, ?_⟩) ?_ ?_
       rotate_left
       ·
        intro w'
        go_simp
        with_reducible rfl
       rotate_left
       ·
        exact sP
       refine pure_ (i := 9) (N := some 52) (v := ?_) (a' := ?_) (spec_BestJoin.bF 15 895) rfl rfl (any_of HT_.out (by kernel_rfl)) (fun _ _ _ h => h) (Or.inl ⟨by rfl, ?_⟩) ?_ ?_
       rotate_left
       ·
        intro w'
        go_simp
        with_reducible rfl
       rotate_left
       ·
        exact sP
       refine pure_ (i := 10) (N := some 53) (v := ?_) (a' := ?_) (spec_BestJoin.bF 15 1919) rfl rfl (any_of HT_.out (by kernel_rfl)) (fun _ _ _ h => h) (Or.inl ⟨by rfl, ?_⟩) ?_ ?_
       rotate_left
       ·
        intro w'
        go_simp
        with_reducible rfl
       rotate_left
       ·
        exact sP
       refine pure_ (i := 11) (N := some 54) (v := ?_) (a' := ?_) (spec_BestJoin.bF 15 3967) rfl rfl (any_of HT_.out (by kernel_rfl)) (fun _ _ _ h => h) (Or.inl ⟨by rfl, ?_⟩) ?_ ?_
       rotate_left
       ·
        intro w'
        go_simp
        with_reducible rfl
       rotate_left
       ·
        exact sP
       refine take_ (i := 7) (N := some 50) (v := ?_) (a' := ?_) (spec_BestJoin.bF 15 4095) rfl rfl (take_ofW HT_.out HW_.out (by kernel_rfl)) (fun _ _ _ h => h) (Or.inl ⟨by rfl, ?_⟩) hHeld ?_ ?_
       rotate_left
       ·
        rintro w' ⟨s0, s1, s2, s3, s4, s5⟩
        go_simp
        with_reducible rfl
       rotate_left
       ·
        exact sP
       refine take_ (i := 12) (N := some 55) (v := ?_) (a' := ?_) (spec_BestJoin.bF 15 8191) rfl rfl (take_ofW HT_.out HW_.out (by kernel_rfl)) (fun _ _ _ h => h) (Or.inl ⟨by rfl, ?_⟩) hHeld ?_ ?_
       rotate_left
       ·
        rintro w' ⟨s0, s1, s2, s3, s4, s5⟩
        go_simp
        with_reducible rfl
       rotate_left
       ·
        exact sP
       refine pure_ (i := 13) (N := some 56) (v := ?_) (a' := ?_) (spec_BestJoin.bF 15 16383) rfl rfl (any_of HT_.out (by kernel_rfl)) (fun _ _ _ h => h) (Or.inl ⟨by rfl, ?_⟩) ?_ ?_
       rotate_left
       ·
        intro w'
        go_simp
        with_reducible rfl
       rotate_left
       ·
        exact sP
       refine pure_ (i := 14) (N := some 57) (v := ?_) (a' := ?_) (spec_BestJoin.bF 15 32767) rfl rfl (any_of HT_.out (by kernel_rfl)) (fun _ _ _ h => h) (Or.inl ⟨by rfl, ?_⟩) ?_ ?_
       rotate_left
       ·
        intro w'
        go_simp
        with_reducible rfl
       rotate_left
       ·
        exact sP
       refine done_ (done_of HT_.out (by kernel_rfl)) ?_
       try go_wp2
       go_roundg k2
       case measure => have := HJ4.out; have := HK2.out; omega
       case rel => exact ⟨(x10_2), (wrap64 (x11_2 + 1)), (by first | rfl | (simp; done) | (simp [*]; done) | (simp only [i64_w]; done) | (simp [i64_w]; done)), (by first | rfl | (simp; done) | (simp [*]; done) | (simp only [i64_w]; done) | (simp [i64_w]; done)), H', ⟨by have := HJ4.out; have := HK2.out; omega⟩, ⟨by (with_reducible repeat (first | refine blk_drewN ?_ _ | refine blk_drew ?_ | refine blk_alloc ?_ _)); exact BK131.out⟩, ⟨by (with_reducible repeat (first | refine blk_drewN ?_ _ | refine blk_drew ?_ | refine blk_alloc ?_ _)); exact BK132.out⟩, ⟨by repeat (first | (with_reducible first | exact HB.out | apply below_alloc | apply pw_below_drewN | apply below_drew1 | refine below_set ?_ GE131.out | refine below_set ?_ GE132.out) | exact HB.out)⟩⟩
    ·
     replace c27 := Bool.eq_false_iff.mpr c27
     subst c27
     have H1 : (some (0, 2)) = some (r1, r2) := by rw [if_neg (show ¬ (false = true) by decide)] at H; exact H
     clear H
     have H := H1
     clear H1
     simp only [Option.some.injEq, Prod.mk.injEq] at H
     obtain ⟨rfl, rfl⟩ := H
     go_wp2
     go_ret2
     exact ⟨by first | rfl | (simp [errW_none, errW_some, i64_w]; done) | (simp [errW_none, errW_some] <;> rfl) | (simp [*, errW_none, errW_some] <;> rfl), by repeat (first | (with_reducible first | exact HB.out | apply below_alloc | apply pw_below_drewN | apply below_drew1) | exact HB.out)⟩

end Go.Proofs.Ytginmioklkcgbaa.QFnExactLongestLine

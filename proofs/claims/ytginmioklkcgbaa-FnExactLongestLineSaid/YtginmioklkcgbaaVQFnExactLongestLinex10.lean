/- What the Go functions of this law compute, each as a Lean function, and that each call comes to that answer; written by a program of this session. No condition. -/
import Derived.Test.YtginmioklkcgbaaVQFnExactLongestLinex0
import Derived.Test.YtginmioklkcgbaaVQFnExactLongestLinex5
import Derived.Test.YtginmioklkcgbaaVQFnExactLongestLinex7
import Derived.Test.YtginmioklkcgbaaVQFnExactLongestLinex9
namespace Go.Proofs.Ytginmioklkcgbaa.QFnExactLongestLine
open Go.RowKit Go.Proofs.YtginmioklkcgbaaW.PrintWords Go.Proofs.YtginmioklkcgbaaW.PrintLast Go.Proofs.YtginmioklkcgbaaW.PrintMore
attribute [local go_sem] max2_int min2_int max_two min_two max_three min_three max_four min_four   -- for this text's walks alone
set_option linter.unusedVariables false
set_option linter.unusedSimpArgs false

/-! ### impl_LongestLine: function 12 -/
mutual
def impl_LongestLine.l0 : Nat → List (S61) → List (S45) → Int → List (S45) → List (S45) → Int → Int → Option ((List (S45)) × List Int × Int)
 | 0, _, _, _, _, _, _, _ => none
 | k + 1, x0, x1, x2, x8, x20, x21, x22 => if x22 < x21 then (if 0 ≤ x22 then (if x22 < (x20.length : Int) then ((impl_validPiece.f ((rd_T45 x20 x22).f0) ((rd_T45 x20 x22).f1)).bind fun t273 => (if t273 = true then (if ((rd_T45 x20 x22).f0) ≥ x2 then (if x8.length < 8796093022208 then (impl_LongestLine.l0 k x0 x1 x2 (x8 ++ [(⟨(rd_T45 x20 x22).f0, (rd_T45 x20 x22).f1⟩ : S45)]) x20 x21 (wrap64 (x22 + 1))) else (none)) else (impl_LongestLine.l0 k x0 x1 x2 x8 x20 x21 (wrap64 (x22 + 1)))) else (some (([] : List (S45)), ([] : List Int), 1)))) else (none)) else (none)) else ((impl_within.f x2 0 1000000).bind fun t277 => (if t277 = true then (impl_LongestLine.j1 k x0 x2 x8 (decide ((x1.length : Int) > 12))) else (impl_LongestLine.j1 k x0 x2 x8 true)))
def impl_LongestLine.j1 : Nat → List (S61) → Int → List (S45) → Bool → Option ((List (S45)) × List Int × Int)
 | 0, _, _, _, _ => none
 | k + 1, x0, x2, x8, x46 => if x46 = true then (some (([] : List (S45)), ([] : List Int), 2)) else (if (x8.length : Int) = 0 then (some (([] : List (S45)), ([] : List Int), 3)) else ((impl_LinePiece_51.f k x8 0).bind fun t278 => (if 0 < (x8.length : Int) then (if 1 ≤ (x8.length : Int) then ((some (t278.drop (1 : Int).toNat : List (S45))).bind fun y284 => (impl_LongestLine.l1 k x0 x2 y284 (y284.length : Int) 0 (([(⟨(rd_T45 t278 0).f0, (rd_T45 t278 0).f1⟩ : S45)] : List (S45))) ([] : List Int))) else (none)) else (none))))
def impl_LongestLine.l1 : Nat → List (S61) → Int → List (S45) → Int → Int → List (S45) → List Int → Option ((List (S45)) × List Int × Int)
 | 0, _, _, _, _, _, _, _ => none
 | k + 1, x0, x2, x60, x61, x62, x284000, x284001 => if x62 < x61 then (if 0 ≤ x62 then (if x62 < (x60.length : Int) then (if 0 ≤ (wrap64 ((x284000.length : Int) - 1)) then (if (wrap64 ((x284000.length : Int) - 1)) < (x284000.length : Int) then ((impl_bestJoin.f k x0 ((rd_T45 x284000 (wrap64 ((x284000.length : Int) - 1))).f0) ((rd_T45 x284000 (wrap64 ((x284000.length : Int) - 1))).f1) ((rd_T45 x60 x62).f0) ((rd_T45 x60 x62).f1) x2).bind fun t290 => (if t290 ≥ 0 then (if 0 ≤ t290 then (if t290 < (x0.length : Int) then (if ((rd_T61 x0 t290).f2) < ((rd_T45 x60 x62).f1) then (if x284000.length < 8796093022208 then (if x284001.length < 17592186044416 then (impl_LongestLine.l1 k x0 x2 x60 x61 (wrap64 (x62 + 1)) (x284000 ++ [(⟨(rd_T45 x60 x62).f0, (rd_T45 x60 x62).f1⟩ : S45)]) (x284001 ++ [t290])) else (none)) else (none)) else (impl_LongestLine.l1 k x0 x2 x60 x61 (wrap64 (x62 + 1)) x284000 x284001)) else (none)) else (none)) else (impl_LongestLine.l1 k x0 x2 x60 x61 (wrap64 (x62 + 1)) x284000 x284001))) else (none)) else (none)) else (none)) else (none)) else (some (x284000, x284001, 0))
end
def impl_LongestLine.f (k : Nat) (l0 : List (S61)) (l1 : List (S45)) (a2 : Int) : Option ((List (S45)) × List Int × Int) := (impl_ValidJoins.f k l0).bind fun t267 => (if t267 = true then (impl_LongestLine.l0 k l0 l1 a2 (([] : List (S45))) l1 (l1.length : Int) 0) else (some (([] : List (S45)), ([] : List Int), 1)))
theorem impl_LongestLine.mono_l : ∀ k, (∀ y0 y1 y2 y3 y4 y5 y6, LeO (impl_LongestLine.l0 k y0 y1 y2 y3 y4 y5 y6) (impl_LongestLine.l0 (k + 1) y0 y1 y2 y3 y4 y5 y6)) ∧ (∀ y0 y1 y2 y3, LeO (impl_LongestLine.j1 k y0 y1 y2 y3) (impl_LongestLine.j1 (k + 1) y0 y1 y2 y3)) ∧ (∀ y0 y1 y2 y3 y4 y5 y6, LeO (impl_LongestLine.l1 k y0 y1 y2 y3 y4 y5 y6) (impl_LongestLine.l1 (k + 1) y0 y1 y2 y3 y4 y5 y6))
 | 0 => ⟨fun _ _ _ _ _ _ _ r h => by simp [impl_LongestLine.l0] at h, fun _ _ _ _ r h => by simp [impl_LongestLine.j1] at h, fun _ _ _ _ _ _ _ r h => by simp [impl_LongestLine.l1] at h⟩
 | k + 1 => by
  obtain ⟨ih0, ih1, ih2⟩ := impl_LongestLine.mono_l k
  refine ⟨?_, ?_, ?_⟩
  ·
   intro y0 y1 y2 y3 y4 y5 y6
   unfold impl_LongestLine.l0
   repeat' first
   | (with_reducible exact ih0 _ _ _ _ _ _ _)
   | (with_reducible exact ih1 _ _ _ _)
   | (with_reducible exact ih2 _ _ _ _ _ _ _)
   | (with_reducible exact impl_LinePiece_51.mono _ _ _)
   | (with_reducible exact impl_ValidJoins.mono _ _)
   | (with_reducible exact impl_bestJoin.mono _ _ _ _ _ _ _)
   | (with_reducible exact LeO.refl _)
   | (with_reducible exact LeO.none _)
   | (with_reducible refine LeO.ite ?_ ?_)
   | (with_reducible refine LeO.bind ?_ (fun _ => ?_))
   | exact ih0 _ _ _ _ _ _ _
   | exact ih1 _ _ _ _
   | exact ih2 _ _ _ _ _ _ _
   | exact impl_LinePiece_51.mono _ _ _
   | exact impl_ValidJoins.mono _ _
   | exact impl_bestJoin.mono _ _ _ _ _ _ _
   | exact LeO.none _
   | refine LeO.ite ?_ ?_
   | refine LeO.bind ?_ (fun _ => ?_)
  ·
   intro y0 y1 y2 y3
   unfold impl_LongestLine.j1
   repeat' first
   | (with_reducible exact ih0 _ _ _ _ _ _ _)
   | (with_reducible exact ih1 _ _ _ _)
   | (with_reducible exact ih2 _ _ _ _ _ _ _)
   | (with_reducible exact impl_LinePiece_51.mono _ _ _)
   | (with_reducible exact impl_ValidJoins.mono _ _)
   | (with_reducible exact impl_bestJoin.mono _ _ _ _ _ _ _)
   | (with_reducible exact LeO.refl _)
   | (with_reducible exact LeO.none _)
   | (with_reducible refine LeO.ite ?_ ?_)
   | (with_reducible refine LeO.bind ?_ (fun _ => ?_))
   | exact ih0 _ _ _ _ _ _ _
   | exact ih1 _ _ _ _
   | exact ih2 _ _ _ _ _ _ _
   | exact impl_LinePiece_51.mono _ _ _
   | exact impl_ValidJoins.mono _ _
   | exact impl_bestJoin.mono _ _ _ _ _ _ _
   | exact LeO.none _
   | refine LeO.ite ?_ ?_
   | refine LeO.bind ?_ (fun _ => ?_)
  ·
   intro y0 y1 y2 y3 y4 y5 y6
   unfold impl_LongestLine.l1
   repeat' first
   | (with_reducible exact ih0 _ _ _ _ _ _ _)
   | (with_reducible exact ih1 _ _ _ _)
   | (with_reducible exact ih2 _ _ _ _ _ _ _)
   | (with_reducible exact impl_LinePiece_51.mono _ _ _)
   | (with_reducible exact impl_ValidJoins.mono _ _)
   | (with_reducible exact impl_bestJoin.mono _ _ _ _ _ _ _)
   | (with_reducible exact LeO.refl _)
   | (with_reducible exact LeO.none _)
   | (with_reducible refine LeO.ite ?_ ?_)
   | (with_reducible refine LeO.bind ?_ (fun _ => ?_))
   | exact ih0 _ _ _ _ _ _ _
   | exact ih1 _ _ _ _
   | exact ih2 _ _ _ _ _ _ _
   | exact impl_LinePiece_51.mono _ _ _
   | exact impl_ValidJoins.mono _ _
   | exact impl_bestJoin.mono _ _ _ _ _ _ _
   | exact LeO.none _
   | refine LeO.ite ?_ ?_
   | refine LeO.bind ?_ (fun _ => ?_)
theorem impl_LongestLine.mono : ∀ a0 a1 a2 k, LeO (impl_LongestLine.f k a0 a1 a2) (impl_LongestLine.f (k + 1) a0 a1 a2) := by
 intro a0 a1 a2 k
 obtain ⟨ih0, ih1, ih2⟩ := impl_LongestLine.mono_l k
 unfold impl_LongestLine.f
 repeat' first
   | (with_reducible exact ih0 _ _ _ _ _ _ _)
   | (with_reducible exact ih1 _ _ _ _)
   | (with_reducible exact ih2 _ _ _ _ _ _ _)
   | (with_reducible exact impl_LinePiece_51.mono _ _ _)
   | (with_reducible exact impl_ValidJoins.mono _ _)
   | (with_reducible exact impl_bestJoin.mono _ _ _ _ _ _ _)
   | (with_reducible exact LeO.refl _)
   | (with_reducible exact LeO.none _)
   | (with_reducible refine LeO.ite ?_ ?_)
   | (with_reducible refine LeO.bind ?_ (fun _ => ?_))
   | exact ih0 _ _ _ _ _ _ _
   | exact ih1 _ _ _ _
   | exact ih2 _ _ _ _ _ _ _
   | exact impl_LinePiece_51.mono _ _ _
   | exact impl_ValidJoins.mono _ _
   | exact impl_bestJoin.mono _ _ _ _ _ _ _
   | exact LeO.none _
   | refine LeO.ite ?_ ?_
   | refine LeO.bind ?_ (fun _ => ?_)
def impl_LongestLine.T21 : Bool × List (List Nat × List Nat) := (true, [([], []), ([], []), ([1], [1]), ([], []), ([3], [3]), ([4], [4]), ([5], [5]), ([2, 6], [2, 6]), ([7], [7]), ([], []), ([], []), ([0, 8, 9, 10], [0, 8, 9, 10]), ([11, 11, 0, 1, 2, 3, 4, 5, 6, 7, 8, 9, 10, 11], [11])])
def impl_LongestLine.B21 : List Nat := [0, 0, 2, 0, 8, 24, 56, 126, 254, 0, 0, 2047, 4095]
theorem impl_LongestLine.tab21 : rtab .any (opsOf Try.f12 21) = impl_LongestLine.T21 := by kernel_rfl
theorem impl_LongestLine.bits21 : waitsOk impl_LongestLine.T21.2 impl_LongestLine.B21 = true := by kernel_rfl
def impl_LongestLine.T22 : Bool × List (List Nat × List Nat) := (true, [([], []), ([0], [0]), ([1], [1]), ([2], [2]), ([2], [2]), ([3, 4, 2], [2, 3, 4]), ([5, 2], [2, 5]), ([6, 2], [2, 6]), ([2], [2]), ([8, 2], [2, 8]), ([7, 9, 2], [2, 7, 9]), ([2, 10], [2, 10])])
def impl_LongestLine.B22 : List Nat := [0, 1, 3, 7, 7, 31, 63, 127, 7, 263, 1023, 2047]
theorem impl_LongestLine.tab22 : rtab .any (opsOf Try.f12 22) = impl_LongestLine.T22 := by kernel_rfl
theorem impl_LongestLine.bits22 : waitsOk impl_LongestLine.T22.2 impl_LongestLine.B22 = true := by kernel_rfl
def impl_LongestLine.bF (n k : Nat) : Array Bool := ((List.range n).map fun i => k.testBit i).toArray
set_option maxHeartbeats 8000000 in
set_option maxRecDepth 100000 in
theorem impl_LongestLine.calls (k : Nat) (A0 : Option Addr) (c0 : Nat) (l0 : List (S61)) (A1 : Option Addr) (c1 : Nat) (l1 : List (S45)) (a2 : Int) (r1 : List (S45)) (r2 : List Int) (r3 : Int) (w : World) (hr0 : Kd.C k61 w A0 l0.length l0) (hc0 : l0.length ≤ c0) (hr1 : Kd.C k45 w A1 l1.length l1) (hc1 : l1.length ≤ c1) (h : impl_LongestLine.f k l0 l1 a2 = some (r1, r2, r3)) :
  Calls Try.prog 12 #[.slice A0 l0.length c0, .slice A1 l1.length c1, .int .i64 a2] w fun e w' => ∃ v0_ v1_ : Value, e = .returned (.tuple #[.agg #[v0_, v1_], .int .i64 r3]) ∧ Kd.R k45 45 w' w.heap.size (fun _ => True) v0_ r1 ∧ Kd.R (Kd.int .i64) 2 w' w.heap.size (fun _ => True) v1_ r2 ∧ Below w.heap.size w w' := by
 have hu29 := Try.underlying29
 have hu45 := Try.underlying45
 have HR0 := aS hr0
 have HC0 := aS hc0
 clear hr0 hc0
 have HR1 := aS hr1
 have HC1 := aS hc1
 clear hr1 hc1
 have HB := aS (Below.refl w.heap.size w)
 have H : ((impl_ValidJoins.f k l0).bind fun t267 => (if t267 = true then (impl_LongestLine.l0 k l0 l1 a2 (([] : List (S45))) l1 (l1.length : Int) 0) else (some (([] : List (S45)), ([] : List Int), 1)))) = some (r1, r2, r3) := h
 clear h
 replace H := Option.bind_eq_some_iff.mp H
 obtain ⟨t267, A40, H⟩ := H
 replace H : (if t267 = true then (impl_LongestLine.l0 k l0 l1 a2 (([] : List (S45))) l1 (l1.length : Int) 0) else (some (([] : List (S45)), ([] : List Int), 1))) = some (r1, r2, r3) := H
 have A4 := aS A40
 clear A40
 have HC5 := aS H
 clear H
 go_enter Try.func12, Try.ntmps12
 go_upto_if 17 with (first | ((with_reducible refine gate_dst (N := 6) rfl ?_); (try (refine gate_guard (by rfl) ?_; dsimp only)); refine box_event ?hg (N := 6) ?hd (cs := #[.slice none 0 0, .slice none 0 0]) (t := 29) ?hr ?_; (case hd => rfl); (case hg => rfl); (case hr => first | (go_simp; done) | (go_simp; rfl)); intro gb266 hg w6 hbox hb; have n0_ := aS (below_step (sW HB.out) hb); have n1_ := aS (hbox); have n2_ := aS ((by rw [hg]; exact (below_size (sW HB.out)) : w.heap.size ≤ gb266)); have n3_ := aS ((by rw [hg]; exact (below_size (sW HB.out)) : w.heap.size ≤ gb266)); clear HB; have HB := n0_; have BK266 := n1_; have GW266 := n2_; have GE266 := n3_; clear n0_ n1_ n2_ n3_; clear hb hbox hg) | ((with_reducible refine gate_callee (f := 48) rfl ?_); refine goesL_ (some 16) rfl rfl Try.func48 (by kernel_rfl) rfl #[.slice A0 l0.length c0] rfl sG ?_; (with_reducible refine (impl_ValidJoins.calls k _ _ l0 t267 _ ?side1 ?side2 A4.out).mono ?_); (case side1 => exact sC (Kd.C_below HR0.out HB.out)); (case side2 => exact HC0.out); rintro e w7 ⟨rfl, hb⟩; refine ⟨_, rfl, ?_⟩; have n0_ := aS (blk_below (g := gb266) (o := .cells #[.slice none 0 0, .slice none 0 0] 29 (0, 0)) (sB BK266.out) hb); have n1_ := aS (below_step (sW HB.out) hb); clear BK266 HB; have BK266 := n0_; have HB := n1_; clear n0_ n1_; (try clear hb); (try clear hb2); (try clear hk); (try clear hi)))
 (try simp only [Act.put, List.setIfInBounds_toArray, List.set_cons_zero, List.set_cons_succ])
 have H := HC5.out
 clear HC5
 by_cases c8 : t267 = true
 ·
  subst c8
  have H1 : (impl_LongestLine.l0 k l0 l1 a2 (([] : List (S45))) l1 (l1.length : Int) 0) = some (r1, r2, r3) := by rw [if_pos rfl] at H; exact H
  clear H
  have H := H1
  clear H1
  obtain ⟨y268, hy268⟩ : ∃ y_ : List (S45), y_ = (([] : List (S45))) := ⟨_, rfl⟩
  replace H : (impl_LongestLine.l0 k l0 l1 a2 y268 l1 (l1.length : Int) 0) = some (r1, r2, r3) := by first | (rw [hy268]; with_reducible exact H) | (have H2_ := (Option.bind_some _ _).symm.trans H; rw [hy268]; with_reducible exact H2_) | (have H2_ := (Option.bind_some _ _).symm.trans H; with_reducible exact H2_) | with_reducible exact H | (rw [hy268]; exact H) | exact H
  have Ny268 := aS hy268
  clear hy268
  have H' := aS H
  clear H
  go_wp2_with (first | ((with_reducible refine gate_dst (N := 19) rfl ?_); (try (refine gate_guard (by rfl) ?_; dsimp only)); refine Kd.R_lit k45 _ 45 ?hg (N := 19) ?hd (xs := ([] : List (S45))) (inner := []) (ok := fun _ => True) (okp := fun _ => True) ?hr ?hp (fun _ hk => hk) trivial (Below.refl _ _) (Nat.le_refl _) (by simp) ?_; (case hd => rfl); (case hg => rfl); (case hr => first | (go_simp; done) | (go_simp; rfl)); (case hp => exact (Reps.none _ _)); intro v269 w9 ho10 hb hg_ hnew_; clear hg_ hnew_; (first | rw [← Ny268.out] at ho10 | (simp only [Int.reduceToNat] at ho10; rw [← Ny268.out] at ho10)); have n0_ := aS (Kd.R_lower ho10 (below_size (sW HB.out))); have n1_ := aS (blk_below (g := gb266) (o := .cells #[.slice none 0 0, .slice none 0 0] 29 (0, 0)) (sB BK266.out) hb); have n2_ := aS (below_step (sW HB.out) hb); clear BK266 HB; have HO270 := n0_; have BK266 := n1_; have HB := n2_; clear n0_ n1_ n2_; clear hb ho10))
  go_loopg [8, 22] k (fun kq v8 v22 w' => ∃ (x8_1 : List (S45)) (x22_1 : Int), v22 = .int .i64 x22_1 ∧ Aside0 (impl_LongestLine.l0 kq l0 l1 a2 x8_1 l1 (l1.length : Int) x22_1 = some (r1, r2, r3)) ∧ Aside0 (kq ≤ k) ∧ Aside0 (Kd.R k45 45 w' w.heap.size (fun _ => True) v8 x8_1) ∧ Aside0 (w'.heap[gb266]? = some (.cells #[(.slice none 0 0), (.slice none 0 0)] 29 (0, 0))) ∧ Aside0 (Below w.heap.size w w'))
  case atStart => exact ⟨(y268), (0), (by first | rfl | (simp; done) | (simp [*]; done) | (simp only [i64_w]; done) | (simp [i64_w]; done)), H', ⟨Nat.le_refl _⟩, ⟨by (with_reducible repeat (first | apply Kd.R_alloc | apply Kd.R_drewN | apply Kd.R_drew)); exact HO270.out⟩, ⟨by (with_reducible repeat (first | refine blk_drewN ?_ _ | refine blk_drew ?_ | refine blk_alloc ?_ _)); exact BK266.out⟩, ⟨by repeat (first | (with_reducible first | exact HB.out | apply below_alloc | apply pw_below_drewN | apply below_drew1 | refine below_set ?_ GE266.out) | exact HB.out)⟩⟩
  case round =>
   clear H'
   (try clear c1); (try clear p2); (try clear c4); (try clear c8)
   obtain ⟨x8_1, x22_1, rfl, HA, HK1, HO_8, BK266, HB⟩ := hrel
   cases gk with
   | zero => exact absurd HA.out (by simp [impl_LongestLine.l0])
   | succ k1 =>
    have H := HA.out
    clear HA
    simp only [impl_LongestLine.l0] at H
    by_cases c11 : x22_1 < (l1.length : Int)
    ·
     rw [if_pos c11] at H
     have c11b0 : decide (x22_1 < (l1.length : Int)) = true := decide_eq_true c11
     clear c11
     (first | rw [c11b0] | (simp only [i64_w, i32_w]; rw [c11b0]) | (rw [c11b2]; simp only [Bool.not_false, Bool.not_true]) | skip)
     by_cases c12 : 0 ≤ x22_1
     rotate_left
     ·
      rw [if_neg c12] at H
      exact absurd H (by simp)
     rw [if_pos c12] at H
     have c12b0 : decide (0 ≤ x22_1) = true := decide_eq_true c12
     clear c12
     by_cases c13 : x22_1 < (l1.length : Int)
     rotate_left
     ·
      rw [if_neg c13] at H
      exact absurd H (by simp)
     rw [if_pos c13] at H
     have c13b0 : decide (x22_1 < (l1.length : Int)) = true := decide_eq_true c13
     clear c13
     replace H := Option.bind_eq_some_iff.mp H
     obtain ⟨t273, A140, H⟩ := H
     replace H : (if t273 = true then (if ((rd_T45 l1 x22_1).f0) ≥ a2 then (if x8_1.length < 8796093022208 then (impl_LongestLine.l0 k1 l0 l1 a2 (x8_1 ++ [(⟨(rd_T45 l1 x22_1).f0, (rd_T45 l1 x22_1).f1⟩ : S45)]) l1 (l1.length : Int) (wrap64 (x22_1 + 1))) else (none)) else (impl_LongestLine.l0 k1 l0 l1 a2 x8_1 l1 (l1.length : Int) (wrap64 (x22_1 + 1)))) else (some (([] : List (S45)), ([] : List Int), 1))) = some (r1, r2, r3) := H
     have A14 := aS A140
     clear A140
     have HC15 := aS H
     clear H
     have p271 : 0 ≤ (x22_1 : Int) := of_decide_eq_true (by first | (with_reducible assumption) | assumption)
     have q271 : x22_1 < (l1.length : Int) := of_decide_eq_true (by first | (with_reducible assumption) | assumption)
     obtain ⟨ad271, e271, hx271_0, hx271_1⟩ := at_T45 HR1.out x22_1 p271 q271
     cases e271
     replace hx271_0 := (HB.out.cell (World.block_lt_of_cell? w _ hx271_0)).trans hx271_0
     replace hx271_1 := (HB.out.cell (World.block_lt_of_cell? w _ hx271_1)).trans hx271_1
     replace p271 := eq_true p271
     replace q271 := eq_true q271
     go_upto_if 28 with (first | ((with_reducible refine gate_dst (N := 10) rfl ?_); (try (refine gate_guard (by rfl) ?_; dsimp only)); refine box_event ?hg (N := 10) ?hd (cs := #[.int .i64 0, .int .i64 0]) (t := 45) ?hr ?_; (case hd => rfl); (case hg => rfl); (case hr => first | (go_simp; done) | (go_simp; rfl)); intro gb272 hg w16 hbox hb; have n0_ := aS (Kd.R_below (Kd.R_elderB (sR HO_8.out) gb272 (Nat.le_of_eq hg.symm)) hb); have n1_ := aS (blk_below (g := gb266) (o := .cells #[.slice none 0 0, .slice none 0 0] 29 (0, 0)) (sB BK266.out) hb); have n2_ := aS (below_step (sW HB.out) hb); have n3_ := aS (hbox); have n4_ := aS ((by rw [hg]; exact (below_size (sW HB.out)) : w.heap.size ≤ gb272)); have n5_ := aS ((by rw [hg]; exact (below_size (sW HB.out)) : w.heap.size ≤ gb272)); have n6_ := aS ((by rw [hg]; exact Nat.ne_of_lt (blk_lt (g := gb266) (o := .cells #[.slice none 0 0, .slice none 0 0] 29 (0, 0)) (sB BK266.out)) : gb266 ≠ gb272)); have n7_ := aS ((by rw [hg]; exact Nat.ne_of_gt (blk_lt (g := gb266) (o := .cells #[.slice none 0 0, .slice none 0 0] 29 (0, 0)) (sB BK266.out)) : gb272 ≠ gb266)); clear HO_8 BK266 HB; have HO_8 := n0_; have BK266 := n1_; have HB := n2_; have BK272 := n3_; have GW272 := n4_; have GE272 := n5_; have NB266_272 := n6_; have NB272_266 := n7_; clear n0_ n1_ n2_ n3_ n4_ n5_ n6_ n7_; clear hb hbox hg; have hnb17 := NB272_266.out; have hnc17 := NB266_272.out; have hcz18_0 : w16.cell? ⟨gb272, 0, none⟩ = some (.int .i64 0) := (blk_cell BK272.out 0).trans rfl; have hcz18_1 : w16.cell? ⟨gb272, 1, none⟩ = some (.int .i64 0) := (blk_cell BK272.out 1).trans rfl; have hfz18_0 := blk_frozen BK272.out 0; have hfz18_1 := blk_frozen BK272.out 1) | ((with_reducible refine gate_callee (f := 49) rfl ?_); refine goesL_ (some 27) rfl rfl Try.func49 (by kernel_rfl) rfl #[.agg #[.int .i64 ((rd_T45 l1 x22_1).f0), .int .i64 ((rd_T45 l1 x22_1).f1)]] rfl sG ?_; (with_reducible refine (impl_validPiece.calls ((rd_T45 l1 x22_1).f0) ((rd_T45 l1 x22_1).f1) t273 _ A14.out).mono ?_); rintro e w19 ⟨rfl, hb⟩; refine ⟨_, rfl, ?_⟩; have n0_ := aS (Kd.R_below (sR (Kd.R_mono (Kd.R_far (p := ⟨gb272, 1, none⟩) (Kd.R_far (p := ⟨gb272, 0, none⟩) (Kd.R_mono HO_8.out (fun k_ hk => (⟨hk, hk.2⟩ : _ ∧ k_ ≠ gb272))) (fun _ hk => hk.2) (.int .i64 ((rd_T45 l1 x22_1).f0))) (fun _ hk => hk.2) (.int .i64 ((rd_T45 l1 x22_1).f1))) (fun _ h_ => h_.1))) hb); have n1_ := aS (blk_below (g := gb266) (o := .cells #[.slice none 0 0, .slice none 0 0] 29 (0, 0)) (by (with_reducible repeat (first | refine blk_drewN ?_ _ | refine blk_drew ?_ | refine blk_alloc ?_ _)); refine blk_far ?_ NB266_272.out _; (with_reducible repeat (first | refine blk_drewN ?_ _ | refine blk_drew ?_ | refine blk_alloc ?_ _)); refine blk_far ?_ NB266_272.out _; (with_reducible repeat (first | refine blk_drewN ?_ _ | refine blk_drew ?_ | refine blk_alloc ?_ _)); exact BK266.out) hb); have n2_ := aS (blk_below (g := gb272) (o := .cells #[.int .i64 ((rd_T45 l1 x22_1).f0), .int .i64 ((rd_T45 l1 x22_1).f1)] 45 (0, 0)) (by (with_reducible repeat (first | refine blk_drewN ?_ _ | refine blk_drew ?_ | refine blk_alloc ?_ _)); refine blk_put (cs := #[.int .i64 ((rd_T45 l1 x22_1).f0), .int .i64 0]) ?_ 1 _ rfl; (with_reducible repeat (first | refine blk_drewN ?_ _ | refine blk_drew ?_ | refine blk_alloc ?_ _)); refine blk_put (cs := #[.int .i64 0, .int .i64 0]) ?_ 0 _ rfl; (with_reducible repeat (first | refine blk_drewN ?_ _ | refine blk_drew ?_ | refine blk_alloc ?_ _)); exact BK272.out) hb); have n3_ := aS (below_step (sW HB.out) hb); clear HO_8 BK266 BK272 HB; have HO_8 := n0_; have BK266 := n1_; have BK272 := n2_; have HB := n3_; clear n0_ n1_ n2_ n3_; (try clear hb); (try clear hb2); (try clear hk); (try clear hi)))
     (try simp only [Act.put, List.setIfInBounds_toArray, List.set_cons_zero, List.set_cons_succ])
     have H := HC15.out
     clear HC15
     by_cases c20 : t273 = true
     rotate_left
     ·
      replace c20 := Bool.eq_false_iff.mpr c20
      subst c20
      have H1 : (some (([] : List (S45)), ([] : List Int), 1)) = some (r1, r2, r3) := by rw [if_neg (show ¬ (false = true) by decide)] at H; exact H
      clear H
      have H := H1
      clear H1
      simp only [Option.some.injEq, Prod.mk.injEq] at H
      obtain ⟨rfl, rfl, rfl⟩ := H
      have hnb28 := NB266_272.out
      have hnc28 := NB272_266.out
      have hcz29_0 : w19.cell? ⟨gb266, 0, none⟩ = some (.slice none 0 0) := (blk_cell BK266.out 0).trans rfl
      have hcz29_1 : w19.cell? ⟨gb266, 1, none⟩ = some (.slice none 0 0) := (blk_cell BK266.out 1).trans rfl
      have hfz29_0 := blk_frozen BK266.out 0
      have hfz29_1 := blk_frozen BK266.out 1
      go_wp2
      refine bodyPost_ret (results_ct rfl _ _ gb266 29 #[.slice none 0 0, .slice none 0 0] (0, 0) _ rfl (by (with_reducible repeat (first | refine blk_drewN ?_ _ | refine blk_drew ?_ | refine blk_alloc ?_ _)); refine blk_put (cs := #[.slice none 0 0, .slice none 0 0]) ?_ 1 _ rfl; (with_reducible repeat (first | refine blk_drewN ?_ _ | refine blk_drew ?_ | refine blk_alloc ?_ _)); refine blk_put (cs := #[.slice none 0 0, .slice none 0 0]) ?_ 0 _ rfl; (with_reducible repeat (first | refine blk_drewN ?_ _ | refine blk_drew ?_ | refine blk_alloc ?_ _)); exact BK266.out) Try.underlying29 rfl (by kernel_rfl)) rfl ?_
      exact ⟨_, _, by first | rfl | (simp [errW_none, errW_some, i64_w]; done) | (simp [errW_none, errW_some] <;> rfl) | (simp [*, errW_none, errW_some] <;> rfl), by first | exact Kd.R_nil _ _ _ _ _ | exact Kd.N_nil _ _ _ _ _ | exact Kd.V_nil _ _ _ _ _ | exact Kd.Q_nil _ _ _ _ _ | exact Kd.S_nil _ _ _ _ _, by first | exact Kd.R_nil _ _ _ _ _ | exact Kd.N_nil _ _ _ _ _ | exact Kd.V_nil _ _ _ _ _ | exact Kd.Q_nil _ _ _ _ _ | exact Kd.S_nil _ _ _ _ _, by repeat (first | (with_reducible first | exact HB.out | apply below_alloc | apply pw_below_drewN | apply below_drew1 | refine below_set ?_ GE266.out | refine below_set ?_ GE272.out) | exact HB.out)⟩
     subst c20
     have H1 : (if ((rd_T45 l1 x22_1).f0) ≥ a2 then (if x8_1.length < 8796093022208 then (impl_LongestLine.l0 k1 l0 l1 a2 (x8_1 ++ [(⟨(rd_T45 l1 x22_1).f0, (rd_T45 l1 x22_1).f1⟩ : S45)]) l1 (l1.length : Int) (wrap64 (x22_1 + 1))) else (none)) else (impl_LongestLine.l0 k1 l0 l1 a2 x8_1 l1 (l1.length : Int) (wrap64 (x22_1 + 1)))) = some (r1, r2, r3) := by rw [if_pos rfl] at H; exact H
     clear H
     have H := H1
     clear H1
     by_cases c21 : ((rd_T45 l1 x22_1).f0) ≥ a2
     rotate_left
     ·
      rw [if_neg c21] at H
      have c21b0 : decide (a2 ≤ ((rd_T45 l1 x22_1).f0)) = false := decide_eq_false c21
      clear c21
      (first | rw [c21b0] | (simp only [i64_w, i32_w]; rw [c21b0]) | (rw [c21b2]; simp only [Bool.not_false, Bool.not_true]) | skip)
      have H' := aS H
      clear H
      have hnb26 := NB272_266.out
      have hnc26 := NB266_272.out
      have hcz27_0 : w19.cell? ⟨gb272, 0, none⟩ = some (.int .i64 ((rd_T45 l1 x22_1).f0)) := (blk_cell BK272.out 0).trans rfl
      have hcz27_1 : w19.cell? ⟨gb272, 1, none⟩ = some (.int .i64 ((rd_T45 l1 x22_1).f1)) := (blk_cell BK272.out 1).trans rfl
      have hfz27_0 := blk_frozen BK272.out 0
      have hfz27_1 := blk_frozen BK272.out 1
      go_wp2
      go_roundg k1
      case measure => have := HK1.out; omega
      case rel => exact ⟨(x8_1), (wrap64 (x22_1 + 1)), (by first | rfl | (simp; done) | (simp [*]; done) | (simp only [i64_w]; done) | (simp [i64_w]; done)), H', ⟨by have := HK1.out; omega⟩, ⟨by (with_reducible repeat (first | apply Kd.R_alloc | apply Kd.R_drewN | apply Kd.R_drew)); exact Kd.R_mono HO_8.out (fun _ hk => trivial)⟩, ⟨by (with_reducible repeat (first | refine blk_drewN ?_ _ | refine blk_drew ?_ | refine blk_alloc ?_ _)); exact BK266.out⟩, ⟨by repeat (first | (with_reducible first | exact HB.out | apply below_alloc | apply pw_below_drewN | apply below_drew1 | refine below_set ?_ GE266.out | refine below_set ?_ GE272.out) | exact HB.out)⟩⟩
     rw [if_pos c21] at H
     have c21b0 : decide (a2 ≤ ((rd_T45 l1 x22_1).f0)) = true := decide_eq_true c21
     clear c21
     (first | rw [c21b0] | (simp only [i64_w, i32_w]; rw [c21b0]) | (rw [c21b2]; simp only [Bool.not_false, Bool.not_true]) | skip)
     by_cases c22 : x8_1.length < 8796093022208
     rotate_left
     ·
      rw [if_neg c22] at H
      exact absurd H (by simp)
     rw [if_pos c22] at H
     have LMc22 := aS c22
     clear c22
     obtain ⟨y274, hy274⟩ : ∃ y_ : List (S45), y_ = (x8_1 ++ [(⟨(rd_T45 l1 x22_1).f0, (rd_T45 l1 x22_1).f1⟩ : S45)]) := ⟨_, rfl⟩
     replace H : (impl_LongestLine.l0 k1 l0 l1 a2 y274 l1 (l1.length : Int) (wrap64 (x22_1 + 1))) = some (r1, r2, r3) := by first | (rw [hy274]; with_reducible exact H) | (have H2_ := (Option.bind_some _ _).symm.trans H; rw [hy274]; with_reducible exact H2_) | (have H2_ := (Option.bind_some _ _).symm.trans H; with_reducible exact H2_) | with_reducible exact H | (rw [hy274]; exact H) | exact H
     have Ny274 := aS hy274
     clear hy274
     have H' := aS H
     clear H
     have hnb23 := NB272_266.out
     have hnc23 := NB266_272.out
     have hcz24_0 : w19.cell? ⟨gb272, 0, none⟩ = some (.int .i64 ((rd_T45 l1 x22_1).f0)) := (blk_cell BK272.out 0).trans rfl
     have hcz24_1 : w19.cell? ⟨gb272, 1, none⟩ = some (.int .i64 ((rd_T45 l1 x22_1).f1)) := (blk_cell BK272.out 1).trans rfl
     have hfz24_0 := blk_frozen BK272.out 0
     have hfz24_1 := blk_frozen BK272.out 1
     go_wp2_with (first | ((with_reducible refine gate_builtin (b := .append) (xs := #[.tmp 34, .tmp 36]) rfl ?_); (try (refine gate_guard (by rfl) ?_; dsimp only)); at_builtin; refine Kd.R_append k45 (w0 := w) w.heap.size rfl (.tmp 34) (.tmp 36) 26 45 (.agg #[(.int .i64 0), (.int .i64 0)]) 16 rfl Try.underlying26 info45 rfl (by decide) (by omega) u8 x8_1 (⟨(rd_T45 l1 x22_1).f0, (rd_T45 l1 x22_1).f1⟩ : S45) [.int .i64 ((rd_T45 l1 x22_1).f0), .int .i64 ((rd_T45 l1 x22_1).f1)] (fun k_ => k_ ≠ gb272) (fun _ => False) rfl rfl ?aP (fun _ hk => hk.elim) ?aF ?aO ?aB ?aS ?aL ?_; (case aP => exact k45_mkM _ _ _ (⟨(rd_T45 l1 x22_1).f0, (rd_T45 l1 x22_1).f1⟩ : S45)); (case aB => exact (sW HB.out)); (case aF => exact (fun k_ hk => Kd.freshB (g := gb272) (o := .cells #[.int .i64 ((rd_T45 l1 x22_1).f0), .int .i64 ((rd_T45 l1 x22_1).f1)] 45 (0, 0)) (sB BK272.out) k_ hk)); (case aO => exact (sR (Kd.R_mono HO_8.out (fun _ hk => hk.2)))); (case aS => exact (below_size (sW HB.out))); (case aL => have := LMc22.out; omega); intro v275 w25 ho hb hg hat; rw [← Ny274.out] at ho; have n0_ := aS (blk_grown (g := gb266) (o := .cells #[.slice none 0 0, .slice none 0 0] 29 (0, 0)) (sB BK266.out) hg (Kd.R_ne HO_8.out BK266.out (by decide))); have n1_ := aS (blk_grown (g := gb272) (o := .cells #[.int .i64 ((rd_T45 l1 x22_1).f0), .int .i64 ((rd_T45 l1 x22_1).f1)] 45 (0, 0)) (sB BK272.out) hg (Kd.R_away HO_8.out (fun _ hk => hk.2))); have n2_ := aS (hb); have n3_ := aS (ho); clear BK266 BK272 HB HO_8; have BK266 := n0_; have BK272 := n1_; have HB := n2_; have HO276 := n3_; clear n0_ n1_ n2_ n3_; clear ho hb hg hat))
     go_roundg k1
     case measure => have := HK1.out; omega
     case rel => exact ⟨(y274), (wrap64 (x22_1 + 1)), (by first | rfl | (simp; done) | (simp [*]; done) | (simp only [i64_w]; done) | (simp [i64_w]; done)), H', ⟨by have := HK1.out; omega⟩, ⟨by (with_reducible repeat (first | apply Kd.R_alloc | apply Kd.R_drewN | apply Kd.R_drew)); exact Kd.R_mono HO276.out (fun _ hk => trivial)⟩, ⟨by (with_reducible repeat (first | refine blk_drewN ?_ _ | refine blk_drew ?_ | refine blk_alloc ?_ _)); exact BK266.out⟩, ⟨by repeat (first | (with_reducible first | exact HB.out | apply below_alloc | apply pw_below_drewN | apply below_drew1 | refine below_set ?_ GE266.out | refine below_set ?_ GE272.out) | exact HB.out)⟩⟩
    rw [if_neg c11] at H
    have c11b0 : decide (x22_1 < (l1.length : Int)) = false := decide_eq_false c11
    clear c11
    (first | rw [c11b0] | (simp only [i64_w, i32_w]; rw [c11b0]) | (rw [c11b2]; simp only [Bool.not_false, Bool.not_true]) | skip)
    have HC30 := aS H
    clear H
    go_upto_region 12 with (fail)
    go_cut [46] (fun v46 wc => ∃ (kq : Nat) (x46_29 : Bool), v46 = .bool x46_29 ∧ Aside0 (impl_LongestLine.j1 kq l0 a2 x8_1 x46_29 = some (r1, r2, r3)) ∧ Aside0 (kq ≤ k1) ∧ Aside0 (Kd.R k45 45 wc w.heap.size (fun _ => True) u8 x8_1) ∧ Aside0 (wc.heap[gb266]? = some (.cells #[(.slice none 0 0), (.slice none 0 0)] 29 (0, 0))) ∧ Aside0 (Below w.heap.size w wc))
    case first =>
     have H := HC30.out
     clear HC30
     replace H := Option.bind_eq_some_iff.mp H
     obtain ⟨t277, A310, H⟩ := H
     replace H : (if t277 = true then (impl_LongestLine.j1 k1 l0 a2 x8_1 (decide ((l1.length : Int) > 12))) else (impl_LongestLine.j1 k1 l0 a2 x8_1 true)) = some (r1, r2, r3) := H
     have A31 := aS A310
     clear A310
     by_cases c32 : t277 = true
     ·
      subst c32
      have H1 : (impl_LongestLine.j1 k1 l0 a2 x8_1 (decide ((l1.length : Int) > 12))) = some (r1, r2, r3) := by rw [if_pos rfl] at H; exact H
      clear H
      have H := H1
      clear H1
      have H' := aS H
      clear H
      go_wp2_with (first | ((with_reducible refine gate_callee (f := 50) rfl ?_); refine goesL_ (some 40) rfl rfl Try.func50 (by kernel_rfl) rfl #[.int .i64 a2, .int .i64 0, .int .i64 1000000] rfl sG ?_; (with_reducible refine (impl_within.calls a2 0 1000000 true _ A31.out).mono ?_); rintro e w' ⟨rfl, ⟨nd, rfl⟩⟩; refine ⟨_, rfl, ?_⟩))
      go_meet
      case rel => exact ⟨_, (decide ((l1.length : Int) > 12)), (by first | rfl | (simp; done) | (simp [*]; done) | (simp only [i64_w]; done) | (simp [i64_w]; done)), H', ⟨by have := HK1.out; first | omega | exact Nat.le_refl _⟩, ⟨by (with_reducible repeat (first | apply Kd.R_alloc | apply Kd.R_drewN | apply Kd.R_drew)); exact HO_8.out⟩, ⟨by (with_reducible repeat (first | refine blk_drewN ?_ _ | refine blk_drew ?_ | refine blk_alloc ?_ _)); exact BK266.out⟩, ⟨by repeat (first | (with_reducible first | exact HB.out | apply below_alloc | apply pw_below_drewN | apply below_drew1 | refine below_set ?_ GE266.out) | exact HB.out)⟩⟩
     replace c32 := Bool.eq_false_iff.mpr c32
     subst c32
     have H1 : (impl_LongestLine.j1 k1 l0 a2 x8_1 true) = some (r1, r2, r3) := by rw [if_neg (show ¬ (false = true) by decide)] at H; exact H
     clear H
     have H := H1
     clear H1
     have H' := aS H
     clear H
     go_wp2_with (first | ((with_reducible refine gate_callee (f := 50) rfl ?_); refine goesL_ (some 40) rfl rfl Try.func50 (by kernel_rfl) rfl #[.int .i64 a2, .int .i64 0, .int .i64 1000000] rfl sG ?_; (with_reducible refine (impl_within.calls a2 0 1000000 false _ A31.out).mono ?_); rintro e w' ⟨rfl, ⟨nd, rfl⟩⟩; refine ⟨_, rfl, ?_⟩))
     go_meet
     case rel => exact ⟨_, (true), (by first | rfl | (simp; done) | (simp [*]; done) | (simp only [i64_w]; done) | (simp [i64_w]; done)), H', ⟨by have := HK1.out; first | omega | exact Nat.le_refl _⟩, ⟨by (with_reducible repeat (first | apply Kd.R_alloc | apply Kd.R_drewN | apply Kd.R_drew)); exact HO_8.out⟩, ⟨by (with_reducible repeat (first | refine blk_drewN ?_ _ | refine blk_drew ?_ | refine blk_alloc ?_ _)); exact BK266.out⟩, ⟨by repeat (first | (with_reducible first | exact HB.out | apply below_alloc | apply pw_below_drewN | apply below_drew1 | refine below_set ?_ GE266.out) | exact HB.out)⟩⟩
    case rest =>
     clear HC30
     (try clear c1); (try clear c2); (try clear p2); (try clear q2); (try clear hx2); (try clear c3); (try clear c4); (try clear c5); (try clear p6); (try clear c8); (try clear c11); (try clear c11b0); (try clear c11b2); (try clear c12); (try clear c12b0); (try clear c13); (try clear c13b0); (try clear c17); (try clear c20); (try clear c21); (try clear c21b0); (try clear c21b2); (try clear c22); (try clear c23); (try clear c26); (try clear p27); (try clear q27); (try clear hx27); (try clear c28); (try clear c32); (try clear hcz18_0); (try clear hcz18_1); (try clear hcz24_0); (try clear hcz24_1); (try clear hcz27_0); (try clear hcz27_1); (try clear hcz29_0); (try clear hcz29_1); (try clear hfz18_0); (try clear hfz18_1); (try clear hfz24_0); (try clear hfz24_1); (try clear hfz27_0); (try clear hfz27_1); (try clear hfz29_0); (try clear hfz29_1); (try clear hx271_0); (try clear hx271_1); (try clear p2); (try clear p271); (try clear q271)
     obtain ⟨kq, x46_29, rfl, HA, HJ29, HO_8, BK266, HB⟩ := hcut
     cases kq with
     | zero => exact absurd HA.out (by simp [impl_LongestLine.j1])
     | succ kj29 =>
      have H := HA.out
      clear HA
      simp only [impl_LongestLine.j1] at H
      by_cases c33 : x46_29 = true
      ·
       subst c33
       have H1 : (some (([] : List (S45)), ([] : List Int), 2)) = some (r1, r2, r3) := by rw [if_pos rfl] at H; exact H
       clear H
       have H := H1
       clear H1
       simp only [Option.some.injEq, Prod.mk.injEq] at H
       obtain ⟨rfl, rfl, rfl⟩ := H
       have hcz34_0 : wc.cell? ⟨gb266, 0, none⟩ = some (.slice none 0 0) := (blk_cell BK266.out 0).trans rfl
       have hcz34_1 : wc.cell? ⟨gb266, 1, none⟩ = some (.slice none 0 0) := (blk_cell BK266.out 1).trans rfl
       have hfz34_0 := blk_frozen BK266.out 0
       have hfz34_1 := blk_frozen BK266.out 1
       go_wp2
       refine bodyPost_ret (results_ct rfl _ _ gb266 29 #[.slice none 0 0, .slice none 0 0] (0, 0) _ rfl (by (with_reducible repeat (first | refine blk_drewN ?_ _ | refine blk_drew ?_ | refine blk_alloc ?_ _)); refine blk_put (cs := #[.slice none 0 0, .slice none 0 0]) ?_ 1 _ rfl; (with_reducible repeat (first | refine blk_drewN ?_ _ | refine blk_drew ?_ | refine blk_alloc ?_ _)); refine blk_put (cs := #[.slice none 0 0, .slice none 0 0]) ?_ 0 _ rfl; (with_reducible repeat (first | refine blk_drewN ?_ _ | refine blk_drew ?_ | refine blk_alloc ?_ _)); exact BK266.out) Try.underlying29 rfl (by kernel_rfl)) rfl ?_
       exact ⟨_, _, by first | rfl | (simp [errW_none, errW_some, i64_w]; done) | (simp [errW_none, errW_some] <;> rfl) | (simp [*, errW_none, errW_some] <;> rfl), by first | exact Kd.R_nil _ _ _ _ _ | exact Kd.N_nil _ _ _ _ _ | exact Kd.V_nil _ _ _ _ _ | exact Kd.Q_nil _ _ _ _ _ | exact Kd.S_nil _ _ _ _ _, by first | exact Kd.R_nil _ _ _ _ _ | exact Kd.N_nil _ _ _ _ _ | exact Kd.V_nil _ _ _ _ _ | exact Kd.Q_nil _ _ _ _ _ | exact Kd.S_nil _ _ _ _ _, by repeat (first | (with_reducible first | exact HB.out | apply below_alloc | apply pw_below_drewN | apply below_drew1 | refine below_set ?_ GE266.out) | exact HB.out)⟩
      replace c33 := Bool.eq_false_iff.mpr c33
      subst c33
      have H1 : (if (x8_1.length : Int) = 0 then (some (([] : List (S45)), ([] : List Int), 3)) else ((impl_LinePiece_51.f kj29 x8_1 0).bind fun t278 => (if 0 < (x8_1.length : Int) then (if 1 ≤ (x8_1.length : Int) then ((some (t278.drop (1 : Int).toNat : List (S45))).bind fun y284 => (impl_LongestLine.l1 kj29 l0 a2 y284 (y284.length : Int) 0 (([(⟨(rd_T45 t278 0).f0, (rd_T45 t278 0).f1⟩ : S45)] : List (S45))) ([] : List Int))) else (none)) else (none)))) = some (r1, r2, r3) := by rw [if_neg (show ¬ (false = true) by decide)] at H; exact H
      clear H
      have H := H1
      clear H1
      by_cases c35 : (x8_1.length : Int) = 0
      ·
       rw [if_pos c35] at H
       have c35b0 : ((x8_1.length : Int) == 0) = true := beq_iff_eq.mpr c35
       have c35b1 : ((x8_1.length : Int) != 0) = false := bne_eq_false_iff_eq.mpr c35
       clear c35
       simp only [Option.some.injEq, Prod.mk.injEq] at H
       obtain ⟨rfl, rfl, rfl⟩ := H
       obtain ⟨Ao36, co36, eo36⟩ := Kd.R_slice HO_8.out
       subst eo36
       have hcz37_0 : wc.cell? ⟨gb266, 0, none⟩ = some (.slice none 0 0) := (blk_cell BK266.out 0).trans rfl
       have hcz37_1 : wc.cell? ⟨gb266, 1, none⟩ = some (.slice none 0 0) := (blk_cell BK266.out 1).trans rfl
       have hfz37_0 := blk_frozen BK266.out 0
       have hfz37_1 := blk_frozen BK266.out 1
       go_wp2
       refine bodyPost_ret (results_ct rfl _ _ gb266 29 #[.slice none 0 0, .slice none 0 0] (0, 0) _ rfl (by (with_reducible repeat (first | refine blk_drewN ?_ _ | refine blk_drew ?_ | refine blk_alloc ?_ _)); refine blk_put (cs := #[.slice none 0 0, .slice none 0 0]) ?_ 1 _ rfl; (with_reducible repeat (first | refine blk_drewN ?_ _ | refine blk_drew ?_ | refine blk_alloc ?_ _)); refine blk_put (cs := #[.slice none 0 0, .slice none 0 0]) ?_ 0 _ rfl; (with_reducible repeat (first | refine blk_drewN ?_ _ | refine blk_drew ?_ | refine blk_alloc ?_ _)); exact BK266.out) Try.underlying29 rfl (by kernel_rfl)) rfl ?_
       exact ⟨_, _, by first | rfl | (simp [errW_none, errW_some, i64_w]; done) | (simp [errW_none, errW_some] <;> rfl) | (simp [*, errW_none, errW_some] <;> rfl), by first | exact Kd.R_nil _ _ _ _ _ | exact Kd.N_nil _ _ _ _ _ | exact Kd.V_nil _ _ _ _ _ | exact Kd.Q_nil _ _ _ _ _ | exact Kd.S_nil _ _ _ _ _, by first | exact Kd.R_nil _ _ _ _ _ | exact Kd.N_nil _ _ _ _ _ | exact Kd.V_nil _ _ _ _ _ | exact Kd.Q_nil _ _ _ _ _ | exact Kd.S_nil _ _ _ _ _, by repeat (first | (with_reducible first | exact HB.out | apply below_alloc | apply pw_below_drewN | apply below_drew1 | refine below_set ?_ GE266.out) | exact HB.out)⟩
      rw [if_neg c35] at H
      have c35b0 : ((x8_1.length : Int) == 0) = false := beq_eq_false_iff_ne.mpr c35
      have c35b1 : ((x8_1.length : Int) != 0) = true := bne_iff_ne.mpr c35
      have c35b2 : ¬ (x8_1 = []) := fun h_ => c35 (by rw [h_]; rfl)
      replace H := Option.bind_eq_some_iff.mp H
      obtain ⟨t278, A380, H⟩ := H
      replace H : (if 0 < (x8_1.length : Int) then (if 1 ≤ (x8_1.length : Int) then ((some (t278.drop (1 : Int).toNat : List (S45))).bind fun y284 => (impl_LongestLine.l1 kj29 l0 a2 y284 (y284.length : Int) 0 (([(⟨(rd_T45 t278 0).f0, (rd_T45 t278 0).f1⟩ : S45)] : List (S45))) ([] : List Int))) else (none)) else (none)) = some (r1, r2, r3) := H
      have A38 := aS A380
      clear A380
      by_cases c39 : 0 < (x8_1.length : Int)
      rotate_left
      ·
       rw [if_neg c39] at H
       exact absurd H (by simp)
      rw [if_pos c39] at H
      have c39b0 : decide (0 < (x8_1.length : Int)) = true := decide_eq_true c39
      have c39b1 : decide (0 < x8_1.length) = true := decide_eq_true (by omega)
      clear c39
      obtain ⟨y280, hy280⟩ : ∃ y_ : List (S45), y_ = (([(⟨(rd_T45 t278 0).f0, (rd_T45 t278 0).f1⟩ : S45)] : List (S45))) := ⟨_, rfl⟩
      replace H : (if 1 ≤ (x8_1.length : Int) then ((some (t278.drop (1 : Int).toNat : List (S45))).bind fun y284 => (impl_LongestLine.l1 kj29 l0 a2 y284 (y284.length : Int) 0 y280 ([] : List Int))) else (none)) = some (r1, r2, r3) := by first | (rw [hy280]; with_reducible exact H) | (have H2_ := (Option.bind_some _ _).symm.trans H; rw [hy280]; with_reducible exact H2_) | (have H2_ := (Option.bind_some _ _).symm.trans H; with_reducible exact H2_) | with_reducible exact H | (rw [hy280]; exact H) | exact H
      have Ny280 := aS hy280
      clear hy280
      by_cases c40 : 1 ≤ (x8_1.length : Int)
      rotate_left
      ·
       rw [if_neg c40] at H
       exact absurd H (by simp)
      rw [if_pos c40] at H
      have c40b0 := eq_true c40
      have c40b1 : decide (1 ≤ (x8_1.length : Int)) = true := decide_eq_true c40
      clear c40
      obtain ⟨y284, hy284⟩ : ∃ y_ : List (S45), y_ = (t278.drop (1 : Int).toNat) := ⟨_, rfl⟩
      replace H : (impl_LongestLine.l1 kj29 l0 a2 y284 (y284.length : Int) 0 y280 ([] : List Int)) = some (r1, r2, r3) := by first | (rw [hy284]; with_reducible exact H) | (have H2_ := (Option.bind_some _ _).symm.trans H; rw [hy284]; with_reducible exact H2_) | (have H2_ := (Option.bind_some _ _).symm.trans H; with_reducible exact H2_) | with_reducible exact H | (rw [hy284]; exact H) | exact H
      have Ny284 := aS hy284
      clear hy284
      have H' := aS H
      clear H
      obtain ⟨Ao41, co41, eo41⟩ := Kd.R_slice HO_8.out
      subst eo41
      go_wp2_with (first | ((with_reducible refine gate_callee (f := 51) rfl ?_); refine goesL_ (some 53) rfl rfl Try.func51 (by kernel_rfl) rfl #[.slice Ao41 x8_1.length co41, .func (.func 52) #[] #[]] rfl sG ?_; (with_reducible refine (impl_LinePiece_51.calls kj29 (fun k_ => some k_ = (.slice Ao41 x8_1.length co41 : Value).ownBlock) (.slice Ao41 x8_1.length co41) x8_1 0 t278 w _ ?side1 ?side2 A38.out).mono ?_); (case side1 => repeat (first | (with_reducible first | exact HB.out | apply below_alloc | apply pw_below_drewN | apply below_drew1 | refine below_set ?_ GE266.out) | exact HB.out)); (case side2 => exact Kd.R_tight rfl HO_8.out); rintro e w42 ⟨rfl, hy0, hb, hkp⟩; refine ⟨_, rfl, ?_⟩; have n0_ := aS (Kd.R_reok rfl hy0 (fun k_ e_ => HO_8.out.1 k_ e_)); have n1_ := aS (blk_kept (sB BK266.out) hkp (fun hs_ => (fun e_ => (Kd.R_ne HO_8.out BK266.out (by decide)) e_) hs_)); have n2_ := aS (hb); clear HO_8 BK266 HB; have HO_8 := n0_; have BK266 := n1_; have HB := n2_; clear n0_ n1_ n2_; (try clear hb); (try clear hkp); (try clear hy0); have p279 : 0 ≤ (0 : Int) := (by omega); have q279 : 0 < (t278.length : Int) := (by have h_ : (0 : Int) < ((x8_1.length : Int) : Int) := of_decide_eq_true (by first | (with_reducible assumption) | assumption); have e_ := (Kd.R_reads' HO_8.out).1; omega); have ql279 : ((0 : Int) < ((x8_1.length : Int) : Int)) = True := eq_true (of_decide_eq_true (by first | (with_reducible assumption) | assumption)); (try have qn279 : (0 < x8_1.length) = True := eq_true (by have h_ : (0 : Int) < ((x8_1.length : Int) : Int) := of_decide_eq_true (by first | (with_reducible assumption) | assumption); omega)); obtain ⟨ad279, e279, hx279_0, hx279_1⟩ := at_T45 (Kd.R_reads' HO_8.out).2.2 0 p279 q279; cases e279; have qi279 : (0 < t278.length) = True := eq_true (by omega); (try rw [show ((0 : Int)).toNat = 0 from rfl] at hx279_0); (try rw [show 0 * 2 = 0 from rfl] at hx279_0); (try rw [Addr.add_zero'] at hx279_0); (try rw [show ((0 : Int)).toNat = 0 from rfl] at hx279_1); (try rw [show 0 * 2 = 0 from rfl] at hx279_1); (try rw [Addr.add_zero'] at hx279_1); replace p279 := eq_true p279; replace q279 := eq_true q279) | ((with_reducible refine gate_dst (N := 57) rfl ?_); (try (refine gate_guard (by rfl) ?_; dsimp only)); refine Kd.R_lit k45 _ 45 ?hg (N := 57) ?hd (xs := ([(⟨(rd_T45 t278 0).f0, (rd_T45 t278 0).f1⟩ : S45)] : List (S45))) (inner := [.int .i64 ((rd_T45 t278 0).f0), .int .i64 ((rd_T45 t278 0).f1)]) (ok := fun _ => True) (okp := fun _ => True) ?hr ?hp (fun _ hk => hk) trivial (Below.refl _ _) (Nat.le_refl _) (by simp) ?_; (case hd => rfl); (case hg => rfl); (case hr => first | (go_simp; done) | (go_simp; rfl)); (case hp => exact (Reps.c2 (show Kd.M k45 _ _ _ (⟨(rd_T45 t278 0).f0, (rd_T45 t278 0).f1⟩ : S45) [.int .i64 ((rd_T45 t278 0).f0), .int .i64 ((rd_T45 t278 0).f1)] from (k45_mkM _ _ _ (⟨(rd_T45 t278 0).f0, (rd_T45 t278 0).f1⟩ : S45) )) (Reps.none _ _))); intro v281 w43 ho44 hb hg_ hnew_; clear hg_ hnew_; (first | rw [← Ny280.out] at ho44 | (simp only [Int.reduceToNat] at ho44; rw [← Ny280.out] at ho44)); have n0_ := aS (Kd.R_elder' (sR HO_8.out) (Kd.R_base ho44) hb); have n1_ := aS (Kd.R_lower (Kd.R_new' ho44 (Kd.R_lt (sR HO_8.out))) (below_size (sW HB.out))); have n2_ := aS (blk_below (g := gb266) (o := .cells #[.slice none 0 0, .slice none 0 0] 29 (0, 0)) (sB BK266.out) hb); have n3_ := aS (below_step (sW HB.out) hb); clear HO_8 BK266 HB; have HO_8 := n0_; have HO282 := n1_; have BK266 := n2_; have HB := n3_; clear n0_ n1_ n2_ n3_; clear hb ho44; obtain ⟨Ao45, co45, eo45⟩ := Kd.R_slice HO282.out; subst eo45) | ((with_reducible refine gate_dst (N := 11) rfl ?_); (try (refine gate_guard (by rfl) ?_; dsimp only)); refine box_event ?hg (N := 11) ?hd (cs := #[.slice none 0 0, .slice none 0 0]) (t := 29) ?hr ?_; (case hd => rfl); (case hg => rfl); (case hr => first | (go_simp; done) | (go_simp; rfl)); intro gb283 hg w46 hbox hb; have n0_ := aS (Kd.R_below (sR HO_8.out) hb); have n1_ := aS (Kd.R_below (sR HO282.out) hb); have n2_ := aS (blk_below (g := gb266) (o := .cells #[.slice none 0 0, .slice none 0 0] 29 (0, 0)) (sB BK266.out) hb); have n3_ := aS (below_step (sW HB.out) hb); have n4_ := aS (hbox); have n5_ := aS ((by rw [hg]; exact (below_size (sW HB.out)) : w.heap.size ≤ gb283)); have n6_ := aS ((by rw [hg]; exact (below_size (sW HB.out)) : w.heap.size ≤ gb283)); have n7_ := aS ((by rw [hg]; exact Nat.ne_of_lt (blk_lt (g := gb266) (o := .cells #[.slice none 0 0, .slice none 0 0] 29 (0, 0)) (sB BK266.out)) : gb266 ≠ gb283)); have n8_ := aS ((by rw [hg]; exact Nat.ne_of_gt (blk_lt (g := gb266) (o := .cells #[.slice none 0 0, .slice none 0 0] 29 (0, 0)) (sB BK266.out)) : gb283 ≠ gb266)); clear HO_8 HO282 BK266 HB; have HO_8 := n0_; have HO282 := n1_; have BK266 := n2_; have HB := n3_; have BK283 := n4_; have GW283 := n5_; have GE283 := n6_; have NB266_283 := n7_; have NB283_266 := n8_; clear n0_ n1_ n2_ n3_ n4_ n5_ n6_ n7_ n8_; clear hb hbox hg; have hnb47 := NB283_266.out; have hnc47 := NB266_283.out; have hcz48_0 : w46.cell? ⟨gb283, 0, none⟩ = some (.slice none 0 0) := (blk_cell BK283.out 0).trans rfl; have hcz48_1 : w46.cell? ⟨gb283, 1, none⟩ = some (.slice none 0 0) := (blk_cell BK283.out 1).trans rfl; have hfz48_0 := blk_frozen BK283.out 0; have hfz48_1 := blk_frozen BK283.out 1) | ((with_reducible refine gate_store (t := 29) (p := 11) rfl ?_); refine store_event (t := 29) (p := 11) (v := ?vo_w49) (w1 := ((w46.setCell ⟨gb283, 0, none⟩ (.slice Ao45 y280.length co45)).setCell ⟨gb283, 1, none⟩ (.slice none 0 0))) ?hg ?ho ?hn ?hr ?_; (case ho => rfl); (case hg => rfl); (case hn => rfl); (case hr => first | (go_simp; done) | (go_simp; rfl)); intro w49 hw; have n0_ : Aside0 (Kd.R k45 45 w49 w.heap.size (fun k_ => some k_ ≠ (.slice Ao45 y280.length co45 : Value).ownBlock) (.slice (some ad279) x8_1.length co41) t278) := ⟨(by rw [hw]; exact (sR (Kd.R_mono (Kd.R_far (p := ⟨gb283, 1, none⟩) (Kd.R_far (p := ⟨gb283, 0, none⟩) (Kd.R_types HO_8.out BK283.out (by decide)) (fun _ hk => hk.2) (.slice Ao45 y280.length co45)) (fun _ hk => hk.2) (.slice none 0 0)) (fun _ hk => hk.1.2))))⟩; have n1_ : Aside0 (Kd.R k45 45 w49 w.heap.size (fun k_ => some k_ ≠ (.slice (some ad279) x8_1.length co41 : Value).ownBlock) (.slice Ao45 y280.length co45) y280) := ⟨(by rw [hw]; exact (sR (Kd.R_mono (Kd.R_far (p := ⟨gb283, 1, none⟩) (Kd.R_far (p := ⟨gb283, 0, none⟩) (Kd.R_types HO282.out BK283.out (by decide)) (fun _ hk => hk.2) (.slice Ao45 y280.length co45)) (fun _ hk => hk.2) (.slice none 0 0)) (fun _ hk => hk.1.2))))⟩; have n2_ : Aside0 (w49.heap[gb266]? = some (.cells #[.slice none 0 0, .slice none 0 0] 29 (0, 0))) := ⟨(by rw [hw]; exact (by (with_reducible repeat (first | refine blk_drewN ?_ _ | refine blk_drew ?_ | refine blk_alloc ?_ _)); refine blk_far ?_ NB266_283.out _; (with_reducible repeat (first | refine blk_drewN ?_ _ | refine blk_drew ?_ | refine blk_alloc ?_ _)); refine blk_far ?_ NB266_283.out _; (with_reducible repeat (first | refine blk_drewN ?_ _ | refine blk_drew ?_ | refine blk_alloc ?_ _)); exact BK266.out))⟩; have n3_ : Aside0 (w49.heap[gb283]? = some (.cells #[.slice Ao45 y280.length co45, .slice none 0 0] 29 (0, 0))) := ⟨(by rw [hw]; exact (by (with_reducible repeat (first | refine blk_drewN ?_ _ | refine blk_drew ?_ | refine blk_alloc ?_ _)); refine blk_put (cs := #[.slice Ao45 y280.length co45, .slice none 0 0]) ?_ 1 _ rfl; (with_reducible repeat (first | refine blk_drewN ?_ _ | refine blk_drew ?_ | refine blk_alloc ?_ _)); refine blk_put (cs := #[.slice none 0 0, .slice none 0 0]) ?_ 0 _ rfl; (with_reducible repeat (first | refine blk_drewN ?_ _ | refine blk_drew ?_ | refine blk_alloc ?_ _)); exact BK283.out))⟩; have n4_ : Aside0 (Below w.heap.size w w49) := ⟨(by rw [hw]; exact (sW HB.out))⟩; clear hw HO_8 HO282 BK266 BK283 HB; have HO_8 := n0_; have HO282 := n1_; have BK266 := n2_; have BK283 := n3_; have HB := n4_; clear n0_ n1_ n2_ n3_ n4_; have q50 : (1 : Int) ≤ ((x8_1.length : Int) : Int) := of_decide_eq_true (by first | (with_reducible assumption) | assumption); obtain ⟨i050, hi050, _, hsz50, _⟩ := info_parts info45; have hcut50 := cut_from (P := Try.prog) 26 45 .i64 Try.underlying26 hi050 2 hsz50 (some ad279) x8_1.length co41 1 (by omega) q50; have hr50 := Kd.Q_drop (k := (1 : Int).toNat) (Kd.Q_of_R HO_8.out) (by first | omega | (have hl_ := (Kd.R_reads' HO_8.out).1; omega)); obtain ⟨A50, hA50⟩ : ∃ A1, A1 = (if co41 = (1 : Int).toNat then (some ad279) else ((some ad279) : Option Addr).map (·.add ((1 : Int).toNat * 2))) := ⟨_, rfl⟩; obtain ⟨c50, hc50⟩ : ∃ c1, c1 = co41 - (1 : Int).toNat := ⟨_, rfl⟩; have hy50 : y284.length = x8_1.length - (1 : Int).toNat := (by first | (rw [Ny284.out, List.length_drop]; done) | (have hl_ := (Kd.R_reads' HO_8.out).1; rw [Ny284.out, List.length_drop]; omega)); rw [← Ny284.out] at hr50; rw [← hy50, ← hA50, ← hc50] at hcut50; replace hr50 : Kd.Q k45 45 w49 w.heap.size (fun k_ => some k_ ≠ (.slice Ao45 y280.length co45 : Value).ownBlock) (.slice A50 y284.length c50) y284 := (by rw [hA50, hc50, hy50]; exact hr50); have HE50 : Aside0 ((Value.slice A50 y284.length c50).ownBlock = (.slice (some ad279) x8_1.length co41 : Value).ownBlock) := ⟨by rw [hA50]; split <;> (cases ((some ad279) : Option Addr) <;> rfl)⟩; clear hy50 hi050 hsz50 HO_8 hA50 hc50; have HO286 := aS hr50; clear hr50; replace q50 := eq_true q50; have n_ := aS (Kd.R_mono (ok' := fun k_ => some k_ ≠ (.slice A50 y284.length c50 : Value).ownBlock) HO282.out (fun k_ hk => (by rw [HE50.out]; exact hk))); clear HO282; have HO282 := n_; clear n_))
      (try simp only [Act.put, List.setIfInBounds_toArray, List.set_cons_zero, List.set_cons_succ])
      go_loopg [62] kj29 (fun kq v62 w' => ∃ (x62_3 : Int) (x284000_3 : List (S45)) (x284001_3 : List Int) (u284000 : Value) (u284001 : Value), v62 = .int .i64 x62_3 ∧ Aside0 (impl_LongestLine.l1 kq l0 a2 y284 (y284.length : Int) x62_3 x284000_3 x284001_3 = some (r1, r2, r3)) ∧ Aside0 (kq ≤ kj29) ∧ Aside0 (Kd.Q k45 45 w' w.heap.size (fun k_ => some k_ ≠ (u284000 : Value).ownBlock) (.slice A50 y284.length c50) y284) ∧ Aside0 (Kd.R k45 45 w' w.heap.size (fun k_ => some k_ ≠ ((.slice A50 y284.length c50) : Value).ownBlock) u284000 x284000_3) ∧ Aside0 (Kd.R (Kd.int .i64) 2 w' w.heap.size (fun _ => True) u284001 x284001_3) ∧ Aside0 (w'.heap[gb266]? = some (.cells #[(.slice none 0 0), (.slice none 0 0)] 29 (0, 0))) ∧ Aside0 (w'.heap[gb283]? = some (.cells #[u284000, u284001] 29 (0, 0))) ∧ Aside0 (Below w.heap.size w w'))
      case atStart => exact ⟨(0), (y280), (([] : List Int)), (.slice Ao45 y280.length co45), (.slice none 0 0), (by first | rfl | (simp; done) | (simp [*]; done) | (simp only [i64_w]; done) | (simp [i64_w]; done)), H', ⟨Nat.le_refl _⟩, ⟨by (with_reducible repeat (first | apply Kd.Q_alloc | apply Kd.Q_drewN | apply Kd.Q_drew)); exact HO286.out⟩, ⟨by (with_reducible repeat (first | apply Kd.R_alloc | apply Kd.R_drewN | apply Kd.R_drew)); exact HO282.out⟩, ⟨by first | exact Kd.R_nil _ _ _ _ _ | exact Kd.N_nil _ _ _ _ _ | exact Kd.V_nil _ _ _ _ _ | exact Kd.Q_nil _ _ _ _ _ | exact Kd.S_nil _ _ _ _ _⟩, ⟨by (with_reducible repeat (first | refine blk_drewN ?_ _ | refine blk_drew ?_ | refine blk_alloc ?_ _)); exact BK266.out⟩, ⟨by (with_reducible repeat (first | refine blk_drewN ?_ _ | refine blk_drew ?_ | refine blk_alloc ?_ _)); exact BK283.out⟩, ⟨by repeat (first | (with_reducible first | exact HB.out | apply below_alloc | apply pw_below_drewN | apply below_drew1 | refine below_set ?_ GE266.out | refine below_set ?_ GE283.out) | exact HB.out)⟩⟩
      case round =>
       clear H'
       (try clear c1); (try clear c2); (try clear p2); (try clear q2); (try clear hx2); (try clear qi2); (try clear c3); (try clear c4); (try clear c5); (try clear q5); (try clear p6); (try clear c8); (try clear c11); (try clear c11b0); (try clear c11b2); (try clear c12); (try clear c12b0); (try clear c13); (try clear c13b0); (try clear c17); (try clear c20); (try clear c21); (try clear c21b0); (try clear c21b2); (try clear c22); (try clear c23); (try clear c26); (try clear p27); (try clear q27); (try clear hx27); (try clear qi27); (try clear c28); (try clear c32); (try clear c33); (try clear c35); (try clear c35b0); (try clear c35b1); (try clear c35b2); (try clear c39); (try clear c39b0); (try clear c39b1); (try clear c40); (try clear c40b0); (try clear c40b1); (try clear c47); (try clear c48); (try clear c49); (try clear c50); (try clear q50); (try clear hcz18_0); (try clear hcz18_1); (try clear hcz24_0); (try clear hcz24_1); (try clear hcz27_0); (try clear hcz27_1); (try clear hcz29_0); (try clear hcz29_1); (try clear hcz34_0); (try clear hcz34_1); (try clear hcz37_0); (try clear hcz37_1); (try clear hcz48_0); (try clear hcz48_1); (try clear hfz18_0); (try clear hfz18_1); (try clear hfz24_0); (try clear hfz24_1); (try clear hfz27_0); (try clear hfz27_1); (try clear hfz29_0); (try clear hfz29_1); (try clear hfz34_0); (try clear hfz34_1); (try clear hfz37_0); (try clear hfz37_1); (try clear hfz48_0); (try clear hfz48_1); (try clear hx271_0); (try clear hx271_1); (try clear hx279_0); (try clear hx279_1); (try clear p2); (try clear p27); (try clear p271); (try clear p279); (try clear p6); (try clear q2); (try clear q27); (try clear q271); (try clear q279); (try clear q50)
       obtain ⟨x62_3, x284000_3, x284001_3, u284000, u284001, rfl, HA, HK3, HO_60, HO_284000, HO_284001, BK266, BK283, HB⟩ := hrel
       cases gk with
       | zero => exact absurd HA.out (by simp [impl_LongestLine.l1])
       | succ k3 =>
        have H := HA.out
        clear HA
        simp only [impl_LongestLine.l1] at H
        by_cases c51 : x62_3 < (y284.length : Int)
        rotate_left
        ·
         rw [if_neg c51] at H
         have c51b0 : decide (x62_3 < (y284.length : Int)) = false := decide_eq_false c51
         clear c51
         simp only [Option.some.injEq, Prod.mk.injEq] at H
         obtain ⟨rfl, rfl, rfl⟩ := H
         have hnb94 := NB283_266.out
         have hnc94 := NB266_283.out
         have hcz95_0 : wr.cell? ⟨gb283, 0, none⟩ = some (u284000) := (blk_cell BK283.out 0).trans rfl
         have hcz95_1 : wr.cell? ⟨gb283, 1, none⟩ = some (u284001) := (blk_cell BK283.out 1).trans rfl
         have hfz95_0 := blk_frozen BK283.out 0
         have hfz95_1 := blk_frozen BK283.out 1
         obtain ⟨Ao96, co96, eo96⟩ := Kd.R_slice HO_284000.out
         subst eo96
         have hcz97_0 : wr.cell? ⟨gb266, 0, none⟩ = some (.slice none 0 0) := (blk_cell BK266.out 0).trans rfl
         have hcz97_1 : wr.cell? ⟨gb266, 1, none⟩ = some (.slice none 0 0) := (blk_cell BK266.out 1).trans rfl
         have hfz97_0 := blk_frozen BK266.out 0
         have hfz97_1 := blk_frozen BK266.out 1
         obtain ⟨Ao98, co98, eo98⟩ := Kd.R_slice HO_284001.out
         subst eo98
         go_wp2
         refine bodyPost_ret (results_ct rfl _ _ gb266 29 #[.slice Ao96 x284000_3.length co96, .slice Ao98 x284001_3.length co98] (0, 0) _ rfl (by (with_reducible repeat (first | refine blk_drewN ?_ _ | refine blk_drew ?_ | refine blk_alloc ?_ _)); refine blk_put (cs := #[.slice Ao96 x284000_3.length co96, .slice none 0 0]) ?_ 1 _ rfl; (with_reducible repeat (first | refine blk_drewN ?_ _ | refine blk_drew ?_ | refine blk_alloc ?_ _)); refine blk_put (cs := #[.slice none 0 0, .slice none 0 0]) ?_ 0 _ rfl; (with_reducible repeat (first | refine blk_drewN ?_ _ | refine blk_drew ?_ | refine blk_alloc ?_ _)); exact BK266.out) Try.underlying29 rfl (by kernel_rfl)) rfl ?_
         exact ⟨_, _, by first | rfl | (simp [errW_none, errW_some, i64_w]; done) | (simp [errW_none, errW_some] <;> rfl) | (simp [*, errW_none, errW_some] <;> rfl), by (with_reducible repeat (first | apply Kd.R_alloc | apply Kd.R_drewN | apply Kd.R_drew)); exact Kd.R_mono (Kd.R_far (p := ⟨gb266, 1, none⟩) (Kd.R_far (p := ⟨gb266, 0, none⟩) (Kd.R_types HO_284000.out BK266.out (by decide)) (fun _ hk => hk.2) (.slice Ao96 x284000_3.length co96)) (fun _ hk => hk.2) (.slice Ao98 x284001_3.length co98)) (fun _ hk => trivial), by (with_reducible repeat (first | apply Kd.R_alloc | apply Kd.R_drewN | apply Kd.R_drew)); exact Kd.R_mono (Kd.R_far (p := ⟨gb266, 1, none⟩) (Kd.R_far (p := ⟨gb266, 0, none⟩) (Kd.R_types HO_284001.out BK266.out (by decide)) (fun _ hk => hk.2) (.slice Ao96 x284000_3.length co96)) (fun _ hk => hk.2) (.slice Ao98 x284001_3.length co98)) (fun _ hk => trivial), by repeat (first | (with_reducible first | exact HB.out | apply below_alloc | apply pw_below_drewN | apply below_drew1 | refine below_set ?_ GE266.out | refine below_set ?_ GE283.out) | exact HB.out)⟩
        rw [if_pos c51] at H
        have c51b0 : decide (x62_3 < (y284.length : Int)) = true := decide_eq_true c51
        clear c51
        by_cases c52 : 0 ≤ x62_3
        rotate_left
        ·
         rw [if_neg c52] at H
         exact absurd H (by simp)
        rw [if_pos c52] at H
        have c52b0 : decide (0 ≤ x62_3) = true := decide_eq_true c52
        clear c52
        by_cases c53 : x62_3 < (y284.length : Int)
        rotate_left
        ·
         rw [if_neg c53] at H
         exact absurd H (by simp)
        rw [if_pos c53] at H
        have c53b0 : decide (x62_3 < (y284.length : Int)) = true := decide_eq_true c53
        clear c53
        obtain ⟨ji54, hji54⟩ : ∃ j_ : Int, (wrap64 ((x284000_3.length : Int) - 1)) = j_ := ⟨_, rfl⟩
        replace H : (if 0 ≤ (ji54) then (if (ji54) < (x284000_3.length : Int) then ((impl_bestJoin.f k3 l0 ((rd_T45 x284000_3 (ji54)).f0) ((rd_T45 x284000_3 (ji54)).f1) ((rd_T45 y284 x62_3).f0) ((rd_T45 y284 x62_3).f1) a2).bind fun t290 => (if t290 ≥ 0 then (if 0 ≤ t290 then (if t290 < (l0.length : Int) then (if ((rd_T61 l0 t290).f2) < ((rd_T45 y284 x62_3).f1) then (if x284000_3.length < 8796093022208 then (if x284001_3.length < 17592186044416 then (impl_LongestLine.l1 k3 l0 a2 y284 (y284.length : Int) (wrap64 (x62_3 + 1)) (x284000_3 ++ [(⟨(rd_T45 y284 x62_3).f0, (rd_T45 y284 x62_3).f1⟩ : S45)]) (x284001_3 ++ [t290])) else (none)) else (none)) else (impl_LongestLine.l1 k3 l0 a2 y284 (y284.length : Int) (wrap64 (x62_3 + 1)) x284000_3 x284001_3)) else (none)) else (none)) else (impl_LongestLine.l1 k3 l0 a2 y284 (y284.length : Int) (wrap64 (x62_3 + 1)) x284000_3 x284001_3))) else (none)) else (none)) = some (r1, r2, r3) := by first | (rw [hji54] at H; exact H) | (simp only [hji54] at H ⊢; exact H)
        have hji54w : (IntKind.i64.wrap ((x284000_3.length : Int) - 1)) = ji54 := (i64_w _).trans hji54
        by_cases c55 : 0 ≤ (ji54)
        rotate_left
        ·
         rw [if_neg c55] at H
         exact absurd H (by simp)
        rw [if_pos c55] at H
        have c55b0 : decide (0 ≤ (ji54)) = true := decide_eq_true c55
        clear c55
        by_cases c56 : (ji54) < (x284000_3.length : Int)
        rotate_left
        ·
         rw [if_neg c56] at H
         exact absurd H (by simp)
        rw [if_pos c56] at H
        have c56b0 : decide ((ji54) < (x284000_3.length : Int)) = true := decide_eq_true c56
        clear c56
        replace H := Option.bind_eq_some_iff.mp H
        obtain ⟨t290, A570, H⟩ := H
        replace H : (if t290 ≥ 0 then (if 0 ≤ t290 then (if t290 < (l0.length : Int) then (if ((rd_T61 l0 t290).f2) < ((rd_T45 y284 x62_3).f1) then (if x284000_3.length < 8796093022208 then (if x284001_3.length < 17592186044416 then (impl_LongestLine.l1 k3 l0 a2 y284 (y284.length : Int) (wrap64 (x62_3 + 1)) (x284000_3 ++ [(⟨(rd_T45 y284 x62_3).f0, (rd_T45 y284 x62_3).f1⟩ : S45)]) (x284001_3 ++ [t290])) else (none)) else (none)) else (impl_LongestLine.l1 k3 l0 a2 y284 (y284.length : Int) (wrap64 (x62_3 + 1)) x284000_3 x284001_3)) else (none)) else (none)) else (impl_LongestLine.l1 k3 l0 a2 y284 (y284.length : Int) (wrap64 (x62_3 + 1)) x284000_3 x284001_3)) = some (r1, r2, r3) := H
        have A57 := aS A570
        clear A570
        by_cases c58 : t290 ≥ 0
        rotate_left
        ·
         rw [if_neg c58] at H
         have c58b0 : decide (0 ≤ t290) = false := decide_eq_false c58
         clear c58
         have H' := aS H
         clear H
         have p287 : 0 ≤ (x62_3 : Int) := of_decide_eq_true (by first | (with_reducible assumption) | assumption)
         have q287 : x62_3 < (y284.length : Int) := of_decide_eq_true (by first | (with_reducible assumption) | assumption)
         obtain ⟨ad287, e287, hx287_0, hx287_1⟩ := at_T45 (Kd.Q_reads' HO_60.out).2.2 x62_3 p287 q287
         cases e287
         replace p287 := eq_true p287
         replace q287 := eq_true q287
         try go_wp2_with (first | ((with_reducible refine gate_dst (N := 13) rfl ?_); (try (refine gate_guard (by rfl) ?_; dsimp only)); refine box_event ?hg (N := 13) ?hd (cs := #[.int .i64 0, .int .i64 0]) (t := 45) ?hr ?_; (case hd => rfl); (case hg => rfl); (case hr => first | (go_simp; done) | (go_simp; rfl)); intro gb288 hg w85 hbox hb; have n0_ := aS (Kd.Q_below (Kd.Q_elderB (by (with_reducible repeat (first | apply Kd.Q_alloc | apply Kd.Q_drewN | apply Kd.Q_drew)); exact HO_60.out) gb288 (Nat.le_of_eq hg.symm)) hb); have n1_ := aS (Kd.R_below (Kd.R_elderB (sR HO_284000.out) gb288 (Nat.le_of_eq hg.symm)) hb); have n2_ := aS (Kd.R_below (sR HO_284001.out) hb); have n3_ := aS (blk_below (g := gb266) (o := .cells #[.slice none 0 0, .slice none 0 0] 29 (0, 0)) (sB BK266.out) hb); have n4_ := aS (blk_below (g := gb283) (o := .cells #[u284000, u284001] 29 (0, 0)) (sB BK283.out) hb); have n5_ := aS (below_step (sW HB.out) hb); have n6_ := aS (hbox); have n7_ := aS ((by rw [hg]; exact (below_size (sW HB.out)) : w.heap.size ≤ gb288)); have n8_ := aS ((by rw [hg]; exact (below_size (sW HB.out)) : w.heap.size ≤ gb288)); have n9_ := aS ((by rw [hg]; exact Nat.ne_of_lt (blk_lt (g := gb266) (o := .cells #[.slice none 0 0, .slice none 0 0] 29 (0, 0)) (sB BK266.out)) : gb266 ≠ gb288)); have n10_ := aS ((by rw [hg]; exact Nat.ne_of_gt (blk_lt (g := gb266) (o := .cells #[.slice none 0 0, .slice none 0 0] 29 (0, 0)) (sB BK266.out)) : gb288 ≠ gb266)); have n11_ := aS ((by rw [hg]; exact Nat.ne_of_lt (blk_lt (g := gb283) (o := .cells #[u284000, u284001] 29 (0, 0)) (sB BK283.out)) : gb283 ≠ gb288)); have n12_ := aS ((by rw [hg]; exact Nat.ne_of_gt (blk_lt (g := gb283) (o := .cells #[u284000, u284001] 29 (0, 0)) (sB BK283.out)) : gb288 ≠ gb283)); clear HO_60 HO_284000 HO_284001 BK266 BK283 HB; have HO_60 := n0_; have HO_284000 := n1_; have HO_284001 := n2_; have BK266 := n3_; have BK283 := n4_; have HB := n5_; have BK288 := n6_; have GW288 := n7_; have GE288 := n8_; have NB266_288 := n9_; have NB288_266 := n10_; have NB283_288 := n11_; have NB288_283 := n12_; clear n0_ n1_ n2_ n3_ n4_ n5_ n6_ n7_ n8_ n9_ n10_ n11_ n12_; clear hb hbox hg; have hnb86 := NB288_266.out; have hnc86 := NB266_288.out; have hnb87 := NB288_283.out; have hnc87 := NB283_288.out; have hcz88_0 : w85.cell? ⟨gb288, 0, none⟩ = some (.int .i64 0) := (blk_cell BK288.out 0).trans rfl; have hcz88_1 : w85.cell? ⟨gb288, 1, none⟩ = some (.int .i64 0) := (blk_cell BK288.out 1).trans rfl; have hfz88_0 := blk_frozen BK288.out 0; have hfz88_1 := blk_frozen BK288.out 1))
         have n0_ : Aside0 (Kd.Q k45 45 ((w85.setCell ⟨gb288, 0, none⟩ (.int .i64 ((rd_T45 y284 x62_3).f0))).setCell ⟨gb288, 1, none⟩ (.int .i64 ((rd_T45 y284 x62_3).f1))) w.heap.size (fun k_ => some k_ ≠ (u284000 : Value).ownBlock ∧ k_ ≠ gb288) (.slice (some ad287) y284.length c50) y284) := ⟨by (with_reducible repeat (first | apply Kd.Q_alloc | apply Kd.Q_drewN | apply Kd.Q_drew)); exact Kd.Q_mono (Kd.Q_far (p := ⟨gb288, 1, none⟩) (Kd.Q_far (p := ⟨gb288, 0, none⟩) (Kd.Q_mono HO_60.out (fun k_ hk => (⟨hk, hk.2⟩ : _ ∧ k_ ≠ gb288))) (fun _ hk => hk.2) (.int .i64 ((rd_T45 y284 x62_3).f0))) (fun _ hk => hk.2) (.int .i64 ((rd_T45 y284 x62_3).f1))) (fun _ hk => ⟨hk.1.1, hk.1.2⟩)⟩
         have n1_ : Aside0 (Kd.R k45 45 ((w85.setCell ⟨gb288, 0, none⟩ (.int .i64 ((rd_T45 y284 x62_3).f0))).setCell ⟨gb288, 1, none⟩ (.int .i64 ((rd_T45 y284 x62_3).f1))) w.heap.size (fun k_ => some k_ ≠ (.slice (some ad287) y284.length c50 : Value).ownBlock ∧ k_ ≠ gb288) u284000 x284000_3) := ⟨by (with_reducible repeat (first | apply Kd.R_alloc | apply Kd.R_drewN | apply Kd.R_drew)); exact Kd.R_mono (Kd.R_far (p := ⟨gb288, 1, none⟩) (Kd.R_far (p := ⟨gb288, 0, none⟩) (Kd.R_mono HO_284000.out (fun k_ hk => (⟨hk, hk.2⟩ : _ ∧ k_ ≠ gb288))) (fun _ hk => hk.2) (.int .i64 ((rd_T45 y284 x62_3).f0))) (fun _ hk => hk.2) (.int .i64 ((rd_T45 y284 x62_3).f1))) (fun _ hk => ⟨hk.1.1, hk.1.2⟩)⟩
         have n2_ : Aside0 (Kd.R (Kd.int .i64) 2 ((w85.setCell ⟨gb288, 0, none⟩ (.int .i64 ((rd_T45 y284 x62_3).f0))).setCell ⟨gb288, 1, none⟩ (.int .i64 ((rd_T45 y284 x62_3).f1))) w.heap.size (fun _ => True) u284001 x284001_3) := ⟨by (with_reducible repeat (first | apply Kd.R_alloc | apply Kd.R_drewN | apply Kd.R_drew)); exact Kd.R_mono (Kd.R_far (p := ⟨gb288, 1, none⟩) (Kd.R_far (p := ⟨gb288, 0, none⟩) (Kd.R_types HO_284001.out BK288.out (by decide)) (fun _ hk => hk.2) (.int .i64 ((rd_T45 y284 x62_3).f0))) (fun _ hk => hk.2) (.int .i64 ((rd_T45 y284 x62_3).f1))) (fun _ hk => trivial)⟩
         have n3_ : Aside0 (((w85.setCell ⟨gb288, 0, none⟩ (.int .i64 ((rd_T45 y284 x62_3).f0))).setCell ⟨gb288, 1, none⟩ (.int .i64 ((rd_T45 y284 x62_3).f1))).heap[gb266]? = some (.cells #[.slice none 0 0, .slice none 0 0] 29 (0, 0))) := ⟨by (with_reducible repeat (first | refine blk_drewN ?_ _ | refine blk_drew ?_ | refine blk_alloc ?_ _)); refine blk_far ?_ NB266_288.out _; (with_reducible repeat (first | refine blk_drewN ?_ _ | refine blk_drew ?_ | refine blk_alloc ?_ _)); refine blk_far ?_ NB266_288.out _; (with_reducible repeat (first | refine blk_drewN ?_ _ | refine blk_drew ?_ | refine blk_alloc ?_ _)); exact BK266.out⟩
         have n4_ : Aside0 (((w85.setCell ⟨gb288, 0, none⟩ (.int .i64 ((rd_T45 y284 x62_3).f0))).setCell ⟨gb288, 1, none⟩ (.int .i64 ((rd_T45 y284 x62_3).f1))).heap[gb283]? = some (.cells #[u284000, u284001] 29 (0, 0))) := ⟨by (with_reducible repeat (first | refine blk_drewN ?_ _ | refine blk_drew ?_ | refine blk_alloc ?_ _)); refine blk_far ?_ NB283_288.out _; (with_reducible repeat (first | refine blk_drewN ?_ _ | refine blk_drew ?_ | refine blk_alloc ?_ _)); refine blk_far ?_ NB283_288.out _; (with_reducible repeat (first | refine blk_drewN ?_ _ | refine blk_drew ?_ | refine blk_alloc ?_ _)); exact BK283.out⟩
         have n5_ : Aside0 (((w85.setCell ⟨gb288, 0, none⟩ (.int .i64 ((rd_T45 y284 x62_3).f0))).setCell ⟨gb288, 1, none⟩ (.int .i64 ((rd_T45 y284 x62_3).f1))).heap[gb288]? = some (.cells #[.int .i64 ((rd_T45 y284 x62_3).f0), .int .i64 ((rd_T45 y284 x62_3).f1)] 45 (0, 0))) := ⟨by (with_reducible repeat (first | refine blk_drewN ?_ _ | refine blk_drew ?_ | refine blk_alloc ?_ _)); refine blk_put (cs := #[.int .i64 ((rd_T45 y284 x62_3).f0), .int .i64 0]) ?_ 1 _ rfl; (with_reducible repeat (first | refine blk_drewN ?_ _ | refine blk_drew ?_ | refine blk_alloc ?_ _)); refine blk_put (cs := #[.int .i64 0, .int .i64 0]) ?_ 0 _ rfl; (with_reducible repeat (first | refine blk_drewN ?_ _ | refine blk_drew ?_ | refine blk_alloc ?_ _)); exact BK288.out⟩
         have n6_ : Aside0 (Below w.heap.size w ((w85.setCell ⟨gb288, 0, none⟩ (.int .i64 ((rd_T45 y284 x62_3).f0))).setCell ⟨gb288, 1, none⟩ (.int .i64 ((rd_T45 y284 x62_3).f1)))) := ⟨by repeat (first | (with_reducible first | exact HB.out | apply below_alloc | apply pw_below_drewN | apply below_drew1 | refine below_set ?_ GE266.out | refine below_set ?_ GE283.out | refine below_set ?_ GE288.out) | exact HB.out)⟩
         (try clear HO_60); (try clear HO_284000); (try clear HO_284001); (try clear BK266); (try clear BK283); (try clear BK288); (try clear HB)
         generalize ((w85.setCell ⟨gb288, 0, none⟩ (.int .i64 ((rd_T45 y284 x62_3).f0))).setCell ⟨gb288, 1, none⟩ (.int .i64 ((rd_T45 y284 x62_3).f1))) = w89 at n0_ n1_ n2_ n3_ n4_ n5_ n6_ ⊢
         have HO_60 := n0_; have HO_284000 := n1_; have HO_284001 := n2_; have BK266 := n3_; have BK283 := n4_; have BK288 := n5_; have HB := n6_
         clear n0_ n1_ n2_ n3_ n4_ n5_ n6_
         have n0_ := aS (Kd.Q_drew HO_60.out)
         have n1_ := aS (Kd.R_drew HO_284000.out)
         have n2_ := aS (Kd.R_drew HO_284001.out)
         have n3_ := aS (blk_drew BK266.out)
         have n4_ := aS (blk_drew BK283.out)
         have n5_ := aS (blk_drew BK288.out)
         have n6_ := aS (below_drew1 HB.out)
         clear HO_60 HO_284000 HO_284001 BK266 BK283 BK288 HB
         have HO_60 := n0_; have HO_284000 := n1_; have HO_284001 := n2_; have BK266 := n3_; have BK283 := n4_; have BK288 := n5_; have HB := n6_
         clear n0_ n1_ n2_ n3_ n4_ n5_ n6_
         obtain ⟨Ao91, co91, eo91⟩ := Kd.R_slice HO_284000.out
         (first | subst eo91 | (injection eo91 with f1_ f2_ f3_; have f4_ := f1_.symm; have f5_ := f3_.symm; clear f1_ f2_ f3_; subst f4_; subst f5_))
         have p289 : 0 ≤ ((ji54) : Int) := of_decide_eq_true (by first | (with_reducible assumption) | assumption)
         have q289 : (ji54) < (x284000_3.length : Int) := of_decide_eq_true (by first | (with_reducible assumption) | assumption)
         obtain ⟨ad289, e289, hx289_0, hx289_1⟩ := at_T45 (Kd.R_reads' HO_284000.out).2.2 (ji54) p289 q289
         cases e289
         replace p289 := eq_true p289
         replace q289 := eq_true q289
         refine start_ (n := 13) (S := fun w' => w'.cell? ⟨gb283, 0, none⟩ = some (.slice (some ad289) x284000_3.length co91) ∧ w'.cell? ⟨gb283, 1, none⟩ = some (u284001) ∧ w'.cell? ⟨gb288, 0, none⟩ = some (.int .i64 ((rd_T45 y284 x62_3).f0)) ∧ w'.cell? ⟨gb288, 1, none⟩ = some (.int .i64 ((rd_T45 y284 x62_3).f1)) ∧ w'.cell? (ad289.add (((ji54)).toNat * 2)) = some (.int .i64 ((rd_T45 x284000_3 (ji54)).f0)) ∧ w'.cell? ⟨(ad289.add (((ji54)).toNat * 2)).block, (ad289.add (((ji54)).toNat * 2)).off + 1, none⟩ = some (.int .i64 ((rd_T45 x284000_3 (ji54)).f1))) (ds := []) #[false, false, false, false, false, false, false, false, false, false, false, false, false] (by kernel_rfl) rfl rfl ⟨(blk_cell BK283.out 0).trans rfl, (blk_cell BK283.out 1).trans rfl, (blk_cell BK288.out 0).trans rfl, (blk_cell BK288.out 1).trans rfl, hx289_0, hx289_1⟩ (fun hHeld => ?_); refine with_tabW impl_LongestLine.tab21 impl_LongestLine.bits21 (fun HT_ HW_ => ?_)
         generalize w89.drew = w90 at HO_60 HO_284000 HO_284001 BK266 BK283 BK288 HB hx289_0 hx289_1 hHeld ⊢
         refine pure_ (i := 0) (N := some 66) (v := ?_) (a' := ?_) (impl_LongestLine.bF 13 1) rfl rfl (any_of HT_.out (by kernel_rfl)) (fun _ _ _ h => h) (Or.inl ⟨by rfl, ?_⟩) ?_ ?_
         rotate_left
         ·
          intro w'
          go_simp
          with_reducible rfl
         rotate_left
         ·
          exact sP
         refine pure_ (i := 1) (N := some 67) (v := ?_) (a' := ?_) (impl_LongestLine.bF 13 3) rfl rfl (any_of HT_.out (by kernel_rfl)) (fun _ _ _ h => h) (Or.inl ⟨by rfl, ?_⟩) ?_ ?_
         rotate_left
         ·
          intro w'
          go_simp
          with_reducible rfl
         rotate_left
         ·
          exact sP
         refine pure_ (i := 3) (N := some 69) (v := ?_) (a' := ?_) (impl_LongestLine.bF 13 11) rfl rfl (any_of HT_.out (by kernel_rfl)) (fun _ _ _ h => h) (Or.inl ⟨by rfl, ?_⟩) ?_ ?_
         rotate_left
         ·
          intro w'
          go_simp
          with_reducible rfl
         rotate_left
         ·
          exact sP
         refine pure_ (i := 10) (N := some 76) (v := ?_) (a' := ?_) (impl_LongestLine.bF 13 1035) rfl rfl (any_of HT_.out (by kernel_rfl)) (fun _ _ _ h => h) (Or.inl ⟨by rfl, ?_⟩) ?_ ?_
         rotate_left
         ·
          intro w'
          go_simp
          with_reducible rfl
         rotate_left
         ·
          exact sP
         refine take_ (i := 2) (N := some 68) (v := ?_) (a' := ?_) (impl_LongestLine.bF 13 1039) rfl rfl (take_ofW HT_.out HW_.out (by kernel_rfl)) (fun _ _ _ h => h) (Or.inl ⟨by rfl, ?_⟩) hHeld ?_ ?_
         rotate_left
         ·
          rintro w' ⟨s0, s1, s2, s3, s4, s5⟩
          go_simp
          with_reducible rfl
         rotate_left
         ·
          exact sP
         refine take_ (i := 4) (N := some 70) (v := ?_) (a' := ?_) (impl_LongestLine.bF 13 1055) rfl rfl (take_ofW HT_.out HW_.out (by kernel_rfl)) (fun _ _ _ h => h) (Or.inl ⟨by rfl, ?_⟩) hHeld ?_ ?_
         rotate_left
         ·
          rintro w' ⟨s0, s1, s2, s3, s4, s5⟩
          go_simp
          with_reducible rfl
         rotate_left
         ·
          exact sP
         refine pure_ (i := 5) (N := some 71) (v := ?_) (a' := ?_) (impl_LongestLine.bF 13 1087) rfl rfl (any_of HT_.out (by kernel_rfl)) (fun _ _ _ h => h) (Or.inl ⟨by rfl, ?_⟩) ?_ ?_
         rotate_left
         ·
          intro w'
          go_simp
          with_reducible rfl
         rotate_left
         ·
          exact sP
         refine pure_ (i := 6) (N := some 72) (v := ?_) (a' := ?_) (impl_LongestLine.bF 13 1151) rfl rfl (any_of HT_.out (by kernel_rfl)) (fun _ _ _ h => h) (Or.inl ⟨by rfl, ?_⟩) ?_ ?_
         rotate_left
         ·
          intro w'
          go_simp
          with_reducible rfl
         rotate_left
         ·
          exact sP
         refine pure_ (i := 7) (N := some 73) (v := ?_) (a' := ?_) (impl_LongestLine.bF 13 1279) rfl rfl (any_of HT_.out (by kernel_rfl)) (fun _ _ _ h => h) (Or.inl ⟨by rfl, ?_⟩) ?_ ?_
         rotate_left
         ·
          intro w'
          go_simp
          with_reducible rfl
         rotate_left
         ·
          exact sP
         refine take_ (i := 8) (N := some 74) (v := ?_) (a' := ?_) (impl_LongestLine.bF 13 1535) rfl rfl (take_ofW HT_.out HW_.out (by kernel_rfl)) (fun _ _ _ h => h) (Or.inl ⟨by rfl, ?_⟩) hHeld ?_ ?_
         rotate_left
         ·
          rintro w' ⟨s0, s1, s2, s3, s4, s5⟩
          go_simp
          with_reducible rfl
         rotate_left
         ·
          exact sP
         refine take_ (i := 9) (N := some 75) (v := ?_) (a' := ?_) (impl_LongestLine.bF 13 2047) rfl rfl (take_ofW HT_.out HW_.out (by kernel_rfl)) (fun _ _ _ h => h) (Or.inl ⟨by rfl, ?_⟩) hHeld ?_ ?_
         rotate_left
         ·
          rintro w' ⟨s0, s1, s2, s3, s4, s5⟩
          go_simp
          with_reducible rfl
         rotate_left
         ·
          exact sP
         refine one_ (i := 11) (N := some 77) #[true, true, true, true, true, true, true, true, true, true, true, true, false] rfl rfl (one_of HT_.out (by kernel_rfl)) (by decide) (fun K hK => ?_)
         refine goes_ Try.func55 (by kernel_rfl) rfl #[.slice A0 l0.length c0, .agg #[.int .i64 ((rd_T45 x284000_3 (ji54)).f0), .int .i64 ((rd_T45 x284000_3 (ji54)).f1)], .agg #[.int .i64 ((rd_T45 y284 x62_3).f0), .int .i64 ((rd_T45 y284 x62_3).f1)], .int .i64 a2] (by rfl) rfl rfl (by (try simp only [List.map_toArray, List.map_cons, List.map_nil]); first | done | (simp only [hji54]; rfl) | rfl | (simp only [List.length_drop, List.length_take]; rfl)) ?_
         with_reducible refine (impl_bestJoin.calls k3 _ _ l0 ((rd_T45 x284000_3 (ji54)).f0) ((rd_T45 x284000_3 (ji54)).f1) ((rd_T45 y284 x62_3).f0) ((rd_T45 y284 x62_3).f1) a2 t290 _ ?side1 ?side2 A57.out).mono ?_
         (case side1 => exact sC (Kd.C_below HR0.out HB.out))
         (case side2 => exact HC0.out)
         rintro e w92 ⟨rfl, hb⟩
         have HS4_ := (hb.cell (World.block_lt_of_cell? _ _ (hHeld.2.2.2.2.1))).trans (hHeld.2.2.2.2.1)
         have HS5_ := (hb.cell (World.block_lt_of_cell? _ _ (hHeld.2.2.2.2.2))).trans (hHeld.2.2.2.2.2)
         refine ⟨_, rfl, ?_⟩
         have n0_ := aS (Kd.Q_below (by (with_reducible repeat (first | apply Kd.Q_alloc | apply Kd.Q_drewN | apply Kd.Q_drew)); exact HO_60.out) hb)
         have n1_ := aS (Kd.R_below (sR HO_284000.out) hb)
         have n2_ := aS (Kd.R_below (sR HO_284001.out) hb)
         have n3_ := aS (blk_below (g := gb266) (o := .cells #[.slice none 0 0, .slice none 0 0] 29 (0, 0)) (sB BK266.out) hb)
         have n4_ := aS (blk_below (g := gb283) (o := .cells #[.slice (some ad289) x284000_3.length co91, u284001] 29 (0, 0)) (sB BK283.out) hb)
         have n5_ := aS (blk_below (g := gb288) (o := .cells #[.int .i64 ((rd_T45 y284 x62_3).f0), .int .i64 ((rd_T45 y284 x62_3).f1)] 45 (0, 0)) (sB BK288.out) hb)
         have n6_ := aS (below_step (sW HB.out) hb)
         clear HO_60 HO_284000 HO_284001 BK266 BK283 BK288 HB
         have HO_60 := n0_; have HO_284000 := n1_; have HO_284001 := n2_; have BK266 := n3_; have BK283 := n4_; have BK288 := n5_; have HB := n6_
         clear n0_ n1_ n2_ n3_ n4_ n5_ n6_
         (try clear hb); (try clear hb2); (try clear hk); (try clear hi)
         refine hK.out _ _ ⟨(blk_cell BK283.out 0).trans rfl, (blk_cell BK283.out 1).trans rfl, (blk_cell BK288.out 0).trans rfl, (blk_cell BK288.out 1).trans rfl, HS4_, HS5_⟩ (fun hHeld => ?_)
         clear hK K
         refine norm_ (a' := ?_) ?_ ?_
         rotate_left
         ·
          show Act.put _ (some 77) _ = _
          exact sP
         refine pure_ (i := 12) (N := some 14) (v := ?_) (a' := ?_) (impl_LongestLine.bF 13 8191) rfl rfl (any_of HT_.out (by kernel_rfl)) (fun _ _ _ h => h) (Or.inl ⟨by rfl, ?_⟩) ?_ ?_
         rotate_left
         ·
          intro w'
          go_simp
          with_reducible rfl
         rotate_left
         ·
          exact sP
         refine done_ (done_of HT_.out (by kernel_rfl)) ?_
         try go_wp2
         have n0_ := aS (Kd.Q_drew HO_60.out)
         have n1_ := aS (Kd.R_drew HO_284000.out)
         have n2_ := aS (Kd.R_drew HO_284001.out)
         have n3_ := aS (blk_drew BK266.out)
         have n4_ := aS (blk_drew BK283.out)
         have n5_ := aS (blk_drew BK288.out)
         have n6_ := aS (below_drew1 HB.out)
         clear HO_60 HO_284000 HO_284001 BK266 BK283 BK288 HB
         have HO_60 := n0_; have HO_284000 := n1_; have HO_284001 := n2_; have BK266 := n3_; have BK283 := n4_; have BK288 := n5_; have HB := n6_
         clear n0_ n1_ n2_ n3_ n4_ n5_ n6_
         refine start_ (n := 12) (S := fun w' => True) (ds := []) #[false, false, false, false, false, false, false, false, false, false, false, false] (by kernel_rfl) rfl rfl trivial (fun hHeld => ?_); refine with_tabW impl_LongestLine.tab22 impl_LongestLine.bits22 (fun HT_ HW_ => ?_)
         generalize w92.drew = w93 at HO_60 HO_284000 HO_284001 BK266 BK283 BK288 HB hHeld ⊢
         refine pure_ (i := 0) (N := some 78) (v := ?_) (a' := ?_) (impl_LongestLine.bF 12 1) rfl rfl (any_of HT_.out (by kernel_rfl)) (fun _ _ _ h => h) (Or.inl ⟨by rfl, ?_⟩) ?_ ?_
         rotate_left
         ·
          intro w'
          go_simp
          with_reducible rfl
         rotate_left
         ·
          exact sP
         refine pure_ (i := 1) (N := some 79) (v := ?_) (a' := ?_) (impl_LongestLine.bF 12 3) rfl rfl (any_of HT_.out (by kernel_rfl)) (fun _ _ _ h => h) (Or.inl ⟨by rfl, ?_⟩) ?_ ?_
         rotate_left
         ·
          intro w'
          go_simp
          with_reducible rfl
         rotate_left
         ·
          exact sP
         refine pure_ (i := 2) (N := some 80) (v := ?_) (a' := ?_) (impl_LongestLine.bF 12 7) rfl rfl (any_of HT_.out (by kernel_rfl)) (fun _ _ _ h => h) (Or.inl ⟨by rfl, ?_⟩) ?_ ?_
         rotate_left
         ·
          intro w'
          go_simp
          with_reducible rfl
         rotate_left
         ·
          exact sP
         refine pure_ (i := 3) (N := some 81) (v := undef) (a' := ?_) (impl_LongestLine.bF 12 15) rfl rfl (any_of HT_.out (by kernel_rfl)) (fun _ _ _ h => h) (Or.inr ⟨by rfl, rfl⟩) ?_ ?_
         rotate_left
         ·
          exact sP
         refine pure_ (i := 4) (N := some 82) (v := undef) (a' := ?_) (impl_LongestLine.bF 12 31) rfl rfl (any_of HT_.out (by kernel_rfl)) (fun _ _ _ h => h) (Or.inr ⟨by rfl, rfl⟩) ?_ ?_
         rotate_left
         ·
          exact sP
         refine pure_ (i := 5) (N := some 83) (v := undef) (a' := ?_) (impl_LongestLine.bF 12 63) rfl rfl (any_of HT_.out (by kernel_rfl)) (fun _ _ _ h => h) (Or.inr ⟨by rfl, rfl⟩) ?_ ?_
         rotate_left
         ·
          exact sP
         refine pure_ (i := 6) (N := some 84) (v := undef) (a' := ?_) (impl_LongestLine.bF 12 127) rfl rfl (any_of HT_.out (by kernel_rfl)) (fun _ _ _ h => h) (Or.inr ⟨by rfl, rfl⟩) ?_ ?_
         rotate_left
         ·
          exact sP
         refine pure_ (i := 7) (N := some 85) (v := undef) (a' := ?_) (impl_LongestLine.bF 12 255) rfl rfl (any_of HT_.out (by kernel_rfl)) (fun _ _ _ h => h) (Or.inr ⟨by rfl, rfl⟩) ?_ ?_
         rotate_left
         ·
          exact sP
         refine pure_ (i := 8) (N := some 86) (v := undef) (a' := ?_) (impl_LongestLine.bF 12 511) rfl rfl (any_of HT_.out (by kernel_rfl)) (fun _ _ _ h => h) (Or.inr ⟨by rfl, rfl⟩) ?_ ?_
         rotate_left
         ·
          exact sP
         refine pure_ (i := 9) (N := some 87) (v := undef) (a' := ?_) (impl_LongestLine.bF 12 1023) rfl rfl (any_of HT_.out (by kernel_rfl)) (fun _ _ _ h => h) (Or.inr ⟨by rfl, rfl⟩) ?_ ?_
         rotate_left
         ·
          exact sP
         refine pure_ (i := 10) (N := some 88) (v := undef) (a' := ?_) (impl_LongestLine.bF 12 2047) rfl rfl (any_of HT_.out (by kernel_rfl)) (fun _ _ _ h => h) (Or.inr ⟨by rfl, rfl⟩) ?_ ?_
         rotate_left
         ·
          exact sP
         refine pure_ (i := 11) (N := some 89) (v := ?_) (a' := ?_) (impl_LongestLine.bF 12 4095) rfl rfl (any_of HT_.out (by kernel_rfl)) (fun _ _ _ h => h) (Or.inl ⟨by rfl, ?_⟩) ?_ ?_
         rotate_left
         ·
          intro w'
          go_simp
          with_reducible rfl
         rotate_left
         ·
          exact sP
         refine done_ (done_of HT_.out (by kernel_rfl)) ?_
         try go_wp2
         go_roundg k3
         case measure => have := HK1.out; have := HJ29.out; have := HK3.out; omega
         case rel => exact ⟨(wrap64 (x62_3 + 1)), (x284000_3), (x284001_3), (.slice (some ad289) x284000_3.length co91), (u284001), (by first | rfl | (simp; done) | (simp [*]; done) | (simp only [i64_w]; done) | (simp [i64_w]; done)), H', ⟨by have := HK1.out; have := HJ29.out; have := HK3.out; omega⟩, ⟨by (with_reducible repeat (first | apply Kd.Q_alloc | apply Kd.Q_drewN | apply Kd.Q_drew)); exact Kd.Q_mono HO_60.out (fun _ hk => hk.1)⟩, ⟨by (with_reducible repeat (first | apply Kd.R_alloc | apply Kd.R_drewN | apply Kd.R_drew)); exact Kd.R_mono HO_284000.out (fun _ hk => hk.1)⟩, ⟨by (with_reducible repeat (first | apply Kd.R_alloc | apply Kd.R_drewN | apply Kd.R_drew)); exact HO_284001.out⟩, ⟨by (with_reducible repeat (first | refine blk_drewN ?_ _ | refine blk_drew ?_ | refine blk_alloc ?_ _)); exact BK266.out⟩, ⟨by (with_reducible repeat (first | refine blk_drewN ?_ _ | refine blk_drew ?_ | refine blk_alloc ?_ _)); exact BK283.out⟩, ⟨by repeat (first | (with_reducible first | exact HB.out | apply below_alloc | apply pw_below_drewN | apply below_drew1 | refine below_set ?_ GE266.out | refine below_set ?_ GE283.out | refine below_set ?_ GE288.out) | exact HB.out)⟩⟩
        rw [if_pos c58] at H
        have c58b0 : decide (0 ≤ t290) = true := decide_eq_true c58
        clear c58
        by_cases c59 : 0 ≤ t290
        rotate_left
        ·
         rw [if_neg c59] at H
         exact absurd H (by simp)
        rw [if_pos c59] at H
        have c59b0 : decide (0 ≤ t290) = true := decide_eq_true c59
        clear c59
        by_cases c60 : t290 < (l0.length : Int)
        rotate_left
        ·
         rw [if_neg c60] at H
         exact absurd H (by simp)
        rw [if_pos c60] at H
        have c60b0 : decide (t290 < (l0.length : Int)) = true := decide_eq_true c60
        clear c60
        have HC61 := aS H
        clear H
        have p287 : 0 ≤ (x62_3 : Int) := of_decide_eq_true (by first | (with_reducible assumption) | assumption)
        have q287 : x62_3 < (y284.length : Int) := of_decide_eq_true (by first | (with_reducible assumption) | assumption)
        obtain ⟨ad287, e287, hx287_0, hx287_1⟩ := at_T45 (Kd.Q_reads' HO_60.out).2.2 x62_3 p287 q287
        cases e287
        replace p287 := eq_true p287
        replace q287 := eq_true q287
        try go_wp2_with (first | ((with_reducible refine gate_dst (N := 13) rfl ?_); (try (refine gate_guard (by rfl) ?_; dsimp only)); refine box_event ?hg (N := 13) ?hd (cs := #[.int .i64 0, .int .i64 0]) (t := 45) ?hr ?_; (case hd => rfl); (case hg => rfl); (case hr => first | (go_simp; done) | (go_simp; rfl)); intro gb288 hg w62 hbox hb; have n0_ := aS (Kd.Q_below (Kd.Q_elderB (by (with_reducible repeat (first | apply Kd.Q_alloc | apply Kd.Q_drewN | apply Kd.Q_drew)); exact HO_60.out) gb288 (Nat.le_of_eq hg.symm)) hb); have n1_ := aS (Kd.R_below (Kd.R_elderB (sR HO_284000.out) gb288 (Nat.le_of_eq hg.symm)) hb); have n2_ := aS (Kd.R_below (sR HO_284001.out) hb); have n3_ := aS (blk_below (g := gb266) (o := .cells #[.slice none 0 0, .slice none 0 0] 29 (0, 0)) (sB BK266.out) hb); have n4_ := aS (blk_below (g := gb283) (o := .cells #[u284000, u284001] 29 (0, 0)) (sB BK283.out) hb); have n5_ := aS (below_step (sW HB.out) hb); have n6_ := aS (hbox); have n7_ := aS ((by rw [hg]; exact (below_size (sW HB.out)) : w.heap.size ≤ gb288)); have n8_ := aS ((by rw [hg]; exact (below_size (sW HB.out)) : w.heap.size ≤ gb288)); have n9_ := aS ((by rw [hg]; exact Nat.ne_of_lt (blk_lt (g := gb266) (o := .cells #[.slice none 0 0, .slice none 0 0] 29 (0, 0)) (sB BK266.out)) : gb266 ≠ gb288)); have n10_ := aS ((by rw [hg]; exact Nat.ne_of_gt (blk_lt (g := gb266) (o := .cells #[.slice none 0 0, .slice none 0 0] 29 (0, 0)) (sB BK266.out)) : gb288 ≠ gb266)); have n11_ := aS ((by rw [hg]; exact Nat.ne_of_lt (blk_lt (g := gb283) (o := .cells #[u284000, u284001] 29 (0, 0)) (sB BK283.out)) : gb283 ≠ gb288)); have n12_ := aS ((by rw [hg]; exact Nat.ne_of_gt (blk_lt (g := gb283) (o := .cells #[u284000, u284001] 29 (0, 0)) (sB BK283.out)) : gb288 ≠ gb283)); clear HO_60 HO_284000 HO_284001 BK266 BK283 HB; have HO_60 := n0_; have HO_284000 := n1_; have HO_284001 := n2_; have BK266 := n3_; have BK283 := n4_; have HB := n5_; have BK288 := n6_; have GW288 := n7_; have GE288 := n8_; have NB266_288 := n9_; have NB288_266 := n10_; have NB283_288 := n11_; have NB288_283 := n12_; clear n0_ n1_ n2_ n3_ n4_ n5_ n6_ n7_ n8_ n9_ n10_ n11_ n12_; clear hb hbox hg; have hnb63 := NB288_266.out; have hnc63 := NB266_288.out; have hnb64 := NB288_283.out; have hnc64 := NB283_288.out; have hcz65_0 : w62.cell? ⟨gb288, 0, none⟩ = some (.int .i64 0) := (blk_cell BK288.out 0).trans rfl; have hcz65_1 : w62.cell? ⟨gb288, 1, none⟩ = some (.int .i64 0) := (blk_cell BK288.out 1).trans rfl; have hfz65_0 := blk_frozen BK288.out 0; have hfz65_1 := blk_frozen BK288.out 1))
        have n0_ : Aside0 (Kd.Q k45 45 ((w62.setCell ⟨gb288, 0, none⟩ (.int .i64 ((rd_T45 y284 x62_3).f0))).setCell ⟨gb288, 1, none⟩ (.int .i64 ((rd_T45 y284 x62_3).f1))) w.heap.size (fun k_ => some k_ ≠ (u284000 : Value).ownBlock ∧ k_ ≠ gb288) (.slice (some ad287) y284.length c50) y284) := ⟨by (with_reducible repeat (first | apply Kd.Q_alloc | apply Kd.Q_drewN | apply Kd.Q_drew)); exact Kd.Q_mono (Kd.Q_far (p := ⟨gb288, 1, none⟩) (Kd.Q_far (p := ⟨gb288, 0, none⟩) (Kd.Q_mono HO_60.out (fun k_ hk => (⟨hk, hk.2⟩ : _ ∧ k_ ≠ gb288))) (fun _ hk => hk.2) (.int .i64 ((rd_T45 y284 x62_3).f0))) (fun _ hk => hk.2) (.int .i64 ((rd_T45 y284 x62_3).f1))) (fun _ hk => ⟨hk.1.1, hk.1.2⟩)⟩
        have n1_ : Aside0 (Kd.R k45 45 ((w62.setCell ⟨gb288, 0, none⟩ (.int .i64 ((rd_T45 y284 x62_3).f0))).setCell ⟨gb288, 1, none⟩ (.int .i64 ((rd_T45 y284 x62_3).f1))) w.heap.size (fun k_ => some k_ ≠ (.slice (some ad287) y284.length c50 : Value).ownBlock ∧ k_ ≠ gb288) u284000 x284000_3) := ⟨by (with_reducible repeat (first | apply Kd.R_alloc | apply Kd.R_drewN | apply Kd.R_drew)); exact Kd.R_mono (Kd.R_far (p := ⟨gb288, 1, none⟩) (Kd.R_far (p := ⟨gb288, 0, none⟩) (Kd.R_mono HO_284000.out (fun k_ hk => (⟨hk, hk.2⟩ : _ ∧ k_ ≠ gb288))) (fun _ hk => hk.2) (.int .i64 ((rd_T45 y284 x62_3).f0))) (fun _ hk => hk.2) (.int .i64 ((rd_T45 y284 x62_3).f1))) (fun _ hk => ⟨hk.1.1, hk.1.2⟩)⟩
        have n2_ : Aside0 (Kd.R (Kd.int .i64) 2 ((w62.setCell ⟨gb288, 0, none⟩ (.int .i64 ((rd_T45 y284 x62_3).f0))).setCell ⟨gb288, 1, none⟩ (.int .i64 ((rd_T45 y284 x62_3).f1))) w.heap.size (fun _ => True) u284001 x284001_3) := ⟨by (with_reducible repeat (first | apply Kd.R_alloc | apply Kd.R_drewN | apply Kd.R_drew)); exact Kd.R_mono (Kd.R_far (p := ⟨gb288, 1, none⟩) (Kd.R_far (p := ⟨gb288, 0, none⟩) (Kd.R_types HO_284001.out BK288.out (by decide)) (fun _ hk => hk.2) (.int .i64 ((rd_T45 y284 x62_3).f0))) (fun _ hk => hk.2) (.int .i64 ((rd_T45 y284 x62_3).f1))) (fun _ hk => trivial)⟩
        have n3_ : Aside0 (((w62.setCell ⟨gb288, 0, none⟩ (.int .i64 ((rd_T45 y284 x62_3).f0))).setCell ⟨gb288, 1, none⟩ (.int .i64 ((rd_T45 y284 x62_3).f1))).heap[gb266]? = some (.cells #[.slice none 0 0, .slice none 0 0] 29 (0, 0))) := ⟨by (with_reducible repeat (first | refine blk_drewN ?_ _ | refine blk_drew ?_ | refine blk_alloc ?_ _)); refine blk_far ?_ NB266_288.out _; (with_reducible repeat (first | refine blk_drewN ?_ _ | refine blk_drew ?_ | refine blk_alloc ?_ _)); refine blk_far ?_ NB266_288.out _; (with_reducible repeat (first | refine blk_drewN ?_ _ | refine blk_drew ?_ | refine blk_alloc ?_ _)); exact BK266.out⟩
        have n4_ : Aside0 (((w62.setCell ⟨gb288, 0, none⟩ (.int .i64 ((rd_T45 y284 x62_3).f0))).setCell ⟨gb288, 1, none⟩ (.int .i64 ((rd_T45 y284 x62_3).f1))).heap[gb283]? = some (.cells #[u284000, u284001] 29 (0, 0))) := ⟨by (with_reducible repeat (first | refine blk_drewN ?_ _ | refine blk_drew ?_ | refine blk_alloc ?_ _)); refine blk_far ?_ NB283_288.out _; (with_reducible repeat (first | refine blk_drewN ?_ _ | refine blk_drew ?_ | refine blk_alloc ?_ _)); refine blk_far ?_ NB283_288.out _; (with_reducible repeat (first | refine blk_drewN ?_ _ | refine blk_drew ?_ | refine blk_alloc ?_ _)); exact BK283.out⟩
        have n5_ : Aside0 (((w62.setCell ⟨gb288, 0, none⟩ (.int .i64 ((rd_T45 y284 x62_3).f0))).setCell ⟨gb288, 1, none⟩ (.int .i64 ((rd_T45 y284 x62_3).f1))).heap[gb288]? = some (.cells #[.int .i64 ((rd_T45 y284 x62_3).f0), .int .i64 ((rd_T45 y284 x62_3).f1)] 45 (0, 0))) := ⟨by (with_reducible repeat (first | refine blk_drewN ?_ _ | refine blk_drew ?_ | refine blk_alloc ?_ _)); refine blk_put (cs := #[.int .i64 ((rd_T45 y284 x62_3).f0), .int .i64 0]) ?_ 1 _ rfl; (with_reducible repeat (first | refine blk_drewN ?_ _ | refine blk_drew ?_ | refine blk_alloc ?_ _)); refine blk_put (cs := #[.int .i64 0, .int .i64 0]) ?_ 0 _ rfl; (with_reducible repeat (first | refine blk_drewN ?_ _ | refine blk_drew ?_ | refine blk_alloc ?_ _)); exact BK288.out⟩
        have n6_ : Aside0 (Below w.heap.size w ((w62.setCell ⟨gb288, 0, none⟩ (.int .i64 ((rd_T45 y284 x62_3).f0))).setCell ⟨gb288, 1, none⟩ (.int .i64 ((rd_T45 y284 x62_3).f1)))) := ⟨by repeat (first | (with_reducible first | exact HB.out | apply below_alloc | apply pw_below_drewN | apply below_drew1 | refine below_set ?_ GE266.out | refine below_set ?_ GE283.out | refine below_set ?_ GE288.out) | exact HB.out)⟩
        (try clear HO_60); (try clear HO_284000); (try clear HO_284001); (try clear BK266); (try clear BK283); (try clear BK288); (try clear HB)
        generalize ((w62.setCell ⟨gb288, 0, none⟩ (.int .i64 ((rd_T45 y284 x62_3).f0))).setCell ⟨gb288, 1, none⟩ (.int .i64 ((rd_T45 y284 x62_3).f1))) = w66 at n0_ n1_ n2_ n3_ n4_ n5_ n6_ ⊢
        have HO_60 := n0_; have HO_284000 := n1_; have HO_284001 := n2_; have BK266 := n3_; have BK283 := n4_; have BK288 := n5_; have HB := n6_
        clear n0_ n1_ n2_ n3_ n4_ n5_ n6_
        have n0_ := aS (Kd.Q_drew HO_60.out)
        have n1_ := aS (Kd.R_drew HO_284000.out)
        have n2_ := aS (Kd.R_drew HO_284001.out)
        have n3_ := aS (blk_drew BK266.out)
        have n4_ := aS (blk_drew BK283.out)
        have n5_ := aS (blk_drew BK288.out)
        have n6_ := aS (below_drew1 HB.out)
        clear HO_60 HO_284000 HO_284001 BK266 BK283 BK288 HB
        have HO_60 := n0_; have HO_284000 := n1_; have HO_284001 := n2_; have BK266 := n3_; have BK283 := n4_; have BK288 := n5_; have HB := n6_
        clear n0_ n1_ n2_ n3_ n4_ n5_ n6_
        obtain ⟨Ao68, co68, eo68⟩ := Kd.R_slice HO_284000.out
        (first | subst eo68 | (injection eo68 with f1_ f2_ f3_; have f4_ := f1_.symm; have f5_ := f3_.symm; clear f1_ f2_ f3_; subst f4_; subst f5_))
        have p289 : 0 ≤ ((ji54) : Int) := of_decide_eq_true (by first | (with_reducible assumption) | assumption)
        have q289 : (ji54) < (x284000_3.length : Int) := of_decide_eq_true (by first | (with_reducible assumption) | assumption)
        obtain ⟨ad289, e289, hx289_0, hx289_1⟩ := at_T45 (Kd.R_reads' HO_284000.out).2.2 (ji54) p289 q289
        cases e289
        replace p289 := eq_true p289
        replace q289 := eq_true q289
        refine start_ (n := 13) (S := fun w' => w'.cell? ⟨gb283, 0, none⟩ = some (.slice (some ad289) x284000_3.length co68) ∧ w'.cell? ⟨gb283, 1, none⟩ = some (u284001) ∧ w'.cell? ⟨gb288, 0, none⟩ = some (.int .i64 ((rd_T45 y284 x62_3).f0)) ∧ w'.cell? ⟨gb288, 1, none⟩ = some (.int .i64 ((rd_T45 y284 x62_3).f1)) ∧ w'.cell? (ad289.add (((ji54)).toNat * 2)) = some (.int .i64 ((rd_T45 x284000_3 (ji54)).f0)) ∧ w'.cell? ⟨(ad289.add (((ji54)).toNat * 2)).block, (ad289.add (((ji54)).toNat * 2)).off + 1, none⟩ = some (.int .i64 ((rd_T45 x284000_3 (ji54)).f1))) (ds := []) #[false, false, false, false, false, false, false, false, false, false, false, false, false] (by kernel_rfl) rfl rfl ⟨(blk_cell BK283.out 0).trans rfl, (blk_cell BK283.out 1).trans rfl, (blk_cell BK288.out 0).trans rfl, (blk_cell BK288.out 1).trans rfl, hx289_0, hx289_1⟩ (fun hHeld => ?_); refine with_tabW impl_LongestLine.tab21 impl_LongestLine.bits21 (fun HT_ HW_ => ?_)
        generalize w66.drew = w67 at HO_60 HO_284000 HO_284001 BK266 BK283 BK288 HB hx289_0 hx289_1 hHeld ⊢
        refine pure_ (i := 0) (N := some 66) (v := ?_) (a' := ?_) (impl_LongestLine.bF 13 1) rfl rfl (any_of HT_.out (by kernel_rfl)) (fun _ _ _ h => h) (Or.inl ⟨by rfl, ?_⟩) ?_ ?_
        rotate_left
        ·
         intro w'
         go_simp
         with_reducible rfl
        rotate_left
        ·
         exact sP
        refine pure_ (i := 1) (N := some 67) (v := ?_) (a' := ?_) (impl_LongestLine.bF 13 3) rfl rfl (any_of HT_.out (by kernel_rfl)) (fun _ _ _ h => h) (Or.inl ⟨by rfl, ?_⟩) ?_ ?_
        rotate_left
        ·
         intro w'
         go_simp
         with_reducible rfl
        rotate_left
        ·
         exact sP
        refine pure_ (i := 3) (N := some 69) (v := ?_) (a' := ?_) (impl_LongestLine.bF 13 11) rfl rfl (any_of HT_.out (by kernel_rfl)) (fun _ _ _ h => h) (Or.inl ⟨by rfl, ?_⟩) ?_ ?_
        rotate_left
        ·
         intro w'
         go_simp
         with_reducible rfl
        rotate_left
        ·
         exact sP
        refine pure_ (i := 10) (N := some 76) (v := ?_) (a' := ?_) (impl_LongestLine.bF 13 1035) rfl rfl (any_of HT_.out (by kernel_rfl)) (fun _ _ _ h => h) (Or.inl ⟨by rfl, ?_⟩) ?_ ?_
        rotate_left
        ·
         intro w'
         go_simp
         with_reducible rfl
        rotate_left
        ·
         exact sP
        refine take_ (i := 2) (N := some 68) (v := ?_) (a' := ?_) (impl_LongestLine.bF 13 1039) rfl rfl (take_ofW HT_.out HW_.out (by kernel_rfl)) (fun _ _ _ h => h) (Or.inl ⟨by rfl, ?_⟩) hHeld ?_ ?_
        rotate_left
        ·
         rintro w' ⟨s0, s1, s2, s3, s4, s5⟩
         go_simp
         with_reducible rfl
        rotate_left
        ·
         exact sP
        refine take_ (i := 4) (N := some 70) (v := ?_) (a' := ?_) (impl_LongestLine.bF 13 1055) rfl rfl (take_ofW HT_.out HW_.out (by kernel_rfl)) (fun _ _ _ h => h) (Or.inl ⟨by rfl, ?_⟩) hHeld ?_ ?_
        rotate_left
        ·
         rintro w' ⟨s0, s1, s2, s3, s4, s5⟩
         go_simp
         with_reducible rfl
        rotate_left
        ·
         exact sP
        refine pure_ (i := 5) (N := some 71) (v := ?_) (a' := ?_) (impl_LongestLine.bF 13 1087) rfl rfl (any_of HT_.out (by kernel_rfl)) (fun _ _ _ h => h) (Or.inl ⟨by rfl, ?_⟩) ?_ ?_
        rotate_left
        ·
         intro w'
         go_simp
         with_reducible rfl
        rotate_left
        ·
         exact sP
        refine pure_ (i := 6) (N := some 72) (v := ?_) (a' := ?_) (impl_LongestLine.bF 13 1151) rfl rfl (any_of HT_.out (by kernel_rfl)) (fun _ _ _ h => h) (Or.inl ⟨by rfl, ?_⟩) ?_ ?_
        rotate_left
        ·
         intro w'
         go_simp
         with_reducible rfl
        rotate_left
        ·
         exact sP
        refine pure_ (i := 7) (N := some 73) (v := ?_) (a' := ?_) (impl_LongestLine.bF 13 1279) rfl rfl (any_of HT_.out (by kernel_rfl)) (fun _ _ _ h => h) (Or.inl ⟨by rfl, ?_⟩) ?_ ?_
        rotate_left
        ·
         intro w'
         go_simp
         with_reducible rfl
        rotate_left
        ·
         exact sP
        refine take_ (i := 8) (N := some 74) (v := ?_) (a' := ?_) (impl_LongestLine.bF 13 1535) rfl rfl (take_ofW HT_.out HW_.out (by kernel_rfl)) (fun _ _ _ h => h) (Or.inl ⟨by rfl, ?_⟩) hHeld ?_ ?_
        rotate_left
        ·
         rintro w' ⟨s0, s1, s2, s3, s4, s5⟩
         go_simp
         with_reducible rfl
        rotate_left
        ·
         exact sP
        refine take_ (i := 9) (N := some 75) (v := ?_) (a' := ?_) (impl_LongestLine.bF 13 2047) rfl rfl (take_ofW HT_.out HW_.out (by kernel_rfl)) (fun _ _ _ h => h) (Or.inl ⟨by rfl, ?_⟩) hHeld ?_ ?_
        rotate_left
        ·
         rintro w' ⟨s0, s1, s2, s3, s4, s5⟩
         go_simp
         with_reducible rfl
        rotate_left
        ·
         exact sP
        refine one_ (i := 11) (N := some 77) #[true, true, true, true, true, true, true, true, true, true, true, true, false] rfl rfl (one_of HT_.out (by kernel_rfl)) (by decide) (fun K hK => ?_)
        refine goes_ Try.func55 (by kernel_rfl) rfl #[.slice A0 l0.length c0, .agg #[.int .i64 ((rd_T45 x284000_3 (ji54)).f0), .int .i64 ((rd_T45 x284000_3 (ji54)).f1)], .agg #[.int .i64 ((rd_T45 y284 x62_3).f0), .int .i64 ((rd_T45 y284 x62_3).f1)], .int .i64 a2] (by rfl) rfl rfl (by (try simp only [List.map_toArray, List.map_cons, List.map_nil]); first | done | (simp only [hji54]; rfl) | rfl | (simp only [List.length_drop, List.length_take]; rfl)) ?_
        with_reducible refine (impl_bestJoin.calls k3 _ _ l0 ((rd_T45 x284000_3 (ji54)).f0) ((rd_T45 x284000_3 (ji54)).f1) ((rd_T45 y284 x62_3).f0) ((rd_T45 y284 x62_3).f1) a2 t290 _ ?side1 ?side2 A57.out).mono ?_
        (case side1 => exact sC (Kd.C_below HR0.out HB.out))
        (case side2 => exact HC0.out)
        rintro e w69 ⟨rfl, hb⟩
        have HS4_ := (hb.cell (World.block_lt_of_cell? _ _ (hHeld.2.2.2.2.1))).trans (hHeld.2.2.2.2.1)
        have HS5_ := (hb.cell (World.block_lt_of_cell? _ _ (hHeld.2.2.2.2.2))).trans (hHeld.2.2.2.2.2)
        refine ⟨_, rfl, ?_⟩
        have n0_ := aS (Kd.Q_below (by (with_reducible repeat (first | apply Kd.Q_alloc | apply Kd.Q_drewN | apply Kd.Q_drew)); exact HO_60.out) hb)
        have n1_ := aS (Kd.R_below (sR HO_284000.out) hb)
        have n2_ := aS (Kd.R_below (sR HO_284001.out) hb)
        have n3_ := aS (blk_below (g := gb266) (o := .cells #[.slice none 0 0, .slice none 0 0] 29 (0, 0)) (sB BK266.out) hb)
        have n4_ := aS (blk_below (g := gb283) (o := .cells #[.slice (some ad289) x284000_3.length co68, u284001] 29 (0, 0)) (sB BK283.out) hb)
        have n5_ := aS (blk_below (g := gb288) (o := .cells #[.int .i64 ((rd_T45 y284 x62_3).f0), .int .i64 ((rd_T45 y284 x62_3).f1)] 45 (0, 0)) (sB BK288.out) hb)
        have n6_ := aS (below_step (sW HB.out) hb)
        clear HO_60 HO_284000 HO_284001 BK266 BK283 BK288 HB
        have HO_60 := n0_; have HO_284000 := n1_; have HO_284001 := n2_; have BK266 := n3_; have BK283 := n4_; have BK288 := n5_; have HB := n6_
        clear n0_ n1_ n2_ n3_ n4_ n5_ n6_
        (try clear hb); (try clear hb2); (try clear hk); (try clear hi)
        refine hK.out _ _ ⟨(blk_cell BK283.out 0).trans rfl, (blk_cell BK283.out 1).trans rfl, (blk_cell BK288.out 0).trans rfl, (blk_cell BK288.out 1).trans rfl, HS4_, HS5_⟩ (fun hHeld => ?_)
        clear hK K
        refine norm_ (a' := ?_) ?_ ?_
        rotate_left
        ·
         show Act.put _ (some 77) _ = _
         exact sP
        refine pure_ (i := 12) (N := some 14) (v := ?_) (a' := ?_) (impl_LongestLine.bF 13 8191) rfl rfl (any_of HT_.out (by kernel_rfl)) (fun _ _ _ h => h) (Or.inl ⟨by rfl, ?_⟩) ?_ ?_
        rotate_left
        ·
         intro w'
         go_simp
         with_reducible rfl
        rotate_left
        ·
         exact sP
        refine done_ (done_of HT_.out (by kernel_rfl)) ?_
        try go_wp2
        have n0_ := aS (Kd.Q_drew HO_60.out)
        have n1_ := aS (Kd.R_drew HO_284000.out)
        have n2_ := aS (Kd.R_drew HO_284001.out)
        have n3_ := aS (blk_drew BK266.out)
        have n4_ := aS (blk_drew BK283.out)
        have n5_ := aS (blk_drew BK288.out)
        have n6_ := aS (below_drew1 HB.out)
        clear HO_60 HO_284000 HO_284001 BK266 BK283 BK288 HB
        have HO_60 := n0_; have HO_284000 := n1_; have HO_284001 := n2_; have BK266 := n3_; have BK283 := n4_; have BK288 := n5_; have HB := n6_
        clear n0_ n1_ n2_ n3_ n4_ n5_ n6_
        have p291 : 0 ≤ (t290 : Int) := of_decide_eq_true (by first | (with_reducible assumption) | assumption)
        have q291 : t290 < (l0.length : Int) := of_decide_eq_true (by first | (with_reducible assumption) | assumption)
        obtain ⟨ad291, e291, hx291_0, hx291_1, hx291_2⟩ := at_T61 HR0.out t290 p291 q291
        have hw291_2 := hx291_2
        have hw291_1 := hx291_1
        have hw291_0 := hx291_0
        cases e291
        replace hx291_0 := (HB.out.cell (World.block_lt_of_cell? w _ hx291_0)).trans hx291_0
        replace hx291_1 := (HB.out.cell (World.block_lt_of_cell? w _ hx291_1)).trans hx291_1
        replace hx291_2 := (HB.out.cell (World.block_lt_of_cell? w _ hx291_2)).trans hx291_2
        replace p291 := eq_true p291
        replace q291 := eq_true q291
        refine start_ (n := 12) (S := fun w' => w'.cell? ⟨gb288, 0, none⟩ = some (.int .i64 ((rd_T45 y284 x62_3).f0)) ∧ w'.cell? ⟨gb288, 1, none⟩ = some (.int .i64 ((rd_T45 y284 x62_3).f1)) ∧ w'.cell? (ad291.add ((t290).toNat * 3)) = some (.string ((rd_T61 l0 t290).f0)) ∧ w'.cell? ⟨(ad291.add ((t290).toNat * 3)).block, (ad291.add ((t290).toNat * 3)).off + 1, none⟩ = some (.int .i64 ((rd_T61 l0 t290).f1)) ∧ w'.cell? ⟨(ad291.add ((t290).toNat * 3)).block, (ad291.add ((t290).toNat * 3)).off + 2, none⟩ = some (.int .i64 ((rd_T61 l0 t290).f2))) (ds := []) #[false, false, false, false, false, false, false, false, false, false, false, false] (by kernel_rfl) rfl rfl ⟨(blk_cell BK288.out 0).trans rfl, (blk_cell BK288.out 1).trans rfl, ((HB.out.cell (World.block_lt_of_cell? w _ hw291_0)).trans hw291_0), ((HB.out.cell (World.block_lt_of_cell? w _ hw291_1)).trans hw291_1), ((HB.out.cell (World.block_lt_of_cell? w _ hw291_2)).trans hw291_2)⟩ (fun hHeld => ?_); refine with_tabW impl_LongestLine.tab22 impl_LongestLine.bits22 (fun HT_ HW_ => ?_)
        generalize w69.drew = w70 at HO_60 HO_284000 HO_284001 BK266 BK283 BK288 HB hx291_0 hx291_1 hx291_2 hHeld ⊢
        refine pure_ (i := 0) (N := some 78) (v := ?_) (a' := ?_) (impl_LongestLine.bF 12 1) rfl rfl (any_of HT_.out (by kernel_rfl)) (fun _ _ _ h => h) (Or.inl ⟨by rfl, ?_⟩) ?_ ?_
        rotate_left
        ·
         intro w'
         go_simp
         with_reducible rfl
        rotate_left
        ·
         exact sP
        refine pure_ (i := 1) (N := some 79) (v := ?_) (a' := ?_) (impl_LongestLine.bF 12 3) rfl rfl (any_of HT_.out (by kernel_rfl)) (fun _ _ _ h => h) (Or.inl ⟨by rfl, ?_⟩) ?_ ?_
        rotate_left
        ·
         intro w'
         go_simp
         with_reducible rfl
        rotate_left
        ·
         exact sP
        refine pure_ (i := 2) (N := some 80) (v := ?_) (a' := ?_) (impl_LongestLine.bF 12 7) rfl rfl (any_of HT_.out (by kernel_rfl)) (fun _ _ _ h => h) (Or.inl ⟨by rfl, ?_⟩) ?_ ?_
        rotate_left
        ·
         intro w'
         go_simp
         with_reducible rfl
        rotate_left
        ·
         exact sP
        refine pure_ (i := 3) (N := some 81) (v := ?_) (a' := ?_) (impl_LongestLine.bF 12 15) rfl rfl (any_of HT_.out (by kernel_rfl)) (fun _ _ _ h => h) (Or.inl ⟨by rfl, ?_⟩) ?_ ?_
        rotate_left
        ·
         intro w'
         go_simp
         with_reducible rfl
        rotate_left
        ·
         exact sP
        refine pure_ (i := 4) (N := some 82) (v := ?_) (a' := ?_) (impl_LongestLine.bF 12 31) rfl rfl (any_of HT_.out (by kernel_rfl)) (fun _ _ _ h => h) (Or.inl ⟨by rfl, ?_⟩) ?_ ?_
        rotate_left
        ·
         intro w'
         go_simp
         with_reducible rfl
        rotate_left
        ·
         exact sP
        refine pure_ (i := 5) (N := some 83) (v := ?_) (a' := ?_) (impl_LongestLine.bF 12 63) rfl rfl (any_of HT_.out (by kernel_rfl)) (fun _ _ _ h => h) (Or.inl ⟨by rfl, ?_⟩) ?_ ?_
        rotate_left
        ·
         intro w'
         go_simp
         with_reducible rfl
        rotate_left
        ·
         exact sP
        refine pure_ (i := 6) (N := some 84) (v := ?_) (a' := ?_) (impl_LongestLine.bF 12 127) rfl rfl (any_of HT_.out (by kernel_rfl)) (fun _ _ _ h => h) (Or.inl ⟨by rfl, ?_⟩) ?_ ?_
        rotate_left
        ·
         intro w'
         go_simp
         with_reducible rfl
        rotate_left
        ·
         exact sP
        refine pure_ (i := 8) (N := some 86) (v := ?_) (a' := ?_) (impl_LongestLine.bF 12 383) rfl rfl (any_of HT_.out (by kernel_rfl)) (fun _ _ _ h => h) (Or.inl ⟨by rfl, ?_⟩) ?_ ?_
        rotate_left
        ·
         intro w'
         go_simp
         with_reducible rfl
        rotate_left
        ·
         exact sP
        refine take_ (i := 7) (N := some 85) (v := ?_) (a' := ?_) (impl_LongestLine.bF 12 511) rfl rfl (take_ofW HT_.out HW_.out (by kernel_rfl)) (fun _ _ _ h => h) (Or.inl ⟨by rfl, ?_⟩) hHeld ?_ ?_
        rotate_left
        ·
         rintro w' ⟨s0, s1, s2, s3, s4⟩
         go_simp
         with_reducible rfl
        rotate_left
        ·
         exact sP
        refine take_ (i := 9) (N := some 87) (v := ?_) (a' := ?_) (impl_LongestLine.bF 12 1023) rfl rfl (take_ofW HT_.out HW_.out (by kernel_rfl)) (fun _ _ _ h => h) (Or.inl ⟨by rfl, ?_⟩) hHeld ?_ ?_
        rotate_left
        ·
         rintro w' ⟨s0, s1, s2, s3, s4⟩
         go_simp
         with_reducible rfl
        rotate_left
        ·
         exact sP
        refine pure_ (i := 10) (N := some 88) (v := ?_) (a' := ?_) (impl_LongestLine.bF 12 2047) rfl rfl (any_of HT_.out (by kernel_rfl)) (fun _ _ _ h => h) (Or.inl ⟨by rfl, ?_⟩) ?_ ?_
        rotate_left
        ·
         intro w'
         go_simp
         with_reducible rfl
        rotate_left
        ·
         exact sP
        refine pure_ (i := 11) (N := some 89) (v := ?_) (a' := ?_) (impl_LongestLine.bF 12 4095) rfl rfl (any_of HT_.out (by kernel_rfl)) (fun _ _ _ h => h) (Or.inl ⟨by rfl, ?_⟩) ?_ ?_
        rotate_left
        ·
         intro w'
         go_simp
         with_reducible rfl
        rotate_left
        ·
         exact sP
        refine done_ (done_of HT_.out (by kernel_rfl)) ?_
        go_upto_if 89 with (fail)
        have H := HC61.out
        clear HC61
        by_cases c71 : ((rd_T61 l0 t290).f2) < ((rd_T45 y284 x62_3).f1)
        rotate_left
        ·
         rw [if_neg c71] at H
         have c71b0 : decide (((rd_T61 l0 t290).f2) < ((rd_T45 y284 x62_3).f1)) = false := decide_eq_false c71
         clear c71
         (first | rw [c71b0] | (simp only [i64_w, i32_w]; rw [c71b0]) | (rw [c71b2]; simp only [Bool.not_false, Bool.not_true]) | skip)
         have H' := aS H
         clear H
         go_wp2
         go_roundg k3
         case measure => have := HK1.out; have := HJ29.out; have := HK3.out; omega
         case rel => exact ⟨(wrap64 (x62_3 + 1)), (x284000_3), (x284001_3), (.slice (some ad289) x284000_3.length co68), (u284001), (by first | rfl | (simp; done) | (simp [*]; done) | (simp only [i64_w]; done) | (simp [i64_w]; done)), H', ⟨by have := HK1.out; have := HJ29.out; have := HK3.out; omega⟩, ⟨by (with_reducible repeat (first | apply Kd.Q_alloc | apply Kd.Q_drewN | apply Kd.Q_drew)); exact Kd.Q_mono HO_60.out (fun _ hk => hk.1)⟩, ⟨by (with_reducible repeat (first | apply Kd.R_alloc | apply Kd.R_drewN | apply Kd.R_drew)); exact Kd.R_mono HO_284000.out (fun _ hk => hk.1)⟩, ⟨by (with_reducible repeat (first | apply Kd.R_alloc | apply Kd.R_drewN | apply Kd.R_drew)); exact HO_284001.out⟩, ⟨by (with_reducible repeat (first | refine blk_drewN ?_ _ | refine blk_drew ?_ | refine blk_alloc ?_ _)); exact BK266.out⟩, ⟨by (with_reducible repeat (first | refine blk_drewN ?_ _ | refine blk_drew ?_ | refine blk_alloc ?_ _)); exact BK283.out⟩, ⟨by repeat (first | (with_reducible first | exact HB.out | apply below_alloc | apply pw_below_drewN | apply below_drew1 | refine below_set ?_ GE266.out | refine below_set ?_ GE283.out | refine below_set ?_ GE288.out) | exact HB.out)⟩⟩
        rw [if_pos c71] at H
        have c71b0 : decide (((rd_T61 l0 t290).f2) < ((rd_T45 y284 x62_3).f1)) = true := decide_eq_true c71
        clear c71
        (first | rw [c71b0] | (simp only [i64_w, i32_w]; rw [c71b0]) | (rw [c71b2]; simp only [Bool.not_false, Bool.not_true]) | skip)
        by_cases c72 : x284000_3.length < 8796093022208
        rotate_left
        ·
         rw [if_neg c72] at H
         exact absurd H (by simp)
        rw [if_pos c72] at H
        have LMc72 := aS c72
        clear c72
        obtain ⟨y292, hy292⟩ : ∃ y_ : List (S45), y_ = (x284000_3 ++ [(⟨(rd_T45 y284 x62_3).f0, (rd_T45 y284 x62_3).f1⟩ : S45)]) := ⟨_, rfl⟩
        replace H : (if x284001_3.length < 17592186044416 then (impl_LongestLine.l1 k3 l0 a2 y284 (y284.length : Int) (wrap64 (x62_3 + 1)) y292 (x284001_3 ++ [t290])) else (none)) = some (r1, r2, r3) := by first | (rw [hy292]; with_reducible exact H) | (have H2_ := (Option.bind_some _ _).symm.trans H; rw [hy292]; with_reducible exact H2_) | (have H2_ := (Option.bind_some _ _).symm.trans H; with_reducible exact H2_) | with_reducible exact H | (rw [hy292]; exact H) | exact H
        have Ny292 := aS hy292
        clear hy292
        by_cases c73 : x284001_3.length < 17592186044416
        rotate_left
        ·
         rw [if_neg c73] at H
         exact absurd H (by simp)
        rw [if_pos c73] at H
        have LMc73 := aS c73
        clear c73
        obtain ⟨y295, hy295⟩ : ∃ y_ : List Int, y_ = (x284001_3 ++ [t290]) := ⟨_, rfl⟩
        replace H : (impl_LongestLine.l1 k3 l0 a2 y284 (y284.length : Int) (wrap64 (x62_3 + 1)) y292 y295) = some (r1, r2, r3) := by first | (rw [hy295]; with_reducible exact H) | (have H2_ := (Option.bind_some _ _).symm.trans H; rw [hy295]; with_reducible exact H2_) | (have H2_ := (Option.bind_some _ _).symm.trans H; with_reducible exact H2_) | with_reducible exact H | (rw [hy295]; exact H) | exact H
        have Ny295 := aS hy295
        clear hy295
        have H' := aS H
        clear H
        have hnb74 := NB283_266.out
        have hnc74 := NB266_283.out
        have hnb75 := NB283_288.out
        have hnc75 := NB288_283.out
        have hcz76_0 : w70.cell? ⟨gb283, 0, none⟩ = some (.slice (some ad289) x284000_3.length co68) := (blk_cell BK283.out 0).trans rfl
        have hcz76_1 : w70.cell? ⟨gb283, 1, none⟩ = some (u284001) := (blk_cell BK283.out 1).trans rfl
        have hfz76_0 := blk_frozen BK283.out 0
        have hfz76_1 := blk_frozen BK283.out 1
        have hnb77 := NB288_266.out
        have hnc77 := NB266_288.out
        have hcz78_0 : w70.cell? ⟨gb288, 0, none⟩ = some (.int .i64 ((rd_T45 y284 x62_3).f0)) := (blk_cell BK288.out 0).trans rfl
        have hcz78_1 : w70.cell? ⟨gb288, 1, none⟩ = some (.int .i64 ((rd_T45 y284 x62_3).f1)) := (blk_cell BK288.out 1).trans rfl
        have hfz78_0 := blk_frozen BK288.out 0
        have hfz78_1 := blk_frozen BK288.out 1
        go_wp2_with (first | ((with_reducible refine gate_builtin (b := .append) (xs := #[.tmp 91, .tmp 93]) rfl ?_); (try (refine gate_guard (by rfl) ?_; dsimp only)); at_builtin; refine Kd.R_append k45 (w0 := w) w.heap.size rfl (.tmp 91) (.tmp 93) 26 45 (.agg #[(.int .i64 0), (.int .i64 0)]) 16 rfl Try.underlying26 info45 rfl (by decide) (by omega) (.slice (some ad289) x284000_3.length co68) x284000_3 (⟨(rd_T45 y284 x62_3).f0, (rd_T45 y284 x62_3).f1⟩ : S45) [.int .i64 ((rd_T45 y284 x62_3).f0), .int .i64 ((rd_T45 y284 x62_3).f1)] (fun k_ => some k_ ≠ (.slice (some ad287) y284.length c50 : Value).ownBlock ∧ k_ ≠ gb288) (fun _ => False) rfl rfl ?aP (fun _ hk => hk.elim) ?aF ?aO ?aB ?aS ?aL ?_; (case aP => exact k45_mkM _ _ _ (⟨(rd_T45 y284 x62_3).f0, (rd_T45 y284 x62_3).f1⟩ : S45)); (case aB => exact (sW HB.out)); (case aF => exact (fun k_ hk => ⟨Kd.fresh' (Kd.Q_lt (by (with_reducible repeat (first | apply Kd.Q_alloc | apply Kd.Q_drewN | apply Kd.Q_drew)); exact HO_60.out)) k_ hk, Kd.freshB (g := gb288) (o := .cells #[.int .i64 ((rd_T45 y284 x62_3).f0), .int .i64 ((rd_T45 y284 x62_3).f1)] 45 (0, 0)) (sB BK288.out) k_ hk⟩)); (case aO => exact (sR HO_284000.out)); (case aS => exact (below_size (sW HB.out))); (case aL => have := LMc72.out; omega); intro v293 w79 ho hb hg hat; rw [← Ny292.out] at ho; have n0_ := aS (Kd.Q_after (ok := (fun k_ => k_ ≠ gb288)) (by (with_reducible repeat (first | apply Kd.Q_alloc | apply Kd.Q_drewN | apply Kd.Q_drew)); exact Kd.Q_mono HO_60.out (fun _ hk => ⟨hk.2, hk.1⟩)) hg hat); have n1_ := aS (Kd.R_over' (sR HO_284001.out) (Kd.R_typed (sR HO_284000.out)) (by decide) hg); have n2_ := aS (blk_grown (g := gb266) (o := .cells #[.slice none 0 0, .slice none 0 0] 29 (0, 0)) (sB BK266.out) hg (Kd.R_ne HO_284000.out BK266.out (by decide))); have n3_ := aS (blk_grown (g := gb283) (o := .cells #[.slice (some ad289) x284000_3.length co68, u284001] 29 (0, 0)) (sB BK283.out) hg (Kd.R_ne HO_284000.out BK283.out (by decide))); have n4_ := aS (blk_grown (g := gb288) (o := .cells #[.int .i64 ((rd_T45 y284 x62_3).f0), .int .i64 ((rd_T45 y284 x62_3).f1)] 45 (0, 0)) (sB BK288.out) hg (Kd.R_away HO_284000.out (fun _ hk => hk.2))); have n5_ := aS (hb); have n6_ := aS (ho); clear HO_60 HO_284001 BK266 BK283 BK288 HB HO_284000; have HO_60 := n0_; have HO_284001 := n1_; have BK266 := n2_; have BK283 := n3_; have BK288 := n4_; have HB := n5_; have HO294 := n6_; clear n0_ n1_ n2_ n3_ n4_ n5_ n6_; clear ho hb hg hat; obtain ⟨Ao80, co80, eo80⟩ := Kd.R_slice HO294.out; subst eo80; have hcz81_0 : w79.cell? ⟨gb283, 0, none⟩ = some (.slice (some ad289) x284000_3.length co68) := (blk_cell BK283.out 0).trans rfl; have hcz81_1 : w79.cell? ⟨gb283, 1, none⟩ = some (u284001) := (blk_cell BK283.out 1).trans rfl; have hfz81_0 := blk_frozen BK283.out 0; have hfz81_1 := blk_frozen BK283.out 1) | ((with_reducible refine gate_builtin (b := .append) (xs := #[.tmp 97, .tmp 99]) rfl ?_); (try (refine gate_guard (by rfl) ?_; dsimp only)); at_builtin; refine Kd.R_append (Kd.int .i64) (w0 := w) w.heap.size rfl (.tmp 97) (.tmp 99) 27 2 (.int .i64 0) 8 rfl Try.underlying27 info2 rfl (by decide) (by omega) u284001 x284001_3 t290 [.int .i64 t290] (fun _ => True) (fun _ => False) rfl (by first | (go_simp; done) | (go_simp; rfl)) ?aP (fun _ hk => hk.elim) ?aF ?aO ?aB ?aS ?aL ?_; (case aP => exact rfl); (case aB => exact (sW HB.out)); (case aF => exact (fun _ _ => trivial)); (case aO => exact (sR (Kd.R_mono (Kd.R_far (p := ⟨gb283, 0, none⟩) (Kd.R_types HO_284001.out BK283.out (by decide)) (fun _ hk => hk.2) (.slice Ao80 y292.length co80)) (fun _ hk => trivial)))); (case aS => exact (below_size (sW HB.out))); (case aL => have := LMc73.out; omega); intro v296 w82 ho hb hg hat; rw [← Ny295.out] at ho; have n0_ := aS (Kd.Q_over' (by (with_reducible repeat (first | apply Kd.Q_alloc | apply Kd.Q_drewN | apply Kd.Q_drew)); exact (Kd.Q_mono (Kd.Q_far (p := ⟨gb283, 0, none⟩) (Kd.Q_types HO_60.out BK283.out (by decide)) (fun _ hk => hk.2) (.slice Ao80 y292.length co80)) (fun _ h_ => h_.1))) (Kd.R_typed (sR (Kd.R_mono (Kd.R_far (p := ⟨gb283, 0, none⟩) (Kd.R_types HO_284001.out BK283.out (by decide)) (fun _ hk => hk.2) (.slice Ao80 y292.length co80)) (fun _ h_ => h_.1)))) (by decide) hg); have n1_ := aS (blk_grown (g := gb266) (o := .cells #[.slice none 0 0, .slice none 0 0] 29 (0, 0)) (by (with_reducible repeat (first | refine blk_drewN ?_ _ | refine blk_drew ?_ | refine blk_alloc ?_ _)); refine blk_far ?_ NB266_283.out _; (with_reducible repeat (first | refine blk_drewN ?_ _ | refine blk_drew ?_ | refine blk_alloc ?_ _)); exact BK266.out) hg (Kd.R_ne HO_284001.out BK266.out (by decide))); have n2_ := aS (blk_grown (g := gb283) (o := .cells #[.slice Ao80 y292.length co80, u284001] 29 (0, 0)) (by (with_reducible repeat (first | refine blk_drewN ?_ _ | refine blk_drew ?_ | refine blk_alloc ?_ _)); refine blk_put (cs := #[.slice (some ad289) x284000_3.length co68, u284001]) ?_ 0 _ rfl; (with_reducible repeat (first | refine blk_drewN ?_ _ | refine blk_drew ?_ | refine blk_alloc ?_ _)); exact BK283.out) hg (Kd.R_ne HO_284001.out BK283.out (by decide))); have n3_ := aS (blk_grown (g := gb288) (o := .cells #[.int .i64 ((rd_T45 y284 x62_3).f0), .int .i64 ((rd_T45 y284 x62_3).f1)] 45 (0, 0)) (by (with_reducible repeat (first | refine blk_drewN ?_ _ | refine blk_drew ?_ | refine blk_alloc ?_ _)); refine blk_far ?_ NB288_283.out _; (with_reducible repeat (first | refine blk_drewN ?_ _ | refine blk_drew ?_ | refine blk_alloc ?_ _)); exact BK288.out) hg (Kd.R_ne HO_284001.out BK288.out (by decide))); have n4_ := aS (Kd.R_over' (sR (Kd.R_mono (Kd.R_far (p := ⟨gb283, 0, none⟩) (Kd.R_types HO294.out BK283.out (by decide)) (fun _ hk => hk.2) (.slice Ao80 y292.length co80)) (fun _ h_ => h_.1))) (Kd.R_typed (sR (Kd.R_mono (Kd.R_far (p := ⟨gb283, 0, none⟩) (Kd.R_types HO_284001.out BK283.out (by decide)) (fun _ hk => hk.2) (.slice Ao80 y292.length co80)) (fun _ h_ => h_.1)))) (by decide) hg); have n5_ := aS (hb); have n6_ := aS (ho); clear HO_60 BK266 BK283 BK288 HO294 HB HO_284001; have HO_60 := n0_; have BK266 := n1_; have BK283 := n2_; have BK288 := n3_; have HO294 := n4_; have HB := n5_; have HO297 := n6_; clear n0_ n1_ n2_ n3_ n4_ n5_ n6_; clear ho hb hg hat; obtain ⟨Ao83, co83, eo83⟩ := Kd.R_slice HO297.out; subst eo83; have hcz84_0 : w82.cell? ⟨gb283, 0, none⟩ = some (.slice Ao80 y292.length co80) := (blk_cell BK283.out 0).trans rfl; have hcz84_1 : w82.cell? ⟨gb283, 1, none⟩ = some (u284001) := (blk_cell BK283.out 1).trans rfl; have hfz84_0 := blk_frozen BK283.out 0; have hfz84_1 := blk_frozen BK283.out 1))
        go_roundg k3
        case measure => have := HK1.out; have := HJ29.out; have := HK3.out; omega
        case rel => exact ⟨(wrap64 (x62_3 + 1)), (y292), (y295), (.slice Ao80 y292.length co80), (.slice Ao83 y295.length co83), (by first | rfl | (simp; done) | (simp [*]; done) | (simp only [i64_w]; done) | (simp [i64_w]; done)), H', ⟨by have := HK1.out; have := HJ29.out; have := HK3.out; omega⟩, ⟨by (with_reducible repeat (first | apply Kd.Q_alloc | apply Kd.Q_drewN | apply Kd.Q_drew)); exact Kd.Q_mono (Kd.Q_far (p := ⟨gb283, 1, none⟩) (Kd.Q_types HO_60.out BK283.out (by decide)) (fun _ hk => hk.2) (.slice Ao83 y295.length co83)) (fun _ hk => hk.1.2)⟩, ⟨by (with_reducible repeat (first | apply Kd.R_alloc | apply Kd.R_drewN | apply Kd.R_drew)); exact Kd.R_mono (Kd.R_far (p := ⟨gb283, 1, none⟩) (Kd.R_types HO294.out BK283.out (by decide)) (fun _ hk => hk.2) (.slice Ao83 y295.length co83)) (fun _ hk => hk.1.1)⟩, ⟨by (with_reducible repeat (first | apply Kd.R_alloc | apply Kd.R_drewN | apply Kd.R_drew)); exact Kd.R_mono (Kd.R_far (p := ⟨gb283, 1, none⟩) (Kd.R_types HO297.out BK283.out (by decide)) (fun _ hk => hk.2) (.slice Ao83 y295.length co83)) (fun _ hk => trivial)⟩, ⟨by (with_reducible repeat (first | refine blk_drewN ?_ _ | refine blk_drew ?_ | refine blk_alloc ?_ _)); refine blk_far ?_ NB266_283.out _; (with_reducible repeat (first | refine blk_drewN ?_ _ | refine blk_drew ?_ | refine blk_alloc ?_ _)); exact BK266.out⟩, ⟨by (with_reducible repeat (first | refine blk_drewN ?_ _ | refine blk_drew ?_ | refine blk_alloc ?_ _)); refine blk_put (cs := #[.slice Ao80 y292.length co80, u284001]) ?_ 1 _ rfl; (with_reducible repeat (first | refine blk_drewN ?_ _ | refine blk_drew ?_ | refine blk_alloc ?_ _)); exact BK283.out⟩, ⟨by repeat (first | (with_reducible first | exact HB.out | apply below_alloc | apply pw_below_drewN | apply below_drew1 | refine below_set ?_ GE266.out | refine below_set ?_ GE283.out | refine below_set ?_ GE288.out) | exact HB.out)⟩⟩
 ·
  replace c8 := Bool.eq_false_iff.mpr c8
  subst c8
  have H1 : (some (([] : List (S45)), ([] : List Int), 1)) = some (r1, r2, r3) := by rw [if_neg (show ¬ (false = true) by decide)] at H; exact H
  clear H
  have H := H1
  clear H1
  simp only [Option.some.injEq, Prod.mk.injEq] at H
  obtain ⟨rfl, rfl, rfl⟩ := H
  have hcz99_0 : w7.cell? ⟨gb266, 0, none⟩ = some (.slice none 0 0) := (blk_cell BK266.out 0).trans rfl
  have hcz99_1 : w7.cell? ⟨gb266, 1, none⟩ = some (.slice none 0 0) := (blk_cell BK266.out 1).trans rfl
  have hfz99_0 := blk_frozen BK266.out 0
  have hfz99_1 := blk_frozen BK266.out 1
  go_wp2
  refine bodyPost_ret (results_ct rfl _ _ gb266 29 #[.slice none 0 0, .slice none 0 0] (0, 0) _ rfl (by (with_reducible repeat (first | refine blk_drewN ?_ _ | refine blk_drew ?_ | refine blk_alloc ?_ _)); refine blk_put (cs := #[.slice none 0 0, .slice none 0 0]) ?_ 1 _ rfl; (with_reducible repeat (first | refine blk_drewN ?_ _ | refine blk_drew ?_ | refine blk_alloc ?_ _)); refine blk_put (cs := #[.slice none 0 0, .slice none 0 0]) ?_ 0 _ rfl; (with_reducible repeat (first | refine blk_drewN ?_ _ | refine blk_drew ?_ | refine blk_alloc ?_ _)); exact BK266.out) Try.underlying29 rfl (by kernel_rfl)) rfl ?_
  exact ⟨_, _, by first | rfl | (simp [errW_none, errW_some, i64_w]; done) | (simp [errW_none, errW_some] <;> rfl) | (simp [*, errW_none, errW_some] <;> rfl), by first | exact Kd.R_nil _ _ _ _ _ | exact Kd.N_nil _ _ _ _ _ | exact Kd.V_nil _ _ _ _ _ | exact Kd.Q_nil _ _ _ _ _ | exact Kd.S_nil _ _ _ _ _, by first | exact Kd.R_nil _ _ _ _ _ | exact Kd.N_nil _ _ _ _ _ | exact Kd.V_nil _ _ _ _ _ | exact Kd.Q_nil _ _ _ _ _ | exact Kd.S_nil _ _ _ _ _, by repeat (first | (with_reducible first | exact HB.out | apply below_alloc | apply pw_below_drewN | apply below_drew1 | refine below_set ?_ GE266.out) | exact HB.out)⟩

end Go.Proofs.Ytginmioklkcgbaa.QFnExactLongestLine

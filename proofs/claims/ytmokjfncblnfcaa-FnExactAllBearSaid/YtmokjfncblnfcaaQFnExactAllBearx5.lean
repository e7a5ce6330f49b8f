/- What the Go functions of this law compute, each as a Lean function, and that each call comes to that answer; written by a program of this session. No condition. -/
import Derived.Test.YtmokjfncblnfcaaQFnExactAllBearx0
import Derived.Test.YtmokjfncblnfcaaQFnExactAllBearx1
import Derived.Test.YtmokjfncblnfcaaQFnExactAllBearx3
import Derived.Test.YtmokjfncblnfcaaQFnExactAllBearx4
namespace Go.Proofs.Ytmokjfncblnfcaa.QFnExactAllBear
open Go.RowKit Go.Proofs.YtmokjfncblnfcaaW.PrintWords Go.Proofs.YtmokjfncblnfcaaW.PrintLast Go.Proofs.YtmokjfncblnfcaaW.PrintMore
attribute [local go_sem] max2_int min2_int max_two min_two max_three min_three max_four min_four   -- for this text's walks alone
set_option linter.unusedVariables false
set_option linter.unusedSimpArgs false

/-! ### impl_AllBear: function 28 -/
mutual
def impl_AllBear.l0 : Nat → List (S28) → Int → List (S28) → Int → Int → Option (Int × Int)
 | 0, _, _, _, _, _ => none
 | k + 1, x0, x4, x14, x15, x16 => if x16 < x15 then (if 0 ≤ x16 then (if x16 < (x14.length : Int) then (impl_AllBear.l0 k x0 (mx x4 ((rd_T28 x14 x16).f0)) x14 x15 (wrap64 (x16 + 1))) else (none)) else (none)) else ((impl_fraction.f k 0 1).bind fun bt225 => (impl_AllBear.l1 k x4 x0 (x0.length : Int) 0 bt225.1 bt225.2))
def impl_AllBear.l1 : Nat → Int → List (S28) → Int → Int → Int → Int → Option (Int × Int)
 | 0, _, _, _, _, _, _ => none
 | k + 1, x4, x26, x27, x28, x228000, x228001 => if x28 < x27 then (if 0 ≤ x28 then (if x28 < (x26.length : Int) then ((impl_fraction.f k x4 1).bind fun bt230 => ((impl_springForce.f k ((rd_T28 x26 x28).f0) ((rd_T28 x26 x28).f1) bt230.1 bt230.2).bind fun bt232 => ((impl_addFractions.f k x228000 x228001 bt232.1 bt232.2).bind fun bt234 => (impl_AllBear.l1 k x4 x26 x27 (wrap64 (x28 + 1)) bt234.1 bt234.2)))) else (none)) else (none)) else (if x228001 = 0 then (none) else (if (wrap64 ((wrap64 (Int.tdiv x228000 x228001)) + 1)) > 10000 then (some (0, 3)) else (some (wrap64 ((wrap64 (Int.tdiv x228000 x228001)) + 1), 0))))
end
def impl_AllBear.f (k : Nat) (l0 : List (S28)) : Option (Int × Int) := (impl_ValidSprings.f k l0).bind fun t222 => (if t222 = true then (impl_AllBear.l0 k l0 0 l0 (l0.length : Int) 0) else (some (0, 1)))
theorem impl_AllBear.mono_l : ∀ k, (∀ y0 y1 y2 y3 y4, LeO (impl_AllBear.l0 k y0 y1 y2 y3 y4) (impl_AllBear.l0 (k + 1) y0 y1 y2 y3 y4)) ∧ (∀ y0 y1 y2 y3 y4 y5, LeO (impl_AllBear.l1 k y0 y1 y2 y3 y4 y5) (impl_AllBear.l1 (k + 1) y0 y1 y2 y3 y4 y5))
 | 0 => ⟨fun _ _ _ _ _ r h => by simp [impl_AllBear.l0] at h, fun _ _ _ _ _ _ r h => by simp [impl_AllBear.l1] at h⟩
 | k + 1 => by
  obtain ⟨ih0, ih1⟩ := impl_AllBear.mono_l k
  refine ⟨?_, ?_⟩
  ·
   intro y0 y1 y2 y3 y4
   unfold impl_AllBear.l0
   repeat' first
   | (with_reducible exact ih0 _ _ _ _ _)
   | (with_reducible exact ih1 _ _ _ _ _ _)
   | (with_reducible exact impl_ValidSprings.mono _ _)
   | (with_reducible exact impl_addFractions.mono _ _ _ _ _)
   | (with_reducible exact impl_fraction.mono _ _ _)
   | (with_reducible exact impl_springForce.mono _ _ _ _ _)
   | (with_reducible exact LeO.refl _)
   | (with_reducible exact LeO.none _)
   | (with_reducible refine LeO.ite ?_ ?_)
   | (with_reducible refine LeO.bind ?_ (fun _ => ?_))
   | exact ih0 _ _ _ _ _
   | exact ih1 _ _ _ _ _ _
   | exact impl_ValidSprings.mono _ _
   | exact impl_addFractions.mono _ _ _ _ _
   | exact impl_fraction.mono _ _ _
   | exact impl_springForce.mono _ _ _ _ _
   | exact LeO.none _
   | refine LeO.ite ?_ ?_
   | refine LeO.bind ?_ (fun _ => ?_)
  ·
   intro y0 y1 y2 y3 y4 y5
   unfold impl_AllBear.l1
   repeat' first
   | (with_reducible exact ih0 _ _ _ _ _)
   | (with_reducible exact ih1 _ _ _ _ _ _)
   | (with_reducible exact impl_ValidSprings.mono _ _)
   | (with_reducible exact impl_addFractions.mono _ _ _ _ _)
   | (with_reducible exact impl_fraction.mono _ _ _)
   | (with_reducible exact impl_springForce.mono _ _ _ _ _)
   | (with_reducible exact LeO.refl _)
   | (with_reducible exact LeO.none _)
   | (with_reducible refine LeO.ite ?_ ?_)
   | (with_reducible refine LeO.bind ?_ (fun _ => ?_))
   | exact ih0 _ _ _ _ _
   | exact ih1 _ _ _ _ _ _
   | exact impl_ValidSprings.mono _ _
   | exact impl_addFractions.mono _ _ _ _ _
   | exact impl_fraction.mono _ _ _
   | exact impl_springForce.mono _ _ _ _ _
   | exact LeO.none _
   | refine LeO.ite ?_ ?_
   | refine LeO.bind ?_ (fun _ => ?_)
theorem impl_AllBear.mono : ∀ a0 k, LeO (impl_AllBear.f k a0) (impl_AllBear.f (k + 1) a0) := by
 intro a0 k
 obtain ⟨ih0, ih1⟩ := impl_AllBear.mono_l k
 unfold impl_AllBear.f
 repeat' first
   | (with_reducible exact ih0 _ _ _ _ _)
   | (with_reducible exact ih1 _ _ _ _ _ _)
   | (with_reducible exact impl_ValidSprings.mono _ _)
   | (with_reducible exact impl_addFractions.mono _ _ _ _ _)
   | (with_reducible exact impl_fraction.mono _ _ _)
   | (with_reducible exact impl_springForce.mono _ _ _ _ _)
   | (with_reducible exact LeO.refl _)
   | (with_reducible exact LeO.none _)
   | (with_reducible refine LeO.ite ?_ ?_)
   | (with_reducible refine LeO.bind ?_ (fun _ => ?_))
   | exact ih0 _ _ _ _ _
   | exact ih1 _ _ _ _ _ _
   | exact impl_ValidSprings.mono _ _
   | exact impl_addFractions.mono _ _ _ _ _
   | exact impl_fraction.mono _ _ _
   | exact impl_springForce.mono _ _ _ _ _
   | exact LeO.none _
   | refine LeO.ite ?_ ?_
   | refine LeO.bind ?_ (fun _ => ?_)
set_option maxHeartbeats 8000000 in
set_option maxRecDepth 100000 in
theorem impl_AllBear.calls (k : Nat) (A0 : Option Addr) (c0 : Nat) (l0 : List (S28)) (r1 : Int) (r2 : Int) (w : World) (hr0 : Kd.C k28 w A0 l0.length l0) (hc0 : l0.length ≤ c0) (h : impl_AllBear.f k l0 = some (r1, r2)) :
  Calls Try.prog 28 #[.slice A0 l0.length c0] w fun e w' => e = .returned (.tuple #[.int .i64 r1, .int .i64 r2]) ∧ Below w.heap.size w w' := by
 have hu28 := Try.underlying28
 have hu25 := Try.underlying25
 have HR0 := aS hr0
 have HC0 := aS hc0
 clear hr0 hc0
 have HB := aS (Below.refl w.heap.size w)
 have H : ((impl_ValidSprings.f k l0).bind fun t222 => (if t222 = true then (impl_AllBear.l0 k l0 0 l0 (l0.length : Int) 0) else (some (0, 1)))) = some (r1, r2) := h
 clear h
 replace H := Option.bind_eq_some_iff.mp H
 obtain ⟨t222, A20, H⟩ := H
 replace H : (if t222 = true then (impl_AllBear.l0 k l0 0 l0 (l0.length : Int) 0) else (some (0, 1))) = some (r1, r2) := H
 have A2 := aS A20
 clear A20
 have HC3 := aS H
 clear H
 go_enter Try.func28, Try.ntmps28
 go_upto_if 13 with (first | ((with_reducible refine gate_callee (f := 55) rfl ?_); refine goesL_ (some 12) rfl rfl Try.func55 (by kernel_rfl) rfl #[.slice A0 l0.length c0] rfl sG ?_; (with_reducible refine (impl_ValidSprings.calls k _ _ l0 t222 _ ?side1 ?side2 A2.out).mono ?_); (case side1 => exact sC HR0.out); (case side2 => exact HC0.out); rintro e w4 ⟨rfl, hb⟩; refine ⟨_, rfl, ?_⟩; have n0_ := aS (below_step (sW HB.out) hb); clear HB; have HB := n0_; clear n0_; (try clear hb); (try clear hb2); (try clear hk); (try clear hi)))
 (try simp only [Act.put, List.setIfInBounds_toArray, List.set_cons_zero, List.set_cons_succ])
 have H := HC3.out
 clear HC3
 by_cases c5 : t222 = true
 ·
  subst c5
  have H1 : (impl_AllBear.l0 k l0 0 l0 (l0.length : Int) 0) = some (r1, r2) := by rw [if_pos rfl] at H; exact H
  clear H
  have H := H1
  clear H1
  have H' := aS H
  clear H
  go_wp2
  go_loopg [4, 16] k (fun kq v4 v16 w' => ∃ (x4_1 : Int) (x16_1 : Int), v4 = .int .i64 x4_1 ∧ v16 = .int .i64 x16_1 ∧ Aside0 (impl_AllBear.l0 kq l0 x4_1 l0 (l0.length : Int) x16_1 = some (r1, r2)) ∧ Aside0 (kq ≤ k) ∧ Aside0 (Below w.heap.size w w'))
  case atStart => exact ⟨(0), (0), (by first | rfl | (simp; done) | (simp [*]; done) | (simp only [i64_w]; done) | (simp [i64_w]; done)), (by first | rfl | (simp; done) | (simp [*]; done) | (simp only [i64_w]; done) | (simp [i64_w]; done)), H', ⟨Nat.le_refl _⟩, ⟨by repeat (first | (with_reducible first | exact HB.out | apply below_alloc | apply pw_below_drewN | apply below_drew1) | exact HB.out)⟩⟩
  case round =>
   clear H'
   (try clear c2); (try clear p2); (try clear c5)
   obtain ⟨x4_1, x16_1, rfl, rfl, HA, HK1, HB⟩ := hrel
   cases gk with
   | zero => exact absurd HA.out (by simp [impl_AllBear.l0])
   | succ k1 =>
    have H := HA.out
    clear HA
    simp only [impl_AllBear.l0] at H
    by_cases c6 : x16_1 < (l0.length : Int)
    ·
     rw [if_pos c6] at H
     have c6b0 : decide (x16_1 < (l0.length : Int)) = true := decide_eq_true c6
     clear c6
     (first | rw [c6b0] | (simp only [i64_w, i32_w]; rw [c6b0]) | (rw [c6b2]; simp only [Bool.not_false, Bool.not_true]) | skip)
     by_cases c7 : 0 ≤ x16_1
     ·
      rw [if_pos c7] at H
      have c7b0 : decide (0 ≤ x16_1) = true := decide_eq_true c7
      clear c7
      by_cases c8 : x16_1 < (l0.length : Int)
      ·
       rw [if_pos c8] at H
       have c8b0 : decide (x16_1 < (l0.length : Int)) = true := decide_eq_true c8
       clear c8
       obtain ⟨ji9, hji9⟩ : ∃ j_ : Int, (mx x4_1 ((rd_T28 l0 x16_1).f0)) = j_ := ⟨_, rfl⟩
       replace H : (impl_AllBear.l0 k1 l0 ji9 l0 (l0.length : Int) (wrap64 (x16_1 + 1))) = some (r1, r2) := by first | (rw [hji9] at H; exact H) | (simp only [hji9] at H ⊢; exact H)
       have hji9_ : (if x4_1 < ((rd_T28 l0 x16_1).f0) then ((rd_T28 l0 x16_1).f0) else x4_1) = ji9 := hji9
       have H' := aS H
       clear H
       have p223 : 0 ≤ (x16_1 : Int) := of_decide_eq_true (by first | (with_reducible assumption) | assumption)
       have q223 : x16_1 < (l0.length : Int) := of_decide_eq_true (by first | (with_reducible assumption) | assumption)
       obtain ⟨ad223, e223, hx223_0, hx223_1⟩ := at_T28 HR0.out x16_1 p223 q223
       cases e223
       replace hx223_0 := (HB.out.cell (World.block_lt_of_cell? w _ hx223_0)).trans hx223_0
       replace hx223_1 := (HB.out.cell (World.block_lt_of_cell? w _ hx223_1)).trans hx223_1
       replace p223 := eq_true p223
       replace q223 := eq_true q223
       go_wp2_with (first | ((with_reducible refine gate_dst (N := 6) rfl ?_); refine box_event ?hg (N := 6) ?hd (cs := #[.int .i64 0, .int .i64 0]) (t := 28) ?hr ?_; (case hd => rfl); (case hg => rfl); (case hr => first | (go_simp; done) | (go_simp; rfl)); intro gb224 hg w10 hbox hb; have n0_ := aS (below_step (sW HB.out) hb); have n1_ := aS (hbox); have n2_ := aS ((by rw [hg]; exact (below_size (sW HB.out)) : w.heap.size ≤ gb224)); have n3_ := aS ((by rw [hg]; exact (below_size (sW HB.out)) : w.heap.size ≤ gb224)); clear HB; have HB := n0_; have BK224 := n1_; have GW224 := n2_; have GE224 := n3_; clear n0_ n1_ n2_ n3_; clear hb hbox hg; have hcz11_0 : w10.cell? ⟨gb224, 0, none⟩ = some (.int .i64 0) := (blk_cell BK224.out 0).trans rfl; have hcz11_1 : w10.cell? ⟨gb224, 1, none⟩ = some (.int .i64 0) := (blk_cell BK224.out 1).trans rfl; have hfz11_0 := blk_frozen BK224.out 0; have hfz11_1 := blk_frozen BK224.out 1))
       go_roundg k1
       case measure => have := HK1.out; omega
       case rel => exact ⟨(ji9), (wrap64 (x16_1 + 1)), (by first | rfl | (simp; done) | (simp only [← hji9] <;> (first | rfl | simp)) | (simp [*]; done) | (simp only [i64_w]; done) | (simp [i64_w]; done)), (by first | rfl | (simp; done) | (simp [*]; done) | (simp only [i64_w]; done) | (simp [i64_w]; done)), H', ⟨by have := HK1.out; omega⟩, ⟨by repeat (first | (with_reducible first | exact HB.out | apply below_alloc | apply pw_below_drewN | apply below_drew1 | refine below_set ?_ GE224.out) | exact HB.out)⟩⟩
      ·
       rw [if_neg c8] at H
       exact absurd H (by simp)
     ·
      rw [if_neg c7] at H
      exact absurd H (by simp)
    ·
     rw [if_neg c6] at H
     have c6b0 : decide (x16_1 < (l0.length : Int)) = false := decide_eq_false c6
     clear c6
     (first | rw [c6b0] | (simp only [i64_w, i32_w]; rw [c6b0]) | (rw [c6b2]; simp only [Bool.not_false, Bool.not_true]) | skip)
     replace H := Option.bind_eq_some_iff.mp H
     obtain ⟨⟨t225, t226⟩, A120, H⟩ := H
     replace H : (impl_AllBear.l1 k1 x4_1 l0 (l0.length : Int) 0 t225 t226) = some (r1, r2) := H
     have A12 := aS A120
     clear A120
     have H' := aS H
     clear H
     go_wp2_with (first | ((with_reducible refine gate_callee (f := 50) rfl ?_); refine goesL_ (some 25) rfl rfl Try.func50 (by kernel_rfl) rfl #[.int .i64 0, .int .i64 1] rfl sG ?_; (with_reducible refine (impl_fraction.calls k1 0 1 t225 t226 _ A12.out).mono ?_); rintro e w13 ⟨rfl, hb⟩; refine ⟨_, rfl, ?_⟩; have n0_ := aS (below_step (sW HB.out) hb); clear HB; have HB := n0_; clear n0_; (try clear hb); (try clear hb2); (try clear hk); (try clear hi)) | ((with_reducible refine gate_dst (N := 7) rfl ?_); refine box_event ?hg (N := 7) ?hd (cs := #[.int .i64 0, .int .i64 0]) (t := 25) ?hr ?_; (case hd => rfl); (case hg => rfl); (case hr => first | (go_simp; done) | (go_simp; rfl)); intro gb227 hg w14 hbox hb; have n0_ := aS (below_step (sW HB.out) hb); have n1_ := aS (hbox); have n2_ := aS ((by rw [hg]; exact (below_size (sW HB.out)) : w.heap.size ≤ gb227)); have n3_ := aS ((by rw [hg]; exact (below_size (sW HB.out)) : w.heap.size ≤ gb227)); clear HB; have HB := n0_; have BK227 := n1_; have GW227 := n2_; have GE227 := n3_; clear n0_ n1_ n2_ n3_; clear hb hbox hg; have hcz15_0 : w14.cell? ⟨gb227, 0, none⟩ = some (.int .i64 0) := (blk_cell BK227.out 0).trans rfl; have hcz15_1 : w14.cell? ⟨gb227, 1, none⟩ = some (.int .i64 0) := (blk_cell BK227.out 1).trans rfl; have hfz15_0 := blk_frozen BK227.out 0; have hfz15_1 := blk_frozen BK227.out 1))
     go_loopg [28] k1 (fun kq v28 w' => ∃ (x28_2 : Int) (x228000_2 : Int) (x228001_2 : Int), v28 = .int .i64 x28_2 ∧ Aside0 (impl_AllBear.l1 kq x4_1 l0 (l0.length : Int) x28_2 x228000_2 x228001_2 = some (r1, r2)) ∧ Aside0 (kq ≤ k1) ∧ Aside0 (w'.heap[gb227]? = some (.cells #[.int .i64 x228000_2, .int .i64 x228001_2] 25 (0, 0))) ∧ Aside0 (Below w.heap.size w w'))
     case atStart => exact ⟨(0), (t225), (t226), (by first | rfl | (simp; done) | (simp [*]; done) | (simp only [i64_w]; done) | (simp [i64_w]; done)), H', ⟨Nat.le_refl _⟩, ⟨by (with_reducible repeat (first | refine blk_drewN ?_ _ | refine blk_drew ?_ | refine blk_alloc ?_ _)); refine blk_put (cs := #[.int .i64 t225, .int .i64 0]) ?_ 1 _ rfl; (with_reducible repeat (first | refine blk_drewN ?_ _ | refine blk_drew ?_ | refine blk_alloc ?_ _)); refine blk_put (cs := #[.int .i64 0, .int .i64 0]) ?_ 0 _ rfl; (with_reducible repeat (first | refine blk_drewN ?_ _ | refine blk_drew ?_ | refine blk_alloc ?_ _)); exact BK227.out⟩, ⟨by repeat (first | (with_reducible first | exact HB.out | apply below_alloc | apply pw_below_drewN | apply below_drew1 | refine below_set ?_ GE227.out) | exact HB.out)⟩⟩
     case round =>
      clear H'
      (try clear c2); (try clear p2); (try clear q2); (try clear hx2); (try clear c5); (try clear c6); (try clear c6b0); (try clear c6b2); (try clear p6); (try clear c7); (try clear c7b0); (try clear c8); (try clear c8b0); (try clear hcz11_0); (try clear hcz11_1); (try clear hcz15_0); (try clear hcz15_1); (try clear hfz11_0); (try clear hfz11_1); (try clear hfz15_0); (try clear hfz15_1); (try clear hx223_0); (try clear hx223_1); (try clear p2); (try clear p223); (try clear q223)
      obtain ⟨x28_2, x228000_2, x228001_2, rfl, HA, HK2, BK227, HB⟩ := hrel
      cases gk with
      | zero => exact absurd HA.out (by simp [impl_AllBear.l1])
      | succ k2 =>
       have H := HA.out
       clear HA
       simp only [impl_AllBear.l1] at H
       by_cases c16 : x28_2 < (l0.length : Int)
       ·
        rw [if_pos c16] at H
        have c16b0 : decide (x28_2 < (l0.length : Int)) = true := decide_eq_true c16
        clear c16
        by_cases c17 : 0 ≤ x28_2
        ·
         rw [if_pos c17] at H
         have c17b0 : decide (0 ≤ x28_2) = true := decide_eq_true c17
         clear c17
         by_cases c18 : x28_2 < (l0.length : Int)
         ·
          rw [if_pos c18] at H
          have c18b0 : decide (x28_2 < (l0.length : Int)) = true := decide_eq_true c18
          clear c18
          replace H := Option.bind_eq_some_iff.mp H
          obtain ⟨⟨t230, t231⟩, A190, H⟩ := H
          replace H : ((impl_springForce.f k2 ((rd_T28 l0 x28_2).f0) ((rd_T28 l0 x28_2).f1) t230 t231).bind fun bt232 => ((impl_addFractions.f k2 x228000_2 x228001_2 bt232.1 bt232.2).bind fun bt234 => (impl_AllBear.l1 k2 x4_1 l0 (l0.length : Int) (wrap64 (x28_2 + 1)) bt234.1 bt234.2))) = some (r1, r2) := H
          have A19 := aS A190
          clear A190
          replace H := Option.bind_eq_some_iff.mp H
          obtain ⟨⟨t232, t233⟩, A200, H⟩ := H
          replace H : ((impl_addFractions.f k2 x228000_2 x228001_2 t232 t233).bind fun bt234 => (impl_AllBear.l1 k2 x4_1 l0 (l0.length : Int) (wrap64 (x28_2 + 1)) bt234.1 bt234.2)) = some (r1, r2) := H
          have A20 := aS A200
          clear A200
          replace H := Option.bind_eq_some_iff.mp H
          obtain ⟨⟨t234, t235⟩, A210, H⟩ := H
          replace H : (impl_AllBear.l1 k2 x4_1 l0 (l0.length : Int) (wrap64 (x28_2 + 1)) t234 t235) = some (r1, r2) := H
          have A21 := aS A210
          clear A210
          have H' := aS H
          clear H
          have p228 : 0 ≤ (x28_2 : Int) := of_decide_eq_true (by first | (with_reducible assumption) | assumption)
          have q228 : x28_2 < (l0.length : Int) := of_decide_eq_true (by first | (with_reducible assumption) | assumption)
          obtain ⟨ad228, e228, hx228_0, hx228_1⟩ := at_T28 HR0.out x28_2 p228 q228
          cases e228
          replace hx228_0 := (HB.out.cell (World.block_lt_of_cell? w _ hx228_0)).trans hx228_0
          replace hx228_1 := (HB.out.cell (World.block_lt_of_cell? w _ hx228_1)).trans hx228_1
          replace p228 := eq_true p228
          replace q228 := eq_true q228
          try go_wp2_with (first | ((with_reducible refine gate_dst (N := 9) rfl ?_); refine box_event ?hg (N := 9) ?hd (cs := #[.int .i64 0, .int .i64 0]) (t := 28) ?hr ?_; (case hd => rfl); (case hg => rfl); (case hr => first | (go_simp; done) | (go_simp; rfl)); intro gb229 hg w22 hbox hb; have n0_ := aS (blk_below (g := gb227) (o := .cells #[.int .i64 x228000_2, .int .i64 x228001_2] 25 (0, 0)) (sB BK227.out) hb); have n1_ := aS (below_step (sW HB.out) hb); have n2_ := aS (hbox); have n3_ := aS ((by rw [hg]; exact (below_size (sW HB.out)) : w.heap.size ≤ gb229)); have n4_ := aS ((by rw [hg]; exact (below_size (sW HB.out)) : w.heap.size ≤ gb229)); have n5_ := aS ((by rw [hg]; exact Nat.ne_of_lt (blk_lt (g := gb227) (o := .cells #[.int .i64 x228000_2, .int .i64 x228001_2] 25 (0, 0)) (sB BK227.out)) : gb227 ≠ gb229)); have n6_ := aS ((by rw [hg]; exact Nat.ne_of_gt (blk_lt (g := gb227) (o := .cells #[.int .i64 x228000_2, .int .i64 x228001_2] 25 (0, 0)) (sB BK227.out)) : gb229 ≠ gb227)); clear BK227 HB; have BK227 := n0_; have HB := n1_; have BK229 := n2_; have GW229 := n3_; have GE229 := n4_; have NB227_229 := n5_; have NB229_227 := n6_; clear n0_ n1_ n2_ n3_ n4_ n5_ n6_; clear hb hbox hg; have hnb23 := NB229_227.out; have hnc23 := NB227_229.out; have hcz24_0 : w22.cell? ⟨gb229, 0, none⟩ = some (.int .i64 0) := (blk_cell BK229.out 0).trans rfl; have hcz24_1 : w22.cell? ⟨gb229, 1, none⟩ = some (.int .i64 0) := (blk_cell BK229.out 1).trans rfl; have hfz24_0 := blk_frozen BK229.out 0; have hfz24_1 := blk_frozen BK229.out 1))
          have n0_ : Aside0 (((w22.setCell ⟨gb229, 0, none⟩ (.int .i64 ((rd_T28 l0 x28_2).f0))).setCell ⟨gb229, 1, none⟩ (.int .i64 ((rd_T28 l0 x28_2).f1))).heap[gb227]? = some (.cells #[.int .i64 x228000_2, .int .i64 x228001_2] 25 (0, 0))) := ⟨by (with_reducible repeat (first | refine blk_drewN ?_ _ | refine blk_drew ?_ | refine blk_alloc ?_ _)); refine blk_far ?_ NB227_229.out _; (with_reducible repeat (first | refine blk_drewN ?_ _ | refine blk_drew ?_ | refine blk_alloc ?_ _)); refine blk_far ?_ NB227_229.out _; (with_reducible repeat (first | refine blk_drewN ?_ _ | refine blk_drew ?_ | refine blk_alloc ?_ _)); exact BK227.out⟩
          have n1_ : Aside0 (((w22.setCell ⟨gb229, 0, none⟩ (.int .i64 ((rd_T28 l0 x28_2).f0))).setCell ⟨gb229, 1, none⟩ (.int .i64 ((rd_T28 l0 x28_2).f1))).heap[gb229]? = some (.cells #[.int .i64 ((rd_T28 l0 x28_2).f0), .int .i64 ((rd_T28 l0 x28_2).f1)] 28 (0, 0))) := ⟨by (with_reducible repeat (first | refine blk_drewN ?_ _ | refine blk_drew ?_ | refine blk_alloc ?_ _)); refine blk_put (cs := #[.int .i64 ((rd_T28 l0 x28_2).f0), .int .i64 0]) ?_ 1 _ rfl; (with_reducible repeat (first | refine blk_drewN ?_ _ | refine blk_drew ?_ | refine blk_alloc ?_ _)); refine blk_put (cs := #[.int .i64 0, .int .i64 0]) ?_ 0 _ rfl; (with_reducible repeat (first | refine blk_drewN ?_ _ | refine blk_drew ?_ | refine blk_alloc ?_ _)); exact BK229.out⟩
          have n2_ : Aside0 (Below w.heap.size w ((w22.setCell ⟨gb229, 0, none⟩ (.int .i64 ((rd_T28 l0 x28_2).f0))).setCell ⟨gb229, 1, none⟩ (.int .i64 ((rd_T28 l0 x28_2).f1)))) := ⟨by repeat (first | (with_reducible first | exact HB.out | apply below_alloc | apply pw_below_drewN | apply below_drew1 | refine below_set ?_ GE227.out | refine below_set ?_ GE229.out) | exact HB.out)⟩
          (try clear BK227); (try clear BK229); (try clear HB)
          generalize ((w22.setCell ⟨gb229, 0, none⟩ (.int .i64 ((rd_T28 l0 x28_2).f0))).setCell ⟨gb229, 1, none⟩ (.int .i64 ((rd_T28 l0 x28_2).f1))) = w25 at n0_ n1_ n2_ ⊢
          have BK227 := n0_; have BK229 := n1_; have HB := n2_
          clear n0_ n1_ n2_
          have n0_ := aS (blk_drew BK227.out)
          have n1_ := aS (blk_drew BK229.out)
          have n2_ := aS (below_drew1 HB.out)
          clear BK227 BK229 HB
          have BK227 := n0_; have BK229 := n1_; have HB := n2_
          clear n0_ n1_ n2_
          refine start_ (n := 7) (S := fun w' => w'.cell? ⟨gb227, 0, none⟩ = some (.int .i64 x228000_2) ∧ w'.cell? ⟨gb227, 1, none⟩ = some (.int .i64 x228001_2) ∧ w'.cell? ⟨gb229, 0, none⟩ = some (.int .i64 ((rd_T28 l0 x28_2).f0)) ∧ w'.cell? ⟨gb229, 1, none⟩ = some (.int .i64 ((rd_T28 l0 x28_2).f1))) (ds := [6]) #[false, false, false, false, false, false, false] (by kernel_rfl) rfl rfl ⟨(blk_cell BK227.out 0).trans rfl, (blk_cell BK227.out 1).trans rfl, (blk_cell BK229.out 0).trans rfl, (blk_cell BK229.out 1).trans rfl⟩ (fun hHeld => ?_)
          generalize w25.drew = w26 at BK227 BK229 HB hHeld ⊢
          refine pure_ (i := 2) (N := some 34) (v := ?_) (a' := ?_) #[false, false, true, false, false, false, false] rfl rfl (by kernel_rfl) (fun _ _ _ h => h) (Or.inl ⟨by rfl, ?_⟩) ?_ ?_
          rotate_left
          ·
           intro w'
           go_simp
           with_reducible rfl
          rotate_left
          ·
           simp only [Act.put, List.setIfInBounds_toArray, List.set_cons_zero, List.set_cons_succ, i64_w, i32_w]
           rfl
          refine take_ (i := 0) (N := some 32) (v := ?_) (a' := ?_) #[true, false, true, false, false, false, false] rfl rfl (by kernel_rfl) (fun _ _ _ h => h) (Or.inl ⟨by rfl, ?_⟩) hHeld ?_ ?_
          rotate_left
          ·
           rintro w' ⟨s0, s1, s2, s3⟩
           go_simp
           with_reducible rfl
          rotate_left
          ·
           simp only [Act.put, List.setIfInBounds_toArray, List.set_cons_zero, List.set_cons_succ, i64_w, i32_w]
           rfl
          refine take_ (i := 1) (N := some 33) (v := ?_) (a' := ?_) #[true, true, true, false, false, false, false] rfl rfl (by kernel_rfl) (fun _ _ _ h => h) (Or.inl ⟨by rfl, ?_⟩) hHeld ?_ ?_
          rotate_left
          ·
           rintro w' ⟨s0, s1, s2, s3⟩
           go_simp
           with_reducible rfl
          rotate_left
          ·
           simp only [Act.put, List.setIfInBounds_toArray, List.set_cons_zero, List.set_cons_succ, i64_w, i32_w]
           rfl
          refine one_ (i := 3) (N := some 35) #[true, true, true, true, false, false, false] rfl rfl (by kernel_rfl) (by decide) (fun K hK => ?_)
          refine goes_ Try.func50 (by kernel_rfl) rfl #[.int .i64 x4_1, .int .i64 1] (by rfl) rfl rfl sG ?_
          with_reducible refine (impl_fraction.calls k2 x4_1 1 t230 t231 _ A19.out).mono ?_
          rintro e w27 ⟨rfl, hb⟩
          refine ⟨_, rfl, ?_⟩
          have n0_ := aS (blk_below (g := gb227) (o := .cells #[.int .i64 x228000_2, .int .i64 x228001_2] 25 (0, 0)) (sB BK227.out) hb)
          have n1_ := aS (blk_below (g := gb229) (o := .cells #[.int .i64 ((rd_T28 l0 x28_2).f0), .int .i64 ((rd_T28 l0 x28_2).f1)] 28 (0, 0)) (sB BK229.out) hb)
          have n2_ := aS (below_step (sW HB.out) hb)
          clear BK227 BK229 HB
          have BK227 := n0_; have BK229 := n1_; have HB := n2_
          clear n0_ n1_ n2_
          (try clear hb); (try clear hb2); (try clear hk); (try clear hi)
          refine hK.out _ _ ⟨(blk_cell BK227.out 0).trans rfl, (blk_cell BK227.out 1).trans rfl, (blk_cell BK229.out 0).trans rfl, (blk_cell BK229.out 1).trans rfl⟩ (fun hHeld => ?_)
          clear hK K
          refine norm_ (a' := ?_) ?_ ?_
          rotate_left
          ·
           show Act.put _ (some 35) _ = _
           simp only [Act.put, List.setIfInBounds_toArray, List.set_cons_zero, List.set_cons_succ, i64_w, i32_w]
           rfl
          refine one_ (i := 4) (N := some 36) #[true, true, true, true, true, false, false] rfl rfl (by kernel_rfl) (by decide) (fun K hK => ?_)
          refine goes_ Try.func52 (by kernel_rfl) rfl #[.agg #[.int .i64 ((rd_T28 l0 x28_2).f0), .int .i64 ((rd_T28 l0 x28_2).f1)], .agg #[.int .i64 t230, .int .i64 t231]] (by rfl) rfl rfl sG ?_
          with_reducible refine (impl_springForce.calls k2 ((rd_T28 l0 x28_2).f0) ((rd_T28 l0 x28_2).f1) t230 t231 t232 t233 _ A20.out).mono ?_
          rintro e w28 ⟨rfl, hb⟩
          refine ⟨_, rfl, ?_⟩
          have n0_ := aS (blk_below (g := gb227) (o := .cells #[.int .i64 x228000_2, .int .i64 x228001_2] 25 (0, 0)) (sB BK227.out) hb)
          have n1_ := aS (blk_below (g := gb229) (o := .cells #[.int .i64 ((rd_T28 l0 x28_2).f0), .int .i64 ((rd_T28 l0 x28_2).f1)] 28 (0, 0)) (sB BK229.out) hb)
          have n2_ := aS (below_step (sW HB.out) hb)
          clear BK227 BK229 HB
          have BK227 := n0_; have BK229 := n1_; have HB := n2_
          clear n0_ n1_ n2_
          (try clear hb); (try clear hb2); (try clear hk); (try clear hi)
          refine hK.out _ _ ⟨(blk_cell BK227.out 0).trans rfl, (blk_cell BK227.out 1).trans rfl, (blk_cell BK229.out 0).trans rfl, (blk_cell BK229.out 1).trans rfl⟩ (fun hHeld => ?_)
          clear hK K
          refine norm_ (a' := ?_) ?_ ?_
          rotate_left
          ·
           show Act.put _ (some 36) _ = _
           simp only [Act.put, List.setIfInBounds_toArray, List.set_cons_zero, List.set_cons_succ, i64_w, i32_w]
           rfl
          refine one_ (i := 5) (N := some 37) #[true, true, true, true, true, true, false] rfl rfl (by kernel_rfl) (by decide) (fun K hK => ?_)
          refine goes_ Try.func56 (by kernel_rfl) rfl #[.agg #[.int .i64 x228000_2, .int .i64 x228001_2], .agg #[.int .i64 t232, .int .i64 t233]] (by rfl) rfl rfl sG ?_
          with_reducible refine (impl_addFractions.calls k2 x228000_2 x228001_2 t232 t233 t234 t235 _ A21.out).mono ?_
          rintro e w29 ⟨rfl, hb⟩
          refine ⟨_, rfl, ?_⟩
          have n0_ := aS (blk_below (g := gb227) (o := .cells #[.int .i64 x228000_2, .int .i64 x228001_2] 25 (0, 0)) (sB BK227.out) hb)
          have n1_ := aS (blk_below (g := gb229) (o := .cells #[.int .i64 ((rd_T28 l0 x28_2).f0), .int .i64 ((rd_T28 l0 x28_2).f1)] 28 (0, 0)) (sB BK229.out) hb)
          have n2_ := aS (below_step (sW HB.out) hb)
          clear BK227 BK229 HB
          have BK227 := n0_; have BK229 := n1_; have HB := n2_
          clear n0_ n1_ n2_
          (try clear hb); (try clear hb2); (try clear hk); (try clear hi)
          refine hK.out _ _ ⟨(blk_cell BK227.out 0).trans rfl, (blk_cell BK227.out 1).trans rfl, (blk_cell BK229.out 0).trans rfl, (blk_cell BK229.out 1).trans rfl⟩ (fun hHeld => ?_)
          clear hK K
          refine norm_ (a' := ?_) ?_ ?_
          rotate_left
          ·
           show Act.put _ (some 37) _ = _
           simp only [Act.put, List.setIfInBounds_toArray, List.set_cons_zero, List.set_cons_succ, i64_w, i32_w]
           rfl
          refine last_ (i := 6) (N := none) #[true, true, true, true, true, true, true] rfl rfl (by kernel_rfl) (by decide) (fun K hK => ?_)
          have hs30 : w29.cell? ⟨gb227, 0, none⟩ = some (.int .i64 x228000_2) := (blk_cell BK227.out 0).trans rfl
          have hfs30 := blk_frozen BK227.out 0
          have hns30_1 := NB229_227.out
          have hms30_1 := NB227_229.out
          have hs31 : w29.cell? ⟨gb227, 1, none⟩ = some (.int .i64 x228001_2) := (blk_cell BK227.out 1).trans rfl
          have hfs31 := blk_frozen BK227.out 1
          have hns31_1 := NB229_227.out
          have hms31_1 := NB227_229.out
          refine skip_ (w1 := ?_) (by rfl) rfl ?_ ?_
          rotate_left
          ·
           go_simp
           rfl
          refine hK.out _ _ ?_
          clear hK K
          refine done_ (by kernel_rfl) ?_
          try go_wp2
          go_roundg k2
          case measure => have := HK1.out; have := HK2.out; omega
          case rel => exact ⟨(wrap64 (x28_2 + 1)), (t234), (t235), (by first | rfl | (simp; done) | (simp [*]; done) | (simp only [i64_w]; done) | (simp [i64_w]; done)), H', ⟨by have := HK1.out; have := HK2.out; omega⟩, ⟨by (with_reducible repeat (first | refine blk_drewN ?_ _ | refine blk_drew ?_ | refine blk_alloc ?_ _)); refine blk_put (cs := #[.int .i64 t234, .int .i64 x228001_2]) ?_ 1 _ rfl; (with_reducible repeat (first | refine blk_drewN ?_ _ | refine blk_drew ?_ | refine blk_alloc ?_ _)); refine blk_put (cs := #[.int .i64 x228000_2, .int .i64 x228001_2]) ?_ 0 _ rfl; (with_reducible repeat (first | refine blk_drewN ?_ _ | refine blk_drew ?_ | refine blk_alloc ?_ _)); exact BK227.out⟩, ⟨by repeat (first | (with_reducible first | exact HB.out | apply below_alloc | apply pw_below_drewN | apply below_drew1 | refine below_set ?_ GE227.out | refine below_set ?_ GE229.out) | exact HB.out)⟩⟩
         ·
          rw [if_neg c18] at H
          exact absurd H (by simp)
        ·
         rw [if_neg c17] at H
         exact absurd H (by simp)
       ·
        rw [if_neg c16] at H
        have c16b0 : decide (x28_2 < (l0.length : Int)) = false := decide_eq_false c16
        clear c16
        by_cases c32 : x228001_2 = 0
        ·
         rw [if_pos c32] at H
         exact absurd H (by simp)
        ·
         rw [if_neg c32] at H
         have c32b0 : (x228001_2 == 0) = false := beq_eq_false_iff_ne.mpr c32
         have c32b1 : (x228001_2 != 0) = true := bne_iff_ne.mpr c32
         by_cases c33 : (wrap64 ((wrap64 (Int.tdiv x228000_2 x228001_2)) + 1)) > 10000
         ·
          rw [if_pos c33] at H
          have c33b0 : decide (10000 < (wrap64 ((wrap64 (Int.tdiv x228000_2 x228001_2)) + 1))) = true := decide_eq_true c33
          clear c33
          simp only [Option.some.injEq, Prod.mk.injEq] at H
          obtain ⟨rfl, rfl⟩ := H
          have hcz34_0 : wr.cell? ⟨gb227, 0, none⟩ = some (.int .i64 x228000_2) := (blk_cell BK227.out 0).trans rfl
          have hcz34_1 : wr.cell? ⟨gb227, 1, none⟩ = some (.int .i64 x228001_2) := (blk_cell BK227.out 1).trans rfl
          have hfz34_0 := blk_frozen BK227.out 0
          have hfz34_1 := blk_frozen BK227.out 1
          go_wp2
          go_ret2
          exact ⟨by first | rfl | (simp [errW_none, errW_some, i64_w]; done) | (simp [errW_none, errW_some] <;> rfl) | (simp [*, errW_none, errW_some] <;> rfl), by repeat (first | (with_reducible first | exact HB.out | apply below_alloc | apply pw_below_drewN | apply below_drew1) | exact HB.out)⟩
         ·
          rw [if_neg c33] at H
          have c33b0 : decide (10000 < (wrap64 ((wrap64 (Int.tdiv x228000_2 x228001_2)) + 1))) = false := decide_eq_false c33
          clear c33
          simp only [Option.some.injEq, Prod.mk.injEq] at H
          obtain ⟨rfl, rfl⟩ := H
          have hcz35_0 : wr.cell? ⟨gb227, 0, none⟩ = some (.int .i64 x228000_2) := (blk_cell BK227.out 0).trans rfl
          have hcz35_1 : wr.cell? ⟨gb227, 1, none⟩ = some (.int .i64 x228001_2) := (blk_cell BK227.out 1).trans rfl
          have hfz35_0 := blk_frozen BK227.out 0
          have hfz35_1 := blk_frozen BK227.out 1
          go_wp2
          go_ret2
          exact ⟨by first | rfl | (simp [errW_none, errW_some, i64_w]; done) | (simp [errW_none, errW_some] <;> rfl) | (simp [*, errW_none, errW_some] <;> rfl), by repeat (first | (with_reducible first | exact HB.out | apply below_alloc | apply pw_below_drewN | apply below_drew1) | exact HB.out)⟩
 ·
  replace c5 := Bool.eq_false_iff.mpr c5
  subst c5
  have H1 : (some (0, 1)) = some (r1, r2) := by rw [if_neg (show ¬ (false = true) by decide)] at H; exact H
  clear H
  have H := H1
  clear H1
  simp only [Option.some.injEq, Prod.mk.injEq] at H
  obtain ⟨rfl, rfl⟩ := H
  go_wp2
  go_ret2
  exact ⟨by first | rfl | (simp [errW_none, errW_some, i64_w]; done) | (simp [errW_none, errW_some] <;> rfl) | (simp [*, errW_none, errW_some] <;> rfl), by repeat (first | (with_reducible first | exact HB.out | apply below_alloc | apply pw_below_drewN | apply below_drew1) | exact HB.out)⟩

/-! ### laws_FnExactAllBear: function 7 -/
def laws_FnExactAllBear.j0 : Nat → List (S23) → List (S28) → Bool → Option (Bool)
 | 0, _, _, _ => none
 | k + 1, x0, x6, x34 => if x34 = true then (some false) else ((laws_toSpringS.f k x0).bind fun t247 => ((laws_eqSpringS.f k x6 t247).bind fun t250 => (if t250 = true then (some true) else (some false))))
def laws_FnExactAllBear.f (k : Nat) (l0 : List (S23)) : Option (Bool) := (laws_szSpringS.f l0 1048576).bind fun t236 => (if t236 < 0 then (some true) else ((laws_toSpringS.f k l0).bind fun t237 => ((spec_AllBear.f k t237).bind fun bt240 => ((laws_toSpringS.f k l0).bind fun t242 => ((impl_AllBear.f k t242).bind fun bt245 => (if bt245.1 = bt240.1 then (laws_FnExactAllBear.j0 k l0 t242 (bt245.2 != bt240.2)) else (laws_FnExactAllBear.j0 k l0 t242 true)))))))
theorem laws_FnExactAllBear.mono_l : ∀ k, (∀ y0 y1 y2, LeO (laws_FnExactAllBear.j0 k y0 y1 y2) (laws_FnExactAllBear.j0 (k + 1) y0 y1 y2))
 | 0 => fun _ _ _ r h => by simp [laws_FnExactAllBear.j0] at h
 | k + 1 => by
  have ih0 := laws_FnExactAllBear.mono_l k
  ·
   intro y0 y1 y2
   unfold laws_FnExactAllBear.j0
   repeat' first
   | (with_reducible exact ih0 _ _ _)
   | (with_reducible exact impl_AllBear.mono _ _)
   | (with_reducible exact laws_eqSpringS.mono _ _ _)
   | (with_reducible exact laws_toSpringS.mono _ _)
   | (with_reducible exact spec_AllBear.mono _ _)
   | (with_reducible exact LeO.refl _)
   | (with_reducible exact LeO.none _)
   | (with_reducible refine LeO.ite ?_ ?_)
   | (with_reducible refine LeO.bind ?_ (fun _ => ?_))
   | exact ih0 _ _ _
   | exact impl_AllBear.mono _ _
   | exact laws_eqSpringS.mono _ _ _
   | exact laws_toSpringS.mono _ _
   | exact spec_AllBear.mono _ _
   | exact LeO.none _
   | refine LeO.ite ?_ ?_
   | refine LeO.bind ?_ (fun _ => ?_)
theorem laws_FnExactAllBear.mono : ∀ a0 k, LeO (laws_FnExactAllBear.f k a0) (laws_FnExactAllBear.f (k + 1) a0) := by
 intro a0 k
 have ih0 := laws_FnExactAllBear.mono_l k
 unfold laws_FnExactAllBear.f
 repeat' first
   | (with_reducible exact ih0 _ _ _)
   | (with_reducible exact impl_AllBear.mono _ _)
   | (with_reducible exact laws_eqSpringS.mono _ _ _)
   | (with_reducible exact laws_toSpringS.mono _ _)
   | (with_reducible exact spec_AllBear.mono _ _)
   | (with_reducible exact LeO.refl _)
   | (with_reducible exact LeO.none _)
   | (with_reducible refine LeO.ite ?_ ?_)
   | (with_reducible refine LeO.bind ?_ (fun _ => ?_))
   | exact ih0 _ _ _
   | exact impl_AllBear.mono _ _
   | exact laws_eqSpringS.mono _ _ _
   | exact laws_toSpringS.mono _ _
   | exact spec_AllBear.mono _ _
   | exact LeO.none _
   | refine LeO.ite ?_ ?_
   | refine LeO.bind ?_ (fun _ => ?_)
set_option maxHeartbeats 8000000 in
set_option maxRecDepth 100000 in
theorem laws_FnExactAllBear.calls (k : Nat) (A0 : Option Addr) (c0 : Nat) (l0 : List (S23)) (r : Bool) (w : World) (hr0 : Kd.C k23 w A0 l0.length l0) (hc0 : l0.length ≤ c0) (h : laws_FnExactAllBear.f k l0 = some r) :
  Calls Try.prog 7 #[.slice A0 l0.length c0] w fun e w' => e = .returned (.bool r) ∧ Below w.heap.size w w' := by
 have HR0 := aS hr0
 have HC0 := aS hc0
 clear hr0 hc0
 have HB := aS (Below.refl w.heap.size w)
 have H : ((laws_szSpringS.f l0 1048576).bind fun t236 => (if t236 < 0 then (some true) else ((laws_toSpringS.f k l0).bind fun t237 => ((spec_AllBear.f k t237).bind fun bt240 => ((laws_toSpringS.f k l0).bind fun t242 => ((impl_AllBear.f k t242).bind fun bt245 => (if bt245.1 = bt240.1 then (laws_FnExactAllBear.j0 k l0 t242 (bt245.2 != bt240.2)) else (laws_FnExactAllBear.j0 k l0 t242 true)))))))) = some r := h
 clear h
 replace H := Option.bind_eq_some_iff.mp H
 obtain ⟨t236, A20, H⟩ := H
 replace H : (if t236 < 0 then (some true) else ((laws_toSpringS.f k l0).bind fun t237 => ((spec_AllBear.f k t237).bind fun bt240 => ((laws_toSpringS.f k l0).bind fun t242 => ((impl_AllBear.f k t242).bind fun bt245 => (if bt245.1 = bt240.1 then (laws_FnExactAllBear.j0 k l0 t242 (bt245.2 != bt240.2)) else (laws_FnExactAllBear.j0 k l0 t242 true))))))) = some r := H
 have A2 := aS A20
 clear A20
 have HC3 := aS H
 clear H
 go_enter Try.func7, Try.ntmps7
 go_upto_if 13 with (first | ((with_reducible refine gate_callee (f := 23) rfl ?_); refine goesL_ (some 11) rfl rfl Try.func23 (by kernel_rfl) rfl #[.slice A0 l0.length c0, .int .i64 1048576] rfl sG ?_; (with_reducible refine (laws_szSpringS.calls _ _ l0 1048576 t236 _ ?side1 ?side2 A2.out).mono ?_); (case side1 => exact sC HR0.out); (case side2 => exact HC0.out); rintro e w' ⟨rfl, ⟨nd, rfl⟩⟩; refine ⟨_, rfl, ?_⟩))
 (try simp only [Act.put, List.setIfInBounds_toArray, List.set_cons_zero, List.set_cons_succ])
 have H := HC3.out
 clear HC3
 by_cases c4 : t236 < 0
 ·
  rw [if_pos c4] at H
  have c4b0 : decide (t236 < 0) = true := decide_eq_true c4
  clear c4
  (first | rw [c4b0] | (simp only [i64_w, i32_w]; rw [c4b0]) | (rw [c4b2]; simp only [Bool.not_false, Bool.not_true]) | skip)
  obtain rfl := Option.some.inj H
  go_wp2
  go_ret
  exact ⟨by first | rfl | (simp [errW_none, errW_some, i64_w]; done) | (simp [errW_none, errW_some] <;> rfl) | (simp [*, errW_none, errW_some] <;> rfl), by repeat (first | (with_reducible first | exact HB.out | apply below_alloc | apply pw_below_drewN | apply below_drew1) | exact HB.out)⟩
 ·
  rw [if_neg c4] at H
  have c4b0 : decide (t236 < 0) = false := decide_eq_false c4
  clear c4
  (first | rw [c4b0] | (simp only [i64_w, i32_w]; rw [c4b0]) | (rw [c4b2]; simp only [Bool.not_false, Bool.not_true]) | skip)
  replace H := Option.bind_eq_some_iff.mp H
  obtain ⟨t237, A50, H⟩ := H
  replace H : ((spec_AllBear.f k t237).bind fun bt240 => ((laws_toSpringS.f k l0).bind fun t242 => ((impl_AllBear.f k t242).bind fun bt245 => (if bt245.1 = bt240.1 then (laws_FnExactAllBear.j0 k l0 t242 (bt245.2 != bt240.2)) else (laws_FnExactAllBear.j0 k l0 t242 true))))) = some r := H
  have A5 := aS A50
  clear A50
  replace H := Option.bind_eq_some_iff.mp H
  obtain ⟨⟨t240, t241⟩, A60, H⟩ := H
  replace H : ((laws_toSpringS.f k l0).bind fun t242 => ((impl_AllBear.f k t242).bind fun bt245 => (if bt245.1 = t240 then (laws_FnExactAllBear.j0 k l0 t242 (bt245.2 != t241)) else (laws_FnExactAllBear.j0 k l0 t242 true)))) = some r := H
  have A6 := aS A60
  clear A60
  replace H := Option.bind_eq_some_iff.mp H
  obtain ⟨t242, A70, H⟩ := H
  replace H : ((impl_AllBear.f k t242).bind fun bt245 => (if bt245.1 = t240 then (laws_FnExactAllBear.j0 k l0 t242 (bt245.2 != t241)) else (laws_FnExactAllBear.j0 k l0 t242 true))) = some r := H
  have A7 := aS A70
  clear A70
  replace H := Option.bind_eq_some_iff.mp H
  obtain ⟨⟨t245, t246⟩, A80, H⟩ := H
  replace H : (if t245 = t240 then (laws_FnExactAllBear.j0 k l0 t242 (t246 != t241)) else (laws_FnExactAllBear.j0 k l0 t242 true)) = some r := H
  have A8 := aS A80
  clear A80
  have HC9 := aS H
  clear H
  go_upto_region 8 with (first | ((with_reducible refine gate_callee (f := 25) rfl ?_); refine goesL_ (some 16) rfl rfl Try.func25 (by kernel_rfl) rfl #[.slice A0 l0.length c0] rfl sG ?_; (with_reducible refine (laws_toSpringS.calls k _ _ l0 t237 _ ?side1 ?side2 A5.out).mono ?_); (case side1 => exact sC (Kd.C_below HR0.out HB.out)); (case side2 => exact HC0.out); rintro e w10 ⟨v238, rfl, ho0, hb⟩; refine ⟨_, rfl, ?_⟩; have n0_ := aS (Kd.R_lower ho0 (below_size (sW HB.out))); have n1_ := aS (below_step (sW HB.out) hb); clear HB; have HO239 := n0_; have HB := n1_; clear n0_ n1_; (try clear hb); (try clear hb2); (try clear hk); (try clear hi); (try clear ho0); obtain ⟨Ao11, co11, eo11⟩ := Kd.R_slice HO239.out; subst eo11) | ((with_reducible refine gate_callee (f := 27) rfl ?_); refine goesL_ (some 17) rfl rfl Try.func27 (by kernel_rfl) rfl #[.slice Ao11 t237.length co11] rfl sG ?_; (with_reducible refine (spec_AllBear.calls k _ _ t237 t240 t241 _ ?side1 ?side2 A6.out).mono ?_); (case side1 => exact sC (Kd.R_reads' HO239.out).2.2); (case side2 => exact (Kd.R_reads' HO239.out).2.1); rintro e w12 ⟨rfl, hb⟩; refine ⟨_, rfl, ?_⟩; have n0_ := aS (Kd.R_below (sR HO239.out) hb); have n1_ := aS (below_step (sW HB.out) hb); clear HO239 HB; have HO239 := n0_; have HB := n1_; clear n0_ n1_; (try clear hb); (try clear hb2); (try clear hk); (try clear hi)) | ((with_reducible refine gate_callee (f := 25) rfl ?_); refine goesL_ (some 21) rfl rfl Try.func25 (by kernel_rfl) rfl #[.slice A0 l0.length c0] rfl sG ?_; (with_reducible refine (laws_toSpringS.calls k _ _ l0 t242 _ ?side1 ?side2 A7.out).mono ?_); (case side1 => exact sC (Kd.C_below HR0.out HB.out)); (case side2 => exact HC0.out); rintro e w13 ⟨v243, rfl, ho0, hb⟩; refine ⟨_, rfl, ?_⟩; have n0_ := aS (Kd.R_elder' (sR HO239.out) (Kd.R_base ho0) hb); have n1_ := aS (Kd.R_lower (Kd.R_new' ho0 (Kd.R_lt (sR HO239.out))) (below_size (sW HB.out))); have n2_ := aS (below_step (sW HB.out) hb); clear HO239 HB; have HO239 := n0_; have HO244 := n1_; have HB := n2_; clear n0_ n1_ n2_; (try clear hb); (try clear hb2); (try clear hk); (try clear hi); (try clear ho0); obtain ⟨Ao14, co14, eo14⟩ := Kd.R_slice HO244.out; subst eo14) | ((with_reducible refine gate_callee (f := 28) rfl ?_); refine goesL_ (some 24) rfl rfl Try.func28 (by kernel_rfl) rfl #[.slice Ao14 t242.length co14] rfl sG ?_; (with_reducible refine (impl_AllBear.calls k _ _ t242 t245 t246 _ ?side1 ?side2 A8.out).mono ?_); (case side1 => exact sC (Kd.R_reads' HO244.out).2.2); (case side2 => exact (Kd.R_reads' HO244.out).2.1); rintro e w15 ⟨rfl, hb⟩; refine ⟨_, rfl, ?_⟩; have n0_ := aS (Kd.R_below (sR HO239.out) hb); have n1_ := aS (Kd.R_below (sR HO244.out) hb); have n2_ := aS (below_step (sW HB.out) hb); clear HO239 HO244 HB; have HO239 := n0_; have HO244 := n1_; have HB := n2_; clear n0_ n1_ n2_; (try clear hb); (try clear hb2); (try clear hk); (try clear hi)))
  (try simp only [Act.put, List.setIfInBounds_toArray, List.set_cons_zero, List.set_cons_succ])
  go_cut [34] (fun v34 wc => ∃ (kq : Nat) (x34_8 : Bool), v34 = .bool x34_8 ∧ Aside0 (laws_FnExactAllBear.j0 kq l0 t242 x34_8 = some r) ∧ Aside0 (kq ≤ k) ∧ Aside0 (Kd.R k28 28 wc w.heap.size (fun _ => True) (.slice Ao14 t242.length co14) t242) ∧ Aside0 (Below w.heap.size w wc))
  case first =>
   have H := HC9.out
   clear HC9
   by_cases c16 : t245 = t240
   ·
    rw [if_pos c16] at H
    have c16b0 : (t245 == t240) = true := beq_iff_eq.mpr c16
    have c16b1 : (t245 != t240) = false := bne_eq_false_iff_eq.mpr c16
    clear c16
    (first | rw [c16b0] | (simp only [i64_w, i32_w]; rw [c16b0]) | (rw [c16b2]; simp only [Bool.not_false, Bool.not_true]) | skip)
    have H' := aS H
    clear H
    go_wp2
    go_meet
    case rel => exact ⟨_, ((t246 != t241)), (by first | rfl | (simp; done) | (simp [*]; done) | (simp only [i64_w]; done) | (simp [i64_w]; done)), H', ⟨by first | omega | exact Nat.le_refl _⟩, ⟨by (with_reducible repeat (first | apply Kd.R_alloc | apply Kd.R_drewN | apply Kd.R_drew)); exact Kd.R_mono HO244.out (fun _ hk => trivial)⟩, ⟨by repeat (first | (with_reducible first | exact HB.out | apply below_alloc | apply pw_below_drewN | apply below_drew1) | exact HB.out)⟩⟩
   ·
    rw [if_neg c16] at H
    have c16b0 : (t245 == t240) = false := beq_eq_false_iff_ne.mpr c16
    have c16b1 : (t245 != t240) = true := bne_iff_ne.mpr c16
    (first | rw [c16b0] | (simp only [i64_w, i32_w]; rw [c16b0]) | (rw [c16b2]; simp only [Bool.not_false, Bool.not_true]) | skip)
    have H' := aS H
    clear H
    go_wp2
    go_meet
    case rel => exact ⟨_, (true), (by first | rfl | (simp; done) | (simp [*]; done) | (simp only [i64_w]; done) | (simp [i64_w]; done)), H', ⟨by first | omega | exact Nat.le_refl _⟩, ⟨by (with_reducible repeat (first | apply Kd.R_alloc | apply Kd.R_drewN | apply Kd.R_drew)); exact Kd.R_mono HO244.out (fun _ hk => trivial)⟩, ⟨by repeat (first | (with_reducible first | exact HB.out | apply below_alloc | apply pw_below_drewN | apply below_drew1) | exact HB.out)⟩⟩
  case rest =>
   clear HC9
   (try clear c1); (try clear c2); (try clear p2); (try clear c4); (try clear c4b0); (try clear c4b2); (try clear c7); (try clear c16); (try clear c16b0); (try clear c16b1); (try clear c16b2)
   obtain ⟨kq, x34_8, rfl, HA, HJ8, HO_6, HB⟩ := hcut
   cases kq with
   | zero => exact absurd HA.out (by simp [laws_FnExactAllBear.j0])
   | succ kj8 =>
    have H := HA.out
    clear HA
    simp only [laws_FnExactAllBear.j0] at H
    by_cases c17 : x34_8 = true
    ·
     subst c17
     have H1 : (some false) = some r := by rw [if_pos rfl] at H; exact H
     clear H
     have H := H1
     clear H1
     obtain rfl := Option.some.inj H
     go_wp2
     go_ret
     exact ⟨by first | rfl | (simp [errW_none, errW_some, i64_w]; done) | (simp [errW_none, errW_some] <;> rfl) | (simp [*, errW_none, errW_some] <;> rfl), by repeat (first | (with_reducible first | exact HB.out | apply below_alloc | apply pw_below_drewN | apply below_drew1) | exact HB.out)⟩
    ·
     replace c17 := Bool.eq_false_iff.mpr c17
     subst c17
     have H1 : ((laws_toSpringS.f kj8 l0).bind fun t247 => ((laws_eqSpringS.f kj8 t242 t247).bind fun t250 => (if t250 = true then (some true) else (some false)))) = some r := by rw [if_neg (show ¬ (false = true) by decide)] at H; exact H
     clear H
     have H := H1
     clear H1
     replace H := Option.bind_eq_some_iff.mp H
     obtain ⟨t247, A180, H⟩ := H
     replace H : ((laws_eqSpringS.f kj8 t242 t247).bind fun t250 => (if t250 = true then (some true) else (some false))) = some r := H
     have A18 := aS A180
     clear A180
     replace H := Option.bind_eq_some_iff.mp H
     obtain ⟨t250, A190, H⟩ := H
     replace H : (if t250 = true then (some true) else (some false)) = some r := H
     have A19 := aS A190
     clear A190
     have HC20 := aS H
     clear H
     go_upto_if 39 with (first | ((with_reducible refine gate_callee (f := 25) rfl ?_); refine goesL_ (some 37) rfl rfl Try.func25 (by kernel_rfl) rfl #[.slice A0 l0.length c0] rfl sG ?_; (with_reducible refine (laws_toSpringS.calls kj8 _ _ l0 t247 _ ?side1 ?side2 A18.out).mono ?_); (case side1 => exact sC (Kd.C_below HR0.out HB.out)); (case side2 => exact HC0.out); rintro e w21 ⟨v248, rfl, ho0, hb⟩; refine ⟨_, rfl, ?_⟩; have n0_ := aS (Kd.R_elder' (sR HO_6.out) (Kd.R_base ho0) hb); have n1_ := aS (Kd.R_lower (Kd.R_new' ho0 (Kd.R_lt (sR HO_6.out))) (below_size (sW HB.out))); have n2_ := aS (below_step (sW HB.out) hb); clear HO_6 HB; have HO_6 := n0_; have HO249 := n1_; have HB := n2_; clear n0_ n1_ n2_; (try clear hb); (try clear hb2); (try clear hk); (try clear hi); (try clear ho0); obtain ⟨Ao22, co22, eo22⟩ := Kd.R_slice HO249.out; subst eo22) | ((with_reducible refine gate_callee (f := 26) rfl ?_); refine goesL_ (some 38) rfl rfl Try.func26 (by kernel_rfl) rfl #[.slice Ao14 t242.length co14, .slice Ao22 t247.length co22] rfl sG ?_; (with_reducible refine (laws_eqSpringS.calls kj8 _ _ t242 _ _ t247 t250 _ ?side1 ?side2 ?side3 ?side4 A19.out).mono ?_); (case side1 => exact sC (Kd.R_reads' HO_6.out).2.2); (case side2 => exact (Kd.R_reads' HO_6.out).2.1); (case side3 => exact sC (Kd.R_reads' HO249.out).2.2); (case side4 => exact (Kd.R_reads' HO249.out).2.1); rintro e w23 ⟨rfl, hb⟩; refine ⟨_, rfl, ?_⟩; have n0_ := aS (Kd.R_below (sR HO_6.out) hb); have n1_ := aS (Kd.R_below (sR HO249.out) hb); have n2_ := aS (below_step (sW HB.out) hb); clear HO_6 HO249 HB; have HO_6 := n0_; have HO249 := n1_; have HB := n2_; clear n0_ n1_ n2_; (try clear hb); (try clear hb2); (try clear hk); (try clear hi)))
     (try simp only [Act.put, List.setIfInBounds_toArray, List.set_cons_zero, List.set_cons_succ])
     have H := HC20.out
     clear HC20
     by_cases c24 : t250 = true
     ·
      subst c24
      have H1 : (some true) = some r := by rw [if_pos rfl] at H; exact H
      clear H
      have H := H1
      clear H1
      obtain rfl := Option.some.inj H
      go_wp2
      go_ret
      exact ⟨by first | rfl | (simp [errW_none, errW_some, i64_w]; done) | (simp [errW_none, errW_some] <;> rfl) | (simp [*, errW_none, errW_some] <;> rfl), by repeat (first | (with_reducible first | exact HB.out | apply below_alloc | apply pw_below_drewN | apply below_drew1) | exact HB.out)⟩
     ·
      replace c24 := Bool.eq_false_iff.mpr c24
      subst c24
      have H1 : (some false) = some r := by rw [if_neg (show ¬ (false = true) by decide)] at H; exact H
      clear H
      have H := H1
      clear H1
      obtain rfl := Option.some.inj H
      go_wp2
      go_ret
      exact ⟨by first | rfl | (simp [errW_none, errW_some, i64_w]; done) | (simp [errW_none, errW_some] <;> rfl) | (simp [*, errW_none, errW_some] <;> rfl), by repeat (first | (with_reducible first | exact HB.out | apply below_alloc | apply pw_below_drewN | apply below_drew1) | exact HB.out)⟩

/-- THE ONE PURE STATEMENT of laws_FnExactAllBear. -/
def laws_FnExactAllBear.Pure : Prop := ∀ (l0 : List (S23)), (l0.length * 16 ≤ 140737488351232 ∧ l0.length ≤ maxLen ∧ (∀ y0 ∈ l0, ((Lit.int .i64 y0.f0).wf = true) ∧ ((Lit.int .i64 y0.f1).wf = true))) → ∃ k, laws_FnExactAllBear.f k l0 = some true
theorem laws_FnExactAllBear.walk : True := trivial

end Go.Proofs.Ytmokjfncblnfcaa.QFnExactAllBear

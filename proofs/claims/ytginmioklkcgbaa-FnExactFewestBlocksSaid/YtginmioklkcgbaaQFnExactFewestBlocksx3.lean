/- What the Go functions of this law compute, each as a Lean function, and that each call comes to that answer; written by a program of this session. No condition. -/
import Derived.Test.YtginmioklkcgbaaQFnExactFewestBlocksx0
import Derived.Test.YtginmioklkcgbaaQFnExactFewestBlocksx1
import Derived.Test.YtginmioklkcgbaaQFnExactFewestBlocksx2
namespace Go.Proofs.Ytginmioklkcgbaa.QFnExactFewestBlocks
open Go.RowKit Go.Proofs.YtginmioklkcgbaaW.PrintWords Go.Proofs.YtginmioklkcgbaaW.PrintLast Go.Proofs.YtginmioklkcgbaaW.PrintMore
attribute [local go_sem] max2_int min2_int max_two min_two max_three min_three max_four min_four   -- for this text's walks alone
set_option linter.unusedVariables false
set_option linter.unusedSimpArgs false

/-! ### spec_l05All: function 120 -/
mutual
def spec_l05All.l0 : Nat → Int → List (S140) → Int → Option ((List (S140)))
 | 0, _, _, _ => none
 | k + 1, x0, x3, x4 => if x4 ≤ 2 then (spec_l05All.l1 k x0 x3 x4 1) else (some x3)
def spec_l05All.l1 : Nat → Int → List (S140) → Int → Int → Option ((List (S140)))
 | 0, _, _, _, _ => none
 | k + 1, x0, x3, x4, x5 => if x5 ≤ 8 then ((spec_l05One.f k (wrap64 (Int.tdiv (wrap64 (x5 + 1)) 2)) (wrap64 (Int.tdiv x5 2)) false).bind fun bt130 => (if bt130.1 = true then ((spec_l05Count.f bt130.2.1 bt130.2.2.1 bt130.2.2.2).bind fun bt134 => (if bt134.1 = x4 then ((spec_l05Parts.f bt134.2.1 bt134.2.2.1 bt134.2.2.2).bind fun bt138 => (spec_l05All.j2 k x0 x3 x4 x5 (bt138.1 == x0) bt138.2.1 bt138.2.2.1 bt138.2.2.2)) else (spec_l05All.j2 k x0 x3 x4 x5 false bt134.2.1 bt134.2.2.1 bt134.2.2.2))) else (spec_l05All.j2 k x0 x3 x4 x5 false bt130.2.1 bt130.2.2.1 bt130.2.2.2))) else (spec_l05All.l0 k x0 x3 (wrap64 (x4 + 1)))
def spec_l05All.j2 : Nat → Int → List (S140) → Int → Int → Bool → Int → Int → Bool → Option ((List (S140)))
 | 0, _, _, _, _, _, _, _, _ => none
 | k + 1, x0, x3, x4, x5, x33, x130000, x130001, x130002 => if x33 = true then (if x3.length < 5864062014805 then (spec_l05All.j3 k x0 (x3 ++ [(⟨x130000, x130001, x130002⟩ : S140)]) x4 x5) else (none)) else (spec_l05All.j3 k x0 x3 x4 x5)
def spec_l05All.j3 : Nat → Int → List (S140) → Int → Int → Option ((List (S140)))
 | 0, _, _, _, _ => none
 | k + 1, x0, x3, x4, x5 => (spec_l05One.f k (wrap64 (Int.tdiv x5 2)) (wrap64 (Int.tdiv (wrap64 (x5 + 1)) 2)) true).bind fun bt146 => (if bt146.1 = true then ((spec_l05Count.f bt146.2.1 bt146.2.2.1 bt146.2.2.2).bind fun bt150 => (if bt150.1 = x4 then ((spec_l05Parts.f bt150.2.1 bt150.2.2.1 bt150.2.2.2).bind fun bt154 => (if bt154.1 = x0 then (if x3.length < 5864062014805 then (spec_l05All.l1 k x0 (x3 ++ [(⟨bt154.2.1, bt154.2.2.1, bt154.2.2.2⟩ : S140)]) x4 (wrap64 (x5 + 1))) else (none)) else (spec_l05All.l1 k x0 x3 x4 (wrap64 (x5 + 1))))) else (spec_l05All.l1 k x0 x3 x4 (wrap64 (x5 + 1))))) else (spec_l05All.l1 k x0 x3 x4 (wrap64 (x5 + 1))))
end
def spec_l05All.f (k : Nat) (a0 : Int) : Option ((List (S140))) := spec_l05All.l0 k a0 (([] : List (S140))) 1
theorem spec_l05All.mono_l : ∀ k, (∀ y0 y1 y2, LeO (spec_l05All.l0 k y0 y1 y2) (spec_l05All.l0 (k + 1) y0 y1 y2)) ∧ (∀ y0 y1 y2 y3, LeO (spec_l05All.l1 k y0 y1 y2 y3) (spec_l05All.l1 (k + 1) y0 y1 y2 y3)) ∧ (∀ y0 y1 y2 y3 y4 y5 y6 y7, LeO (spec_l05All.j2 k y0 y1 y2 y3 y4 y5 y6 y7) (spec_l05All.j2 (k + 1) y0 y1 y2 y3 y4 y5 y6 y7)) ∧ (∀ y0 y1 y2 y3, LeO (spec_l05All.j3 k y0 y1 y2 y3) (spec_l05All.j3 (k + 1) y0 y1 y2 y3))
 | 0 => ⟨fun _ _ _ r h => by simp [spec_l05All.l0] at h, fun _ _ _ _ r h => by simp [spec_l05All.l1] at h, fun _ _ _ _ _ _ _ _ r h => by simp [spec_l05All.j2] at h, fun _ _ _ _ r h => by simp [spec_l05All.j3] at h⟩
 | k + 1 => by
  obtain ⟨ih0, ih1, ih2, ih3⟩ := spec_l05All.mono_l k
  refine ⟨?_, ?_, ?_, ?_⟩
  ·
   intro y0 y1 y2
   unfold spec_l05All.l0
   repeat' first
   | (with_reducible exact ih0 _ _ _)
   | (with_reducible exact ih1 _ _ _ _)
   | (with_reducible exact ih2 _ _ _ _ _ _ _ _)
   | (with_reducible exact ih3 _ _ _ _)
   | (with_reducible exact spec_l05One.mono _ _ _ _)
   | (with_reducible exact LeO.refl _)
   | (with_reducible exact LeO.none _)
   | (with_reducible refine LeO.ite ?_ ?_)
   | (with_reducible refine LeO.bind ?_ (fun _ => ?_))
   | exact ih0 _ _ _
   | exact ih1 _ _ _ _
   | exact ih2 _ _ _ _ _ _ _ _
   | exact ih3 _ _ _ _
   | exact spec_l05One.mono _ _ _ _
   | exact LeO.none _
   | refine LeO.ite ?_ ?_
   | refine LeO.bind ?_ (fun _ => ?_)
  ·
   intro y0 y1 y2 y3
   unfold spec_l05All.l1
   repeat' first
   | (with_reducible exact ih0 _ _ _)
   | (with_reducible exact ih1 _ _ _ _)
   | (with_reducible exact ih2 _ _ _ _ _ _ _ _)
   | (with_reducible exact ih3 _ _ _ _)
   | (with_reducible exact spec_l05One.mono _ _ _ _)
   | (with_reducible exact LeO.refl _)
   | (with_reducible exact LeO.none _)
   | (with_reducible refine LeO.ite ?_ ?_)
   | (with_reducible refine LeO.bind ?_ (fun _ => ?_))
   | exact ih0 _ _ _
   | exact ih1 _ _ _ _
   | exact ih2 _ _ _ _ _ _ _ _
   | exact ih3 _ _ _ _
   | exact spec_l05One.mono _ _ _ _
   | exact LeO.none _
   | refine LeO.ite ?_ ?_
   | refine LeO.bind ?_ (fun _ => ?_)
  ·
   intro y0 y1 y2 y3 y4 y5 y6 y7
   unfold spec_l05All.j2
   repeat' first
   | (with_reducible exact ih0 _ _ _)
   | (with_reducible exact ih1 _ _ _ _)
   | (with_reducible exact ih2 _ _ _ _ _ _ _ _)
   | (with_reducible exact ih3 _ _ _ _)
   | (with_reducible exact spec_l05One.mono _ _ _ _)
   | (with_reducible exact LeO.refl _)
   | (with_reducible exact LeO.none _)
   | (with_reducible refine LeO.ite ?_ ?_)
   | (with_reducible refine LeO.bind ?_ (fun _ => ?_))
   | exact ih0 _ _ _
   | exact ih1 _ _ _ _
   | exact ih2 _ _ _ _ _ _ _ _
   | exact ih3 _ _ _ _
   | exact spec_l05One.mono _ _ _ _
   | exact LeO.none _
   | refine LeO.ite ?_ ?_
   | refine LeO.bind ?_ (fun _ => ?_)
  ·
   intro y0 y1 y2 y3
   unfold spec_l05All.j3
   repeat' first
   | (with_reducible exact ih0 _ _ _)
   | (with_reducible exact ih1 _ _ _ _)
   | (with_reducible exact ih2 _ _ _ _ _ _ _ _)
   | (with_reducible exact ih3 _ _ _ _)
   | (with_reducible exact spec_l05One.mono _ _ _ _)
   | (with_reducible exact LeO.refl _)
   | (with_reducible exact LeO.none _)
   | (with_reducible refine LeO.ite ?_ ?_)
   | (with_reducible refine LeO.bind ?_ (fun _ => ?_))
   | exact ih0 _ _ _
   | exact ih1 _ _ _ _
   | exact ih2 _ _ _ _ _ _ _ _
   | exact ih3 _ _ _ _
   | exact spec_l05One.mono _ _ _ _
   | exact LeO.none _
   | refine LeO.ite ?_ ?_
   | refine LeO.bind ?_ (fun _ => ?_)
theorem spec_l05All.mono : ∀ a0 k, LeO (spec_l05All.f k a0) (spec_l05All.f (k + 1) a0) := by
 intro a0 k
 obtain ⟨ih0, ih1, ih2, ih3⟩ := spec_l05All.mono_l k
 unfold spec_l05All.f
 repeat' first
   | (with_reducible exact ih0 _ _ _)
   | (with_reducible exact ih1 _ _ _ _)
   | (with_reducible exact ih2 _ _ _ _ _ _ _ _)
   | (with_reducible exact ih3 _ _ _ _)
   | (with_reducible exact spec_l05One.mono _ _ _ _)
   | (with_reducible exact LeO.refl _)
   | (with_reducible exact LeO.none _)
   | (with_reducible refine LeO.ite ?_ ?_)
   | (with_reducible refine LeO.bind ?_ (fun _ => ?_))
   | exact ih0 _ _ _
   | exact ih1 _ _ _ _
   | exact ih2 _ _ _ _ _ _ _ _
   | exact ih3 _ _ _ _
   | exact spec_l05One.mono _ _ _ _
   | exact LeO.none _
   | refine LeO.ite ?_ ?_
   | refine LeO.bind ?_ (fun _ => ?_)
def spec_l05All.bF (n k : Nat) : Array Bool := ((List.range n).map fun i => k.testBit i).toArray
set_option maxHeartbeats 8000000 in
set_option maxRecDepth 100000 in
theorem spec_l05All.calls (k : Nat) (a0 : Int) (r : List (S140)) (w : World) (h : spec_l05All.f k a0 = some r) :
  Calls Try.prog 120 #[.int .i64 a0] w fun e w' => ∃ v0_ : Value, e = .returned (v0_) ∧ Kd.R k140 140 w' w.heap.size (fun _ => True) v0_ r ∧ Below w.heap.size w w' := by
 have hu140 := Try.underlying140
 have HB := aS (Below.refl w.heap.size w)
 have H : (spec_l05All.l0 k a0 (([] : List (S140))) 1) = some r := h
 clear h
 obtain ⟨y126, hy126⟩ : ∃ y_ : List (S140), y_ = (([] : List (S140))) := ⟨_, rfl⟩
 replace H : (spec_l05All.l0 k a0 y126 1) = some r := by first | (rw [hy126]; with_reducible exact H) | (have H2_ := (Option.bind_some _ _).symm.trans H; rw [hy126]; with_reducible exact H2_) | (have H2_ := (Option.bind_some _ _).symm.trans H; with_reducible exact H2_) | with_reducible exact H | (rw [hy126]; exact H) | exact H
 have Ny126 := aS hy126
 clear hy126
 have H' := aS H
 clear H
 go_enter Try.func120, Try.ntmps120
 go_wp2_with (first | ((with_reducible refine gate_dst (N := 8) rfl ?_); refine Kd.R_lit k140 _ 140 ?hg (N := 8) ?hd (xs := ([] : List (S140))) (inner := []) (ok := fun _ => True) (okp := fun _ => True) ?hr ?hp (fun _ hk => hk) trivial (Below.refl _ _) (Nat.le_refl _) (by simp) ?_; (case hd => rfl); (case hg => rfl); (case hr => first | (go_simp; done) | (go_simp; rfl)); (case hp => exact (Reps.none _ _)); intro v127 w2 ho3 hb hg_ hnew_; clear hg_ hnew_; (first | rw [← Ny126.out] at ho3 | (simp only [Int.reduceToNat] at ho3; rw [← Ny126.out] at ho3)); have n0_ := aS (Kd.R_lower ho3 (below_size (sW HB.out))); have n1_ := aS (below_step (sW HB.out) hb); clear HB; have HO128 := n0_; have HB := n1_; clear n0_ n1_; clear hb ho3))
 go_loopg [3, 4] k (fun kq v3 v4 w' => ∃ (x3_1 : List (S140)) (x4_1 : Int), v4 = .int .i64 x4_1 ∧ Aside0 (spec_l05All.l0 kq a0 x3_1 x4_1 = some r) ∧ Aside0 (kq ≤ k) ∧ Aside0 (Kd.R k140 140 w' w.heap.size (fun _ => True) v3 x3_1) ∧ Aside0 (Below w.heap.size w w'))
 case atStart => exact ⟨(y126), (1), (by first | rfl | (simp; done) | (simp [*]; done) | (simp only [i64_w]; done) | (simp [i64_w]; done)), H', ⟨Nat.le_refl _⟩, ⟨by (with_reducible repeat (first | apply Kd.R_alloc | apply Kd.R_drewN | apply Kd.R_drew)); exact HO128.out⟩, ⟨by repeat (first | (with_reducible first | exact HB.out | apply below_alloc | apply pw_below_drewN | apply below_drew1) | exact HB.out)⟩⟩
 case round =>
  clear H'
  (try clear c1); (try clear p2)
  obtain ⟨x3_1, x4_1, rfl, HA, HK1, HO_3, HB⟩ := hrel
  cases gk with
  | zero => exact absurd HA.out (by simp [spec_l05All.l0])
  | succ k1 =>
   have H := HA.out
   clear HA
   simp only [spec_l05All.l0] at H
   by_cases c4 : x4_1 ≤ 2
   ·
    rw [if_pos c4] at H
    have c4b0 : decide (x4_1 ≤ 2) = true := decide_eq_true c4
    clear c4
    have H' := aS H
    clear H
    go_wp2
    go_loopg [3, 5] k1 (fun kq v3 v5 w' => ∃ (x3_2 : List (S140)) (x5_2 : Int), v5 = .int .i64 x5_2 ∧ Aside0 (spec_l05All.l1 kq a0 x3_2 x4_1 x5_2 = some r) ∧ Aside0 (kq ≤ k1) ∧ Aside0 (Kd.R k140 140 w' w.heap.size (fun _ => True) v3 x3_2) ∧ Aside0 (Below w.heap.size w w'))
    case atStart => exact ⟨(x3_1), (1), (by first | rfl | (simp; done) | (simp [*]; done) | (simp only [i64_w]; done) | (simp [i64_w]; done)), H', ⟨Nat.le_refl _⟩, ⟨by (with_reducible repeat (first | apply Kd.R_alloc | apply Kd.R_drewN | apply Kd.R_drew)); exact HO_3.out⟩, ⟨by repeat (first | (with_reducible first | exact HB.out | apply below_alloc | apply pw_below_drewN | apply below_drew1) | exact HB.out)⟩⟩
    case round =>
     clear H'
     (try clear c1); (try clear p2); (try clear c4); (try clear c4b0); (try clear p2)
     obtain ⟨x3_2, x5_2, rfl, HA, HK2, HO_3, HB⟩ := hrel
     cases gk with
     | zero => exact absurd HA.out (by simp [spec_l05All.l1])
     | succ k2 =>
      have H := HA.out
      clear HA
      simp only [spec_l05All.l1] at H
      by_cases c5 : x5_2 ≤ 8
      rotate_left
      ·
       rw [if_neg c5] at H
       have c5b0 : decide (x5_2 ≤ 8) = false := decide_eq_false c5
       clear c5
       have H' := aS H
       clear H
       go_wp2
       go_roundg k2
       case measure => have := HK1.out; have := HK2.out; omega
       case rel => exact ⟨(x3_2), (wrap64 (x4_1 + 1)), (by first | rfl | (simp; done) | (simp [*]; done) | (simp only [i64_w]; done) | (simp [i64_w]; done)), H', ⟨by have := HK1.out; have := HK2.out; omega⟩, ⟨by (with_reducible repeat (first | apply Kd.R_alloc | apply Kd.R_drewN | apply Kd.R_drew)); exact HO_3.out⟩, ⟨by repeat (first | (with_reducible first | exact HB.out | apply below_alloc | apply pw_below_drewN | apply below_drew1) | exact HB.out)⟩⟩
      rw [if_pos c5] at H
      have c5b0 : decide (x5_2 ≤ 8) = true := decide_eq_true c5
      clear c5
      have HC6 := aS H
      clear H
      go_upto_region 9 with (first | ((with_reducible refine gate_dst (N := 6) rfl ?_); refine box_event ?hg (N := 6) ?hd (cs := #[.int .i64 0, .int .i64 0, .bool false]) (t := 140) ?hr ?_; (case hd => rfl); (case hg => rfl); (case hr => first | (go_simp; done) | (go_simp; rfl)); intro gb129 hg w7 hbox hb; have n0_ := aS (Kd.R_below (Kd.R_elderB (sR HO_3.out) gb129 (Nat.le_of_eq hg.symm)) hb); have n1_ := aS (below_step (sW HB.out) hb); have n2_ := aS (hbox); have n3_ := aS ((by rw [hg]; exact (below_size (sW HB.out)) : w.heap.size ≤ gb129)); have n4_ := aS ((by rw [hg]; exact (below_size (sW HB.out)) : w.heap.size ≤ gb129)); clear HO_3 HB; have HO_3 := n0_; have HB := n1_; have BK129 := n2_; have GW129 := n3_; have GE129 := n4_; clear n0_ n1_ n2_ n3_ n4_; clear hb hbox hg; have hcz8_0 : w7.cell? ⟨gb129, 0, none⟩ = some (.int .i64 0) := (blk_cell BK129.out 0).trans rfl; have hcz8_1 : w7.cell? ⟨gb129, 1, none⟩ = some (.int .i64 0) := (blk_cell BK129.out 1).trans rfl; have hcz8_2 : w7.cell? ⟨gb129, 2, none⟩ = some (.bool false) := (blk_cell BK129.out 2).trans rfl; have hfz8_0 := blk_frozen BK129.out 0; have hfz8_1 := blk_frozen BK129.out 1; have hfz8_2 := blk_frozen BK129.out 2))
      (try simp only [Act.put, List.setIfInBounds_toArray, List.set_cons_zero, List.set_cons_succ])
      go_cut [33] (fun v33 wc => ∃ (kq : Nat) (x33_5 : Bool) (x130000_5 : Int) (x130001_5 : Int) (x130002_5 : Bool), v33 = .bool x33_5 ∧ Aside0 (spec_l05All.j2 kq a0 x3_2 x4_1 x5_2 x33_5 x130000_5 x130001_5 x130002_5 = some r) ∧ Aside0 (kq ≤ k2) ∧ Aside0 (Kd.R k140 140 wc w.heap.size (fun k_ => k_ ≠ gb129) u3 x3_2) ∧ Aside0 (wc.heap[gb129]? = some (.cells #[.int .i64 x130000_5, .int .i64 x130001_5, .bool x130002_5] 140 (0, 0))) ∧ Aside0 (Below w.heap.size w wc))
      case first =>
       have H := HC6.out
       clear HC6
       replace H := Option.bind_eq_some_iff.mp H
       obtain ⟨⟨t130, t131, t132, t133⟩, A90, H⟩ := H
       replace H : (if t130 = true then ((spec_l05Count.f t131 t132 t133).bind fun bt134 => (if bt134.1 = x4_1 then ((spec_l05Parts.f bt134.2.1 bt134.2.2.1 bt134.2.2.2).bind fun bt138 => (spec_l05All.j2 k2 a0 x3_2 x4_1 x5_2 (bt138.1 == a0) bt138.2.1 bt138.2.2.1 bt138.2.2.2)) else (spec_l05All.j2 k2 a0 x3_2 x4_1 x5_2 false bt134.2.1 bt134.2.2.1 bt134.2.2.2))) else (spec_l05All.j2 k2 a0 x3_2 x4_1 x5_2 false t131 t132 t133)) = some r := H
       have A9 := aS A90
       clear A90
       by_cases c10 : t130 = true
       rotate_left
       ·
        replace c10 := Bool.eq_false_iff.mpr c10
        subst c10
        have H1 : (spec_l05All.j2 k2 a0 x3_2 x4_1 x5_2 false t131 t132 t133) = some r := by rw [if_neg (show ¬ (false = true) by decide)] at H; exact H
        clear H
        have H := H1
        clear H1
        have H' := aS H
        clear H
        go_wp2_with (first | ((with_reducible refine gate_callee (f := 130) rfl ?_); refine goesL_ (some 23) rfl rfl Try.func130 (by kernel_rfl) rfl #[.pointer (some ⟨gb129, 0, none⟩)] rfl sG ?_; (with_reducible refine (spec_l05One.calls k2 gb129 (wrap64 (Int.tdiv (wrap64 (x5_2 + 1)) 2)) (wrap64 (Int.tdiv x5_2 2)) false false t131 t132 t133 w _ ?side1 ?side2 A9.out).mono ?_); (case side1 => exact ⟨(by (with_reducible repeat (first | refine blk_drewN ?_ _ | refine blk_drew ?_ | refine blk_alloc ?_ _)); refine blk_put (cs := #[.int .i64 (wrap64 (Int.tdiv (wrap64 (x5_2 + 1)) 2)), .int .i64 (wrap64 (Int.tdiv x5_2 2)), .bool false]) ?_ 2 _ rfl; (with_reducible repeat (first | refine blk_drewN ?_ _ | refine blk_drew ?_ | refine blk_alloc ?_ _)); refine blk_put (cs := #[.int .i64 (wrap64 (Int.tdiv (wrap64 (x5_2 + 1)) 2)), .int .i64 0, .bool false]) ?_ 1 _ rfl; (with_reducible repeat (first | refine blk_drewN ?_ _ | refine blk_drew ?_ | refine blk_alloc ?_ _)); refine blk_put (cs := #[.int .i64 0, .int .i64 0, .bool false]) ?_ 0 _ rfl; (with_reducible repeat (first | refine blk_drewN ?_ _ | refine blk_drew ?_ | refine blk_alloc ?_ _)); exact BK129.out), GW129.out⟩); (case side2 => repeat (first | (with_reducible first | exact HB.out | apply below_alloc | apply pw_below_drewN | apply below_drew1 | refine below_set ?_ GE129.out) | exact HB.out)); rintro e w19 ⟨rfl, hi, hb, hk⟩; refine ⟨_, rfl, ?_⟩; have n0_ := aS (Kd.R_mono (Kd.R_keep (Kd.R_mono (ok := fun k_ => (True ∧ k_ ≠ gb129)) (sR (Kd.R_mono (Kd.R_far (p := ⟨gb129, 2, none⟩) (Kd.R_far (p := ⟨gb129, 1, none⟩) (Kd.R_far (p := ⟨gb129, 0, none⟩) (Kd.R_mono HO_3.out (fun k_ hk => (⟨hk, hk.2⟩ : _ ∧ k_ ≠ gb129))) (fun _ hk => hk.2) (.int .i64 (wrap64 (Int.tdiv (wrap64 (x5_2 + 1)) 2)))) (fun _ hk => hk.2) (.int .i64 (wrap64 (Int.tdiv x5_2 2)))) (fun _ hk => hk.2) (.bool false)) (fun _ h_ => h_.1))) (fun k_ hk_ => (⟨hk_, hk_.2⟩ : _ ∧ k_ ≠ gb129))) hk (fun _ h => h.2)) (fun _ h => h.1)); have n1_ := aS (hb); have n2_ := aS (hi.1); clear HO_3 HB BK129; have HO_3 := n0_; have HB := n1_; have BK129 := n2_; clear n0_ n1_ n2_; (try clear hb); (try clear hb2); (try clear hk); (try clear hi)))
        go_meet
        case rel => exact ⟨_, (false), (t131), (t132), (t133), (by first | rfl | (simp; done) | (simp [*]; done) | (simp only [i64_w]; done) | (simp [i64_w]; done)), H', ⟨by have := HK1.out; have := HK2.out; first | omega | exact Nat.le_refl _⟩, ⟨by (with_reducible repeat (first | apply Kd.R_alloc | apply Kd.R_drewN | apply Kd.R_drew)); exact Kd.R_mono HO_3.out (fun _ hk => hk.2)⟩, ⟨by (with_reducible repeat (first | refine blk_drewN ?_ _ | refine blk_drew ?_ | refine blk_alloc ?_ _)); exact BK129.out⟩, ⟨by repeat (first | (with_reducible first | exact HB.out | apply below_alloc | apply pw_below_drewN | apply below_drew1 | refine below_set ?_ GE129.out) | exact HB.out)⟩⟩
       subst c10
       have H1 : ((spec_l05Count.f t131 t132 t133).bind fun bt134 => (if bt134.1 = x4_1 then ((spec_l05Parts.f bt134.2.1 bt134.2.2.1 bt134.2.2.2).bind fun bt138 => (spec_l05All.j2 k2 a0 x3_2 x4_1 x5_2 (bt138.1 == a0) bt138.2.1 bt138.2.2.1 bt138.2.2.2)) else (spec_l05All.j2 k2 a0 x3_2 x4_1 x5_2 false bt134.2.1 bt134.2.2.1 bt134.2.2.2))) = some r := by rw [if_pos rfl] at H; exact H
       clear H
       have H := H1
       clear H1
       replace H := Option.bind_eq_some_iff.mp H
       obtain ⟨⟨t134, t135, t136, t137⟩, A110, H⟩ := H
       replace H : (if t134 = x4_1 then ((spec_l05Parts.f t135 t136 t137).bind fun bt138 => (spec_l05All.j2 k2 a0 x3_2 x4_1 x5_2 (bt138.1 == a0) bt138.2.1 bt138.2.2.1 bt138.2.2.2)) else (spec_l05All.j2 k2 a0 x3_2 x4_1 x5_2 false t135 t136 t137)) = some r := H
       have A11 := aS A110
       clear A110
       by_cases c12 : t134 = x4_1
       rotate_left
       ·
        rw [if_neg c12] at H
        have c12b0 : (t134 == x4_1) = false := beq_eq_false_iff_ne.mpr c12
        have c12b1 : (t134 != x4_1) = true := bne_iff_ne.mpr c12
        (first | rw [c12b0] | (simp only [i64_w, i32_w]; rw [c12b0]) | (rw [c12b2]; simp only [Bool.not_false, Bool.not_true]) | skip)
        have H' := aS H
        clear H
        go_wp2_with (first | ((with_reducible refine gate_callee (f := 130) rfl ?_); refine goesL_ (some 23) rfl rfl Try.func130 (by kernel_rfl) rfl #[.pointer (some ⟨gb129, 0, none⟩)] rfl sG ?_; (with_reducible refine (spec_l05One.calls k2 gb129 (wrap64 (Int.tdiv (wrap64 (x5_2 + 1)) 2)) (wrap64 (Int.tdiv x5_2 2)) false true t131 t132 t133 w _ ?side1 ?side2 A9.out).mono ?_); (case side1 => exact ⟨(by (with_reducible repeat (first | refine blk_drewN ?_ _ | refine blk_drew ?_ | refine blk_alloc ?_ _)); refine blk_put (cs := #[.int .i64 (wrap64 (Int.tdiv (wrap64 (x5_2 + 1)) 2)), .int .i64 (wrap64 (Int.tdiv x5_2 2)), .bool false]) ?_ 2 _ rfl; (with_reducible repeat (first | refine blk_drewN ?_ _ | refine blk_drew ?_ | refine blk_alloc ?_ _)); refine blk_put (cs := #[.int .i64 (wrap64 (Int.tdiv (wrap64 (x5_2 + 1)) 2)), .int .i64 0, .bool false]) ?_ 1 _ rfl; (with_reducible repeat (first | refine blk_drewN ?_ _ | refine blk_drew ?_ | refine blk_alloc ?_ _)); refine blk_put (cs := #[.int .i64 0, .int .i64 0, .bool false]) ?_ 0 _ rfl; (with_reducible repeat (first | refine blk_drewN ?_ _ | refine blk_drew ?_ | refine blk_alloc ?_ _)); exact BK129.out), GW129.out⟩); (case side2 => repeat (first | (with_reducible first | exact HB.out | apply below_alloc | apply pw_below_drewN | apply below_drew1 | refine below_set ?_ GE129.out) | exact HB.out)); rintro e w17 ⟨rfl, hi, hb, hk⟩; refine ⟨_, rfl, ?_⟩; have n0_ := aS (Kd.R_mono (Kd.R_keep (Kd.R_mono (ok := fun k_ => (True ∧ k_ ≠ gb129)) (sR (Kd.R_mono (Kd.R_far (p := ⟨gb129, 2, none⟩) (Kd.R_far (p := ⟨gb129, 1, none⟩) (Kd.R_far (p := ⟨gb129, 0, none⟩) (Kd.R_mono HO_3.out (fun k_ hk => (⟨hk, hk.2⟩ : _ ∧ k_ ≠ gb129))) (fun _ hk => hk.2) (.int .i64 (wrap64 (Int.tdiv (wrap64 (x5_2 + 1)) 2)))) (fun _ hk => hk.2) (.int .i64 (wrap64 (Int.tdiv x5_2 2)))) (fun _ hk => hk.2) (.bool false)) (fun _ h_ => h_.1))) (fun k_ hk_ => (⟨hk_, hk_.2⟩ : _ ∧ k_ ≠ gb129))) hk (fun _ h => h.2)) (fun _ h => h.1)); have n1_ := aS (hb); have n2_ := aS (hi.1); clear HO_3 HB BK129; have HO_3 := n0_; have HB := n1_; have BK129 := n2_; clear n0_ n1_ n2_; (try clear hb); (try clear hb2); (try clear hk); (try clear hi)) | (go_at_call 121; (with_reducible refine (spec_l05Count.calls gb129 t131 t132 t133 t134 t135 t136 t137 w _ ?side1 ?side2 A11.out).mono ?_); (case side1 => exact ⟨(sB BK129.out), GW129.out⟩); (case side2 => repeat (first | (with_reducible first | exact HB.out | apply below_alloc | apply pw_below_drewN | apply below_drew1 | refine below_set ?_ GE129.out) | exact HB.out)); rintro e w18 ⟨rfl, hi, hb, hk⟩; have n0_ := aS (Kd.R_mono (Kd.R_keep (Kd.R_mono (ok := fun k_ => (True ∧ k_ ≠ gb129)) (sR HO_3.out) (fun k_ hk_ => (⟨hk_, hk_.2⟩ : _ ∧ k_ ≠ gb129))) hk (fun _ h => h.2)) (fun _ h => h.1)); have n1_ := aS (hb); have n2_ := aS (hi.1); clear HO_3 HB BK129; have HO_3 := n0_; have HB := n1_; have BK129 := n2_; clear n0_ n1_ n2_; (try clear hb); (try clear hb2); (try clear hk); (try clear hi)))
        go_meet
        case rel => exact ⟨_, (false), (t135), (t136), (t137), (by first | rfl | (simp; done) | (simp [*]; done) | (simp only [i64_w]; done) | (simp [i64_w]; done)), H', ⟨by have := HK1.out; have := HK2.out; first | omega | exact Nat.le_refl _⟩, ⟨by (with_reducible repeat (first | apply Kd.R_alloc | apply Kd.R_drewN | apply Kd.R_drew)); exact Kd.R_mono HO_3.out (fun _ hk => hk.2)⟩, ⟨by (with_reducible repeat (first | refine blk_drewN ?_ _ | refine blk_drew ?_ | refine blk_alloc ?_ _)); exact BK129.out⟩, ⟨by repeat (first | (with_reducible first | exact HB.out | apply below_alloc | apply pw_below_drewN | apply below_drew1 | refine below_set ?_ GE129.out) | exact HB.out)⟩⟩
       rw [if_pos c12] at H
       have c12b0 : (t134 == x4_1) = true := beq_iff_eq.mpr c12
       have c12b1 : (t134 != x4_1) = false := bne_eq_false_iff_eq.mpr c12
       clear c12
       (first | rw [c12b0] | (simp only [i64_w, i32_w]; rw [c12b0]) | (rw [c12b2]; simp only [Bool.not_false, Bool.not_true]) | skip)
       replace H := Option.bind_eq_some_iff.mp H
       obtain ⟨⟨t138, t139, t140, t141⟩, A130, H⟩ := H
       replace H : (spec_l05All.j2 k2 a0 x3_2 x4_1 x5_2 (t138 == a0) t139 t140 t141) = some r := H
       have A13 := aS A130
       clear A130
       have H' := aS H
       clear H
       go_wp2_with (first | ((with_reducible refine gate_callee (f := 130) rfl ?_); refine goesL_ (some 23) rfl rfl Try.func130 (by kernel_rfl) rfl #[.pointer (some ⟨gb129, 0, none⟩)] rfl sG ?_; (with_reducible refine (spec_l05One.calls k2 gb129 (wrap64 (Int.tdiv (wrap64 (x5_2 + 1)) 2)) (wrap64 (Int.tdiv x5_2 2)) false true t131 t132 t133 w _ ?side1 ?side2 A9.out).mono ?_); (case side1 => exact ⟨(by (with_reducible repeat (first | refine blk_drewN ?_ _ | refine blk_drew ?_ | refine blk_alloc ?_ _)); refine blk_put (cs := #[.int .i64 (wrap64 (Int.tdiv (wrap64 (x5_2 + 1)) 2)), .int .i64 (wrap64 (Int.tdiv x5_2 2)), .bool false]) ?_ 2 _ rfl; (with_reducible repeat (first | refine blk_drewN ?_ _ | refine blk_drew ?_ | refine blk_alloc ?_ _)); refine blk_put (cs := #[.int .i64 (wrap64 (Int.tdiv (wrap64 (x5_2 + 1)) 2)), .int .i64 0, .bool false]) ?_ 1 _ rfl; (with_reducible repeat (first | refine blk_drewN ?_ _ | refine blk_drew ?_ | refine blk_alloc ?_ _)); refine blk_put (cs := #[.int .i64 0, .int .i64 0, .bool false]) ?_ 0 _ rfl; (with_reducible repeat (first | refine blk_drewN ?_ _ | refine blk_drew ?_ | refine blk_alloc ?_ _)); exact BK129.out), GW129.out⟩); (case side2 => repeat (first | (with_reducible first | exact HB.out | apply below_alloc | apply pw_below_drewN | apply below_drew1 | refine below_set ?_ GE129.out) | exact HB.out)); rintro e w14 ⟨rfl, hi, hb, hk⟩; refine ⟨_, rfl, ?_⟩; have n0_ := aS (Kd.R_mono (Kd.R_keep (Kd.R_mono (ok := fun k_ => (True ∧ k_ ≠ gb129)) (sR (Kd.R_mono (Kd.R_far (p := ⟨gb129, 2, none⟩) (Kd.R_far (p := ⟨gb129, 1, none⟩) (Kd.R_far (p := ⟨gb129, 0, none⟩) (Kd.R_mono HO_3.out (fun k_ hk => (⟨hk, hk.2⟩ : _ ∧ k_ ≠ gb129))) (fun _ hk => hk.2) (.int .i64 (wrap64 (Int.tdiv (wrap64 (x5_2 + 1)) 2)))) (fun _ hk => hk.2) (.int .i64 (wrap64 (Int.tdiv x5_2 2)))) (fun _ hk => hk.2) (.bool false)) (fun _ h_ => h_.1))) (fun k_ hk_ => (⟨hk_, hk_.2⟩ : _ ∧ k_ ≠ gb129))) hk (fun _ h => h.2)) (fun _ h => h.1)); have n1_ := aS (hb); have n2_ := aS (hi.1); clear HO_3 HB BK129; have HO_3 := n0_; have HB := n1_; have BK129 := n2_; clear n0_ n1_ n2_; (try clear hb); (try clear hb2); (try clear hk); (try clear hi)) | (go_at_call 121; (with_reducible refine (spec_l05Count.calls gb129 t131 t132 t133 t134 t135 t136 t137 w _ ?side1 ?side2 A11.out).mono ?_); (case side1 => exact ⟨(sB BK129.out), GW129.out⟩); (case side2 => repeat (first | (with_reducible first | exact HB.out | apply below_alloc | apply pw_below_drewN | apply below_drew1 | refine below_set ?_ GE129.out) | exact HB.out)); rintro e w15 ⟨rfl, hi, hb, hk⟩; have n0_ := aS (Kd.R_mono (Kd.R_keep (Kd.R_mono (ok := fun k_ => (True ∧ k_ ≠ gb129)) (sR HO_3.out) (fun k_ hk_ => (⟨hk_, hk_.2⟩ : _ ∧ k_ ≠ gb129))) hk (fun _ h => h.2)) (fun _ h => h.1)); have n1_ := aS (hb); have n2_ := aS (hi.1); clear HO_3 HB BK129; have HO_3 := n0_; have HB := n1_; have BK129 := n2_; clear n0_ n1_ n2_; (try clear hb); (try clear hb2); (try clear hk); (try clear hi)) | (go_at_call 131; (with_reducible refine (spec_l05Parts.calls gb129 t135 t136 t137 t138 t139 t140 t141 w _ ?side1 ?side2 A13.out).mono ?_); (case side1 => exact ⟨(sB BK129.out), GW129.out⟩); (case side2 => repeat (first | (with_reducible first | exact HB.out | apply below_alloc | apply pw_below_drewN | apply below_drew1 | refine below_set ?_ GE129.out) | exact HB.out)); rintro e w16 ⟨rfl, hi, hb, hk⟩; have n0_ := aS (Kd.R_mono (Kd.R_keep (Kd.R_mono (ok := fun k_ => (True ∧ k_ ≠ gb129)) (sR HO_3.out) (fun k_ hk_ => (⟨hk_, hk_.2⟩ : _ ∧ k_ ≠ gb129))) hk (fun _ h => h.2)) (fun _ h => h.1)); have n1_ := aS (hb); have n2_ := aS (hi.1); clear HO_3 HB BK129; have HO_3 := n0_; have HB := n1_; have BK129 := n2_; clear n0_ n1_ n2_; (try clear hb); (try clear hb2); (try clear hk); (try clear hi)))
       go_meet
       case rel => exact ⟨_, ((t138 == a0)), (t139), (t140), (t141), (by first | rfl | (simp; done) | (simp [*]; done) | (simp only [i64_w]; done) | (simp [i64_w]; done)), H', ⟨by have := HK1.out; have := HK2.out; first | omega | exact Nat.le_refl _⟩, ⟨by (with_reducible repeat (first | apply Kd.R_alloc | apply Kd.R_drewN | apply Kd.R_drew)); exact Kd.R_mono HO_3.out (fun _ hk => hk.2)⟩, ⟨by (with_reducible repeat (first | refine blk_drewN ?_ _ | refine blk_drew ?_ | refine blk_alloc ?_ _)); exact BK129.out⟩, ⟨by repeat (first | (with_reducible first | exact HB.out | apply below_alloc | apply pw_below_drewN | apply below_drew1 | refine below_set ?_ GE129.out) | exact HB.out)⟩⟩
      case rest =>
       clear HC6
       (try clear c1); (try clear p2); (try clear c4); (try clear c4b0); (try clear c5); (try clear c5b0); (try clear p6); (try clear c10); (try clear c12); (try clear c12b0); (try clear c12b1); (try clear c12b2); (try clear c13); (try clear hcz8_0); (try clear hcz8_1); (try clear hcz8_2); (try clear hfz8_0); (try clear hfz8_1); (try clear hfz8_2); (try clear p2)
       obtain ⟨kq, x33_5, x130000_5, x130001_5, x130002_5, rfl, HA, HJ5, HO_3, BK129, HB⟩ := hcut
       cases kq with
       | zero => exact absurd HA.out (by simp [spec_l05All.j2])
       | succ kj5 =>
        have H := HA.out
        clear HA
        simp only [spec_l05All.j2] at H
        have HC20 := aS H
        clear H
        go_upto_if 33 with (fail)
        go_cut [3] (fun v3 wc => ∃ (kq : Nat) (x3_19 : List (S140)), Aside0 (spec_l05All.j3 kq a0 x3_19 x4_1 x5_2 = some r) ∧ Aside0 (kq ≤ kj5) ∧ Aside0 (Kd.R k140 140 wc w.heap.size (fun k_ => k_ ≠ gb129) v3 x3_19) ∧ Aside0 (wc.heap[gb129]? = some (.cells #[.int .i64 x130000_5, .int .i64 x130001_5, .bool x130002_5] 140 (0, 0))) ∧ Aside0 (Below w.heap.size w wc))
        case first =>
         have H := HC20.out
         clear HC20
         by_cases c21 : x33_5 = true
         rotate_left
         ·
          replace c21 := Bool.eq_false_iff.mpr c21
          subst c21
          have H1 : (spec_l05All.j3 kj5 a0 x3_2 x4_1 x5_2) = some r := by rw [if_neg (show ¬ (false = true) by decide)] at H; exact H
          clear H
          have H := H1
          clear H1
          have H' := aS H
          clear H
          go_wp2
          go_meet
          case rel => exact ⟨_, (x3_2), H', ⟨by have := HK1.out; have := HK2.out; have := HJ5.out; first | omega | exact Nat.le_refl _⟩, ⟨by (with_reducible repeat (first | apply Kd.R_alloc | apply Kd.R_drewN | apply Kd.R_drew)); exact HO_3.out⟩, ⟨by (with_reducible repeat (first | refine blk_drewN ?_ _ | refine blk_drew ?_ | refine blk_alloc ?_ _)); exact BK129.out⟩, ⟨by repeat (first | (with_reducible first | exact HB.out | apply below_alloc | apply pw_below_drewN | apply below_drew1 | refine below_set ?_ GE129.out) | exact HB.out)⟩⟩
         subst c21
         have H1 : (if x3_2.length < 5864062014805 then (spec_l05All.j3 kj5 a0 (x3_2 ++ [(⟨x130000_5, x130001_5, x130002_5⟩ : S140)]) x4_1 x5_2) else (none)) = some r := by rw [if_pos rfl] at H; exact H
         clear H
         have H := H1
         clear H1
         by_cases c22 : x3_2.length < 5864062014805
         rotate_left
         ·
          rw [if_neg c22] at H
          exact absurd H (by simp)
         rw [if_pos c22] at H
         have LMc22 := aS c22
         clear c22
         obtain ⟨y142, hy142⟩ : ∃ y_ : List (S140), y_ = (x3_2 ++ [(⟨x130000_5, x130001_5, x130002_5⟩ : S140)]) := ⟨_, rfl⟩
         replace H : (spec_l05All.j3 kj5 a0 y142 x4_1 x5_2) = some r := by first | (rw [hy142]; with_reducible exact H) | (have H2_ := (Option.bind_some _ _).symm.trans H; rw [hy142]; with_reducible exact H2_) | (have H2_ := (Option.bind_some _ _).symm.trans H; with_reducible exact H2_) | with_reducible exact H | (rw [hy142]; exact H) | exact H
         have Ny142 := aS hy142
         clear hy142
         have H' := aS H
         clear H
         have hcz23_0 : wc.cell? ⟨gb129, 0, none⟩ = some (.int .i64 x130000_5) := (blk_cell BK129.out 0).trans rfl
         have hcz23_1 : wc.cell? ⟨gb129, 1, none⟩ = some (.int .i64 x130001_5) := (blk_cell BK129.out 1).trans rfl
         have hcz23_2 : wc.cell? ⟨gb129, 2, none⟩ = some (.bool x130002_5) := (blk_cell BK129.out 2).trans rfl
         have hfz23_0 := blk_frozen BK129.out 0
         have hfz23_1 := blk_frozen BK129.out 1
         have hfz23_2 := blk_frozen BK129.out 2
         go_wp2_with (first | ((with_reducible refine gate_builtin (b := .append) (xs := #[.tmp 34, .tmp 36]) rfl ?_); at_builtin; refine Kd.R_append k140 (w0 := w) w.heap.size rfl (.tmp 34) (.tmp 36) 115 140 (.agg #[(.int .i64 0), (.int .i64 0), (.bool false)]) 24 rfl Try.underlying115 info140 rfl (by decide) (by omega) u3 x3_2 (⟨x130000_5, x130001_5, x130002_5⟩ : S140) [.int .i64 x130000_5, .int .i64 x130001_5, .bool x130002_5] (fun k_ => k_ ≠ gb129) (fun _ => False) rfl rfl ?aP (fun _ hk => hk.elim) ?aF ?aO ?aB ?aS ?aL ?_; (case aP => exact k140_mkM _ _ _ (⟨x130000_5, x130001_5, x130002_5⟩ : S140)); (case aB => exact (sW HB.out)); (case aF => exact (fun k_ hk => Kd.freshB (g := gb129) (o := .cells #[.int .i64 x130000_5, .int .i64 x130001_5, .bool x130002_5] 140 (0, 0)) (sB BK129.out) k_ hk)); (case aO => exact (sR HO_3.out)); (case aS => exact (below_size (sW HB.out))); (case aL => have := LMc22.out; omega); intro v143 w24 ho hb hg hat; rw [← Ny142.out] at ho; have n0_ := aS (blk_grown (g := gb129) (o := .cells #[.int .i64 x130000_5, .int .i64 x130001_5, .bool x130002_5] 140 (0, 0)) (sB BK129.out) hg (Kd.R_away HO_3.out (fun _ hk => hk))); have n1_ := aS (hb); have n2_ := aS (ho); clear BK129 HB HO_3; have BK129 := n0_; have HB := n1_; have HO144 := n2_; clear n0_ n1_ n2_; clear ho hb hg hat))
         go_meet
         case rel => exact ⟨_, (y142), H', ⟨by have := HK1.out; have := HK2.out; have := HJ5.out; first | omega | exact Nat.le_refl _⟩, ⟨by (with_reducible repeat (first | apply Kd.R_alloc | apply Kd.R_drewN | apply Kd.R_drew)); exact HO144.out⟩, ⟨by (with_reducible repeat (first | refine blk_drewN ?_ _ | refine blk_drew ?_ | refine blk_alloc ?_ _)); exact BK129.out⟩, ⟨by repeat (first | (with_reducible first | exact HB.out | apply below_alloc | apply pw_below_drewN | apply below_drew1 | refine below_set ?_ GE129.out) | exact HB.out)⟩⟩
        case rest =>
         clear HC20
         (try clear c1); (try clear c2); (try clear p2); (try clear c4); (try clear c4b0); (try clear c5); (try clear c5b0); (try clear p6); (try clear c10); (try clear c12); (try clear c12b0); (try clear c12b1); (try clear c12b2); (try clear c13); (try clear c21); (try clear c22); (try clear hcz23_0); (try clear hcz23_1); (try clear hcz23_2); (try clear hcz8_0); (try clear hcz8_1); (try clear hcz8_2); (try clear hfz23_0); (try clear hfz23_1); (try clear hfz23_2); (try clear hfz8_0); (try clear hfz8_1); (try clear hfz8_2); (try clear p2); (try clear p6)
         obtain ⟨kq, x3_19, HA, HJ19, HO_3, BK129, HB⟩ := hcut
         cases kq with
         | zero => exact absurd HA.out (by simp [spec_l05All.j3])
         | succ kj19 =>
          have H := HA.out
          clear HA
          simp only [spec_l05All.j3] at H
          replace H := Option.bind_eq_some_iff.mp H
          obtain ⟨⟨t146, t147, t148, t149⟩, A250, H⟩ := H
          replace H : (if t146 = true then ((spec_l05Count.f t147 t148 t149).bind fun bt150 => (if bt150.1 = x4_1 then ((spec_l05Parts.f bt150.2.1 bt150.2.2.1 bt150.2.2.2).bind fun bt154 => (if bt154.1 = a0 then (if x3_19.length < 5864062014805 then (spec_l05All.l1 kj19 a0 (x3_19 ++ [(⟨bt154.2.1, bt154.2.2.1, bt154.2.2.2⟩ : S140)]) x4_1 (wrap64 (x5_2 + 1))) else (none)) else (spec_l05All.l1 kj19 a0 x3_19 x4_1 (wrap64 (x5_2 + 1))))) else (spec_l05All.l1 kj19 a0 x3_19 x4_1 (wrap64 (x5_2 + 1))))) else (spec_l05All.l1 kj19 a0 x3_19 x4_1 (wrap64 (x5_2 + 1)))) = some r := H
          have A25 := aS A250
          clear A250
          by_cases c26 : t146 = true
          rotate_left
          ·
           replace c26 := Bool.eq_false_iff.mpr c26
           subst c26
           have H1 : (spec_l05All.l1 kj19 a0 x3_19 x4_1 (wrap64 (x5_2 + 1))) = some r := by rw [if_neg (show ¬ (false = true) by decide)] at H; exact H
           clear H
           have H := H1
           clear H1
           have H' := aS H
           clear H
           go_wp2_with (first | ((with_reducible refine gate_dst (N := 7) rfl ?_); refine box_event ?hg (N := 7) ?hd (cs := #[.int .i64 0, .int .i64 0, .bool false]) (t := 140) ?hr ?_; (case hd => rfl); (case hg => rfl); (case hr => first | (go_simp; done) | (go_simp; rfl)); intro gb145 hg w51 hbox hb; have n0_ := aS (Kd.R_below (Kd.R_elderB (sR HO_3.out) gb145 (Nat.le_of_eq hg.symm)) hb); have n1_ := aS (blk_below (g := gb129) (o := .cells #[.int .i64 x130000_5, .int .i64 x130001_5, .bool x130002_5] 140 (0, 0)) (sB BK129.out) hb); have n2_ := aS (below_step (sW HB.out) hb); have n3_ := aS (hbox); have n4_ := aS ((by rw [hg]; exact (below_size (sW HB.out)) : w.heap.size ≤ gb145)); have n5_ := aS ((by rw [hg]; exact (below_size (sW HB.out)) : w.heap.size ≤ gb145)); have n6_ := aS ((by rw [hg]; exact Nat.ne_of_lt (blk_lt (g := gb129) (o := .cells #[.int .i64 x130000_5, .int .i64 x130001_5, .bool x130002_5] 140 (0, 0)) (sB BK129.out)) : gb129 ≠ gb145)); have n7_ := aS ((by rw [hg]; exact Nat.ne_of_gt (blk_lt (g := gb129) (o := .cells #[.int .i64 x130000_5, .int .i64 x130001_5, .bool x130002_5] 140 (0, 0)) (sB BK129.out)) : gb145 ≠ gb129)); clear HO_3 BK129 HB; have HO_3 := n0_; have BK129 := n1_; have HB := n2_; have BK145 := n3_; have GW145 := n4_; have GE145 := n5_; have NB129_145 := n6_; have NB145_129 := n7_; clear n0_ n1_ n2_ n3_ n4_ n5_ n6_ n7_; clear hb hbox hg; have hnb52 := NB145_129.out; have hnc52 := NB129_145.out; have hcz53_0 : w51.cell? ⟨gb145, 0, none⟩ = some (.int .i64 0) := (blk_cell BK145.out 0).trans rfl; have hcz53_1 : w51.cell? ⟨gb145, 1, none⟩ = some (.int .i64 0) := (blk_cell BK145.out 1).trans rfl; have hcz53_2 : w51.cell? ⟨gb145, 2, none⟩ = some (.bool false) := (blk_cell BK145.out 2).trans rfl; have hfz53_0 := blk_frozen BK145.out 0; have hfz53_1 := blk_frozen BK145.out 1; have hfz53_2 := blk_frozen BK145.out 2) | ((with_reducible refine gate_callee (f := 130) rfl ?_); refine goesL_ (some 44) rfl rfl Try.func130 (by kernel_rfl) rfl #[.pointer (some ⟨gb145, 0, none⟩)] rfl sG ?_; (with_reducible refine (spec_l05One.calls kj19 gb145 (wrap64 (Int.tdiv x5_2 2)) (wrap64 (Int.tdiv (wrap64 (x5_2 + 1)) 2)) true false t147 t148 t149 w _ ?side1 ?side2 A25.out).mono ?_); (case side1 => exact ⟨(by (with_reducible repeat (first | refine blk_drewN ?_ _ | refine blk_drew ?_ | refine blk_alloc ?_ _)); refine blk_put (cs := #[.int .i64 (wrap64 (Int.tdiv x5_2 2)), .int .i64 (wrap64 (Int.tdiv (wrap64 (x5_2 + 1)) 2)), .bool false]) ?_ 2 _ rfl; (with_reducible repeat (first | refine blk_drewN ?_ _ | refine blk_drew ?_ | refine blk_alloc ?_ _)); refine blk_put (cs := #[.int .i64 (wrap64 (Int.tdiv x5_2 2)), .int .i64 0, .bool false]) ?_ 1 _ rfl; (with_reducible repeat (first | refine blk_drewN ?_ _ | refine blk_drew ?_ | refine blk_alloc ?_ _)); refine blk_put (cs := #[.int .i64 0, .int .i64 0, .bool false]) ?_ 0 _ rfl; (with_reducible repeat (first | refine blk_drewN ?_ _ | refine blk_drew ?_ | refine blk_alloc ?_ _)); exact BK145.out), GW145.out⟩); (case side2 => repeat (first | (with_reducible first | exact HB.out | apply below_alloc | apply pw_below_drewN | apply below_drew1 | refine below_set ?_ GE129.out | refine below_set ?_ GE145.out) | exact HB.out)); rintro e w54 ⟨rfl, hi, hb, hk⟩; refine ⟨_, rfl, ?_⟩; have n0_ := aS (Kd.R_mono (Kd.R_keep (Kd.R_mono (ok := fun k_ => (k_ ≠ gb129 ∧ k_ ≠ gb145)) (sR (Kd.R_mono (Kd.R_far (p := ⟨gb145, 2, none⟩) (Kd.R_far (p := ⟨gb145, 1, none⟩) (Kd.R_far (p := ⟨gb145, 0, none⟩) (Kd.R_mono HO_3.out (fun k_ hk => (⟨hk, hk.2⟩ : _ ∧ k_ ≠ gb145))) (fun _ hk => hk.2) (.int .i64 (wrap64 (Int.tdiv x5_2 2)))) (fun _ hk => hk.2) (.int .i64 (wrap64 (Int.tdiv (wrap64 (x5_2 + 1)) 2)))) (fun _ hk => hk.2) (.bool true)) (fun _ h_ => h_.1))) (fun k_ hk_ => (⟨hk_, hk_.2⟩ : _ ∧ k_ ≠ gb145))) hk (fun _ h => h.2)) (fun _ h => h.1)); have n1_ := aS (KeepBut.blk hk (g' := gb129) (o := .cells #[.int .i64 x130000_5, .int .i64 x130001_5, .bool x130002_5] 140 (0, 0)) (by (with_reducible repeat (first | refine blk_drewN ?_ _ | refine blk_drew ?_ | refine blk_alloc ?_ _)); refine blk_far ?_ NB129_145.out _; (with_reducible repeat (first | refine blk_drewN ?_ _ | refine blk_drew ?_ | refine blk_alloc ?_ _)); refine blk_far ?_ NB129_145.out _; (with_reducible repeat (first | refine blk_drewN ?_ _ | refine blk_drew ?_ | refine blk_alloc ?_ _)); refine blk_far ?_ NB129_145.out _; (with_reducible repeat (first | refine blk_drewN ?_ _ | refine blk_drew ?_ | refine blk_alloc ?_ _)); exact BK129.out) NB129_145.out (by simp)); have n2_ := aS (hb); have n3_ := aS (hi.1); clear HO_3 BK129 HB BK145; have HO_3 := n0_; have BK129 := n1_; have HB := n2_; have BK145 := n3_; clear n0_ n1_ n2_ n3_; (try clear hb); (try clear hb2); (try clear hk); (try clear hi)))
           go_roundg kj19
           case measure => have := HK1.out; have := HK2.out; have := HJ5.out; have := HJ19.out; omega
           case rel => exact ⟨(x3_19), (wrap64 (x5_2 + 1)), (by first | rfl | (simp; done) | (simp [*]; done) | (simp only [i64_w]; done) | (simp [i64_w]; done)), H', ⟨by have := HK1.out; have := HK2.out; have := HJ5.out; have := HJ19.out; omega⟩, ⟨by (with_reducible repeat (first | apply Kd.R_alloc | apply Kd.R_drewN | apply Kd.R_drew)); exact Kd.R_mono HO_3.out (fun _ hk => trivial)⟩, ⟨by repeat (first | (with_reducible first | exact HB.out | apply below_alloc | apply pw_below_drewN | apply below_drew1 | refine below_set ?_ GE129.out | refine below_set ?_ GE145.out) | exact HB.out)⟩⟩
          subst c26
          have H1 : ((spec_l05Count.f t147 t148 t149).bind fun bt150 => (if bt150.1 = x4_1 then ((spec_l05Parts.f bt150.2.1 bt150.2.2.1 bt150.2.2.2).bind fun bt154 => (if bt154.1 = a0 then (if x3_19.length < 5864062014805 then (spec_l05All.l1 kj19 a0 (x3_19 ++ [(⟨bt154.2.1, bt154.2.2.1, bt154.2.2.2⟩ : S140)]) x4_1 (wrap64 (x5_2 + 1))) else (none)) else (spec_l05All.l1 kj19 a0 x3_19 x4_1 (wrap64 (x5_2 + 1))))) else (spec_l05All.l1 kj19 a0 x3_19 x4_1 (wrap64 (x5_2 + 1))))) = some r := by rw [if_pos rfl] at H; exact H
          clear H
          have H := H1
          clear H1
          replace H := Option.bind_eq_some_iff.mp H
          obtain ⟨⟨t150, t151, t152, t153⟩, A270, H⟩ := H
          replace H : (if t150 = x4_1 then ((spec_l05Parts.f t151 t152 t153).bind fun bt154 => (if bt154.1 = a0 then (if x3_19.length < 5864062014805 then (spec_l05All.l1 kj19 a0 (x3_19 ++ [(⟨bt154.2.1, bt154.2.2.1, bt154.2.2.2⟩ : S140)]) x4_1 (wrap64 (x5_2 + 1))) else (none)) else (spec_l05All.l1 kj19 a0 x3_19 x4_1 (wrap64 (x5_2 + 1))))) else (spec_l05All.l1 kj19 a0 x3_19 x4_1 (wrap64 (x5_2 + 1)))) = some r := H
          have A27 := aS A270
          clear A270
          by_cases c28 : t150 = x4_1
          rotate_left
          ·
           rw [if_neg c28] at H
           have c28b0 : (t150 == x4_1) = false := beq_eq_false_iff_ne.mpr c28
           have c28b1 : (t150 != x4_1) = true := bne_iff_ne.mpr c28
           have H' := aS H
           clear H
           go_wp2_with (first | ((with_reducible refine gate_dst (N := 7) rfl ?_); refine box_event ?hg (N := 7) ?hd (cs := #[.int .i64 0, .int .i64 0, .bool false]) (t := 140) ?hr ?_; (case hd => rfl); (case hg => rfl); (case hr => first | (go_simp; done) | (go_simp; rfl)); intro gb145 hg w46 hbox hb; have n0_ := aS (Kd.R_below (Kd.R_elderB (sR HO_3.out) gb145 (Nat.le_of_eq hg.symm)) hb); have n1_ := aS (blk_below (g := gb129) (o := .cells #[.int .i64 x130000_5, .int .i64 x130001_5, .bool x130002_5] 140 (0, 0)) (sB BK129.out) hb); have n2_ := aS (below_step (sW HB.out) hb); have n3_ := aS (hbox); have n4_ := aS ((by rw [hg]; exact (below_size (sW HB.out)) : w.heap.size ≤ gb145)); have n5_ := aS ((by rw [hg]; exact (below_size (sW HB.out)) : w.heap.size ≤ gb145)); have n6_ := aS ((by rw [hg]; exact Nat.ne_of_lt (blk_lt (g := gb129) (o := .cells #[.int .i64 x130000_5, .int .i64 x130001_5, .bool x130002_5] 140 (0, 0)) (sB BK129.out)) : gb129 ≠ gb145)); have n7_ := aS ((by rw [hg]; exact Nat.ne_of_gt (blk_lt (g := gb129) (o := .cells #[.int .i64 x130000_5, .int .i64 x130001_5, .bool x130002_5] 140 (0, 0)) (sB BK129.out)) : gb145 ≠ gb129)); clear HO_3 BK129 HB; have HO_3 := n0_; have BK129 := n1_; have HB := n2_; have BK145 := n3_; have GW145 := n4_; have GE145 := n5_; have NB129_145 := n6_; have NB145_129 := n7_; clear n0_ n1_ n2_ n3_ n4_ n5_ n6_ n7_; clear hb hbox hg; have hnb47 := NB145_129.out; have hnc47 := NB129_145.out; have hcz48_0 : w46.cell? ⟨gb145, 0, none⟩ = some (.int .i64 0) := (blk_cell BK145.out 0).trans rfl; have hcz48_1 : w46.cell? ⟨gb145, 1, none⟩ = some (.int .i64 0) := (blk_cell BK145.out 1).trans rfl; have hcz48_2 : w46.cell? ⟨gb145, 2, none⟩ = some (.bool false) := (blk_cell BK145.out 2).trans rfl; have hfz48_0 := blk_frozen BK145.out 0; have hfz48_1 := blk_frozen BK145.out 1; have hfz48_2 := blk_frozen BK145.out 2) | ((with_reducible refine gate_callee (f := 130) rfl ?_); refine goesL_ (some 44) rfl rfl Try.func130 (by kernel_rfl) rfl #[.pointer (some ⟨gb145, 0, none⟩)] rfl sG ?_; (with_reducible refine (spec_l05One.calls kj19 gb145 (wrap64 (Int.tdiv x5_2 2)) (wrap64 (Int.tdiv (wrap64 (x5_2 + 1)) 2)) true true t147 t148 t149 w _ ?side1 ?side2 A25.out).mono ?_); (case side1 => exact ⟨(by (with_reducible repeat (first | refine blk_drewN ?_ _ | refine blk_drew ?_ | refine blk_alloc ?_ _)); refine blk_put (cs := #[.int .i64 (wrap64 (Int.tdiv x5_2 2)), .int .i64 (wrap64 (Int.tdiv (wrap64 (x5_2 + 1)) 2)), .bool false]) ?_ 2 _ rfl; (with_reducible repeat (first | refine blk_drewN ?_ _ | refine blk_drew ?_ | refine blk_alloc ?_ _)); refine blk_put (cs := #[.int .i64 (wrap64 (Int.tdiv x5_2 2)), .int .i64 0, .bool false]) ?_ 1 _ rfl; (with_reducible repeat (first | refine blk_drewN ?_ _ | refine blk_drew ?_ | refine blk_alloc ?_ _)); refine blk_put (cs := #[.int .i64 0, .int .i64 0, .bool false]) ?_ 0 _ rfl; (with_reducible repeat (first | refine blk_drewN ?_ _ | refine blk_drew ?_ | refine blk_alloc ?_ _)); exact BK145.out), GW145.out⟩); (case side2 => repeat (first | (with_reducible first | exact HB.out | apply below_alloc | apply pw_below_drewN | apply below_drew1 | refine below_set ?_ GE129.out | refine below_set ?_ GE145.out) | exact HB.out)); rintro e w49 ⟨rfl, hi, hb, hk⟩; refine ⟨_, rfl, ?_⟩; have n0_ := aS (Kd.R_mono (Kd.R_keep (Kd.R_mono (ok := fun k_ => (k_ ≠ gb129 ∧ k_ ≠ gb145)) (sR (Kd.R_mono (Kd.R_far (p := ⟨gb145, 2, none⟩) (Kd.R_far (p := ⟨gb145, 1, none⟩) (Kd.R_far (p := ⟨gb145, 0, none⟩) (Kd.R_mono HO_3.out (fun k_ hk => (⟨hk, hk.2⟩ : _ ∧ k_ ≠ gb145))) (fun _ hk => hk.2) (.int .i64 (wrap64 (Int.tdiv x5_2 2)))) (fun _ hk => hk.2) (.int .i64 (wrap64 (Int.tdiv (wrap64 (x5_2 + 1)) 2)))) (fun _ hk => hk.2) (.bool true)) (fun _ h_ => h_.1))) (fun k_ hk_ => (⟨hk_, hk_.2⟩ : _ ∧ k_ ≠ gb145))) hk (fun _ h => h.2)) (fun _ h => h.1)); have n1_ := aS (KeepBut.blk hk (g' := gb129) (o := .cells #[.int .i64 x130000_5, .int .i64 x130001_5, .bool x130002_5] 140 (0, 0)) (by (with_reducible repeat (first | refine blk_drewN ?_ _ | refine blk_drew ?_ | refine blk_alloc ?_ _)); refine blk_far ?_ NB129_145.out _; (with_reducible repeat (first | refine blk_drewN ?_ _ | refine blk_drew ?_ | refine blk_alloc ?_ _)); refine blk_far ?_ NB129_145.out _; (with_reducible repeat (first | refine blk_drewN ?_ _ | refine blk_drew ?_ | refine blk_alloc ?_ _)); refine blk_far ?_ NB129_145.out _; (with_reducible repeat (first | refine blk_drewN ?_ _ | refine blk_drew ?_ | refine blk_alloc ?_ _)); exact BK129.out) NB129_145.out (by simp)); have n2_ := aS (hb); have n3_ := aS (hi.1); clear HO_3 BK129 HB BK145; have HO_3 := n0_; have BK129 := n1_; have HB := n2_; have BK145 := n3_; clear n0_ n1_ n2_ n3_; (try clear hb); (try clear hb2); (try clear hk); (try clear hi)) | (go_at_call 121; (with_reducible refine (spec_l05Count.calls gb145 t147 t148 t149 t150 t151 t152 t153 w _ ?side1 ?side2 A27.out).mono ?_); (case side1 => exact ⟨(sB BK145.out), GW145.out⟩); (case side2 => repeat (first | (with_reducible first | exact HB.out | apply below_alloc | apply pw_below_drewN | apply below_drew1 | refine below_set ?_ GE129.out | refine below_set ?_ GE145.out) | exact HB.out)); rintro e w50 ⟨rfl, hi, hb, hk⟩; have n0_ := aS (Kd.R_mono (Kd.R_keep (Kd.R_mono (ok := fun k_ => (k_ ≠ gb129 ∧ k_ ≠ gb145)) (sR HO_3.out) (fun k_ hk_ => (⟨hk_, hk_.2⟩ : _ ∧ k_ ≠ gb145))) hk (fun _ h => h.2)) (fun _ h => h.1)); have n1_ := aS (KeepBut.blk hk (g' := gb129) (o := .cells #[.int .i64 x130000_5, .int .i64 x130001_5, .bool x130002_5] 140 (0, 0)) (sB BK129.out) NB129_145.out (by simp)); have n2_ := aS (hb); have n3_ := aS (hi.1); clear HO_3 BK129 HB BK145; have HO_3 := n0_; have BK129 := n1_; have HB := n2_; have BK145 := n3_; clear n0_ n1_ n2_ n3_; (try clear hb); (try clear hb2); (try clear hk); (try clear hi)))
           go_roundg kj19
           case measure => have := HK1.out; have := HK2.out; have := HJ5.out; have := HJ19.out; omega
           case rel => exact ⟨(x3_19), (wrap64 (x5_2 + 1)), (by first | rfl | (simp; done) | (simp [*]; done) | (simp only [i64_w]; done) | (simp [i64_w]; done)), H', ⟨by have := HK1.out; have := HK2.out; have := HJ5.out; have := HJ19.out; omega⟩, ⟨by (with_reducible repeat (first | apply Kd.R_alloc | apply Kd.R_drewN | apply Kd.R_drew)); exact Kd.R_mono HO_3.out (fun _ hk => trivial)⟩, ⟨by repeat (first | (with_reducible first | exact HB.out | apply below_alloc | apply pw_below_drewN | apply below_drew1 | refine below_set ?_ GE129.out | refine below_set ?_ GE145.out) | exact HB.out)⟩⟩
          rw [if_pos c28] at H
          have c28b0 : (t150 == x4_1) = true := beq_iff_eq.mpr c28
          have c28b1 : (t150 != x4_1) = false := bne_eq_false_iff_eq.mpr c28
          clear c28
          replace H := Option.bind_eq_some_iff.mp H
          obtain ⟨⟨t154, t155, t156, t157⟩, A290, H⟩ := H
          replace H : (if t154 = a0 then (if x3_19.length < 5864062014805 then (spec_l05All.l1 kj19 a0 (x3_19 ++ [(⟨t155, t156, t157⟩ : S140)]) x4_1 (wrap64 (x5_2 + 1))) else (none)) else (spec_l05All.l1 kj19 a0 x3_19 x4_1 (wrap64 (x5_2 + 1)))) = some r := H
          have A29 := aS A290
          clear A290
          by_cases c30 : t154 = a0
          rotate_left
          ·
           rw [if_neg c30] at H
           have c30b0 : (t154 == a0) = false := beq_eq_false_iff_ne.mpr c30
           have c30b1 : (t154 != a0) = true := bne_iff_ne.mpr c30
           have H' := aS H
           clear H
           go_wp2_with (first | ((with_reducible refine gate_dst (N := 7) rfl ?_); refine box_event ?hg (N := 7) ?hd (cs := #[.int .i64 0, .int .i64 0, .bool false]) (t := 140) ?hr ?_; (case hd => rfl); (case hg => rfl); (case hr => first | (go_simp; done) | (go_simp; rfl)); intro gb145 hg w40 hbox hb; have n0_ := aS (Kd.R_below (Kd.R_elderB (sR HO_3.out) gb145 (Nat.le_of_eq hg.symm)) hb); have n1_ := aS (blk_below (g := gb129) (o := .cells #[.int .i64 x130000_5, .int .i64 x130001_5, .bool x130002_5] 140 (0, 0)) (sB BK129.out) hb); have n2_ := aS (below_step (sW HB.out) hb); have n3_ := aS (hbox); have n4_ := aS ((by rw [hg]; exact (below_size (sW HB.out)) : w.heap.size ≤ gb145)); have n5_ := aS ((by rw [hg]; exact (below_size (sW HB.out)) : w.heap.size ≤ gb145)); have n6_ := aS ((by rw [hg]; exact Nat.ne_of_lt (blk_lt (g := gb129) (o := .cells #[.int .i64 x130000_5, .int .i64 x130001_5, .bool x130002_5] 140 (0, 0)) (sB BK129.out)) : gb129 ≠ gb145)); have n7_ := aS ((by rw [hg]; exact Nat.ne_of_gt (blk_lt (g := gb129) (o := .cells #[.int .i64 x130000_5, .int .i64 x130001_5, .bool x130002_5] 140 (0, 0)) (sB BK129.out)) : gb145 ≠ gb129)); clear HO_3 BK129 HB; have HO_3 := n0_; have BK129 := n1_; have HB := n2_; have BK145 := n3_; have GW145 := n4_; have GE145 := n5_; have NB129_145 := n6_; have NB145_129 := n7_; clear n0_ n1_ n2_ n3_ n4_ n5_ n6_ n7_; clear hb hbox hg; have hnb41 := NB145_129.out; have hnc41 := NB129_145.out; have hcz42_0 : w40.cell? ⟨gb145, 0, none⟩ = some (.int .i64 0) := (blk_cell BK145.out 0).trans rfl; have hcz42_1 : w40.cell? ⟨gb145, 1, none⟩ = some (.int .i64 0) := (blk_cell BK145.out 1).trans rfl; have hcz42_2 : w40.cell? ⟨gb145, 2, none⟩ = some (.bool false) := (blk_cell BK145.out 2).trans rfl; have hfz42_0 := blk_frozen BK145.out 0; have hfz42_1 := blk_frozen BK145.out 1; have hfz42_2 := blk_frozen BK145.out 2) | ((with_reducible refine gate_callee (f := 130) rfl ?_); refine goesL_ (some 44) rfl rfl Try.func130 (by kernel_rfl) rfl #[.pointer (some ⟨gb145, 0, none⟩)] rfl sG ?_; (with_reducible refine (spec_l05One.calls kj19 gb145 (wrap64 (Int.tdiv x5_2 2)) (wrap64 (Int.tdiv (wrap64 (x5_2 + 1)) 2)) true true t147 t148 t149 w _ ?side1 ?side2 A25.out).mono ?_); (case side1 => exact ⟨(by (with_reducible repeat (first | refine blk_drewN ?_ _ | refine blk_drew ?_ | refine blk_alloc ?_ _)); refine blk_put (cs := #[.int .i64 (wrap64 (Int.tdiv x5_2 2)), .int .i64 (wrap64 (Int.tdiv (wrap64 (x5_2 + 1)) 2)), .bool false]) ?_ 2 _ rfl; (with_reducible repeat (first | refine blk_drewN ?_ _ | refine blk_drew ?_ | refine blk_alloc ?_ _)); refine blk_put (cs := #[.int .i64 (wrap64 (Int.tdiv x5_2 2)), .int .i64 0, .bool false]) ?_ 1 _ rfl; (with_reducible repeat (first | refine blk_drewN ?_ _ | refine blk_drew ?_ | refine blk_alloc ?_ _)); refine blk_put (cs := #[.int .i64 0, .int .i64 0, .bool false]) ?_ 0 _ rfl; (with_reducible repeat (first | refine blk_drewN ?_ _ | refine blk_drew ?_ | refine blk_alloc ?_ _)); exact BK145.out), GW145.out⟩); (case side2 => repeat (first | (with_reducible first | exact HB.out | apply below_alloc | apply pw_below_drewN | apply below_drew1 | refine below_set ?_ GE129.out | refine below_set ?_ GE145.out) | exact HB.out)); rintro e w43 ⟨rfl, hi, hb, hk⟩; refine ⟨_, rfl, ?_⟩; have n0_ := aS (Kd.R_mono (Kd.R_keep (Kd.R_mono (ok := fun k_ => (k_ ≠ gb129 ∧ k_ ≠ gb145)) (sR (Kd.R_mono (Kd.R_far (p := ⟨gb145, 2, none⟩) (Kd.R_far (p := ⟨gb145, 1, none⟩) (Kd.R_far (p := ⟨gb145, 0, none⟩) (Kd.R_mono HO_3.out (fun k_ hk => (⟨hk, hk.2⟩ : _ ∧ k_ ≠ gb145))) (fun _ hk => hk.2) (.int .i64 (wrap64 (Int.tdiv x5_2 2)))) (fun _ hk => hk.2) (.int .i64 (wrap64 (Int.tdiv (wrap64 (x5_2 + 1)) 2)))) (fun _ hk => hk.2) (.bool true)) (fun _ h_ => h_.1))) (fun k_ hk_ => (⟨hk_, hk_.2⟩ : _ ∧ k_ ≠ gb145))) hk (fun _ h => h.2)) (fun _ h => h.1)); have n1_ := aS (KeepBut.blk hk (g' := gb129) (o := .cells #[.int .i64 x130000_5, .int .i64 x130001_5, .bool x130002_5] 140 (0, 0)) (by (with_reducible repeat (first | refine blk_drewN ?_ _ | refine blk_drew ?_ | refine blk_alloc ?_ _)); refine blk_far ?_ NB129_145.out _; (with_reducible repeat (first | refine blk_drewN ?_ _ | refine blk_drew ?_ | refine blk_alloc ?_ _)); refine blk_far ?_ NB129_145.out _; (with_reducible repeat (first | refine blk_drewN ?_ _ | refine blk_drew ?_ | refine blk_alloc ?_ _)); refine blk_far ?_ NB129_145.out _; (with_reducible repeat (first | refine blk_drewN ?_ _ | refine blk_drew ?_ | refine blk_alloc ?_ _)); exact BK129.out) NB129_145.out (by simp)); have n2_ := aS (hb); have n3_ := aS (hi.1); clear HO_3 BK129 HB BK145; have HO_3 := n0_; have BK129 := n1_; have HB := n2_; have BK145 := n3_; clear n0_ n1_ n2_ n3_; (try clear hb); (try clear hb2); (try clear hk); (try clear hi)) | (go_at_call 121; (with_reducible refine (spec_l05Count.calls gb145 t147 t148 t149 t150 t151 t152 t153 w _ ?side1 ?side2 A27.out).mono ?_); (case side1 => exact ⟨(sB BK145.out), GW145.out⟩); (case side2 => repeat (first | (with_reducible first | exact HB.out | apply below_alloc | apply pw_below_drewN | apply below_drew1 | refine below_set ?_ GE129.out | refine below_set ?_ GE145.out) | exact HB.out)); rintro e w44 ⟨rfl, hi, hb, hk⟩; have n0_ := aS (Kd.R_mono (Kd.R_keep (Kd.R_mono (ok := fun k_ => (k_ ≠ gb129 ∧ k_ ≠ gb145)) (sR HO_3.out) (fun k_ hk_ => (⟨hk_, hk_.2⟩ : _ ∧ k_ ≠ gb145))) hk (fun _ h => h.2)) (fun _ h => h.1)); have n1_ := aS (KeepBut.blk hk (g' := gb129) (o := .cells #[.int .i64 x130000_5, .int .i64 x130001_5, .bool x130002_5] 140 (0, 0)) (sB BK129.out) NB129_145.out (by simp)); have n2_ := aS (hb); have n3_ := aS (hi.1); clear HO_3 BK129 HB BK145; have HO_3 := n0_; have BK129 := n1_; have HB := n2_; have BK145 := n3_; clear n0_ n1_ n2_ n3_; (try clear hb); (try clear hb2); (try clear hk); (try clear hi)) | (go_at_call 131; (with_reducible refine (spec_l05Parts.calls gb145 t151 t152 t153 t154 t155 t156 t157 w _ ?side1 ?side2 A29.out).mono ?_); (case side1 => exact ⟨(sB BK145.out), GW145.out⟩); (case side2 => repeat (first | (with_reducible first | exact HB.out | apply below_alloc | apply pw_below_drewN | apply below_drew1 | refine below_set ?_ GE129.out | refine below_set ?_ GE145.out) | exact HB.out)); rintro e w45 ⟨rfl, hi, hb, hk⟩; have n0_ := aS (Kd.R_mono (Kd.R_keep (Kd.R_mono (ok := fun k_ => (k_ ≠ gb129 ∧ k_ ≠ gb145)) (sR HO_3.out) (fun k_ hk_ => (⟨hk_, hk_.2⟩ : _ ∧ k_ ≠ gb145))) hk (fun _ h => h.2)) (fun _ h => h.1)); have n1_ := aS (KeepBut.blk hk (g' := gb129) (o := .cells #[.int .i64 x130000_5, .int .i64 x130001_5, .bool x130002_5] 140 (0, 0)) (sB BK129.out) NB129_145.out (by simp)); have n2_ := aS (hb); have n3_ := aS (hi.1); clear HO_3 BK129 HB BK145; have HO_3 := n0_; have BK129 := n1_; have HB := n2_; have BK145 := n3_; clear n0_ n1_ n2_ n3_; (try clear hb); (try clear hb2); (try clear hk); (try clear hi)))
           go_roundg kj19
           case measure => have := HK1.out; have := HK2.out; have := HJ5.out; have := HJ19.out; omega
           case rel => exact ⟨(x3_19), (wrap64 (x5_2 + 1)), (by first | rfl | (simp; done) | (simp [*]; done) | (simp only [i64_w]; done) | (simp [i64_w]; done)), H', ⟨by have := HK1.out; have := HK2.out; have := HJ5.out; have := HJ19.out; omega⟩, ⟨by (with_reducible repeat (first | apply Kd.R_alloc | apply Kd.R_drewN | apply Kd.R_drew)); exact Kd.R_mono HO_3.out (fun _ hk => trivial)⟩, ⟨by repeat (first | (with_reducible first | exact HB.out | apply below_alloc | apply pw_below_drewN | apply below_drew1 | refine below_set ?_ GE129.out | refine below_set ?_ GE145.out) | exact HB.out)⟩⟩
          rw [if_pos c30] at H
          have c30b0 : (t154 == a0) = true := beq_iff_eq.mpr c30
          have c30b1 : (t154 != a0) = false := bne_eq_false_iff_eq.mpr c30
          clear c30
          by_cases c31 : x3_19.length < 5864062014805
          rotate_left
          ·
           rw [if_neg c31] at H
           exact absurd H (by simp)
          rw [if_pos c31] at H
          have LMc31 := aS c31
          clear c31
          obtain ⟨y158, hy158⟩ : ∃ y_ : List (S140), y_ = (x3_19 ++ [(⟨t155, t156, t157⟩ : S140)]) := ⟨_, rfl⟩
          replace H : (spec_l05All.l1 kj19 a0 y158 x4_1 (wrap64 (x5_2 + 1))) = some r := by first | (rw [hy158]; with_reducible exact H) | (have H2_ := (Option.bind_some _ _).symm.trans H; rw [hy158]; with_reducible exact H2_) | (have H2_ := (Option.bind_some _ _).symm.trans H; with_reducible exact H2_) | with_reducible exact H | (rw [hy158]; exact H) | exact H
          have Ny158 := aS hy158
          clear hy158
          have H' := aS H
          clear H
          go_wp2_with (first | ((with_reducible refine gate_dst (N := 7) rfl ?_); refine box_event ?hg (N := 7) ?hd (cs := #[.int .i64 0, .int .i64 0, .bool false]) (t := 140) ?hr ?_; (case hd => rfl); (case hg => rfl); (case hr => first | (go_simp; done) | (go_simp; rfl)); intro gb145 hg w32 hbox hb; have n0_ := aS (Kd.R_below (Kd.R_elderB (sR HO_3.out) gb145 (Nat.le_of_eq hg.symm)) hb); have n1_ := aS (blk_below (g := gb129) (o := .cells #[.int .i64 x130000_5, .int .i64 x130001_5, .bool x130002_5] 140 (0, 0)) (sB BK129.out) hb); have n2_ := aS (below_step (sW HB.out) hb); have n3_ := aS (hbox); have n4_ := aS ((by rw [hg]; exact (below_size (sW HB.out)) : w.heap.size ≤ gb145)); have n5_ := aS ((by rw [hg]; exact (below_size (sW HB.out)) : w.heap.size ≤ gb145)); have n6_ := aS ((by rw [hg]; exact Nat.ne_of_lt (blk_lt (g := gb129) (o := .cells #[.int .i64 x130000_5, .int .i64 x130001_5, .bool x130002_5] 140 (0, 0)) (sB BK129.out)) : gb129 ≠ gb145)); have n7_ := aS ((by rw [hg]; exact Nat.ne_of_gt (blk_lt (g := gb129) (o := .cells #[.int .i64 x130000_5, .int .i64 x130001_5, .bool x130002_5] 140 (0, 0)) (sB BK129.out)) : gb145 ≠ gb129)); clear HO_3 BK129 HB; have HO_3 := n0_; have BK129 := n1_; have HB := n2_; have BK145 := n3_; have GW145 := n4_; have GE145 := n5_; have NB129_145 := n6_; have NB145_129 := n7_; clear n0_ n1_ n2_ n3_ n4_ n5_ n6_ n7_; clear hb hbox hg; have hnb33 := NB145_129.out; have hnc33 := NB129_145.out; have hcz34_0 : w32.cell? ⟨gb145, 0, none⟩ = some (.int .i64 0) := (blk_cell BK145.out 0).trans rfl; have hcz34_1 : w32.cell? ⟨gb145, 1, none⟩ = some (.int .i64 0) := (blk_cell BK145.out 1).trans rfl; have hcz34_2 : w32.cell? ⟨gb145, 2, none⟩ = some (.bool false) := (blk_cell BK145.out 2).trans rfl; have hfz34_0 := blk_frozen BK145.out 0; have hfz34_1 := blk_frozen BK145.out 1; have hfz34_2 := blk_frozen BK145.out 2) | ((with_reducible refine gate_callee (f := 130) rfl ?_); refine goesL_ (some 44) rfl rfl Try.func130 (by kernel_rfl) rfl #[.pointer (some ⟨gb145, 0, none⟩)] rfl sG ?_; (with_reducible refine (spec_l05One.calls kj19 gb145 (wrap64 (Int.tdiv x5_2 2)) (wrap64 (Int.tdiv (wrap64 (x5_2 + 1)) 2)) true true t147 t148 t149 w _ ?side1 ?side2 A25.out).mono ?_); (case side1 => exact ⟨(by (with_reducible repeat (first | refine blk_drewN ?_ _ | refine blk_drew ?_ | refine blk_alloc ?_ _)); refine blk_put (cs := #[.int .i64 (wrap64 (Int.tdiv x5_2 2)), .int .i64 (wrap64 (Int.tdiv (wrap64 (x5_2 + 1)) 2)), .bool false]) ?_ 2 _ rfl; (with_reducible repeat (first | refine blk_drewN ?_ _ | refine blk_drew ?_ | refine blk_alloc ?_ _)); refine blk_put (cs := #[.int .i64 (wrap64 (Int.tdiv x5_2 2)), .int .i64 0, .bool false]) ?_ 1 _ rfl; (with_reducible repeat (first | refine blk_drewN ?_ _ | refine blk_drew ?_ | refine blk_alloc ?_ _)); refine blk_put (cs := #[.int .i64 0, .int .i64 0, .bool false]) ?_ 0 _ rfl; (with_reducible repeat (first | refine blk_drewN ?_ _ | refine blk_drew ?_ | refine blk_alloc ?_ _)); exact BK145.out), GW145.out⟩); (case side2 => repeat (first | (with_reducible first | exact HB.out | apply below_alloc | apply pw_below_drewN | apply below_drew1 | refine below_set ?_ GE129.out | refine below_set ?_ GE145.out) | exact HB.out)); rintro e w35 ⟨rfl, hi, hb, hk⟩; refine ⟨_, rfl, ?_⟩; have n0_ := aS (Kd.R_mono (Kd.R_keep (Kd.R_mono (ok := fun k_ => (k_ ≠ gb129 ∧ k_ ≠ gb145)) (sR (Kd.R_mono (Kd.R_far (p := ⟨gb145, 2, none⟩) (Kd.R_far (p := ⟨gb145, 1, none⟩) (Kd.R_far (p := ⟨gb145, 0, none⟩) (Kd.R_mono HO_3.out (fun k_ hk => (⟨hk, hk.2⟩ : _ ∧ k_ ≠ gb145))) (fun _ hk => hk.2) (.int .i64 (wrap64 (Int.tdiv x5_2 2)))) (fun _ hk => hk.2) (.int .i64 (wrap64 (Int.tdiv (wrap64 (x5_2 + 1)) 2)))) (fun _ hk => hk.2) (.bool true)) (fun _ h_ => h_.1))) (fun k_ hk_ => (⟨hk_, hk_.2⟩ : _ ∧ k_ ≠ gb145))) hk (fun _ h => h.2)) (fun _ h => h.1)); have n1_ := aS (KeepBut.blk hk (g' := gb129) (o := .cells #[.int .i64 x130000_5, .int .i64 x130001_5, .bool x130002_5] 140 (0, 0)) (by (with_reducible repeat (first | refine blk_drewN ?_ _ | refine blk_drew ?_ | refine blk_alloc ?_ _)); refine blk_far ?_ NB129_145.out _; (with_reducible repeat (first | refine blk_drewN ?_ _ | refine blk_drew ?_ | refine blk_alloc ?_ _)); refine blk_far ?_ NB129_145.out _; (with_reducible repeat (first | refine blk_drewN ?_ _ | refine blk_drew ?_ | refine blk_alloc ?_ _)); refine blk_far ?_ NB129_145.out _; (with_reducible repeat (first | refine blk_drewN ?_ _ | refine blk_drew ?_ | refine blk_alloc ?_ _)); exact BK129.out) NB129_145.out (by simp)); have n2_ := aS (hb); have n3_ := aS (hi.1); clear HO_3 BK129 HB BK145; have HO_3 := n0_; have BK129 := n1_; have HB := n2_; have BK145 := n3_; clear n0_ n1_ n2_ n3_; (try clear hb); (try clear hb2); (try clear hk); (try clear hi)) | (go_at_call 121; (with_reducible refine (spec_l05Count.calls gb145 t147 t148 t149 t150 t151 t152 t153 w _ ?side1 ?side2 A27.out).mono ?_); (case side1 => exact ⟨(sB BK145.out), GW145.out⟩); (case side2 => repeat (first | (with_reducible first | exact HB.out | apply below_alloc | apply pw_below_drewN | apply below_drew1 | refine below_set ?_ GE129.out | refine below_set ?_ GE145.out) | exact HB.out)); rintro e w36 ⟨rfl, hi, hb, hk⟩; have n0_ := aS (Kd.R_mono (Kd.R_keep (Kd.R_mono (ok := fun k_ => (k_ ≠ gb129 ∧ k_ ≠ gb145)) (sR HO_3.out) (fun k_ hk_ => (⟨hk_, hk_.2⟩ : _ ∧ k_ ≠ gb145))) hk (fun _ h => h.2)) (fun _ h => h.1)); have n1_ := aS (KeepBut.blk hk (g' := gb129) (o := .cells #[.int .i64 x130000_5, .int .i64 x130001_5, .bool x130002_5] 140 (0, 0)) (sB BK129.out) NB129_145.out (by simp)); have n2_ := aS (hb); have n3_ := aS (hi.1); clear HO_3 BK129 HB BK145; have HO_3 := n0_; have BK129 := n1_; have HB := n2_; have BK145 := n3_; clear n0_ n1_ n2_ n3_; (try clear hb); (try clear hb2); (try clear hk); (try clear hi)) | (go_at_call 131; (with_reducible refine (spec_l05Parts.calls gb145 t151 t152 t153 t154 t155 t156 t157 w _ ?side1 ?side2 A29.out).mono ?_); (case side1 => exact ⟨(sB BK145.out), GW145.out⟩); (case side2 => repeat (first | (with_reducible first | exact HB.out | apply below_alloc | apply pw_below_drewN | apply below_drew1 | refine below_set ?_ GE129.out | refine below_set ?_ GE145.out) | exact HB.out)); rintro e w37 ⟨rfl, hi, hb, hk⟩; have n0_ := aS (Kd.R_mono (Kd.R_keep (Kd.R_mono (ok := fun k_ => (k_ ≠ gb129 ∧ k_ ≠ gb145)) (sR HO_3.out) (fun k_ hk_ => (⟨hk_, hk_.2⟩ : _ ∧ k_ ≠ gb145))) hk (fun _ h => h.2)) (fun _ h => h.1)); have n1_ := aS (KeepBut.blk hk (g' := gb129) (o := .cells #[.int .i64 x130000_5, .int .i64 x130001_5, .bool x130002_5] 140 (0, 0)) (sB BK129.out) NB129_145.out (by simp)); have n2_ := aS (hb); have n3_ := aS (hi.1); clear HO_3 BK129 HB BK145; have HO_3 := n0_; have BK129 := n1_; have HB := n2_; have BK145 := n3_; clear n0_ n1_ n2_ n3_; (try clear hb); (try clear hb2); (try clear hk); (try clear hi); have hcz38_0 : w37.cell? ⟨gb145, 0, none⟩ = some (.int .i64 t155) := (blk_cell BK145.out 0).trans rfl; have hcz38_1 : w37.cell? ⟨gb145, 1, none⟩ = some (.int .i64 t156) := (blk_cell BK145.out 1).trans rfl; have hcz38_2 : w37.cell? ⟨gb145, 2, none⟩ = some (.bool t157) := (blk_cell BK145.out 2).trans rfl; have hfz38_0 := blk_frozen BK145.out 0; have hfz38_1 := blk_frozen BK145.out 1; have hfz38_2 := blk_frozen BK145.out 2) | ((with_reducible refine gate_builtin (b := .append) (xs := #[.tmp 55, .tmp 57]) rfl ?_); at_builtin; refine Kd.R_append k140 (w0 := w) w.heap.size rfl (.tmp 55) (.tmp 57) 115 140 (.agg #[(.int .i64 0), (.int .i64 0), (.bool false)]) 24 rfl Try.underlying115 info140 rfl (by decide) (by omega) u3 x3_19 (⟨t155, t156, t157⟩ : S140) [.int .i64 t155, .int .i64 t156, .bool t157] (fun k_ => k_ ≠ gb129 ∧ k_ ≠ gb145) (fun _ => False) rfl rfl ?aP (fun _ hk => hk.elim) ?aF ?aO ?aB ?aS ?aL ?_; (case aP => exact k140_mkM _ _ _ (⟨t155, t156, t157⟩ : S140)); (case aB => exact (sW HB.out)); (case aF => exact (fun k_ hk => ⟨Kd.freshB (g := gb129) (o := .cells #[.int .i64 x130000_5, .int .i64 x130001_5, .bool x130002_5] 140 (0, 0)) (sB BK129.out) k_ hk, Kd.freshB (g := gb145) (o := .cells #[.int .i64 t155, .int .i64 t156, .bool t157] 140 (0, 0)) (sB BK145.out) k_ hk⟩)); (case aO => exact (sR HO_3.out)); (case aS => exact (below_size (sW HB.out))); (case aL => have := LMc31.out; omega); intro v159 w39 ho hb hg hat; rw [← Ny158.out] at ho; have n0_ := aS (blk_grown (g := gb129) (o := .cells #[.int .i64 x130000_5, .int .i64 x130001_5, .bool x130002_5] 140 (0, 0)) (sB BK129.out) hg (Kd.R_away HO_3.out (fun _ hk => hk.1))); have n1_ := aS (blk_grown (g := gb145) (o := .cells #[.int .i64 t155, .int .i64 t156, .bool t157] 140 (0, 0)) (sB BK145.out) hg (Kd.R_away HO_3.out (fun _ hk => hk.2))); have n2_ := aS (hb); have n3_ := aS (ho); clear BK129 BK145 HB HO_3; have BK129 := n0_; have BK145 := n1_; have HB := n2_; have HO160 := n3_; clear n0_ n1_ n2_ n3_; clear ho hb hg hat))
          go_roundg kj19
          case measure => have := HK1.out; have := HK2.out; have := HJ5.out; have := HJ19.out; omega
          case rel => exact ⟨(y158), (wrap64 (x5_2 + 1)), (by first | rfl | (simp; done) | (simp [*]; done) | (simp only [i64_w]; done) | (simp [i64_w]; done)), H', ⟨by have := HK1.out; have := HK2.out; have := HJ5.out; have := HJ19.out; omega⟩, ⟨by (with_reducible repeat (first | apply Kd.R_alloc | apply Kd.R_drewN | apply Kd.R_drew)); exact Kd.R_mono HO160.out (fun _ hk => trivial)⟩, ⟨by repeat (first | (with_reducible first | exact HB.out | apply below_alloc | apply pw_below_drewN | apply below_drew1 | refine below_set ?_ GE129.out | refine below_set ?_ GE145.out) | exact HB.out)⟩⟩
   ·
    rw [if_neg c4] at H
    have c4b0 : decide (x4_1 ≤ 2) = false := decide_eq_false c4
    clear c4
    obtain rfl := Option.some.inj H
    go_wp2
    go_ret
    exact ⟨_, by first | rfl | (simp [errW_none, errW_some, i64_w]; done) | (simp [errW_none, errW_some] <;> rfl) | (simp [*, errW_none, errW_some] <;> rfl), by (with_reducible repeat (first | apply Kd.R_alloc | apply Kd.R_drewN | apply Kd.R_drew)); exact HO_3.out, by repeat (first | (with_reducible first | exact HB.out | apply below_alloc | apply pw_below_drewN | apply below_drew1) | exact HB.out)⟩

-- NOT PRINTED: function 107 (spec_l05S_walk)

-- NOT PRINTED: function 84 (spec_l05Best)

-- NOT PRINTED: function 40 (spec_FewestBlocks)

/-! ### impl_within: function 50 -/
def impl_within.f (a0 : Int) (a1 : Int) (a2 : Int) : Option (Bool) := if a0 ≥ a1 then (some (decide (a0 ≤ a2))) else (some false)
set_option maxHeartbeats 8000000 in
set_option maxRecDepth 100000 in
theorem impl_within.calls (a0 : Int) (a1 : Int) (a2 : Int) (r : Bool) (w : World) (h : impl_within.f a0 a1 a2 = some r) :
  Calls Try.prog 50 #[.int .i64 a0, .int .i64 a1, .int .i64 a2] w fun e w' => e = .returned (.bool r) ∧ Drawn0 w w' := by
 have H : (if a0 ≥ a1 then (some (decide (a0 ≤ a2))) else (some false)) = some r := h
 clear h
 by_cases c4 : a0 ≥ a1
 ·
  rw [if_pos c4] at H
  have c4b0 : decide (a1 ≤ a0) = true := decide_eq_true c4
  clear c4
  obtain rfl := Option.some.inj H
  go_enter Try.func50, Try.ntmps50
  go_wp2
  go_ret
  exact ⟨by first | rfl | (simp; done) | (simp [*]; done) | (simp only [i64_w]; done) | (simp [i64_w]; done), by repeat (first | exact Drawn0.refl _ | apply Drawn0.step)⟩
 ·
  rw [if_neg c4] at H
  have c4b0 : decide (a1 ≤ a0) = false := decide_eq_false c4
  clear c4
  obtain rfl := Option.some.inj H
  go_enter Try.func50, Try.ntmps50
  go_wp2
  go_ret
  exact ⟨by first | rfl | (simp; done) | (simp [*]; done) | (simp only [i64_w]; done) | (simp [i64_w]; done), by repeat (first | exact Drawn0.refl _ | apply Drawn0.step)⟩

/-! ### impl_blocksOf: function 110 -/
def impl_blocksOf.f (a0_0 : Int) (a0_1 : Int) (a0_2 : Bool) : Option (Int) := some (wrap64 ((mn a0_0 1) + (mn a0_1 1)))
set_option maxHeartbeats 8000000 in
set_option maxRecDepth 100000 in
theorem impl_blocksOf.calls (a0_0 : Int) (a0_1 : Int) (a0_2 : Bool) (r : Int) (w : World) (h : impl_blocksOf.f a0_0 a0_1 a0_2 = some r) :
  Calls Try.prog 110 #[.agg #[.int .i64 a0_0, .int .i64 a0_1, .bool a0_2]] w fun e w' => e = .returned (.int .i64 r) ∧ Below w.heap.size w w' := by
 have hu140 := Try.underlying140
 have HB := aS (Below.refl w.heap.size w)
 have H : (some (wrap64 ((mn a0_0 1) + (mn a0_1 1)))) = some r := h
 clear h
 obtain ⟨ji2, hji2⟩ : ∃ j_ : Int, (mn a0_0 1) = j_ := ⟨_, rfl⟩
 replace H : (some (wrap64 ((ji2) + (mn a0_1 1)))) = some r := by first | (rw [hji2] at H; exact H) | (simp only [hji2] at H ⊢; exact H)
 (try (have hji2h : ji2 ≤ 1 := by (rw [← hji2]; unfold mn; (repeat' split) <;> omega)))
 (try (have hji2g : ji2 ≤ 64 := by omega))
 have hji2_ : (if 1 < a0_0 then 1 else a0_0) = ji2 := hji2
 obtain ⟨ji3, hji3⟩ : ∃ j_ : Int, (mn a0_1 1) = j_ := ⟨_, rfl⟩
 replace H : (some (wrap64 ((ji2) + (ji3)))) = some r := by first | (rw [hji3] at H; exact H) | (simp only [hji3] at H ⊢; exact H)
 (try (have hji3h : ji3 ≤ 1 := by (rw [← hji3]; unfold mn; (repeat' split) <;> omega)))
 (try (have hji3g : ji3 ≤ 64 := by omega))
 have hji3_ : (if 1 < a0_1 then 1 else a0_1) = ji3 := hji3
 obtain rfl := Option.some.inj H
 go_enter Try.func110, Try.ntmps110
 go_wp2_with (first | ((with_reducible refine gate_dst (N := 1) rfl ?_); refine box_event ?hg (N := 1) ?hd (cs := #[.int .i64 a0_0, .int .i64 a0_1, .bool a0_2]) (t := 140) ?hr ?_; (case hd => rfl); (case hg => rfl); (case hr => first | (go_simp; done) | (go_simp; rfl)); intro gb175 hg w4 hbox hb; have n0_ := aS (below_step (sW HB.out) hb); have n1_ := aS (hbox); have n2_ := aS ((by rw [hg]; exact (below_size (sW HB.out)) : w.heap.size ≤ gb175)); have n3_ := aS ((by rw [hg]; exact (below_size (sW HB.out)) : w.heap.size ≤ gb175)); clear HB; have HB := n0_; have BK175 := n1_; have GW175 := n2_; have GE175 := n3_; clear n0_ n1_ n2_ n3_; clear hb hbox hg; have hcz5_0 : w4.cell? ⟨gb175, 0, none⟩ = some (.int .i64 a0_0) := (blk_cell BK175.out 0).trans rfl; have hcz5_1 : w4.cell? ⟨gb175, 1, none⟩ = some (.int .i64 a0_1) := (blk_cell BK175.out 1).trans rfl; have hcz5_2 : w4.cell? ⟨gb175, 2, none⟩ = some (.bool a0_2) := (blk_cell BK175.out 2).trans rfl; have hfz5_0 := blk_frozen BK175.out 0; have hfz5_1 := blk_frozen BK175.out 1; have hfz5_2 := blk_frozen BK175.out 2))
 go_ret
 exact ⟨by first | rfl | (simp [errW_none, errW_some, i64_w]; done) | (simp [errW_none, errW_some] <;> rfl) | (simp only [← hji2, ← hji3]; first | rfl | (simp [errW_none, errW_some] <;> rfl)) | (simp [*, errW_none, errW_some] <;> rfl), by repeat (first | (with_reducible first | exact HB.out | apply below_alloc | apply pw_below_drewN | apply below_drew1) | exact HB.out)⟩

/-! ### impl_ValidPurchase: function 124 -/
def impl_ValidPurchase.j0 : Nat → Bool → Int → Int → Bool → Option (Bool)
 | 0, _, _, _, _ => none
 | k + 1, x20, x177000, x177001, x177002 => if x20 = true then (some false) else (if x177002 = true then ((impl_within.f (wrap64 (x177001 - x177000)) 0 1).bind fun t179 => (some t179)) else ((impl_within.f (wrap64 (x177000 - x177001)) 0 1).bind fun t180 => (some t180)))
def impl_ValidPurchase.f (k : Nat) (a0_0 : Int) (a0_1 : Int) (a0_2 : Bool) : Option (Bool) := (impl_within.f a0_0 0 4).bind fun t177 => (if t177 = true then ((impl_within.f a0_1 0 4).bind fun t178 => (if t178 = true then (impl_ValidPurchase.j0 k ((wrap64 (a0_0 + a0_1)) == 0) a0_0 a0_1 a0_2) else (impl_ValidPurchase.j0 k true a0_0 a0_1 a0_2))) else (impl_ValidPurchase.j0 k true a0_0 a0_1 a0_2))
theorem impl_ValidPurchase.mono_l : ∀ k, (∀ y0 y1 y2 y3, LeO (impl_ValidPurchase.j0 k y0 y1 y2 y3) (impl_ValidPurchase.j0 (k + 1) y0 y1 y2 y3))
 | 0 => fun _ _ _ _ r h => by simp [impl_ValidPurchase.j0] at h
 | k + 1 => by
  have ih0 := impl_ValidPurchase.mono_l k
  ·
   intro y0 y1 y2 y3
   unfold impl_ValidPurchase.j0
   repeat' first
   | (with_reducible exact ih0 _ _ _ _)
   | (with_reducible exact LeO.refl _)
   | (with_reducible exact LeO.none _)
   | (with_reducible refine LeO.ite ?_ ?_)
   | (with_reducible refine LeO.bind ?_ (fun _ => ?_))
   | exact ih0 _ _ _ _
   | exact LeO.none _
   | refine LeO.ite ?_ ?_
   | refine LeO.bind ?_ (fun _ => ?_)
theorem impl_ValidPurchase.mono : ∀ a0 a1 a2 k, LeO (impl_ValidPurchase.f k a0 a1 a2) (impl_ValidPurchase.f (k + 1) a0 a1 a2) := by
 intro a0 a1 a2 k
 have ih0 := impl_ValidPurchase.mono_l k
 unfold impl_ValidPurchase.f
 repeat' first
   | (with_reducible exact ih0 _ _ _ _)
   | (with_reducible exact LeO.refl _)
   | (with_reducible exact LeO.none _)
   | (with_reducible refine LeO.ite ?_ ?_)
   | (with_reducible refine LeO.bind ?_ (fun _ => ?_))
   | exact ih0 _ _ _ _
   | exact LeO.none _
   | refine LeO.ite ?_ ?_
   | refine LeO.bind ?_ (fun _ => ?_)
set_option maxHeartbeats 8000000 in
set_option maxRecDepth 100000 in
theorem impl_ValidPurchase.calls (k : Nat) (a0_0 : Int) (a0_1 : Int) (a0_2 : Bool) (r : Bool) (w : World) (h : impl_ValidPurchase.f k a0_0 a0_1 a0_2 = some r) :
  Calls Try.prog 124 #[.agg #[.int .i64 a0_0, .int .i64 a0_1, .bool a0_2]] w fun e w' => e = .returned (.bool r) ∧ Below w.heap.size w w' := by
 have hu140 := Try.underlying140
 have HB := aS (Below.refl w.heap.size w)
 have H : ((impl_within.f a0_0 0 4).bind fun t177 => (if t177 = true then ((impl_within.f a0_1 0 4).bind fun t178 => (if t178 = true then (impl_ValidPurchase.j0 k ((wrap64 (a0_0 + a0_1)) == 0) a0_0 a0_1 a0_2) else (impl_ValidPurchase.j0 k true a0_0 a0_1 a0_2))) else (impl_ValidPurchase.j0 k true a0_0 a0_1 a0_2))) = some r := h
 clear h
 have HC2 := aS H
 clear H
 go_enter Try.func124, Try.ntmps124
 go_upto_region 1 with (first | ((with_reducible refine gate_dst (N := 1) rfl ?_); refine box_event ?hg (N := 1) ?hd (cs := #[.int .i64 a0_0, .int .i64 a0_1, .bool a0_2]) (t := 140) ?hr ?_; (case hd => rfl); (case hg => rfl); (case hr => first | (go_simp; done) | (go_simp; rfl)); intro gb176 hg w3 hbox hb; have n0_ := aS (below_step (sW HB.out) hb); have n1_ := aS (hbox); have n2_ := aS ((by rw [hg]; exact (below_size (sW HB.out)) : w.heap.size ≤ gb176)); have n3_ := aS ((by rw [hg]; exact (below_size (sW HB.out)) : w.heap.size ≤ gb176)); clear HB; have HB := n0_; have BK176 := n1_; have GW176 := n2_; have GE176 := n3_; clear n0_ n1_ n2_ n3_; clear hb hbox hg))
 (try simp only [Act.put, List.setIfInBounds_toArray, List.set_cons_zero, List.set_cons_succ])
 go_cut [20] (fun v20 wc => ∃ (kq : Nat) (x20_1 : Bool), v20 = .bool x20_1 ∧ Aside0 (impl_ValidPurchase.j0 kq x20_1 a0_0 a0_1 a0_2 = some r) ∧ Aside0 (kq ≤ k) ∧ Aside0 (wc.heap[gb176]? = some (.cells #[.int .i64 a0_0, .int .i64 a0_1, .bool a0_2] 140 (0, 0))) ∧ Aside0 (Below w.heap.size w wc))
 case first =>
  have H := HC2.out
  clear HC2
  replace H := Option.bind_eq_some_iff.mp H
  obtain ⟨t177, A40, H⟩ := H
  replace H : (if t177 = true then ((impl_within.f a0_1 0 4).bind fun t178 => (if t178 = true then (impl_ValidPurchase.j0 k ((wrap64 (a0_0 + a0_1)) == 0) a0_0 a0_1 a0_2) else (impl_ValidPurchase.j0 k true a0_0 a0_1 a0_2))) else (impl_ValidPurchase.j0 k true a0_0 a0_1 a0_2)) = some r := H
  have A4 := aS A40
  clear A40
  by_cases c5 : t177 = true
  ·
   subst c5
   have H1 : ((impl_within.f a0_1 0 4).bind fun t178 => (if t178 = true then (impl_ValidPurchase.j0 k ((wrap64 (a0_0 + a0_1)) == 0) a0_0 a0_1 a0_2) else (impl_ValidPurchase.j0 k true a0_0 a0_1 a0_2))) = some r := by rw [if_pos rfl] at H; exact H
   clear H
   have H := H1
   clear H1
   replace H := Option.bind_eq_some_iff.mp H
   obtain ⟨t178, A60, H⟩ := H
   replace H : (if t178 = true then (impl_ValidPurchase.j0 k ((wrap64 (a0_0 + a0_1)) == 0) a0_0 a0_1 a0_2) else (impl_ValidPurchase.j0 k true a0_0 a0_1 a0_2)) = some r := H
   have A6 := aS A60
   clear A60
   by_cases c7 : t178 = true
   ·
    subst c7
    have H1 : (impl_ValidPurchase.j0 k ((wrap64 (a0_0 + a0_1)) == 0) a0_0 a0_1 a0_2) = some r := by rw [if_pos rfl] at H; exact H
    clear H
    have H := H1
    clear H1
    have H' := aS H
    clear H
    have hcz8_0 : w3.cell? ⟨gb176, 0, none⟩ = some (.int .i64 a0_0) := (blk_cell BK176.out 0).trans rfl
    have hcz8_1 : w3.cell? ⟨gb176, 1, none⟩ = some (.int .i64 a0_1) := (blk_cell BK176.out 1).trans rfl
    have hcz8_2 : w3.cell? ⟨gb176, 2, none⟩ = some (.bool a0_2) := (blk_cell BK176.out 2).trans rfl
    have hfz8_0 := blk_frozen BK176.out 0
    have hfz8_1 := blk_frozen BK176.out 1
    have hfz8_2 := blk_frozen BK176.out 2
    go_wp2_with (first | ((with_reducible refine gate_callee (f := 50) rfl ?_); refine goesL_ (some 5) rfl rfl Try.func50 (by kernel_rfl) rfl #[.int .i64 a0_0, .int .i64 0, .int .i64 4] rfl sG ?_; (with_reducible refine (impl_within.calls a0_0 0 4 true _ A4.out).mono ?_); rintro e w' ⟨rfl, ⟨nd, rfl⟩⟩; refine ⟨_, rfl, ?_⟩) | (go_at_call 50; (with_reducible refine (impl_within.calls a0_1 0 4 true _ A6.out).mono ?_); rintro e w' ⟨rfl, ⟨nd, rfl⟩⟩))
    go_meet
    case rel => exact ⟨_, (((wrap64 (a0_0 + a0_1)) == 0)), (by first | rfl | (simp; done) | (simp [*]; done) | (simp only [i64_w]; done) | (simp [i64_w]; done)), H', ⟨by first | omega | exact Nat.le_refl _⟩, ⟨by (with_reducible repeat (first | refine blk_drewN ?_ _ | refine blk_drew ?_ | refine blk_alloc ?_ _)); exact BK176.out⟩, ⟨by repeat (first | (with_reducible first | exact HB.out | apply below_alloc | apply pw_below_drewN | apply below_drew1 | refine below_set ?_ GE176.out) | exact HB.out)⟩⟩
   ·
    replace c7 := Bool.eq_false_iff.mpr c7
    subst c7
    have H1 : (impl_ValidPurchase.j0 k true a0_0 a0_1 a0_2) = some r := by rw [if_neg (show ¬ (false = true) by decide)] at H; exact H
    clear H
    have H := H1
    clear H1
    have H' := aS H
    clear H
    have hcz9_0 : w3.cell? ⟨gb176, 0, none⟩ = some (.int .i64 a0_0) := (blk_cell BK176.out 0).trans rfl
    have hcz9_1 : w3.cell? ⟨gb176, 1, none⟩ = some (.int .i64 a0_1) := (blk_cell BK176.out 1).trans rfl
    have hcz9_2 : w3.cell? ⟨gb176, 2, none⟩ = some (.bool a0_2) := (blk_cell BK176.out 2).trans rfl
    have hfz9_0 := blk_frozen BK176.out 0
    have hfz9_1 := blk_frozen BK176.out 1
    have hfz9_2 := blk_frozen BK176.out 2
    go_wp2_with (first | ((with_reducible refine gate_callee (f := 50) rfl ?_); refine goesL_ (some 5) rfl rfl Try.func50 (by kernel_rfl) rfl #[.int .i64 a0_0, .int .i64 0, .int .i64 4] rfl sG ?_; (with_reducible refine (impl_within.calls a0_0 0 4 true _ A4.out).mono ?_); rintro e w' ⟨rfl, ⟨nd, rfl⟩⟩; refine ⟨_, rfl, ?_⟩) | (go_at_call 50; (with_reducible refine (impl_within.calls a0_1 0 4 false _ A6.out).mono ?_); rintro e w' ⟨rfl, ⟨nd, rfl⟩⟩))
    go_meet
    case rel => exact ⟨_, (true), (by first | rfl | (simp; done) | (simp [*]; done) | (simp only [i64_w]; done) | (simp [i64_w]; done)), H', ⟨by first | omega | exact Nat.le_refl _⟩, ⟨by (with_reducible repeat (first | refine blk_drewN ?_ _ | refine blk_drew ?_ | refine blk_alloc ?_ _)); exact BK176.out⟩, ⟨by repeat (first | (with_reducible first | exact HB.out | apply below_alloc | apply pw_below_drewN | apply below_drew1 | refine below_set ?_ GE176.out) | exact HB.out)⟩⟩
  ·
   replace c5 := Bool.eq_false_iff.mpr c5
   subst c5
   have H1 : (impl_ValidPurchase.j0 k true a0_0 a0_1 a0_2) = some r := by rw [if_neg (show ¬ (false = true) by decide)] at H; exact H
   clear H
   have H := H1
   clear H1
   have H' := aS H
   clear H
   have hcz10_0 : w3.cell? ⟨gb176, 0, none⟩ = some (.int .i64 a0_0) := (blk_cell BK176.out 0).trans rfl
   have hcz10_1 : w3.cell? ⟨gb176, 1, none⟩ = some (.int .i64 a0_1) := (blk_cell BK176.out 1).trans rfl
   have hcz10_2 : w3.cell? ⟨gb176, 2, none⟩ = some (.bool a0_2) := (blk_cell BK176.out 2).trans rfl
   have hfz10_0 := blk_frozen BK176.out 0
   have hfz10_1 := blk_frozen BK176.out 1
   have hfz10_2 := blk_frozen BK176.out 2
   go_wp2_with (first | ((with_reducible refine gate_callee (f := 50) rfl ?_); refine goesL_ (some 5) rfl rfl Try.func50 (by kernel_rfl) rfl #[.int .i64 a0_0, .int .i64 0, .int .i64 4] rfl sG ?_; (with_reducible refine (impl_within.calls a0_0 0 4 false _ A4.out).mono ?_); rintro e w' ⟨rfl, ⟨nd, rfl⟩⟩; refine ⟨_, rfl, ?_⟩))
   go_meet
   case rel => exact ⟨_, (true), (by first | rfl | (simp; done) | (simp [*]; done) | (simp only [i64_w]; done) | (simp [i64_w]; done)), H', ⟨by first | omega | exact Nat.le_refl _⟩, ⟨by (with_reducible repeat (first | refine blk_drewN ?_ _ | refine blk_drew ?_ | refine blk_alloc ?_ _)); exact BK176.out⟩, ⟨by repeat (first | (with_reducible first | exact HB.out | apply below_alloc | apply pw_below_drewN | apply below_drew1 | refine below_set ?_ GE176.out) | exact HB.out)⟩⟩
 case rest =>
  clear HC2
  (try clear c1); (try clear p2); (try clear c5); (try clear p6); (try clear c7); (try clear hcz10_0); (try clear hcz10_1); (try clear hcz10_2); (try clear hcz8_0); (try clear hcz8_1); (try clear hcz8_2); (try clear hcz9_0); (try clear hcz9_1); (try clear hcz9_2); (try clear hfz10_0); (try clear hfz10_1); (try clear hfz10_2); (try clear hfz8_0); (try clear hfz8_1); (try clear hfz8_2); (try clear hfz9_0); (try clear hfz9_1); (try clear hfz9_2)
  obtain ⟨kq, x20_1, rfl, HA, HJ1, BK176, HB⟩ := hcut
  cases kq with
  | zero => exact absurd HA.out (by simp [impl_ValidPurchase.j0])
  | succ kj1 =>
   have H := HA.out
   clear HA
   simp only [impl_ValidPurchase.j0] at H
   by_cases c11 : x20_1 = true
   ·
    subst c11
    have H1 : (some false) = some r := by rw [if_pos rfl] at H; exact H
    clear H
    have H := H1
    clear H1
    obtain rfl := Option.some.inj H
    go_wp2
    go_ret
    exact ⟨by first | rfl | (simp [errW_none, errW_some, i64_w]; done) | (simp [errW_none, errW_some] <;> rfl) | (simp [*, errW_none, errW_some] <;> rfl), by repeat (first | (with_reducible first | exact HB.out | apply below_alloc | apply pw_below_drewN | apply below_drew1) | exact HB.out)⟩
   ·
    replace c11 := Bool.eq_false_iff.mpr c11
    subst c11
    have H1 : (if a0_2 = true then ((impl_within.f (wrap64 (a0_1 - a0_0)) 0 1).bind fun t179 => (some t179)) else ((impl_within.f (wrap64 (a0_0 - a0_1)) 0 1).bind fun t180 => (some t180))) = some r := by rw [if_neg (show ¬ (false = true) by decide)] at H; exact H
    clear H
    have H := H1
    clear H1
    by_cases c12 : a0_2 = true
    ·
     subst c12
     have H1 : ((impl_within.f (wrap64 (a0_1 - a0_0)) 0 1).bind fun t179 => (some t179)) = some r := by rw [if_pos rfl] at H; exact H
     clear H
     have H := H1
     clear H1
     replace H := Option.bind_eq_some_iff.mp H
     obtain ⟨t179, A130, H⟩ := H
     replace H : (some t179) = some r := H
     have A13 := aS A130
     clear A130
     obtain rfl := Option.some.inj H
     have hcz14_0 : wc.cell? ⟨gb176, 0, none⟩ = some (.int .i64 a0_0) := (blk_cell BK176.out 0).trans rfl
     have hcz14_1 : wc.cell? ⟨gb176, 1, none⟩ = some (.int .i64 a0_1) := (blk_cell BK176.out 1).trans rfl
     have hcz14_2 : wc.cell? ⟨gb176, 2, none⟩ = some (.bool true) := (blk_cell BK176.out 2).trans rfl
     have hfz14_0 := blk_frozen BK176.out 0
     have hfz14_1 := blk_frozen BK176.out 1
     have hfz14_2 := blk_frozen BK176.out 2
     go_wp2_with (first | ((with_reducible refine gate_callee (f := 50) rfl ?_); refine goesL_ (some 28) rfl rfl Try.func50 (by kernel_rfl) rfl #[.int .i64 (wrap64 (a0_1 - a0_0)), .int .i64 0, .int .i64 1] rfl sG ?_; (with_reducible refine (impl_within.calls (wrap64 (a0_1 - a0_0)) 0 1 t179 _ A13.out).mono ?_); rintro e w' ⟨rfl, ⟨nd, rfl⟩⟩; refine ⟨_, rfl, ?_⟩))
     go_ret
     exact ⟨by first | rfl | (simp [errW_none, errW_some, i64_w]; done) | (simp [errW_none, errW_some] <;> rfl) | (simp [*, errW_none, errW_some] <;> rfl), by repeat (first | (with_reducible first | exact HB.out | apply below_alloc | apply pw_below_drewN | apply below_drew1) | exact HB.out)⟩
    ·
     replace c12 := Bool.eq_false_iff.mpr c12
     subst c12
     have H1 : ((impl_within.f (wrap64 (a0_0 - a0_1)) 0 1).bind fun t180 => (some t180)) = some r := by rw [if_neg (show ¬ (false = true) by decide)] at H; exact H
     clear H
     have H := H1
     clear H1
     replace H := Option.bind_eq_some_iff.mp H
     obtain ⟨t180, A150, H⟩ := H
     replace H : (some t180) = some r := H
     have A15 := aS A150
     clear A150
     obtain rfl := Option.some.inj H
     have hcz16_0 : wc.cell? ⟨gb176, 0, none⟩ = some (.int .i64 a0_0) := (blk_cell BK176.out 0).trans rfl
     have hcz16_1 : wc.cell? ⟨gb176, 1, none⟩ = some (.int .i64 a0_1) := (blk_cell BK176.out 1).trans rfl
     have hcz16_2 : wc.cell? ⟨gb176, 2, none⟩ = some (.bool false) := (blk_cell BK176.out 2).trans rfl
     have hfz16_0 := blk_frozen BK176.out 0
     have hfz16_1 := blk_frozen BK176.out 1
     have hfz16_2 := blk_frozen BK176.out 2
     go_wp2_with (first | ((with_reducible refine gate_callee (f := 50) rfl ?_); refine goesL_ (some 34) rfl rfl Try.func50 (by kernel_rfl) rfl #[.int .i64 (wrap64 (a0_0 - a0_1)), .int .i64 0, .int .i64 1] rfl sG ?_; (with_reducible refine (impl_within.calls (wrap64 (a0_0 - a0_1)) 0 1 t180 _ A15.out).mono ?_); rintro e w' ⟨rfl, ⟨nd, rfl⟩⟩; refine ⟨_, rfl, ?_⟩))
     go_ret
     exact ⟨by first | rfl | (simp [errW_none, errW_some, i64_w]; done) | (simp [errW_none, errW_some] <;> rfl) | (simp [*, errW_none, errW_some] <;> rfl), by repeat (first | (with_reducible first | exact HB.out | apply below_alloc | apply pw_below_drewN | apply below_drew1) | exact HB.out)⟩

end Go.Proofs.Ytginmioklkcgbaa.QFnExactFewestBlocks

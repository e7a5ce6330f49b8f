/- What the Go functions of this law compute, each as a Lean function, and that each call comes to that answer; written by a program of this session. No condition. -/
import Derived.Test.YtginmioklkcgbaaQFnRopeListsx0
import Derived.Test.YtginmioklkcgbaaQFnRopeListsx4
namespace Go.Proofs.Ytginmioklkcgbaa.QFnRopeLists
open Go.RowKit Go.Proofs.YtginmioklkcgbaaW.PrintWords Go.Proofs.YtginmioklkcgbaaW.PrintLast Go.Proofs.YtginmioklkcgbaaW.PrintMore
attribute [local go_sem] max2_int min2_int max_two min_two max_three min_three max_four min_four   -- for this text's walks alone
set_option linter.unusedVariables false
set_option linter.unusedSimpArgs false

/-! ### impl_BeatenRopes: function 35 -/
mutual
def impl_BeatenRopes.l0 : Nat → List (S68) → List Int → List (S68) → Int → Int → Option (List Int × Int)
 | 0, _, _, _, _, _ => none
 | k + 1, x0, x4, x14, x15, x16 => if x16 < x15 then (if 0 ≤ x16 then (if x16 < (x14.length : Int) then (impl_BeatenRopes.l1 k x0 x4 x16 x14 x15 x16 x0 (x0.length : Int) 0 ((rd_T68 x14 x16).f0) ((rd_T68 x14 x16).f1) ((rd_T68 x14 x16).f2) ((rd_T68 x14 x16).f3)) else (none)) else (none)) else (some (x4, 0))
def impl_BeatenRopes.l1 : Nat → List (S68) → List Int → Int → List (S68) → Int → Int → List (S68) → Int → Int → ByteArray → Int → Int → Int → Option (List Int × Int)
 | 0, _, _, _, _, _, _, _, _, _, _, _, _, _ => none
 | k + 1, x0, x4, x5, x14, x15, x16, x21, x22, x23, x190000, x190001, x190002, x190003 => if x23 < x22 then (if 0 ≤ x23 then (if x23 < (x21.length : Int) then (if ((rd_T68 x21 x23).f2) = x190002 then (if ((rd_T68 x21 x23).f3) = x190003 then (if ((rd_T68 x21 x23).f2) ≥ x190002 then (if ((rd_T68 x21 x23).f3) ≤ x190003 then (if ((rd_T68 x21 x23).f1) ≤ x190001 then (if (((rd_T68 x21 x23).f1) = x190001) then (impl_BeatenRopes.l1 k x0 x4 x5 x14 x15 x16 x21 x22 (wrap64 (x23 + 1)) x190000 x190001 x190002 x190003) else (if x4.length < 17592186044416 then (impl_BeatenRopes.l0 k x0 (x4 ++ [x5]) x14 x15 (wrap64 (x16 + 1))) else (none))) else (impl_BeatenRopes.l1 k x0 x4 x5 x14 x15 x16 x21 x22 (wrap64 (x23 + 1)) x190000 x190001 x190002 x190003)) else (impl_BeatenRopes.l1 k x0 x4 x5 x14 x15 x16 x21 x22 (wrap64 (x23 + 1)) x190000 x190001 x190002 x190003)) else (impl_BeatenRopes.l1 k x0 x4 x5 x14 x15 x16 x21 x22 (wrap64 (x23 + 1)) x190000 x190001 x190002 x190003)) else (if ((rd_T68 x21 x23).f2) ≥ x190002 then (if ((rd_T68 x21 x23).f3) ≤ x190003 then (if ((rd_T68 x21 x23).f1) ≤ x190001 then (if x4.length < 17592186044416 then (impl_BeatenRopes.l0 k x0 (x4 ++ [x5]) x14 x15 (wrap64 (x16 + 1))) else (none)) else (impl_BeatenRopes.l1 k x0 x4 x5 x14 x15 x16 x21 x22 (wrap64 (x23 + 1)) x190000 x190001 x190002 x190003)) else (impl_BeatenRopes.l1 k x0 x4 x5 x14 x15 x16 x21 x22 (wrap64 (x23 + 1)) x190000 x190001 x190002 x190003)) else (impl_BeatenRopes.l1 k x0 x4 x5 x14 x15 x16 x21 x22 (wrap64 (x23 + 1)) x190000 x190001 x190002 x190003))) else (if ((rd_T68 x21 x23).f2) ≥ x190002 then (if ((rd_T68 x21 x23).f3) ≤ x190003 then (if ((rd_T68 x21 x23).f1) ≤ x190001 then (if x4.length < 17592186044416 then (impl_BeatenRopes.l0 k x0 (x4 ++ [x5]) x14 x15 (wrap64 (x16 + 1))) else (none)) else (impl_BeatenRopes.l1 k x0 x4 x5 x14 x15 x16 x21 x22 (wrap64 (x23 + 1)) x190000 x190001 x190002 x190003)) else (impl_BeatenRopes.l1 k x0 x4 x5 x14 x15 x16 x21 x22 (wrap64 (x23 + 1)) x190000 x190001 x190002 x190003)) else (impl_BeatenRopes.l1 k x0 x4 x5 x14 x15 x16 x21 x22 (wrap64 (x23 + 1)) x190000 x190001 x190002 x190003))) else (none)) else (none)) else (impl_BeatenRopes.l0 k x0 x4 x14 x15 (wrap64 (x16 + 1)))
end
def impl_BeatenRopes.f (k : Nat) (l0 : List (S68)) : Option (List Int × Int) := (impl_ValidRopes.f k l0).bind fun t184 => (if t184 = true then (impl_BeatenRopes.l0 k l0 (([] : List Int)) l0 (l0.length : Int) 0) else (some (([] : List Int), 1)))
theorem impl_BeatenRopes.mono_l : ∀ k, (∀ y0 y1 y2 y3 y4, LeO (impl_BeatenRopes.l0 k y0 y1 y2 y3 y4) (impl_BeatenRopes.l0 (k + 1) y0 y1 y2 y3 y4)) ∧ (∀ y0 y1 y2 y3 y4 y5 y6 y7 y8 y9 y10 y11 y12, LeO (impl_BeatenRopes.l1 k y0 y1 y2 y3 y4 y5 y6 y7 y8 y9 y10 y11 y12) (impl_BeatenRopes.l1 (k + 1) y0 y1 y2 y3 y4 y5 y6 y7 y8 y9 y10 y11 y12))
 | 0 => ⟨fun _ _ _ _ _ r h => by simp [impl_BeatenRopes.l0] at h, fun _ _ _ _ _ _ _ _ _ _ _ _ _ r h => by simp [impl_BeatenRopes.l1] at h⟩
 | k + 1 => by
  obtain ⟨ih0, ih1⟩ := impl_BeatenRopes.mono_l k
  refine ⟨?_, ?_⟩
  ·
   intro y0 y1 y2 y3 y4
   unfold impl_BeatenRopes.l0
   repeat' first
   | (with_reducible exact ih0 _ _ _ _ _)
   | (with_reducible exact ih1 _ _ _ _ _ _ _ _ _ _ _ _ _)
   | (with_reducible exact impl_ValidRopes.mono _ _)
   | (with_reducible exact LeO.refl _)
   | (with_reducible exact LeO.none _)
   | (with_reducible refine LeO.ite ?_ ?_)
   | (with_reducible refine LeO.bind ?_ (fun _ => ?_))
   | exact ih0 _ _ _ _ _
   | exact ih1 _ _ _ _ _ _ _ _ _ _ _ _ _
   | exact impl_ValidRopes.mono _ _
   | exact LeO.none _
   | refine LeO.ite ?_ ?_
   | refine LeO.bind ?_ (fun _ => ?_)
  ·
   intro y0 y1 y2 y3 y4 y5 y6 y7 y8 y9 y10 y11 y12
   unfold impl_BeatenRopes.l1
   repeat' first
   | (with_reducible exact ih0 _ _ _ _ _)
   | (with_reducible exact ih1 _ _ _ _ _ _ _ _ _ _ _ _ _)
   | (with_reducible exact impl_ValidRopes.mono _ _)
   | (with_reducible exact LeO.refl _)
   | (with_reducible exact LeO.none _)
   | (with_reducible refine LeO.ite ?_ ?_)
   | (with_reducible refine LeO.bind ?_ (fun _ => ?_))
   | exact ih0 _ _ _ _ _
   | exact ih1 _ _ _ _ _ _ _ _ _ _ _ _ _
   | exact impl_ValidRopes.mono _ _
   | exact LeO.none _
   | refine LeO.ite ?_ ?_
   | refine LeO.bind ?_ (fun _ => ?_)
theorem impl_BeatenRopes.mono : ∀ a0 k, LeO (impl_BeatenRopes.f k a0) (impl_BeatenRopes.f (k + 1) a0) := by
 intro a0 k
 obtain ⟨ih0, ih1⟩ := impl_BeatenRopes.mono_l k
 unfold impl_BeatenRopes.f
 repeat' first
   | (with_reducible exact ih0 _ _ _ _ _)
   | (with_reducible exact ih1 _ _ _ _ _ _ _ _ _ _ _ _ _)
   | (with_reducible exact impl_ValidRopes.mono _ _)
   | (with_reducible exact LeO.refl _)
   | (with_reducible exact LeO.none _)
   | (with_reducible refine LeO.ite ?_ ?_)
   | (with_reducible refine LeO.bind ?_ (fun _ => ?_))
   | exact ih0 _ _ _ _ _
   | exact ih1 _ _ _ _ _ _ _ _ _ _ _ _ _
   | exact impl_ValidRopes.mono _ _
   | exact LeO.none _
   | refine LeO.ite ?_ ?_
   | refine LeO.bind ?_ (fun _ => ?_)
def impl_BeatenRopes.bF (n k : Nat) : Array Bool := ((List.range n).map fun i => k.testBit i).toArray
set_option maxHeartbeats 8000000 in
set_option maxRecDepth 100000 in
theorem impl_BeatenRopes.calls (k : Nat) (A0 : Option Addr) (c0 : Nat) (l0 : List (S68)) (r1 : List Int) (r2 : Int) (w : World) (hr0 : Kd.C k68 w A0 l0.length l0) (hc0 : l0.length ≤ c0) (h : impl_BeatenRopes.f k l0 = some (r1, r2)) :
  Calls Try.prog 35 #[.slice A0 l0.length c0] w fun e w' => ∃ v0_ : Value, e = .returned (.tuple #[v0_, .int .i64 r2]) ∧ Kd.R (Kd.int .i64) 2 w' w.heap.size (fun _ => True) v0_ r1 ∧ Below w.heap.size w w' := by
 have hu68 := Try.underlying68
 have HR0 := aS hr0
 have HC0 := aS hc0
 clear hr0 hc0
 have HB := aS (Below.refl w.heap.size w)
 have H : ((impl_ValidRopes.f k l0).bind fun t184 => (if t184 = true then (impl_BeatenRopes.l0 k l0 (([] : List Int)) l0 (l0.length : Int) 0) else (some (([] : List Int), 1)))) = some (r1, r2) := h
 clear h
 replace H := Option.bind_eq_some_iff.mp H
 obtain ⟨t184, A20, H⟩ := H
 replace H : (if t184 = true then (impl_BeatenRopes.l0 k l0 (([] : List Int)) l0 (l0.length : Int) 0) else (some (([] : List Int), 1))) = some (r1, r2) := H
 have A2 := aS A20
 clear A20
 by_cases c3 : t184 = true
 ·
  subst c3
  have H1 : (impl_BeatenRopes.l0 k l0 (([] : List Int)) l0 (l0.length : Int) 0) = some (r1, r2) := by rw [if_pos rfl] at H; exact H
  clear H
  have H := H1
  clear H1
  obtain ⟨y185, hy185⟩ : ∃ y_ : List Int, y_ = (([] : List Int)) := ⟨_, rfl⟩
  replace H : (impl_BeatenRopes.l0 k l0 y185 l0 (l0.length : Int) 0) = some (r1, r2) := by first | (rw [hy185]; with_reducible exact H) | (have H2_ := (Option.bind_some _ _).symm.trans H; rw [hy185]; with_reducible exact H2_) | (have H2_ := (Option.bind_some _ _).symm.trans H; with_reducible exact H2_) | with_reducible exact H | (rw [hy185]; exact H) | exact H
  have Ny185 := aS hy185
  clear hy185
  have H' := aS H
  clear H
  go_enter Try.func35, Try.ntmps35
  go_wp2_with (first | ((with_reducible refine gate_callee (f := 80) rfl ?_); refine goesL_ (some 11) rfl rfl Try.func80 (by kernel_rfl) rfl #[.slice A0 l0.length c0] rfl sG ?_; (with_reducible refine (impl_ValidRopes.calls k _ _ l0 true _ ?side1 ?side2 A2.out).mono ?_); (case side1 => exact sC HR0.out); (case side2 => exact HC0.out); rintro e w4 ⟨rfl, hb⟩; refine ⟨_, rfl, ?_⟩; have n0_ := aS (below_step (sW HB.out) hb); clear HB; have HB := n0_; clear n0_; (try clear hb); (try clear hb2); (try clear hk); (try clear hi)) | ((with_reducible refine gate_dst (N := 13) rfl ?_); refine Kd.R_lit (Kd.int .i64) _ 2 ?hg (N := 13) ?hd (xs := ([] : List Int)) (inner := []) (ok := fun _ => True) (okp := fun _ => True) ?hr ?hp (fun _ hk => hk) trivial (Below.refl _ _) (Nat.le_refl _) (by simp) ?_; (case hd => rfl); (case hg => rfl); (case hr => first | (go_simp; done) | (go_simp; rfl)); (case hp => exact (Reps.none _ _)); intro v186 w5 ho6 hb hg_ hnew_; clear hg_ hnew_; (first | rw [← Ny185.out] at ho6 | (simp only [Int.reduceToNat] at ho6; rw [← Ny185.out] at ho6)); have n0_ := aS (Kd.R_lower ho6 (below_size (sW HB.out))); have n1_ := aS (below_step (sW HB.out) hb); clear HB; have HO187 := n0_; have HB := n1_; clear n0_ n1_; clear hb ho6))
  (try simp only [Act.put, List.setIfInBounds_toArray, List.set_cons_zero, List.set_cons_succ])
  go_loopg [4, 16] k (fun kq v4 v16 w' => ∃ (x4_1 : List Int) (x16_1 : Int), v16 = .int .i64 x16_1 ∧ Aside0 (impl_BeatenRopes.l0 kq l0 x4_1 l0 (l0.length : Int) x16_1 = some (r1, r2)) ∧ Aside0 (kq ≤ k) ∧ Aside0 (Kd.R (Kd.int .i64) 2 w' w.heap.size (fun _ => True) v4 x4_1) ∧ Aside0 (Below w.heap.size w w'))
  case atStart => exact ⟨(y185), (0), (by first | rfl | (simp; done) | (simp [*]; done) | (simp only [i64_w]; done) | (simp [i64_w]; done)), H', ⟨Nat.le_refl _⟩, ⟨by (with_reducible repeat (first | apply Kd.R_alloc | apply Kd.R_drewN | apply Kd.R_drew)); exact HO187.out⟩, ⟨by repeat (first | (with_reducible first | exact HB.out | apply below_alloc | apply pw_below_drewN | apply below_drew1) | exact HB.out)⟩⟩
  case round =>
   clear H'
   (try clear p2); (try clear c3)
   obtain ⟨x4_1, x16_1, rfl, HA, HK1, HO_4, HB⟩ := hrel
   cases gk with
   | zero => exact absurd HA.out (by simp [impl_BeatenRopes.l0])
   | succ k1 =>
    have H := HA.out
    clear HA
    simp only [impl_BeatenRopes.l0] at H
    by_cases c7 : x16_1 < (l0.length : Int)
    rotate_left
    ·
     rw [if_neg c7] at H
     have c7b0 : decide (x16_1 < (l0.length : Int)) = false := decide_eq_false c7
     clear c7
     simp only [Option.some.injEq, Prod.mk.injEq] at H
     obtain ⟨rfl, rfl⟩ := H
     go_wp2
     go_ret2
     exact ⟨_, by first | rfl | (simp [errW_none, errW_some, i64_w]; done) | (simp [errW_none, errW_some] <;> rfl) | (simp [*, errW_none, errW_some] <;> rfl), by (with_reducible repeat (first | apply Kd.R_alloc | apply Kd.R_drewN | apply Kd.R_drew)); exact HO_4.out, by repeat (first | (with_reducible first | exact HB.out | apply below_alloc | apply pw_below_drewN | apply below_drew1) | exact HB.out)⟩
    rw [if_pos c7] at H
    have c7b0 : decide (x16_1 < (l0.length : Int)) = true := decide_eq_true c7
    clear c7
    by_cases c8 : 0 ≤ x16_1
    rotate_left
    ·
     rw [if_neg c8] at H
     exact absurd H (by simp)
    rw [if_pos c8] at H
    have c8b0 : decide (0 ≤ x16_1) = true := decide_eq_true c8
    clear c8
    by_cases c9 : x16_1 < (l0.length : Int)
    rotate_left
    ·
     rw [if_neg c9] at H
     exact absurd H (by simp)
    rw [if_pos c9] at H
    have c9b0 : decide (x16_1 < (l0.length : Int)) = true := decide_eq_true c9
    clear c9
    have H' := aS H
    clear H
    have p188 : 0 ≤ (x16_1 : Int) := of_decide_eq_true (by first | (with_reducible assumption) | assumption)
    have q188 : x16_1 < (l0.length : Int) := of_decide_eq_true (by first | (with_reducible assumption) | assumption)
    obtain ⟨ad188, e188, hx188_0, hx188_1, hx188_2, hx188_3⟩ := at_T68 HR0.out x16_1 p188 q188
    cases e188
    replace hx188_0 := (HB.out.cell (World.block_lt_of_cell? w _ hx188_0)).trans hx188_0
    replace hx188_1 := (HB.out.cell (World.block_lt_of_cell? w _ hx188_1)).trans hx188_1
    replace hx188_2 := (HB.out.cell (World.block_lt_of_cell? w _ hx188_2)).trans hx188_2
    replace hx188_3 := (HB.out.cell (World.block_lt_of_cell? w _ hx188_3)).trans hx188_3
    replace p188 := eq_true p188
    replace q188 := eq_true q188
    go_wp2_with (first | ((with_reducible refine gate_dst (N := 6) rfl ?_); refine box_event ?hg (N := 6) ?hd (cs := #[.string (⟨#[]⟩ : ByteArray), .int .i64 0, .int .i64 0, .int .i64 0]) (t := 68) ?hr ?_; (case hd => rfl); (case hg => rfl); (case hr => first | (go_simp; done) | (go_simp; rfl)); intro gb189 hg w10 hbox hb; have n0_ := aS (Kd.R_below (sR HO_4.out) hb); have n1_ := aS (below_step (sW HB.out) hb); have n2_ := aS (hbox); have n3_ := aS ((by rw [hg]; exact (below_size (sW HB.out)) : w.heap.size ≤ gb189)); have n4_ := aS ((by rw [hg]; exact (below_size (sW HB.out)) : w.heap.size ≤ gb189)); clear HO_4 HB; have HO_4 := n0_; have HB := n1_; have BK189 := n2_; have GW189 := n3_; have GE189 := n4_; clear n0_ n1_ n2_ n3_ n4_; clear hb hbox hg; have hcz11_0 : w10.cell? ⟨gb189, 0, none⟩ = some (.string (⟨#[]⟩ : ByteArray)) := (blk_cell BK189.out 0).trans rfl; have hcz11_1 : w10.cell? ⟨gb189, 1, none⟩ = some (.int .i64 0) := (blk_cell BK189.out 1).trans rfl; have hcz11_2 : w10.cell? ⟨gb189, 2, none⟩ = some (.int .i64 0) := (blk_cell BK189.out 2).trans rfl; have hcz11_3 : w10.cell? ⟨gb189, 3, none⟩ = some (.int .i64 0) := (blk_cell BK189.out 3).trans rfl; have hfz11_0 := blk_frozen BK189.out 0; have hfz11_1 := blk_frozen BK189.out 1; have hfz11_2 := blk_frozen BK189.out 2; have hfz11_3 := blk_frozen BK189.out 3))
    go_loopg [4, 23] k1 (fun kq v4 v23 w' => ∃ (x4_2 : List Int) (x23_2 : Int), v23 = .int .i64 x23_2 ∧ Aside0 (impl_BeatenRopes.l1 kq l0 x4_2 x16_1 l0 (l0.length : Int) x16_1 l0 (l0.length : Int) x23_2 ((rd_T68 l0 x16_1).f0) ((rd_T68 l0 x16_1).f1) ((rd_T68 l0 x16_1).f2) ((rd_T68 l0 x16_1).f3) = some (r1, r2)) ∧ Aside0 (kq ≤ k1) ∧ Aside0 (Kd.R (Kd.int .i64) 2 w' w.heap.size (fun _ => True) v4 x4_2) ∧ Aside0 (w'.heap[gb189]? = some (.cells #[.string ((rd_T68 l0 x16_1).f0), .int .i64 ((rd_T68 l0 x16_1).f1), .int .i64 ((rd_T68 l0 x16_1).f2), .int .i64 ((rd_T68 l0 x16_1).f3)] 68 (0, 0))) ∧ Aside0 (Below w.heap.size w w'))
    case atStart => exact ⟨(x4_1), (0), (by first | rfl | (simp; done) | (simp [*]; done) | (simp only [i64_w]; done) | (simp [i64_w]; done)), H', ⟨Nat.le_refl _⟩, ⟨by (with_reducible repeat (first | apply Kd.R_alloc | apply Kd.R_drewN | apply Kd.R_drew)); exact Kd.R_mono (Kd.R_far (p := ⟨gb189, 3, none⟩) (Kd.R_far (p := ⟨gb189, 2, none⟩) (Kd.R_far (p := ⟨gb189, 1, none⟩) (Kd.R_far (p := ⟨gb189, 0, none⟩) (Kd.R_types HO_4.out BK189.out (by decide)) (fun _ hk => hk.2) (.string ((rd_T68 l0 x16_1).f0))) (fun _ hk => hk.2) (.int .i64 ((rd_T68 l0 x16_1).f1))) (fun _ hk => hk.2) (.int .i64 ((rd_T68 l0 x16_1).f2))) (fun _ hk => hk.2) (.int .i64 ((rd_T68 l0 x16_1).f3))) (fun _ hk => trivial)⟩, ⟨by (with_reducible repeat (first | refine blk_drewN ?_ _ | refine blk_drew ?_ | refine blk_alloc ?_ _)); refine blk_put (cs := #[.string ((rd_T68 l0 x16_1).f0), .int .i64 ((rd_T68 l0 x16_1).f1), .int .i64 ((rd_T68 l0 x16_1).f2), .int .i64 0]) ?_ 3 _ rfl; (with_reducible repeat (first | refine blk_drewN ?_ _ | refine blk_drew ?_ | refine blk_alloc ?_ _)); refine blk_put (cs := #[.string ((rd_T68 l0 x16_1).f0), .int .i64 ((rd_T68 l0 x16_1).f1), .int .i64 0, .int .i64 0]) ?_ 2 _ rfl; (with_reducible repeat (first | refine blk_drewN ?_ _ | refine blk_drew ?_ | refine blk_alloc ?_ _)); refine blk_put (cs := #[.string ((rd_T68 l0 x16_1).f0), .int .i64 0, .int .i64 0, .int .i64 0]) ?_ 1 _ rfl; (with_reducible repeat (first | refine blk_drewN ?_ _ | refine blk_drew ?_ | refine blk_alloc ?_ _)); refine blk_put (cs := #[.string (⟨#[]⟩ : ByteArray), .int .i64 0, .int .i64 0, .int .i64 0]) ?_ 0 _ rfl; (with_reducible repeat (first | refine blk_drewN ?_ _ | refine blk_drew ?_ | refine blk_alloc ?_ _)); exact BK189.out⟩, ⟨by repeat (first | (with_reducible first | exact HB.out | apply below_alloc | apply pw_below_drewN | apply below_drew1 | refine below_set ?_ GE189.out) | exact HB.out)⟩⟩
    case round =>
     clear H'
     (try clear p1); (try clear q1); (try clear hx1); (try clear p2); (try clear c3); (try clear c7); (try clear c7b0); (try clear c8); (try clear c8b0); (try clear c9); (try clear c9b0); (try clear hcz11_0); (try clear hcz11_1); (try clear hcz11_2); (try clear hcz11_3); (try clear hfz11_0); (try clear hfz11_1); (try clear hfz11_2); (try clear hfz11_3); (try clear hx188_0); (try clear hx188_1); (try clear hx188_2); (try clear hx188_3); (try clear p188); (try clear p2); (try clear q188)
     obtain ⟨x4_2, x23_2, rfl, HA, HK2, HO_4, BK189, HB⟩ := hrel
     cases gk with
     | zero => exact absurd HA.out (by simp [impl_BeatenRopes.l1])
     | succ k2 =>
      have H := HA.out
      clear HA
      simp only [impl_BeatenRopes.l1] at H
      by_cases c12 : x23_2 < (l0.length : Int)
      rotate_left
      ·
       rw [if_neg c12] at H
       have c12b0 : decide (x23_2 < (l0.length : Int)) = false := decide_eq_false c12
       clear c12
       have H' := aS H
       clear H
       go_wp2
       go_roundg k2
       case measure => have := HK1.out; have := HK2.out; omega
       case rel => exact ⟨(x4_2), (wrap64 (x16_1 + 1)), (by first | rfl | (simp; done) | (simp [*]; done) | (simp only [i64_w]; done) | (simp [i64_w]; done)), H', ⟨by have := HK1.out; have := HK2.out; omega⟩, ⟨by (with_reducible repeat (first | apply Kd.R_alloc | apply Kd.R_drewN | apply Kd.R_drew)); exact HO_4.out⟩, ⟨by repeat (first | (with_reducible first | exact HB.out | apply below_alloc | apply pw_below_drewN | apply below_drew1 | refine below_set ?_ GE189.out) | exact HB.out)⟩⟩
      rw [if_pos c12] at H
      have c12b0 : decide (x23_2 < (l0.length : Int)) = true := decide_eq_true c12
      clear c12
      by_cases c13 : 0 ≤ x23_2
      rotate_left
      ·
       rw [if_neg c13] at H
       exact absurd H (by simp)
      rw [if_pos c13] at H
      have c13b0 : decide (0 ≤ x23_2) = true := decide_eq_true c13
      clear c13
      by_cases c14 : x23_2 < (l0.length : Int)
      rotate_left
      ·
       rw [if_neg c14] at H
       exact absurd H (by simp)
      rw [if_pos c14] at H
      have c14b0 : decide (x23_2 < (l0.length : Int)) = true := decide_eq_true c14
      clear c14
      by_cases c15 : ((rd_T68 l0 x23_2).f2) = ((rd_T68 l0 x16_1).f2)
      rotate_left
      ·
       rw [if_neg c15] at H
       have c15b0 : (((rd_T68 l0 x23_2).f2) == ((rd_T68 l0 x16_1).f2)) = false := beq_eq_false_iff_ne.mpr c15
       have c15b1 : (((rd_T68 l0 x23_2).f2) != ((rd_T68 l0 x16_1).f2)) = true := bne_iff_ne.mpr c15
       by_cases c64 : ((rd_T68 l0 x23_2).f2) ≥ ((rd_T68 l0 x16_1).f2)
       rotate_left
       ·
        rw [if_neg c64] at H
        have c64b0 : decide (((rd_T68 l0 x16_1).f2) ≤ ((rd_T68 l0 x23_2).f2)) = false := decide_eq_false c64
        clear c64
        have H' := aS H
        clear H
        have p190 : 0 ≤ (x23_2 : Int) := of_decide_eq_true (by first | (with_reducible assumption) | assumption)
        have q190 : x23_2 < (l0.length : Int) := of_decide_eq_true (by first | (with_reducible assumption) | assumption)
        obtain ⟨ad190, e190, hx190_0, hx190_1, hx190_2, hx190_3⟩ := at_T68 HR0.out x23_2 p190 q190
        obtain rfl : ad188 = ad190 := (by injection e190)
        replace hx190_0 := (HB.out.cell (World.block_lt_of_cell? w _ hx190_0)).trans hx190_0
        replace hx190_1 := (HB.out.cell (World.block_lt_of_cell? w _ hx190_1)).trans hx190_1
        replace hx190_2 := (HB.out.cell (World.block_lt_of_cell? w _ hx190_2)).trans hx190_2
        replace hx190_3 := (HB.out.cell (World.block_lt_of_cell? w _ hx190_3)).trans hx190_3
        replace p190 := eq_true p190
        replace q190 := eq_true q190
        go_wp2_with (first | ((with_reducible refine gate_dst (N := 8) rfl ?_); refine box_event ?hg (N := 8) ?hd (cs := #[.string (⟨#[]⟩ : ByteArray), .int .i64 0, .int .i64 0, .int .i64 0]) (t := 68) ?hr ?_; (case hd => rfl); (case hg => rfl); (case hr => first | (go_simp; done) | (go_simp; rfl)); intro gb191 hg w81 hbox hb; have n0_ := aS (Kd.R_below (sR HO_4.out) hb); have n1_ := aS (blk_below (g := gb189) (o := .cells #[.string ((rd_T68 l0 x16_1).f0), .int .i64 ((rd_T68 l0 x16_1).f1), .int .i64 ((rd_T68 l0 x16_1).f2), .int .i64 ((rd_T68 l0 x16_1).f3)] 68 (0, 0)) (sB BK189.out) hb); have n2_ := aS (below_step (sW HB.out) hb); have n3_ := aS (hbox); have n4_ := aS ((by rw [hg]; exact (below_size (sW HB.out)) : w.heap.size ≤ gb191)); have n5_ := aS ((by rw [hg]; exact (below_size (sW HB.out)) : w.heap.size ≤ gb191)); have n6_ := aS ((by rw [hg]; exact Nat.ne_of_lt (blk_lt (g := gb189) (o := .cells #[.string ((rd_T68 l0 x16_1).f0), .int .i64 ((rd_T68 l0 x16_1).f1), .int .i64 ((rd_T68 l0 x16_1).f2), .int .i64 ((rd_T68 l0 x16_1).f3)] 68 (0, 0)) (sB BK189.out)) : gb189 ≠ gb191)); have n7_ := aS ((by rw [hg]; exact Nat.ne_of_gt (blk_lt (g := gb189) (o := .cells #[.string ((rd_T68 l0 x16_1).f0), .int .i64 ((rd_T68 l0 x16_1).f1), .int .i64 ((rd_T68 l0 x16_1).f2), .int .i64 ((rd_T68 l0 x16_1).f3)] 68 (0, 0)) (sB BK189.out)) : gb191 ≠ gb189)); clear HO_4 BK189 HB; have HO_4 := n0_; have BK189 := n1_; have HB := n2_; have BK191 := n3_; have GW191 := n4_; have GE191 := n5_; have NB189_191 := n6_; have NB191_189 := n7_; clear n0_ n1_ n2_ n3_ n4_ n5_ n6_ n7_; clear hb hbox hg; have hnb82 := NB191_189.out; have hnc82 := NB189_191.out; have hcz83_0 : w81.cell? ⟨gb191, 0, none⟩ = some (.string (⟨#[]⟩ : ByteArray)) := (blk_cell BK191.out 0).trans rfl; have hcz83_1 : w81.cell? ⟨gb191, 1, none⟩ = some (.int .i64 0) := (blk_cell BK191.out 1).trans rfl; have hcz83_2 : w81.cell? ⟨gb191, 2, none⟩ = some (.int .i64 0) := (blk_cell BK191.out 2).trans rfl; have hcz83_3 : w81.cell? ⟨gb191, 3, none⟩ = some (.int .i64 0) := (blk_cell BK191.out 3).trans rfl; have hfz83_0 := blk_frozen BK191.out 0; have hfz83_1 := blk_frozen BK191.out 1; have hfz83_2 := blk_frozen BK191.out 2; have hfz83_3 := blk_frozen BK191.out 3; have hcz84_0 : w81.cell? ⟨gb189, 0, none⟩ = some (.string ((rd_T68 l0 x16_1).f0)) := (blk_cell BK189.out 0).trans rfl; have hcz84_1 : w81.cell? ⟨gb189, 1, none⟩ = some (.int .i64 ((rd_T68 l0 x16_1).f1)) := (blk_cell BK189.out 1).trans rfl; have hcz84_2 : w81.cell? ⟨gb189, 2, none⟩ = some (.int .i64 ((rd_T68 l0 x16_1).f2)) := (blk_cell BK189.out 2).trans rfl; have hcz84_3 : w81.cell? ⟨gb189, 3, none⟩ = some (.int .i64 ((rd_T68 l0 x16_1).f3)) := (blk_cell BK189.out 3).trans rfl; have hfz84_0 := blk_frozen BK189.out 0; have hfz84_1 := blk_frozen BK189.out 1; have hfz84_2 := blk_frozen BK189.out 2; have hfz84_3 := blk_frozen BK189.out 3))
        go_roundg k2
        case measure => have := HK1.out; have := HK2.out; omega
        case rel => exact ⟨(x4_2), (wrap64 (x23_2 + 1)), (by first | rfl | (simp; done) | (simp [*]; done) | (simp only [i64_w]; done) | (simp [i64_w]; done)), H', ⟨by have := HK1.out; have := HK2.out; omega⟩, ⟨by (with_reducible repeat (first | apply Kd.R_alloc | apply Kd.R_drewN | apply Kd.R_drew)); exact Kd.R_mono (Kd.R_far (p := ⟨gb191, 3, none⟩) (Kd.R_far (p := ⟨gb191, 2, none⟩) (Kd.R_far (p := ⟨gb191, 1, none⟩) (Kd.R_far (p := ⟨gb191, 0, none⟩) (Kd.R_types HO_4.out BK191.out (by decide)) (fun _ hk => hk.2) (.string ((rd_T68 l0 x23_2).f0))) (fun _ hk => hk.2) (.int .i64 ((rd_T68 l0 x23_2).f1))) (fun _ hk => hk.2) (.int .i64 ((rd_T68 l0 x23_2).f2))) (fun _ hk => hk.2) (.int .i64 ((rd_T68 l0 x23_2).f3))) (fun _ hk => trivial)⟩, ⟨by (with_reducible repeat (first | refine blk_drewN ?_ _ | refine blk_drew ?_ | refine blk_alloc ?_ _)); refine blk_far ?_ NB189_191.out _; (with_reducible repeat (first | refine blk_drewN ?_ _ | refine blk_drew ?_ | refine blk_alloc ?_ _)); refine blk_far ?_ NB189_191.out _; (with_reducible repeat (first | refine blk_drewN ?_ _ | refine blk_drew ?_ | refine blk_alloc ?_ _)); refine blk_far ?_ NB189_191.out _; (with_reducible repeat (first | refine blk_drewN ?_ _ | refine blk_drew ?_ | refine blk_alloc ?_ _)); refine blk_far ?_ NB189_191.out _; (with_reducible repeat (first | refine blk_drewN ?_ _ | refine blk_drew ?_ | refine blk_alloc ?_ _)); exact BK189.out⟩, ⟨by repeat (first | (with_reducible first | exact HB.out | apply below_alloc | apply pw_below_drewN | apply below_drew1 | refine below_set ?_ GE189.out | refine below_set ?_ GE191.out) | exact HB.out)⟩⟩
       rw [if_pos c64] at H
       have c64b0 : decide (((rd_T68 l0 x16_1).f2) ≤ ((rd_T68 l0 x23_2).f2)) = true := decide_eq_true c64
       clear c64
       by_cases c65 : ((rd_T68 l0 x23_2).f3) ≤ ((rd_T68 l0 x16_1).f3)
       rotate_left
       ·
        rw [if_neg c65] at H
        have c65b0 : decide (((rd_T68 l0 x23_2).f3) ≤ ((rd_T68 l0 x16_1).f3)) = false := decide_eq_false c65
        clear c65
        have H' := aS H
        clear H
        have p190 : 0 ≤ (x23_2 : Int) := of_decide_eq_true (by first | (with_reducible assumption) | assumption)
        have q190 : x23_2 < (l0.length : Int) := of_decide_eq_true (by first | (with_reducible assumption) | assumption)
        obtain ⟨ad190, e190, hx190_0, hx190_1, hx190_2, hx190_3⟩ := at_T68 HR0.out x23_2 p190 q190
        obtain rfl : ad188 = ad190 := (by injection e190)
        replace hx190_0 := (HB.out.cell (World.block_lt_of_cell? w _ hx190_0)).trans hx190_0
        replace hx190_1 := (HB.out.cell (World.block_lt_of_cell? w _ hx190_1)).trans hx190_1
        replace hx190_2 := (HB.out.cell (World.block_lt_of_cell? w _ hx190_2)).trans hx190_2
        replace hx190_3 := (HB.out.cell (World.block_lt_of_cell? w _ hx190_3)).trans hx190_3
        replace p190 := eq_true p190
        replace q190 := eq_true q190
        go_wp2_with (first | ((with_reducible refine gate_dst (N := 8) rfl ?_); refine box_event ?hg (N := 8) ?hd (cs := #[.string (⟨#[]⟩ : ByteArray), .int .i64 0, .int .i64 0, .int .i64 0]) (t := 68) ?hr ?_; (case hd => rfl); (case hg => rfl); (case hr => first | (go_simp; done) | (go_simp; rfl)); intro gb191 hg w77 hbox hb; have n0_ := aS (Kd.R_below (sR HO_4.out) hb); have n1_ := aS (blk_below (g := gb189) (o := .cells #[.string ((rd_T68 l0 x16_1).f0), .int .i64 ((rd_T68 l0 x16_1).f1), .int .i64 ((rd_T68 l0 x16_1).f2), .int .i64 ((rd_T68 l0 x16_1).f3)] 68 (0, 0)) (sB BK189.out) hb); have n2_ := aS (below_step (sW HB.out) hb); have n3_ := aS (hbox); have n4_ := aS ((by rw [hg]; exact (below_size (sW HB.out)) : w.heap.size ≤ gb191)); have n5_ := aS ((by rw [hg]; exact (below_size (sW HB.out)) : w.heap.size ≤ gb191)); have n6_ := aS ((by rw [hg]; exact Nat.ne_of_lt (blk_lt (g := gb189) (o := .cells #[.string ((rd_T68 l0 x16_1).f0), .int .i64 ((rd_T68 l0 x16_1).f1), .int .i64 ((rd_T68 l0 x16_1).f2), .int .i64 ((rd_T68 l0 x16_1).f3)] 68 (0, 0)) (sB BK189.out)) : gb189 ≠ gb191)); have n7_ := aS ((by rw [hg]; exact Nat.ne_of_gt (blk_lt (g := gb189) (o := .cells #[.string ((rd_T68 l0 x16_1).f0), .int .i64 ((rd_T68 l0 x16_1).f1), .int .i64 ((rd_T68 l0 x16_1).f2), .int .i64 ((rd_T68 l0 x16_1).f3)] 68 (0, 0)) (sB BK189.out)) : gb191 ≠ gb189)); clear HO_4 BK189 HB; have HO_4 := n0_; have BK189 := n1_; have HB := n2_; have BK191 := n3_; have GW191 := n4_; have GE191 := n5_; have NB189_191 := n6_; have NB191_189 := n7_; clear n0_ n1_ n2_ n3_ n4_ n5_ n6_ n7_; clear hb hbox hg; have hnb78 := NB191_189.out; have hnc78 := NB189_191.out; have hcz79_0 : w77.cell? ⟨gb191, 0, none⟩ = some (.string (⟨#[]⟩ : ByteArray)) := (blk_cell BK191.out 0).trans rfl; have hcz79_1 : w77.cell? ⟨gb191, 1, none⟩ = some (.int .i64 0) := (blk_cell BK191.out 1).trans rfl; have hcz79_2 : w77.cell? ⟨gb191, 2, none⟩ = some (.int .i64 0) := (blk_cell BK191.out 2).trans rfl; have hcz79_3 : w77.cell? ⟨gb191, 3, none⟩ = some (.int .i64 0) := (blk_cell BK191.out 3).trans rfl; have hfz79_0 := blk_frozen BK191.out 0; have hfz79_1 := blk_frozen BK191.out 1; have hfz79_2 := blk_frozen BK191.out 2; have hfz79_3 := blk_frozen BK191.out 3; have hcz80_0 : w77.cell? ⟨gb189, 0, none⟩ = some (.string ((rd_T68 l0 x16_1).f0)) := (blk_cell BK189.out 0).trans rfl; have hcz80_1 : w77.cell? ⟨gb189, 1, none⟩ = some (.int .i64 ((rd_T68 l0 x16_1).f1)) := (blk_cell BK189.out 1).trans rfl; have hcz80_2 : w77.cell? ⟨gb189, 2, none⟩ = some (.int .i64 ((rd_T68 l0 x16_1).f2)) := (blk_cell BK189.out 2).trans rfl; have hcz80_3 : w77.cell? ⟨gb189, 3, none⟩ = some (.int .i64 ((rd_T68 l0 x16_1).f3)) := (blk_cell BK189.out 3).trans rfl; have hfz80_0 := blk_frozen BK189.out 0; have hfz80_1 := blk_frozen BK189.out 1; have hfz80_2 := blk_frozen BK189.out 2; have hfz80_3 := blk_frozen BK189.out 3))
        go_roundg k2
        case measure => have := HK1.out; have := HK2.out; omega
        case rel => exact ⟨(x4_2), (wrap64 (x23_2 + 1)), (by first | rfl | (simp; done) | (simp [*]; done) | (simp only [i64_w]; done) | (simp [i64_w]; done)), H', ⟨by have := HK1.out; have := HK2.out; omega⟩, ⟨by (with_reducible repeat (first | apply Kd.R_alloc | apply Kd.R_drewN | apply Kd.R_drew)); exact Kd.R_mono (Kd.R_far (p := ⟨gb191, 3, none⟩) (Kd.R_far (p := ⟨gb191, 2, none⟩) (Kd.R_far (p := ⟨gb191, 1, none⟩) (Kd.R_far (p := ⟨gb191, 0, none⟩) (Kd.R_types HO_4.out BK191.out (by decide)) (fun _ hk => hk.2) (.string ((rd_T68 l0 x23_2).f0))) (fun _ hk => hk.2) (.int .i64 ((rd_T68 l0 x23_2).f1))) (fun _ hk => hk.2) (.int .i64 ((rd_T68 l0 x23_2).f2))) (fun _ hk => hk.2) (.int .i64 ((rd_T68 l0 x23_2).f3))) (fun _ hk => trivial)⟩, ⟨by (with_reducible repeat (first | refine blk_drewN ?_ _ | refine blk_drew ?_ | refine blk_alloc ?_ _)); refine blk_far ?_ NB189_191.out _; (with_reducible repeat (first | refine blk_drewN ?_ _ | refine blk_drew ?_ | refine blk_alloc ?_ _)); refine blk_far ?_ NB189_191.out _; (with_reducible repeat (first | refine blk_drewN ?_ _ | refine blk_drew ?_ | refine blk_alloc ?_ _)); refine blk_far ?_ NB189_191.out _; (with_reducible repeat (first | refine blk_drewN ?_ _ | refine blk_drew ?_ | refine blk_alloc ?_ _)); refine blk_far ?_ NB189_191.out _; (with_reducible repeat (first | refine blk_drewN ?_ _ | refine blk_drew ?_ | refine blk_alloc ?_ _)); exact BK189.out⟩, ⟨by repeat (first | (with_reducible first | exact HB.out | apply below_alloc | apply pw_below_drewN | apply below_drew1 | refine below_set ?_ GE189.out | refine below_set ?_ GE191.out) | exact HB.out)⟩⟩
       rw [if_pos c65] at H
       have c65b0 : decide (((rd_T68 l0 x23_2).f3) ≤ ((rd_T68 l0 x16_1).f3)) = true := decide_eq_true c65
       clear c65
       by_cases c66 : ((rd_T68 l0 x23_2).f1) ≤ ((rd_T68 l0 x16_1).f1)
       rotate_left
       ·
        rw [if_neg c66] at H
        have c66b0 : decide (((rd_T68 l0 x23_2).f1) ≤ ((rd_T68 l0 x16_1).f1)) = false := decide_eq_false c66
        clear c66
        have H' := aS H
        clear H
        have p190 : 0 ≤ (x23_2 : Int) := of_decide_eq_true (by first | (with_reducible assumption) | assumption)
        have q190 : x23_2 < (l0.length : Int) := of_decide_eq_true (by first | (with_reducible assumption) | assumption)
        obtain ⟨ad190, e190, hx190_0, hx190_1, hx190_2, hx190_3⟩ := at_T68 HR0.out x23_2 p190 q190
        obtain rfl : ad188 = ad190 := (by injection e190)
        replace hx190_0 := (HB.out.cell (World.block_lt_of_cell? w _ hx190_0)).trans hx190_0
        replace hx190_1 := (HB.out.cell (World.block_lt_of_cell? w _ hx190_1)).trans hx190_1
        replace hx190_2 := (HB.out.cell (World.block_lt_of_cell? w _ hx190_2)).trans hx190_2
        replace hx190_3 := (HB.out.cell (World.block_lt_of_cell? w _ hx190_3)).trans hx190_3
        replace p190 := eq_true p190
        replace q190 := eq_true q190
        go_wp2_with (first | ((with_reducible refine gate_dst (N := 8) rfl ?_); refine box_event ?hg (N := 8) ?hd (cs := #[.string (⟨#[]⟩ : ByteArray), .int .i64 0, .int .i64 0, .int .i64 0]) (t := 68) ?hr ?_; (case hd => rfl); (case hg => rfl); (case hr => first | (go_simp; done) | (go_simp; rfl)); intro gb191 hg w73 hbox hb; have n0_ := aS (Kd.R_below (sR HO_4.out) hb); have n1_ := aS (blk_below (g := gb189) (o := .cells #[.string ((rd_T68 l0 x16_1).f0), .int .i64 ((rd_T68 l0 x16_1).f1), .int .i64 ((rd_T68 l0 x16_1).f2), .int .i64 ((rd_T68 l0 x16_1).f3)] 68 (0, 0)) (sB BK189.out) hb); have n2_ := aS (below_step (sW HB.out) hb); have n3_ := aS (hbox); have n4_ := aS ((by rw [hg]; exact (below_size (sW HB.out)) : w.heap.size ≤ gb191)); have n5_ := aS ((by rw [hg]; exact (below_size (sW HB.out)) : w.heap.size ≤ gb191)); have n6_ := aS ((by rw [hg]; exact Nat.ne_of_lt (blk_lt (g := gb189) (o := .cells #[.string ((rd_T68 l0 x16_1).f0), .int .i64 ((rd_T68 l0 x16_1).f1), .int .i64 ((rd_T68 l0 x16_1).f2), .int .i64 ((rd_T68 l0 x16_1).f3)] 68 (0, 0)) (sB BK189.out)) : gb189 ≠ gb191)); have n7_ := aS ((by rw [hg]; exact Nat.ne_of_gt (blk_lt (g := gb189) (o := .cells #[.string ((rd_T68 l0 x16_1).f0), .int .i64 ((rd_T68 l0 x16_1).f1), .int .i64 ((rd_T68 l0 x16_1).f2), .int .i64 ((rd_T68 l0 x16_1).f3)] 68 (0, 0)) (sB BK189.out)) : gb191 ≠ gb189)); clear HO_4 BK189 HB; have HO_4 := n0_; have BK189 := n1_; have HB := n2_; have BK191 := n3_; have GW191 := n4_; have GE191 := n5_; have NB189_191 := n6_; have NB191_189 := n7_; clear n0_ n1_ n2_ n3_ n4_ n5_ n6_ n7_; clear hb hbox hg; have hnb74 := NB191_189.out; have hnc74 := NB189_191.out; have hcz75_0 : w73.cell? ⟨gb191, 0, none⟩ = some (.string (⟨#[]⟩ : ByteArray)) := (blk_cell BK191.out 0).trans rfl; have hcz75_1 : w73.cell? ⟨gb191, 1, none⟩ = some (.int .i64 0) := (blk_cell BK191.out 1).trans rfl; have hcz75_2 : w73.cell? ⟨gb191, 2, none⟩ = some (.int .i64 0) := (blk_cell BK191.out 2).trans rfl; have hcz75_3 : w73.cell? ⟨gb191, 3, none⟩ = some (.int .i64 0) := (blk_cell BK191.out 3).trans rfl; have hfz75_0 := blk_frozen BK191.out 0; have hfz75_1 := blk_frozen BK191.out 1; have hfz75_2 := blk_frozen BK191.out 2; have hfz75_3 := blk_frozen BK191.out 3; have hcz76_0 : w73.cell? ⟨gb189, 0, none⟩ = some (.string ((rd_T68 l0 x16_1).f0)) := (blk_cell BK189.out 0).trans rfl; have hcz76_1 : w73.cell? ⟨gb189, 1, none⟩ = some (.int .i64 ((rd_T68 l0 x16_1).f1)) := (blk_cell BK189.out 1).trans rfl; have hcz76_2 : w73.cell? ⟨gb189, 2, none⟩ = some (.int .i64 ((rd_T68 l0 x16_1).f2)) := (blk_cell BK189.out 2).trans rfl; have hcz76_3 : w73.cell? ⟨gb189, 3, none⟩ = some (.int .i64 ((rd_T68 l0 x16_1).f3)) := (blk_cell BK189.out 3).trans rfl; have hfz76_0 := blk_frozen BK189.out 0; have hfz76_1 := blk_frozen BK189.out 1; have hfz76_2 := blk_frozen BK189.out 2; have hfz76_3 := blk_frozen BK189.out 3))
        go_roundg k2
        case measure => have := HK1.out; have := HK2.out; omega
        case rel => exact ⟨(x4_2), (wrap64 (x23_2 + 1)), (by first | rfl | (simp; done) | (simp [*]; done) | (simp only [i64_w]; done) | (simp [i64_w]; done)), H', ⟨by have := HK1.out; have := HK2.out; omega⟩, ⟨by (with_reducible repeat (first | apply Kd.R_alloc | apply Kd.R_drewN | apply Kd.R_drew)); exact Kd.R_mono (Kd.R_far (p := ⟨gb191, 3, none⟩) (Kd.R_far (p := ⟨gb191, 2, none⟩) (Kd.R_far (p := ⟨gb191, 1, none⟩) (Kd.R_far (p := ⟨gb191, 0, none⟩) (Kd.R_types HO_4.out BK191.out (by decide)) (fun _ hk => hk.2) (.string ((rd_T68 l0 x23_2).f0))) (fun _ hk => hk.2) (.int .i64 ((rd_T68 l0 x23_2).f1))) (fun _ hk => hk.2) (.int .i64 ((rd_T68 l0 x23_2).f2))) (fun _ hk => hk.2) (.int .i64 ((rd_T68 l0 x23_2).f3))) (fun _ hk => trivial)⟩, ⟨by (with_reducible repeat (first | refine blk_drewN ?_ _ | refine blk_drew ?_ | refine blk_alloc ?_ _)); refine blk_far ?_ NB189_191.out _; (with_reducible repeat (first | refine blk_drewN ?_ _ | refine blk_drew ?_ | refine blk_alloc ?_ _)); refine blk_far ?_ NB189_191.out _; (with_reducible repeat (first | refine blk_drewN ?_ _ | refine blk_drew ?_ | refine blk_alloc ?_ _)); refine blk_far ?_ NB189_191.out _; (with_reducible repeat (first | refine blk_drewN ?_ _ | refine blk_drew ?_ | refine blk_alloc ?_ _)); refine blk_far ?_ NB189_191.out _; (with_reducible repeat (first | refine blk_drewN ?_ _ | refine blk_drew ?_ | refine blk_alloc ?_ _)); exact BK189.out⟩, ⟨by repeat (first | (with_reducible first | exact HB.out | apply below_alloc | apply pw_below_drewN | apply below_drew1 | refine below_set ?_ GE189.out | refine below_set ?_ GE191.out) | exact HB.out)⟩⟩
       rw [if_pos c66] at H
       have c66b0 : decide (((rd_T68 l0 x23_2).f1) ≤ ((rd_T68 l0 x16_1).f1)) = true := decide_eq_true c66
       clear c66
       by_cases c67 : x4_2.length < 17592186044416
       rotate_left
       ·
        rw [if_neg c67] at H
        exact absurd H (by simp)
       rw [if_pos c67] at H
       have LMc67 := aS c67
       clear c67
       obtain ⟨y198, hy198⟩ : ∃ y_ : List Int, y_ = (x4_2 ++ [x16_1]) := ⟨_, rfl⟩
       replace H : (impl_BeatenRopes.l0 k2 l0 y198 l0 (l0.length : Int) (wrap64 (x16_1 + 1))) = some (r1, r2) := by first | (rw [hy198]; with_reducible exact H) | (have H2_ := (Option.bind_some _ _).symm.trans H; rw [hy198]; with_reducible exact H2_) | (have H2_ := (Option.bind_some _ _).symm.trans H; with_reducible exact H2_) | with_reducible exact H | (rw [hy198]; exact H) | exact H
       have Ny198 := aS hy198
       clear hy198
       have H' := aS H
       clear H
       have p190 : 0 ≤ (x23_2 : Int) := of_decide_eq_true (by first | (with_reducible assumption) | assumption)
       have q190 : x23_2 < (l0.length : Int) := of_decide_eq_true (by first | (with_reducible assumption) | assumption)
       obtain ⟨ad190, e190, hx190_0, hx190_1, hx190_2, hx190_3⟩ := at_T68 HR0.out x23_2 p190 q190
       obtain rfl : ad188 = ad190 := (by injection e190)
       replace hx190_0 := (HB.out.cell (World.block_lt_of_cell? w _ hx190_0)).trans hx190_0
       replace hx190_1 := (HB.out.cell (World.block_lt_of_cell? w _ hx190_1)).trans hx190_1
       replace hx190_2 := (HB.out.cell (World.block_lt_of_cell? w _ hx190_2)).trans hx190_2
       replace hx190_3 := (HB.out.cell (World.block_lt_of_cell? w _ hx190_3)).trans hx190_3
       replace p190 := eq_true p190
       replace q190 := eq_true q190
       go_wp2_with (first | ((with_reducible refine gate_dst (N := 8) rfl ?_); refine box_event ?hg (N := 8) ?hd (cs := #[.string (⟨#[]⟩ : ByteArray), .int .i64 0, .int .i64 0, .int .i64 0]) (t := 68) ?hr ?_; (case hd => rfl); (case hg => rfl); (case hr => first | (go_simp; done) | (go_simp; rfl)); intro gb191 hg w68 hbox hb; have n0_ := aS (Kd.R_below (sR HO_4.out) hb); have n1_ := aS (blk_below (g := gb189) (o := .cells #[.string ((rd_T68 l0 x16_1).f0), .int .i64 ((rd_T68 l0 x16_1).f1), .int .i64 ((rd_T68 l0 x16_1).f2), .int .i64 ((rd_T68 l0 x16_1).f3)] 68 (0, 0)) (sB BK189.out) hb); have n2_ := aS (below_step (sW HB.out) hb); have n3_ := aS (hbox); have n4_ := aS ((by rw [hg]; exact (below_size (sW HB.out)) : w.heap.size ≤ gb191)); have n5_ := aS ((by rw [hg]; exact (below_size (sW HB.out)) : w.heap.size ≤ gb191)); have n6_ := aS ((by rw [hg]; exact Nat.ne_of_lt (blk_lt (g := gb189) (o := .cells #[.string ((rd_T68 l0 x16_1).f0), .int .i64 ((rd_T68 l0 x16_1).f1), .int .i64 ((rd_T68 l0 x16_1).f2), .int .i64 ((rd_T68 l0 x16_1).f3)] 68 (0, 0)) (sB BK189.out)) : gb189 ≠ gb191)); have n7_ := aS ((by rw [hg]; exact Nat.ne_of_gt (blk_lt (g := gb189) (o := .cells #[.string ((rd_T68 l0 x16_1).f0), .int .i64 ((rd_T68 l0 x16_1).f1), .int .i64 ((rd_T68 l0 x16_1).f2), .int .i64 ((rd_T68 l0 x16_1).f3)] 68 (0, 0)) (sB BK189.out)) : gb191 ≠ gb189)); clear HO_4 BK189 HB; have HO_4 := n0_; have BK189 := n1_; have HB := n2_; have BK191 := n3_; have GW191 := n4_; have GE191 := n5_; have NB189_191 := n6_; have NB191_189 := n7_; clear n0_ n1_ n2_ n3_ n4_ n5_ n6_ n7_; clear hb hbox hg; have hnb69 := NB191_189.out; have hnc69 := NB189_191.out; have hcz70_0 : w68.cell? ⟨gb191, 0, none⟩ = some (.string (⟨#[]⟩ : ByteArray)) := (blk_cell BK191.out 0).trans rfl; have hcz70_1 : w68.cell? ⟨gb191, 1, none⟩ = some (.int .i64 0) := (blk_cell BK191.out 1).trans rfl; have hcz70_2 : w68.cell? ⟨gb191, 2, none⟩ = some (.int .i64 0) := (blk_cell BK191.out 2).trans rfl; have hcz70_3 : w68.cell? ⟨gb191, 3, none⟩ = some (.int .i64 0) := (blk_cell BK191.out 3).trans rfl; have hfz70_0 := blk_frozen BK191.out 0; have hfz70_1 := blk_frozen BK191.out 1; have hfz70_2 := blk_frozen BK191.out 2; have hfz70_3 := blk_frozen BK191.out 3; have hcz71_0 : w68.cell? ⟨gb189, 0, none⟩ = some (.string ((rd_T68 l0 x16_1).f0)) := (blk_cell BK189.out 0).trans rfl; have hcz71_1 : w68.cell? ⟨gb189, 1, none⟩ = some (.int .i64 ((rd_T68 l0 x16_1).f1)) := (blk_cell BK189.out 1).trans rfl; have hcz71_2 : w68.cell? ⟨gb189, 2, none⟩ = some (.int .i64 ((rd_T68 l0 x16_1).f2)) := (blk_cell BK189.out 2).trans rfl; have hcz71_3 : w68.cell? ⟨gb189, 3, none⟩ = some (.int .i64 ((rd_T68 l0 x16_1).f3)) := (blk_cell BK189.out 3).trans rfl; have hfz71_0 := blk_frozen BK189.out 0; have hfz71_1 := blk_frozen BK189.out 1; have hfz71_2 := blk_frozen BK189.out 2; have hfz71_3 := blk_frozen BK189.out 3) | ((with_reducible refine gate_builtin (b := .append) (xs := #[.tmp 69, .tmp 71]) rfl ?_); at_builtin; refine Kd.R_append (Kd.int .i64) (w0 := w) w.heap.size rfl (.tmp 69) (.tmp 71) 27 2 (.int .i64 0) 8 rfl Try.underlying27 info2 rfl (by decide) (by omega) u4 x4_2 x16_1 [.int .i64 x16_1] (fun _ => True) (fun _ => False) rfl (by first | (go_simp; done) | (go_simp; rfl)) ?aP (fun _ hk => hk.elim) ?aF ?aO ?aB ?aS ?aL ?_; (case aP => exact rfl); (case aB => exact (sW HB.out)); (case aF => exact (fun _ _ => trivial)); (case aO => exact (sR (Kd.R_mono (Kd.R_far (p := ⟨gb191, 3, none⟩) (Kd.R_far (p := ⟨gb191, 2, none⟩) (Kd.R_far (p := ⟨gb191, 1, none⟩) (Kd.R_far (p := ⟨gb191, 0, none⟩) (Kd.R_types HO_4.out BK191.out (by decide)) (fun _ hk => hk.2) (.string ((rd_T68 l0 x23_2).f0))) (fun _ hk => hk.2) (.int .i64 ((rd_T68 l0 x23_2).f1))) (fun _ hk => hk.2) (.int .i64 ((rd_T68 l0 x23_2).f2))) (fun _ hk => hk.2) (.int .i64 ((rd_T68 l0 x23_2).f3))) (fun _ hk => trivial)))); (case aS => exact (below_size (sW HB.out))); (case aL => have := LMc67.out; omega); intro v199 w72 ho hb hg hat; rw [← Ny198.out] at ho; have n0_ := aS (blk_grown (g := gb189) (o := .cells #[.string ((rd_T68 l0 x16_1).f0), .int .i64 ((rd_T68 l0 x16_1).f1), .int .i64 ((rd_T68 l0 x16_1).f2), .int .i64 ((rd_T68 l0 x16_1).f3)] 68 (0, 0)) (by (with_reducible repeat (first | refine blk_drewN ?_ _ | refine blk_drew ?_ | refine blk_alloc ?_ _)); refine blk_far ?_ NB189_191.out _; (with_reducible repeat (first | refine blk_drewN ?_ _ | refine blk_drew ?_ | refine blk_alloc ?_ _)); refine blk_far ?_ NB189_191.out _; (with_reducible repeat (first | refine blk_drewN ?_ _ | refine blk_drew ?_ | refine blk_alloc ?_ _)); refine blk_far ?_ NB189_191.out _; (with_reducible repeat (first | refine blk_drewN ?_ _ | refine blk_drew ?_ | refine blk_alloc ?_ _)); refine blk_far ?_ NB189_191.out _; (with_reducible repeat (first | refine blk_drewN ?_ _ | refine blk_drew ?_ | refine blk_alloc ?_ _)); exact BK189.out) hg (Kd.R_ne HO_4.out BK189.out (by decide))); have n1_ := aS (blk_grown (g := gb191) (o := .cells #[.string ((rd_T68 l0 x23_2).f0), .int .i64 ((rd_T68 l0 x23_2).f1), .int .i64 ((rd_T68 l0 x23_2).f2), .int .i64 ((rd_T68 l0 x23_2).f3)] 68 (0, 0)) (by (with_reducible repeat (first | refine blk_drewN ?_ _ | refine blk_drew ?_ | refine blk_alloc ?_ _)); refine blk_put (cs := #[.string ((rd_T68 l0 x23_2).f0), .int .i64 ((rd_T68 l0 x23_2).f1), .int .i64 ((rd_T68 l0 x23_2).f2), .int .i64 0]) ?_ 3 _ rfl; (with_reducible repeat (first | refine blk_drewN ?_ _ | refine blk_drew ?_ | refine blk_alloc ?_ _)); refine blk_put (cs := #[.string ((rd_T68 l0 x23_2).f0), .int .i64 ((rd_T68 l0 x23_2).f1), .int .i64 0, .int .i64 0]) ?_ 2 _ rfl; (with_reducible repeat (first | refine blk_drewN ?_ _ | refine blk_drew ?_ | refine blk_alloc ?_ _)); refine blk_put (cs := #[.string ((rd_T68 l0 x23_2).f0), .int .i64 0, .int .i64 0, .int .i64 0]) ?_ 1 _ rfl; (with_reducible repeat (first | refine blk_drewN ?_ _ | refine blk_drew ?_ | refine blk_alloc ?_ _)); refine blk_put (cs := #[.string (⟨#[]⟩ : ByteArray), .int .i64 0, .int .i64 0, .int .i64 0]) ?_ 0 _ rfl; (with_reducible repeat (first | refine blk_drewN ?_ _ | refine blk_drew ?_ | refine blk_alloc ?_ _)); exact BK191.out) hg (Kd.R_ne HO_4.out BK191.out (by decide))); have n2_ := aS (hb); have n3_ := aS (ho); clear BK189 BK191 HB HO_4; have BK189 := n0_; have BK191 := n1_; have HB := n2_; have HO200 := n3_; clear n0_ n1_ n2_ n3_; clear ho hb hg hat))
       go_roundg k2
       case measure => have := HK1.out; have := HK2.out; omega
       case rel => exact ⟨(y198), (wrap64 (x16_1 + 1)), (by first | rfl | (simp; done) | (simp [*]; done) | (simp only [i64_w]; done) | (simp [i64_w]; done)), H', ⟨by have := HK1.out; have := HK2.out; omega⟩, ⟨by (with_reducible repeat (first | apply Kd.R_alloc | apply Kd.R_drewN | apply Kd.R_drew)); exact HO200.out⟩, ⟨by repeat (first | (with_reducible first | exact HB.out | apply below_alloc | apply pw_below_drewN | apply below_drew1 | refine below_set ?_ GE189.out | refine below_set ?_ GE191.out) | exact HB.out)⟩⟩
      rw [if_pos c15] at H
      have c15b0 : (((rd_T68 l0 x23_2).f2) == ((rd_T68 l0 x16_1).f2)) = true := beq_iff_eq.mpr c15
      have c15b1 : (((rd_T68 l0 x23_2).f2) != ((rd_T68 l0 x16_1).f2)) = false := bne_eq_false_iff_eq.mpr c15
      clear c15
      by_cases c16 : ((rd_T68 l0 x23_2).f3) = ((rd_T68 l0 x16_1).f3)
      rotate_left
      ·
       rw [if_neg c16] at H
       have c16b0 : (((rd_T68 l0 x23_2).f3) == ((rd_T68 l0 x16_1).f3)) = false := beq_eq_false_iff_ne.mpr c16
       have c16b1 : (((rd_T68 l0 x23_2).f3) != ((rd_T68 l0 x16_1).f3)) = true := bne_iff_ne.mpr c16
       by_cases c43 : ((rd_T68 l0 x23_2).f2) ≥ ((rd_T68 l0 x16_1).f2)
       rotate_left
       ·
        rw [if_neg c43] at H
        have c43b0 : decide (((rd_T68 l0 x16_1).f2) ≤ ((rd_T68 l0 x23_2).f2)) = false := decide_eq_false c43
        clear c43
        have H' := aS H
        clear H
        have p190 : 0 ≤ (x23_2 : Int) := of_decide_eq_true (by first | (with_reducible assumption) | assumption)
        have q190 : x23_2 < (l0.length : Int) := of_decide_eq_true (by first | (with_reducible assumption) | assumption)
        obtain ⟨ad190, e190, hx190_0, hx190_1, hx190_2, hx190_3⟩ := at_T68 HR0.out x23_2 p190 q190
        obtain rfl : ad188 = ad190 := (by injection e190)
        replace hx190_0 := (HB.out.cell (World.block_lt_of_cell? w _ hx190_0)).trans hx190_0
        replace hx190_1 := (HB.out.cell (World.block_lt_of_cell? w _ hx190_1)).trans hx190_1
        replace hx190_2 := (HB.out.cell (World.block_lt_of_cell? w _ hx190_2)).trans hx190_2
        replace hx190_3 := (HB.out.cell (World.block_lt_of_cell? w _ hx190_3)).trans hx190_3
        replace p190 := eq_true p190
        replace q190 := eq_true q190
        go_wp2_with (first | ((with_reducible refine gate_dst (N := 8) rfl ?_); refine box_event ?hg (N := 8) ?hd (cs := #[.string (⟨#[]⟩ : ByteArray), .int .i64 0, .int .i64 0, .int .i64 0]) (t := 68) ?hr ?_; (case hd => rfl); (case hg => rfl); (case hr => first | (go_simp; done) | (go_simp; rfl)); intro gb191 hg w60 hbox hb; have n0_ := aS (Kd.R_below (sR HO_4.out) hb); have n1_ := aS (blk_below (g := gb189) (o := .cells #[.string ((rd_T68 l0 x16_1).f0), .int .i64 ((rd_T68 l0 x16_1).f1), .int .i64 ((rd_T68 l0 x16_1).f2), .int .i64 ((rd_T68 l0 x16_1).f3)] 68 (0, 0)) (sB BK189.out) hb); have n2_ := aS (below_step (sW HB.out) hb); have n3_ := aS (hbox); have n4_ := aS ((by rw [hg]; exact (below_size (sW HB.out)) : w.heap.size ≤ gb191)); have n5_ := aS ((by rw [hg]; exact (below_size (sW HB.out)) : w.heap.size ≤ gb191)); have n6_ := aS ((by rw [hg]; exact Nat.ne_of_lt (blk_lt (g := gb189) (o := .cells #[.string ((rd_T68 l0 x16_1).f0), .int .i64 ((rd_T68 l0 x16_1).f1), .int .i64 ((rd_T68 l0 x16_1).f2), .int .i64 ((rd_T68 l0 x16_1).f3)] 68 (0, 0)) (sB BK189.out)) : gb189 ≠ gb191)); have n7_ := aS ((by rw [hg]; exact Nat.ne_of_gt (blk_lt (g := gb189) (o := .cells #[.string ((rd_T68 l0 x16_1).f0), .int .i64 ((rd_T68 l0 x16_1).f1), .int .i64 ((rd_T68 l0 x16_1).f2), .int .i64 ((rd_T68 l0 x16_1).f3)] 68 (0, 0)) (sB BK189.out)) : gb191 ≠ gb189)); clear HO_4 BK189 HB; have HO_4 := n0_; have BK189 := n1_; have HB := n2_; have BK191 := n3_; have GW191 := n4_; have GE191 := n5_; have NB189_191 := n6_; have NB191_189 := n7_; clear n0_ n1_ n2_ n3_ n4_ n5_ n6_ n7_; clear hb hbox hg; have hnb61 := NB191_189.out; have hnc61 := NB189_191.out; have hcz62_0 : w60.cell? ⟨gb191, 0, none⟩ = some (.string (⟨#[]⟩ : ByteArray)) := (blk_cell BK191.out 0).trans rfl; have hcz62_1 : w60.cell? ⟨gb191, 1, none⟩ = some (.int .i64 0) := (blk_cell BK191.out 1).trans rfl; have hcz62_2 : w60.cell? ⟨gb191, 2, none⟩ = some (.int .i64 0) := (blk_cell BK191.out 2).trans rfl; have hcz62_3 : w60.cell? ⟨gb191, 3, none⟩ = some (.int .i64 0) := (blk_cell BK191.out 3).trans rfl; have hfz62_0 := blk_frozen BK191.out 0; have hfz62_1 := blk_frozen BK191.out 1; have hfz62_2 := blk_frozen BK191.out 2; have hfz62_3 := blk_frozen BK191.out 3; have hcz63_0 : w60.cell? ⟨gb189, 0, none⟩ = some (.string ((rd_T68 l0 x16_1).f0)) := (blk_cell BK189.out 0).trans rfl; have hcz63_1 : w60.cell? ⟨gb189, 1, none⟩ = some (.int .i64 ((rd_T68 l0 x16_1).f1)) := (blk_cell BK189.out 1).trans rfl; have hcz63_2 : w60.cell? ⟨gb189, 2, none⟩ = some (.int .i64 ((rd_T68 l0 x16_1).f2)) := (blk_cell BK189.out 2).trans rfl; have hcz63_3 : w60.cell? ⟨gb189, 3, none⟩ = some (.int .i64 ((rd_T68 l0 x16_1).f3)) := (blk_cell BK189.out 3).trans rfl; have hfz63_0 := blk_frozen BK189.out 0; have hfz63_1 := blk_frozen BK189.out 1; have hfz63_2 := blk_frozen BK189.out 2; have hfz63_3 := blk_frozen BK189.out 3))
        go_roundg k2
        case measure => have := HK1.out; have := HK2.out; omega
        case rel => exact ⟨(x4_2), (wrap64 (x23_2 + 1)), (by first | rfl | (simp; done) | (simp [*]; done) | (simp only [i64_w]; done) | (simp [i64_w]; done)), H', ⟨by have := HK1.out; have := HK2.out; omega⟩, ⟨by (with_reducible repeat (first | apply Kd.R_alloc | apply Kd.R_drewN | apply Kd.R_drew)); exact Kd.R_mono (Kd.R_far (p := ⟨gb191, 3, none⟩) (Kd.R_far (p := ⟨gb191, 2, none⟩) (Kd.R_far (p := ⟨gb191, 1, none⟩) (Kd.R_far (p := ⟨gb191, 0, none⟩) (Kd.R_types HO_4.out BK191.out (by decide)) (fun _ hk => hk.2) (.string ((rd_T68 l0 x23_2).f0))) (fun _ hk => hk.2) (.int .i64 ((rd_T68 l0 x23_2).f1))) (fun _ hk => hk.2) (.int .i64 ((rd_T68 l0 x23_2).f2))) (fun _ hk => hk.2) (.int .i64 ((rd_T68 l0 x23_2).f3))) (fun _ hk => trivial)⟩, ⟨by (with_reducible repeat (first | refine blk_drewN ?_ _ | refine blk_drew ?_ | refine blk_alloc ?_ _)); refine blk_far ?_ NB189_191.out _; (with_reducible repeat (first | refine blk_drewN ?_ _ | refine blk_drew ?_ | refine blk_alloc ?_ _)); refine blk_far ?_ NB189_191.out _; (with_reducible repeat (first | refine blk_drewN ?_ _ | refine blk_drew ?_ | refine blk_alloc ?_ _)); refine blk_far ?_ NB189_191.out _; (with_reducible repeat (first | refine blk_drewN ?_ _ | refine blk_drew ?_ | refine blk_alloc ?_ _)); refine blk_far ?_ NB189_191.out _; (with_reducible repeat (first | refine blk_drewN ?_ _ | refine blk_drew ?_ | refine blk_alloc ?_ _)); exact BK189.out⟩, ⟨by repeat (first | (with_reducible first | exact HB.out | apply below_alloc | apply pw_below_drewN | apply below_drew1 | refine below_set ?_ GE189.out | refine below_set ?_ GE191.out) | exact HB.out)⟩⟩
       rw [if_pos c43] at H
       have c43b0 : decide (((rd_T68 l0 x16_1).f2) ≤ ((rd_T68 l0 x23_2).f2)) = true := decide_eq_true c43
       clear c43
       by_cases c44 : ((rd_T68 l0 x23_2).f3) ≤ ((rd_T68 l0 x16_1).f3)
       rotate_left
       ·
        rw [if_neg c44] at H
        have c44b0 : decide (((rd_T68 l0 x23_2).f3) ≤ ((rd_T68 l0 x16_1).f3)) = false := decide_eq_false c44
        clear c44
        have H' := aS H
        clear H
        have p190 : 0 ≤ (x23_2 : Int) := of_decide_eq_true (by first | (with_reducible assumption) | assumption)
        have q190 : x23_2 < (l0.length : Int) := of_decide_eq_true (by first | (with_reducible assumption) | assumption)
        obtain ⟨ad190, e190, hx190_0, hx190_1, hx190_2, hx190_3⟩ := at_T68 HR0.out x23_2 p190 q190
        obtain rfl : ad188 = ad190 := (by injection e190)
        replace hx190_0 := (HB.out.cell (World.block_lt_of_cell? w _ hx190_0)).trans hx190_0
        replace hx190_1 := (HB.out.cell (World.block_lt_of_cell? w _ hx190_1)).trans hx190_1
        replace hx190_2 := (HB.out.cell (World.block_lt_of_cell? w _ hx190_2)).trans hx190_2
        replace hx190_3 := (HB.out.cell (World.block_lt_of_cell? w _ hx190_3)).trans hx190_3
        replace p190 := eq_true p190
        replace q190 := eq_true q190
        go_wp2_with (first | ((with_reducible refine gate_dst (N := 8) rfl ?_); refine box_event ?hg (N := 8) ?hd (cs := #[.string (⟨#[]⟩ : ByteArray), .int .i64 0, .int .i64 0, .int .i64 0]) (t := 68) ?hr ?_; (case hd => rfl); (case hg => rfl); (case hr => first | (go_simp; done) | (go_simp; rfl)); intro gb191 hg w56 hbox hb; have n0_ := aS (Kd.R_below (sR HO_4.out) hb); have n1_ := aS (blk_below (g := gb189) (o := .cells #[.string ((rd_T68 l0 x16_1).f0), .int .i64 ((rd_T68 l0 x16_1).f1), .int .i64 ((rd_T68 l0 x16_1).f2), .int .i64 ((rd_T68 l0 x16_1).f3)] 68 (0, 0)) (sB BK189.out) hb); have n2_ := aS (below_step (sW HB.out) hb); have n3_ := aS (hbox); have n4_ := aS ((by rw [hg]; exact (below_size (sW HB.out)) : w.heap.size ≤ gb191)); have n5_ := aS ((by rw [hg]; exact (below_size (sW HB.out)) : w.heap.size ≤ gb191)); have n6_ := aS ((by rw [hg]; exact Nat.ne_of_lt (blk_lt (g := gb189) (o := .cells #[.string ((rd_T68 l0 x16_1).f0), .int .i64 ((rd_T68 l0 x16_1).f1), .int .i64 ((rd_T68 l0 x16_1).f2), .int .i64 ((rd_T68 l0 x16_1).f3)] 68 (0, 0)) (sB BK189.out)) : gb189 ≠ gb191)); have n7_ := aS ((by rw [hg]; exact Nat.ne_of_gt (blk_lt (g := gb189) (o := .cells #[.string ((rd_T68 l0 x16_1).f0), .int .i64 ((rd_T68 l0 x16_1).f1), .int .i64 ((rd_T68 l0 x16_1).f2), .int .i64 ((rd_T68 l0 x16_1).f3)] 68 (0, 0)) (sB BK189.out)) : gb191 ≠ gb189)); clear HO_4 BK189 HB; have HO_4 := n0_; have BK189 := n1_; have HB := n2_; have BK191 := n3_; have GW191 := n4_; have GE191 := n5_; have NB189_191 := n6_; have NB191_189 := n7_; clear n0_ n1_ n2_ n3_ n4_ n5_ n6_ n7_; clear hb hbox hg; have hnb57 := NB191_189.out; have hnc57 := NB189_191.out; have hcz58_0 : w56.cell? ⟨gb191, 0, none⟩ = some (.string (⟨#[]⟩ : ByteArray)) := (blk_cell BK191.out 0).trans rfl; have hcz58_1 : w56.cell? ⟨gb191, 1, none⟩ = some (.int .i64 0) := (blk_cell BK191.out 1).trans rfl; have hcz58_2 : w56.cell? ⟨gb191, 2, none⟩ = some (.int .i64 0) := (blk_cell BK191.out 2).trans rfl; have hcz58_3 : w56.cell? ⟨gb191, 3, none⟩ = some (.int .i64 0) := (blk_cell BK191.out 3).trans rfl; have hfz58_0 := blk_frozen BK191.out 0; have hfz58_1 := blk_frozen BK191.out 1; have hfz58_2 := blk_frozen BK191.out 2; have hfz58_3 := blk_frozen BK191.out 3; have hcz59_0 : w56.cell? ⟨gb189, 0, none⟩ = some (.string ((rd_T68 l0 x16_1).f0)) := (blk_cell BK189.out 0).trans rfl; have hcz59_1 : w56.cell? ⟨gb189, 1, none⟩ = some (.int .i64 ((rd_T68 l0 x16_1).f1)) := (blk_cell BK189.out 1).trans rfl; have hcz59_2 : w56.cell? ⟨gb189, 2, none⟩ = some (.int .i64 ((rd_T68 l0 x16_1).f2)) := (blk_cell BK189.out 2).trans rfl; have hcz59_3 : w56.cell? ⟨gb189, 3, none⟩ = some (.int .i64 ((rd_T68 l0 x16_1).f3)) := (blk_cell BK189.out 3).trans rfl; have hfz59_0 := blk_frozen BK189.out 0; have hfz59_1 := blk_frozen BK189.out 1; have hfz59_2 := blk_frozen BK189.out 2; have hfz59_3 := blk_frozen BK189.out 3))
        go_roundg k2
        case measure => have := HK1.out; have := HK2.out; omega
        case rel => exact ⟨(x4_2), (wrap64 (x23_2 + 1)), (by first | rfl | (simp; done) | (simp [*]; done) | (simp only [i64_w]; done) | (simp [i64_w]; done)), H', ⟨by have := HK1.out; have := HK2.out; omega⟩, ⟨by (with_reducible repeat (first | apply Kd.R_alloc | apply Kd.R_drewN | apply Kd.R_drew)); exact Kd.R_mono (Kd.R_far (p := ⟨gb191, 3, none⟩) (Kd.R_far (p := ⟨gb191, 2, none⟩) (Kd.R_far (p := ⟨gb191, 1, none⟩) (Kd.R_far (p := ⟨gb191, 0, none⟩) (Kd.R_types HO_4.out BK191.out (by decide)) (fun _ hk => hk.2) (.string ((rd_T68 l0 x23_2).f0))) (fun _ hk => hk.2) (.int .i64 ((rd_T68 l0 x23_2).f1))) (fun _ hk => hk.2) (.int .i64 ((rd_T68 l0 x23_2).f2))) (fun _ hk => hk.2) (.int .i64 ((rd_T68 l0 x23_2).f3))) (fun _ hk => trivial)⟩, ⟨by (with_reducible repeat (first | refine blk_drewN ?_ _ | refine blk_drew ?_ | refine blk_alloc ?_ _)); refine blk_far ?_ NB189_191.out _; (with_reducible repeat (first | refine blk_drewN ?_ _ | refine blk_drew ?_ | refine blk_alloc ?_ _)); refine blk_far ?_ NB189_191.out _; (with_reducible repeat (first | refine blk_drewN ?_ _ | refine blk_drew ?_ | refine blk_alloc ?_ _)); refine blk_far ?_ NB189_191.out _; (with_reducible repeat (first | refine blk_drewN ?_ _ | refine blk_drew ?_ | refine blk_alloc ?_ _)); refine blk_far ?_ NB189_191.out _; (with_reducible repeat (first | refine blk_drewN ?_ _ | refine blk_drew ?_ | refine blk_alloc ?_ _)); exact BK189.out⟩, ⟨by repeat (first | (with_reducible first | exact HB.out | apply below_alloc | apply pw_below_drewN | apply below_drew1 | refine below_set ?_ GE189.out | refine below_set ?_ GE191.out) | exact HB.out)⟩⟩
       rw [if_pos c44] at H
       have c44b0 : decide (((rd_T68 l0 x23_2).f3) ≤ ((rd_T68 l0 x16_1).f3)) = true := decide_eq_true c44
       clear c44
       by_cases c45 : ((rd_T68 l0 x23_2).f1) ≤ ((rd_T68 l0 x16_1).f1)
       rotate_left
       ·
        rw [if_neg c45] at H
        have c45b0 : decide (((rd_T68 l0 x23_2).f1) ≤ ((rd_T68 l0 x16_1).f1)) = false := decide_eq_false c45
        clear c45
        have H' := aS H
        clear H
        have p190 : 0 ≤ (x23_2 : Int) := of_decide_eq_true (by first | (with_reducible assumption) | assumption)
        have q190 : x23_2 < (l0.length : Int) := of_decide_eq_true (by first | (with_reducible assumption) | assumption)
        obtain ⟨ad190, e190, hx190_0, hx190_1, hx190_2, hx190_3⟩ := at_T68 HR0.out x23_2 p190 q190
        obtain rfl : ad188 = ad190 := (by injection e190)
        replace hx190_0 := (HB.out.cell (World.block_lt_of_cell? w _ hx190_0)).trans hx190_0
        replace hx190_1 := (HB.out.cell (World.block_lt_of_cell? w _ hx190_1)).trans hx190_1
        replace hx190_2 := (HB.out.cell (World.block_lt_of_cell? w _ hx190_2)).trans hx190_2
        replace hx190_3 := (HB.out.cell (World.block_lt_of_cell? w _ hx190_3)).trans hx190_3
        replace p190 := eq_true p190
        replace q190 := eq_true q190
        go_wp2_with (first | ((with_reducible refine gate_dst (N := 8) rfl ?_); refine box_event ?hg (N := 8) ?hd (cs := #[.string (⟨#[]⟩ : ByteArray), .int .i64 0, .int .i64 0, .int .i64 0]) (t := 68) ?hr ?_; (case hd => rfl); (case hg => rfl); (case hr => first | (go_simp; done) | (go_simp; rfl)); intro gb191 hg w52 hbox hb; have n0_ := aS (Kd.R_below (sR HO_4.out) hb); have n1_ := aS (blk_below (g := gb189) (o := .cells #[.string ((rd_T68 l0 x16_1).f0), .int .i64 ((rd_T68 l0 x16_1).f1), .int .i64 ((rd_T68 l0 x16_1).f2), .int .i64 ((rd_T68 l0 x16_1).f3)] 68 (0, 0)) (sB BK189.out) hb); have n2_ := aS (below_step (sW HB.out) hb); have n3_ := aS (hbox); have n4_ := aS ((by rw [hg]; exact (below_size (sW HB.out)) : w.heap.size ≤ gb191)); have n5_ := aS ((by rw [hg]; exact (below_size (sW HB.out)) : w.heap.size ≤ gb191)); have n6_ := aS ((by rw [hg]; exact Nat.ne_of_lt (blk_lt (g := gb189) (o := .cells #[.string ((rd_T68 l0 x16_1).f0), .int .i64 ((rd_T68 l0 x16_1).f1), .int .i64 ((rd_T68 l0 x16_1).f2), .int .i64 ((rd_T68 l0 x16_1).f3)] 68 (0, 0)) (sB BK189.out)) : gb189 ≠ gb191)); have n7_ := aS ((by rw [hg]; exact Nat.ne_of_gt (blk_lt (g := gb189) (o := .cells #[.string ((rd_T68 l0 x16_1).f0), .int .i64 ((rd_T68 l0 x16_1).f1), .int .i64 ((rd_T68 l0 x16_1).f2), .int .i64 ((rd_T68 l0 x16_1).f3)] 68 (0, 0)) (sB BK189.out)) : gb191 ≠ gb189)); clear HO_4 BK189 HB; have HO_4 := n0_; have BK189 := n1_; have HB := n2_; have BK191 := n3_; have GW191 := n4_; have GE191 := n5_; have NB189_191 := n6_; have NB191_189 := n7_; clear n0_ n1_ n2_ n3_ n4_ n5_ n6_ n7_; clear hb hbox hg; have hnb53 := NB191_189.out; have hnc53 := NB189_191.out; have hcz54_0 : w52.cell? ⟨gb191, 0, none⟩ = some (.string (⟨#[]⟩ : ByteArray)) := (blk_cell BK191.out 0).trans rfl; have hcz54_1 : w52.cell? ⟨gb191, 1, none⟩ = some (.int .i64 0) := (blk_cell BK191.out 1).trans rfl; have hcz54_2 : w52.cell? ⟨gb191, 2, none⟩ = some (.int .i64 0) := (blk_cell BK191.out 2).trans rfl; have hcz54_3 : w52.cell? ⟨gb191, 3, none⟩ = some (.int .i64 0) := (blk_cell BK191.out 3).trans rfl; have hfz54_0 := blk_frozen BK191.out 0; have hfz54_1 := blk_frozen BK191.out 1; have hfz54_2 := blk_frozen BK191.out 2; have hfz54_3 := blk_frozen BK191.out 3; have hcz55_0 : w52.cell? ⟨gb189, 0, none⟩ = some (.string ((rd_T68 l0 x16_1).f0)) := (blk_cell BK189.out 0).trans rfl; have hcz55_1 : w52.cell? ⟨gb189, 1, none⟩ = some (.int .i64 ((rd_T68 l0 x16_1).f1)) := (blk_cell BK189.out 1).trans rfl; have hcz55_2 : w52.cell? ⟨gb189, 2, none⟩ = some (.int .i64 ((rd_T68 l0 x16_1).f2)) := (blk_cell BK189.out 2).trans rfl; have hcz55_3 : w52.cell? ⟨gb189, 3, none⟩ = some (.int .i64 ((rd_T68 l0 x16_1).f3)) := (blk_cell BK189.out 3).trans rfl; have hfz55_0 := blk_frozen BK189.out 0; have hfz55_1 := blk_frozen BK189.out 1; have hfz55_2 := blk_frozen BK189.out 2; have hfz55_3 := blk_frozen BK189.out 3))
        go_roundg k2
        case measure => have := HK1.out; have := HK2.out; omega
        case rel => exact ⟨(x4_2), (wrap64 (x23_2 + 1)), (by first | rfl | (simp; done) | (simp [*]; done) | (simp only [i64_w]; done) | (simp [i64_w]; done)), H', ⟨by have := HK1.out; have := HK2.out; omega⟩, ⟨by (with_reducible repeat (first | apply Kd.R_alloc | apply Kd.R_drewN | apply Kd.R_drew)); exact Kd.R_mono (Kd.R_far (p := ⟨gb191, 3, none⟩) (Kd.R_far (p := ⟨gb191, 2, none⟩) (Kd.R_far (p := ⟨gb191, 1, none⟩) (Kd.R_far (p := ⟨gb191, 0, none⟩) (Kd.R_types HO_4.out BK191.out (by decide)) (fun _ hk => hk.2) (.string ((rd_T68 l0 x23_2).f0))) (fun _ hk => hk.2) (.int .i64 ((rd_T68 l0 x23_2).f1))) (fun _ hk => hk.2) (.int .i64 ((rd_T68 l0 x23_2).f2))) (fun _ hk => hk.2) (.int .i64 ((rd_T68 l0 x23_2).f3))) (fun _ hk => trivial)⟩, ⟨by (with_reducible repeat (first | refine blk_drewN ?_ _ | refine blk_drew ?_ | refine blk_alloc ?_ _)); refine blk_far ?_ NB189_191.out _; (with_reducible repeat (first | refine blk_drewN ?_ _ | refine blk_drew ?_ | refine blk_alloc ?_ _)); refine blk_far ?_ NB189_191.out _; (with_reducible repeat (first | refine blk_drewN ?_ _ | refine blk_drew ?_ | refine blk_alloc ?_ _)); refine blk_far ?_ NB189_191.out _; (with_reducible repeat (first | refine blk_drewN ?_ _ | refine blk_drew ?_ | refine blk_alloc ?_ _)); refine blk_far ?_ NB189_191.out _; (with_reducible repeat (first | refine blk_drewN ?_ _ | refine blk_drew ?_ | refine blk_alloc ?_ _)); exact BK189.out⟩, ⟨by repeat (first | (with_reducible first | exact HB.out | apply below_alloc | apply pw_below_drewN | apply below_drew1 | refine below_set ?_ GE189.out | refine below_set ?_ GE191.out) | exact HB.out)⟩⟩
       rw [if_pos c45] at H
       have c45b0 : decide (((rd_T68 l0 x23_2).f1) ≤ ((rd_T68 l0 x16_1).f1)) = true := decide_eq_true c45
       clear c45
       by_cases c46 : x4_2.length < 17592186044416
       rotate_left
       ·
        rw [if_neg c46] at H
        exact absurd H (by simp)
       rw [if_pos c46] at H
       have LMc46 := aS c46
       clear c46
       obtain ⟨y195, hy195⟩ : ∃ y_ : List Int, y_ = (x4_2 ++ [x16_1]) := ⟨_, rfl⟩
       replace H : (impl_BeatenRopes.l0 k2 l0 y195 l0 (l0.length : Int) (wrap64 (x16_1 + 1))) = some (r1, r2) := by first | (rw [hy195]; with_reducible exact H) | (have H2_ := (Option.bind_some _ _).symm.trans H; rw [hy195]; with_reducible exact H2_) | (have H2_ := (Option.bind_some _ _).symm.trans H; with_reducible exact H2_) | with_reducible exact H | (rw [hy195]; exact H) | exact H
       have Ny195 := aS hy195
       clear hy195
       have H' := aS H
       clear H
       have p190 : 0 ≤ (x23_2 : Int) := of_decide_eq_true (by first | (with_reducible assumption) | assumption)
       have q190 : x23_2 < (l0.length : Int) := of_decide_eq_true (by first | (with_reducible assumption) | assumption)
       obtain ⟨ad190, e190, hx190_0, hx190_1, hx190_2, hx190_3⟩ := at_T68 HR0.out x23_2 p190 q190
       obtain rfl : ad188 = ad190 := (by injection e190)
       replace hx190_0 := (HB.out.cell (World.block_lt_of_cell? w _ hx190_0)).trans hx190_0
       replace hx190_1 := (HB.out.cell (World.block_lt_of_cell? w _ hx190_1)).trans hx190_1
       replace hx190_2 := (HB.out.cell (World.block_lt_of_cell? w _ hx190_2)).trans hx190_2
       replace hx190_3 := (HB.out.cell (World.block_lt_of_cell? w _ hx190_3)).trans hx190_3
       replace p190 := eq_true p190
       replace q190 := eq_true q190
       go_wp2_with (first | ((with_reducible refine gate_dst (N := 8) rfl ?_); refine box_event ?hg (N := 8) ?hd (cs := #[.string (⟨#[]⟩ : ByteArray), .int .i64 0, .int .i64 0, .int .i64 0]) (t := 68) ?hr ?_; (case hd => rfl); (case hg => rfl); (case hr => first | (go_simp; done) | (go_simp; rfl)); intro gb191 hg w47 hbox hb; have n0_ := aS (Kd.R_below (sR HO_4.out) hb); have n1_ := aS (blk_below (g := gb189) (o := .cells #[.string ((rd_T68 l0 x16_1).f0), .int .i64 ((rd_T68 l0 x16_1).f1), .int .i64 ((rd_T68 l0 x16_1).f2), .int .i64 ((rd_T68 l0 x16_1).f3)] 68 (0, 0)) (sB BK189.out) hb); have n2_ := aS (below_step (sW HB.out) hb); have n3_ := aS (hbox); have n4_ := aS ((by rw [hg]; exact (below_size (sW HB.out)) : w.heap.size ≤ gb191)); have n5_ := aS ((by rw [hg]; exact (below_size (sW HB.out)) : w.heap.size ≤ gb191)); have n6_ := aS ((by rw [hg]; exact Nat.ne_of_lt (blk_lt (g := gb189) (o := .cells #[.string ((rd_T68 l0 x16_1).f0), .int .i64 ((rd_T68 l0 x16_1).f1), .int .i64 ((rd_T68 l0 x16_1).f2), .int .i64 ((rd_T68 l0 x16_1).f3)] 68 (0, 0)) (sB BK189.out)) : gb189 ≠ gb191)); have n7_ := aS ((by rw [hg]; exact Nat.ne_of_gt (blk_lt (g := gb189) (o := .cells #[.string ((rd_T68 l0 x16_1).f0), .int .i64 ((rd_T68 l0 x16_1).f1), .int .i64 ((rd_T68 l0 x16_1).f2), .int .i64 ((rd_T68 l0 x16_1).f3)] 68 (0, 0)) (sB BK189.out)) : gb191 ≠ gb189)); clear HO_4 BK189 HB; have HO_4 := n0_; have BK189 := n1_; have HB := n2_; have BK191 := n3_; have GW191 := n4_; have GE191 := n5_; have NB189_191 := n6_; have NB191_189 := n7_; clear n0_ n1_ n2_ n3_ n4_ n5_ n6_ n7_; clear hb hbox hg; have hnb48 := NB191_189.out; have hnc48 := NB189_191.out; have hcz49_0 : w47.cell? ⟨gb191, 0, none⟩ = some (.string (⟨#[]⟩ : ByteArray)) := (blk_cell BK191.out 0).trans rfl; have hcz49_1 : w47.cell? ⟨gb191, 1, none⟩ = some (.int .i64 0) := (blk_cell BK191.out 1).trans rfl; have hcz49_2 : w47.cell? ⟨gb191, 2, none⟩ = some (.int .i64 0) := (blk_cell BK191.out 2).trans rfl; have hcz49_3 : w47.cell? ⟨gb191, 3, none⟩ = some (.int .i64 0) := (blk_cell BK191.out 3).trans rfl; have hfz49_0 := blk_frozen BK191.out 0; have hfz49_1 := blk_frozen BK191.out 1; have hfz49_2 := blk_frozen BK191.out 2; have hfz49_3 := blk_frozen BK191.out 3; have hcz50_0 : w47.cell? ⟨gb189, 0, none⟩ = some (.string ((rd_T68 l0 x16_1).f0)) := (blk_cell BK189.out 0).trans rfl; have hcz50_1 : w47.cell? ⟨gb189, 1, none⟩ = some (.int .i64 ((rd_T68 l0 x16_1).f1)) := (blk_cell BK189.out 1).trans rfl; have hcz50_2 : w47.cell? ⟨gb189, 2, none⟩ = some (.int .i64 ((rd_T68 l0 x16_1).f2)) := (blk_cell BK189.out 2).trans rfl; have hcz50_3 : w47.cell? ⟨gb189, 3, none⟩ = some (.int .i64 ((rd_T68 l0 x16_1).f3)) := (blk_cell BK189.out 3).trans rfl; have hfz50_0 := blk_frozen BK189.out 0; have hfz50_1 := blk_frozen BK189.out 1; have hfz50_2 := blk_frozen BK189.out 2; have hfz50_3 := blk_frozen BK189.out 3) | ((with_reducible refine gate_builtin (b := .append) (xs := #[.tmp 69, .tmp 71]) rfl ?_); at_builtin; refine Kd.R_append (Kd.int .i64) (w0 := w) w.heap.size rfl (.tmp 69) (.tmp 71) 27 2 (.int .i64 0) 8 rfl Try.underlying27 info2 rfl (by decide) (by omega) u4 x4_2 x16_1 [.int .i64 x16_1] (fun _ => True) (fun _ => False) rfl (by first | (go_simp; done) | (go_simp; rfl)) ?aP (fun _ hk => hk.elim) ?aF ?aO ?aB ?aS ?aL ?_; (case aP => exact rfl); (case aB => exact (sW HB.out)); (case aF => exact (fun _ _ => trivial)); (case aO => exact (sR (Kd.R_mono (Kd.R_far (p := ⟨gb191, 3, none⟩) (Kd.R_far (p := ⟨gb191, 2, none⟩) (Kd.R_far (p := ⟨gb191, 1, none⟩) (Kd.R_far (p := ⟨gb191, 0, none⟩) (Kd.R_types HO_4.out BK191.out (by decide)) (fun _ hk => hk.2) (.string ((rd_T68 l0 x23_2).f0))) (fun _ hk => hk.2) (.int .i64 ((rd_T68 l0 x23_2).f1))) (fun _ hk => hk.2) (.int .i64 ((rd_T68 l0 x23_2).f2))) (fun _ hk => hk.2) (.int .i64 ((rd_T68 l0 x23_2).f3))) (fun _ hk => trivial)))); (case aS => exact (below_size (sW HB.out))); (case aL => have := LMc46.out; omega); intro v196 w51 ho hb hg hat; rw [← Ny195.out] at ho; have n0_ := aS (blk_grown (g := gb189) (o := .cells #[.string ((rd_T68 l0 x16_1).f0), .int .i64 ((rd_T68 l0 x16_1).f1), .int .i64 ((rd_T68 l0 x16_1).f2), .int .i64 ((rd_T68 l0 x16_1).f3)] 68 (0, 0)) (by (with_reducible repeat (first | refine blk_drewN ?_ _ | refine blk_drew ?_ | refine blk_alloc ?_ _)); refine blk_far ?_ NB189_191.out _; (with_reducible repeat (first | refine blk_drewN ?_ _ | refine blk_drew ?_ | refine blk_alloc ?_ _)); refine blk_far ?_ NB189_191.out _; (with_reducible repeat (first | refine blk_drewN ?_ _ | refine blk_drew ?_ | refine blk_alloc ?_ _)); refine blk_far ?_ NB189_191.out _; (with_reducible repeat (first | refine blk_drewN ?_ _ | refine blk_drew ?_ | refine blk_alloc ?_ _)); refine blk_far ?_ NB189_191.out _; (with_reducible repeat (first | refine blk_drewN ?_ _ | refine blk_drew ?_ | refine blk_alloc ?_ _)); exact BK189.out) hg (Kd.R_ne HO_4.out BK189.out (by decide))); have n1_ := aS (blk_grown (g := gb191) (o := .cells #[.string ((rd_T68 l0 x23_2).f0), .int .i64 ((rd_T68 l0 x23_2).f1), .int .i64 ((rd_T68 l0 x23_2).f2), .int .i64 ((rd_T68 l0 x23_2).f3)] 68 (0, 0)) (by (with_reducible repeat (first | refine blk_drewN ?_ _ | refine blk_drew ?_ | refine blk_alloc ?_ _)); refine blk_put (cs := #[.string ((rd_T68 l0 x23_2).f0), .int .i64 ((rd_T68 l0 x23_2).f1), .int .i64 ((rd_T68 l0 x23_2).f2), .int .i64 0]) ?_ 3 _ rfl; (with_reducible repeat (first | refine blk_drewN ?_ _ | refine blk_drew ?_ | refine blk_alloc ?_ _)); refine blk_put (cs := #[.string ((rd_T68 l0 x23_2).f0), .int .i64 ((rd_T68 l0 x23_2).f1), .int .i64 0, .int .i64 0]) ?_ 2 _ rfl; (with_reducible repeat (first | refine blk_drewN ?_ _ | refine blk_drew ?_ | refine blk_alloc ?_ _)); refine blk_put (cs := #[.string ((rd_T68 l0 x23_2).f0), .int .i64 0, .int .i64 0, .int .i64 0]) ?_ 1 _ rfl; (with_reducible repeat (first | refine blk_drewN ?_ _ | refine blk_drew ?_ | refine blk_alloc ?_ _)); refine blk_put (cs := #[.string (⟨#[]⟩ : ByteArray), .int .i64 0, .int .i64 0, .int .i64 0]) ?_ 0 _ rfl; (with_reducible repeat (first | refine blk_drewN ?_ _ | refine blk_drew ?_ | refine blk_alloc ?_ _)); exact BK191.out) hg (Kd.R_ne HO_4.out BK191.out (by decide))); have n2_ := aS (hb); have n3_ := aS (ho); clear BK189 BK191 HB HO_4; have BK189 := n0_; have BK191 := n1_; have HB := n2_; have HO197 := n3_; clear n0_ n1_ n2_ n3_; clear ho hb hg hat))
       go_roundg k2
       case measure => have := HK1.out; have := HK2.out; omega
       case rel => exact ⟨(y195), (wrap64 (x16_1 + 1)), (by first | rfl | (simp; done) | (simp [*]; done) | (simp only [i64_w]; done) | (simp [i64_w]; done)), H', ⟨by have := HK1.out; have := HK2.out; omega⟩, ⟨by (with_reducible repeat (first | apply Kd.R_alloc | apply Kd.R_drewN | apply Kd.R_drew)); exact HO197.out⟩, ⟨by repeat (first | (with_reducible first | exact HB.out | apply below_alloc | apply pw_below_drewN | apply below_drew1 | refine below_set ?_ GE189.out | refine below_set ?_ GE191.out) | exact HB.out)⟩⟩
      rw [if_pos c16] at H
      have c16b0 : (((rd_T68 l0 x23_2).f3) == ((rd_T68 l0 x16_1).f3)) = true := beq_iff_eq.mpr c16
      have c16b1 : (((rd_T68 l0 x23_2).f3) != ((rd_T68 l0 x16_1).f3)) = false := bne_eq_false_iff_eq.mpr c16
      clear c16
      by_cases c17 : ((rd_T68 l0 x23_2).f2) ≥ ((rd_T68 l0 x16_1).f2)
      rotate_left
      ·
       rw [if_neg c17] at H
       have c17b0 : decide (((rd_T68 l0 x16_1).f2) ≤ ((rd_T68 l0 x23_2).f2)) = false := decide_eq_false c17
       clear c17
       have H' := aS H
       clear H
       have p190 : 0 ≤ (x23_2 : Int) := of_decide_eq_true (by first | (with_reducible assumption) | assumption)
       have q190 : x23_2 < (l0.length : Int) := of_decide_eq_true (by first | (with_reducible assumption) | assumption)
       obtain ⟨ad190, e190, hx190_0, hx190_1, hx190_2, hx190_3⟩ := at_T68 HR0.out x23_2 p190 q190
       obtain rfl : ad188 = ad190 := (by injection e190)
       replace hx190_0 := (HB.out.cell (World.block_lt_of_cell? w _ hx190_0)).trans hx190_0
       replace hx190_1 := (HB.out.cell (World.block_lt_of_cell? w _ hx190_1)).trans hx190_1
       replace hx190_2 := (HB.out.cell (World.block_lt_of_cell? w _ hx190_2)).trans hx190_2
       replace hx190_3 := (HB.out.cell (World.block_lt_of_cell? w _ hx190_3)).trans hx190_3
       replace p190 := eq_true p190
       replace q190 := eq_true q190
       go_wp2_with (first | ((with_reducible refine gate_dst (N := 8) rfl ?_); refine box_event ?hg (N := 8) ?hd (cs := #[.string (⟨#[]⟩ : ByteArray), .int .i64 0, .int .i64 0, .int .i64 0]) (t := 68) ?hr ?_; (case hd => rfl); (case hg => rfl); (case hr => first | (go_simp; done) | (go_simp; rfl)); intro gb191 hg w39 hbox hb; have n0_ := aS (Kd.R_below (sR HO_4.out) hb); have n1_ := aS (blk_below (g := gb189) (o := .cells #[.string ((rd_T68 l0 x16_1).f0), .int .i64 ((rd_T68 l0 x16_1).f1), .int .i64 ((rd_T68 l0 x16_1).f2), .int .i64 ((rd_T68 l0 x16_1).f3)] 68 (0, 0)) (sB BK189.out) hb); have n2_ := aS (below_step (sW HB.out) hb); have n3_ := aS (hbox); have n4_ := aS ((by rw [hg]; exact (below_size (sW HB.out)) : w.heap.size ≤ gb191)); have n5_ := aS ((by rw [hg]; exact (below_size (sW HB.out)) : w.heap.size ≤ gb191)); have n6_ := aS ((by rw [hg]; exact Nat.ne_of_lt (blk_lt (g := gb189) (o := .cells #[.string ((rd_T68 l0 x16_1).f0), .int .i64 ((rd_T68 l0 x16_1).f1), .int .i64 ((rd_T68 l0 x16_1).f2), .int .i64 ((rd_T68 l0 x16_1).f3)] 68 (0, 0)) (sB BK189.out)) : gb189 ≠ gb191)); have n7_ := aS ((by rw [hg]; exact Nat.ne_of_gt (blk_lt (g := gb189) (o := .cells #[.string ((rd_T68 l0 x16_1).f0), .int .i64 ((rd_T68 l0 x16_1).f1), .int .i64 ((rd_T68 l0 x16_1).f2), .int .i64 ((rd_T68 l0 x16_1).f3)] 68 (0, 0)) (sB BK189.out)) : gb191 ≠ gb189)); clear HO_4 BK189 HB; have HO_4 := n0_; have BK189 := n1_; have HB := n2_; have BK191 := n3_; have GW191 := n4_; have GE191 := n5_; have NB189_191 := n6_; have NB191_189 := n7_; clear n0_ n1_ n2_ n3_ n4_ n5_ n6_ n7_; clear hb hbox hg; have hnb40 := NB191_189.out; have hnc40 := NB189_191.out; have hcz41_0 : w39.cell? ⟨gb191, 0, none⟩ = some (.string (⟨#[]⟩ : ByteArray)) := (blk_cell BK191.out 0).trans rfl; have hcz41_1 : w39.cell? ⟨gb191, 1, none⟩ = some (.int .i64 0) := (blk_cell BK191.out 1).trans rfl; have hcz41_2 : w39.cell? ⟨gb191, 2, none⟩ = some (.int .i64 0) := (blk_cell BK191.out 2).trans rfl; have hcz41_3 : w39.cell? ⟨gb191, 3, none⟩ = some (.int .i64 0) := (blk_cell BK191.out 3).trans rfl; have hfz41_0 := blk_frozen BK191.out 0; have hfz41_1 := blk_frozen BK191.out 1; have hfz41_2 := blk_frozen BK191.out 2; have hfz41_3 := blk_frozen BK191.out 3; have hcz42_0 : w39.cell? ⟨gb189, 0, none⟩ = some (.string ((rd_T68 l0 x16_1).f0)) := (blk_cell BK189.out 0).trans rfl; have hcz42_1 : w39.cell? ⟨gb189, 1, none⟩ = some (.int .i64 ((rd_T68 l0 x16_1).f1)) := (blk_cell BK189.out 1).trans rfl; have hcz42_2 : w39.cell? ⟨gb189, 2, none⟩ = some (.int .i64 ((rd_T68 l0 x16_1).f2)) := (blk_cell BK189.out 2).trans rfl; have hcz42_3 : w39.cell? ⟨gb189, 3, none⟩ = some (.int .i64 ((rd_T68 l0 x16_1).f3)) := (blk_cell BK189.out 3).trans rfl; have hfz42_0 := blk_frozen BK189.out 0; have hfz42_1 := blk_frozen BK189.out 1; have hfz42_2 := blk_frozen BK189.out 2; have hfz42_3 := blk_frozen BK189.out 3))
       go_roundg k2
       case measure => have := HK1.out; have := HK2.out; omega
       case rel => exact ⟨(x4_2), (wrap64 (x23_2 + 1)), (by first | rfl | (simp; done) | (simp [*]; done) | (simp only [i64_w]; done) | (simp [i64_w]; done)), H', ⟨by have := HK1.out; have := HK2.out; omega⟩, ⟨by (with_reducible repeat (first | apply Kd.R_alloc | apply Kd.R_drewN | apply Kd.R_drew)); exact Kd.R_mono (Kd.R_far (p := ⟨gb191, 3, none⟩) (Kd.R_far (p := ⟨gb191, 2, none⟩) (Kd.R_far (p := ⟨gb191, 1, none⟩) (Kd.R_far (p := ⟨gb191, 0, none⟩) (Kd.R_types HO_4.out BK191.out (by decide)) (fun _ hk => hk.2) (.string ((rd_T68 l0 x23_2).f0))) (fun _ hk => hk.2) (.int .i64 ((rd_T68 l0 x23_2).f1))) (fun _ hk => hk.2) (.int .i64 ((rd_T68 l0 x23_2).f2))) (fun _ hk => hk.2) (.int .i64 ((rd_T68 l0 x23_2).f3))) (fun _ hk => trivial)⟩, ⟨by (with_reducible repeat (first | refine blk_drewN ?_ _ | refine blk_drew ?_ | refine blk_alloc ?_ _)); refine blk_far ?_ NB189_191.out _; (with_reducible repeat (first | refine blk_drewN ?_ _ | refine blk_drew ?_ | refine blk_alloc ?_ _)); refine blk_far ?_ NB189_191.out _; (with_reducible repeat (first | refine blk_drewN ?_ _ | refine blk_drew ?_ | refine blk_alloc ?_ _)); refine blk_far ?_ NB189_191.out _; (with_reducible repeat (first | refine blk_drewN ?_ _ | refine blk_drew ?_ | refine blk_alloc ?_ _)); refine blk_far ?_ NB189_191.out _; (with_reducible repeat (first | refine blk_drewN ?_ _ | refine blk_drew ?_ | refine blk_alloc ?_ _)); exact BK189.out⟩, ⟨by repeat (first | (with_reducible first | exact HB.out | apply below_alloc | apply pw_below_drewN | apply below_drew1 | refine below_set ?_ GE189.out | refine below_set ?_ GE191.out) | exact HB.out)⟩⟩
      rw [if_pos c17] at H
      have c17b0 : decide (((rd_T68 l0 x16_1).f2) ≤ ((rd_T68 l0 x23_2).f2)) = true := decide_eq_true c17
      clear c17
      by_cases c18 : ((rd_T68 l0 x23_2).f3) ≤ ((rd_T68 l0 x16_1).f3)
      rotate_left
      ·
       rw [if_neg c18] at H
       have c18b0 : decide (((rd_T68 l0 x23_2).f3) ≤ ((rd_T68 l0 x16_1).f3)) = false := decide_eq_false c18
       clear c18
       have H' := aS H
       clear H
       have p190 : 0 ≤ (x23_2 : Int) := of_decide_eq_true (by first | (with_reducible assumption) | assumption)
       have q190 : x23_2 < (l0.length : Int) := of_decide_eq_true (by first | (with_reducible assumption) | assumption)
       obtain ⟨ad190, e190, hx190_0, hx190_1, hx190_2, hx190_3⟩ := at_T68 HR0.out x23_2 p190 q190
       obtain rfl : ad188 = ad190 := (by injection e190)
       replace hx190_0 := (HB.out.cell (World.block_lt_of_cell? w _ hx190_0)).trans hx190_0
       replace hx190_1 := (HB.out.cell (World.block_lt_of_cell? w _ hx190_1)).trans hx190_1
       replace hx190_2 := (HB.out.cell (World.block_lt_of_cell? w _ hx190_2)).trans hx190_2
       replace hx190_3 := (HB.out.cell (World.block_lt_of_cell? w _ hx190_3)).trans hx190_3
       replace p190 := eq_true p190
       replace q190 := eq_true q190
       go_wp2_with (first | ((with_reducible refine gate_dst (N := 8) rfl ?_); refine box_event ?hg (N := 8) ?hd (cs := #[.string (⟨#[]⟩ : ByteArray), .int .i64 0, .int .i64 0, .int .i64 0]) (t := 68) ?hr ?_; (case hd => rfl); (case hg => rfl); (case hr => first | (go_simp; done) | (go_simp; rfl)); intro gb191 hg w35 hbox hb; have n0_ := aS (Kd.R_below (sR HO_4.out) hb); have n1_ := aS (blk_below (g := gb189) (o := .cells #[.string ((rd_T68 l0 x16_1).f0), .int .i64 ((rd_T68 l0 x16_1).f1), .int .i64 ((rd_T68 l0 x16_1).f2), .int .i64 ((rd_T68 l0 x16_1).f3)] 68 (0, 0)) (sB BK189.out) hb); have n2_ := aS (below_step (sW HB.out) hb); have n3_ := aS (hbox); have n4_ := aS ((by rw [hg]; exact (below_size (sW HB.out)) : w.heap.size ≤ gb191)); have n5_ := aS ((by rw [hg]; exact (below_size (sW HB.out)) : w.heap.size ≤ gb191)); have n6_ := aS ((by rw [hg]; exact Nat.ne_of_lt (blk_lt (g := gb189) (o := .cells #[.string ((rd_T68 l0 x16_1).f0), .int .i64 ((rd_T68 l0 x16_1).f1), .int .i64 ((rd_T68 l0 x16_1).f2), .int .i64 ((rd_T68 l0 x16_1).f3)] 68 (0, 0)) (sB BK189.out)) : gb189 ≠ gb191)); have n7_ := aS ((by rw [hg]; exact Nat.ne_of_gt (blk_lt (g := gb189) (o := .cells #[.string ((rd_T68 l0 x16_1).f0), .int .i64 ((rd_T68 l0 x16_1).f1), .int .i64 ((rd_T68 l0 x16_1).f2), .int .i64 ((rd_T68 l0 x16_1).f3)] 68 (0, 0)) (sB BK189.out)) : gb191 ≠ gb189)); clear HO_4 BK189 HB; have HO_4 := n0_; have BK189 := n1_; have HB := n2_; have BK191 := n3_; have GW191 := n4_; have GE191 := n5_; have NB189_191 := n6_; have NB191_189 := n7_; clear n0_ n1_ n2_ n3_ n4_ n5_ n6_ n7_; clear hb hbox hg; have hnb36 := NB191_189.out; have hnc36 := NB189_191.out; have hcz37_0 : w35.cell? ⟨gb191, 0, none⟩ = some (.string (⟨#[]⟩ : ByteArray)) := (blk_cell BK191.out 0).trans rfl; have hcz37_1 : w35.cell? ⟨gb191, 1, none⟩ = some (.int .i64 0) := (blk_cell BK191.out 1).trans rfl; have hcz37_2 : w35.cell? ⟨gb191, 2, none⟩ = some (.int .i64 0) := (blk_cell BK191.out 2).trans rfl; have hcz37_3 : w35.cell? ⟨gb191, 3, none⟩ = some (.int .i64 0) := (blk_cell BK191.out 3).trans rfl; have hfz37_0 := blk_frozen BK191.out 0; have hfz37_1 := blk_frozen BK191.out 1; have hfz37_2 := blk_frozen BK191.out 2; have hfz37_3 := blk_frozen BK191.out 3; have hcz38_0 : w35.cell? ⟨gb189, 0, none⟩ = some (.string ((rd_T68 l0 x16_1).f0)) := (blk_cell BK189.out 0).trans rfl; have hcz38_1 : w35.cell? ⟨gb189, 1, none⟩ = some (.int .i64 ((rd_T68 l0 x16_1).f1)) := (blk_cell BK189.out 1).trans rfl; have hcz38_2 : w35.cell? ⟨gb189, 2, none⟩ = some (.int .i64 ((rd_T68 l0 x16_1).f2)) := (blk_cell BK189.out 2).trans rfl; have hcz38_3 : w35.cell? ⟨gb189, 3, none⟩ = some (.int .i64 ((rd_T68 l0 x16_1).f3)) := (blk_cell BK189.out 3).trans rfl; have hfz38_0 := blk_frozen BK189.out 0; have hfz38_1 := blk_frozen BK189.out 1; have hfz38_2 := blk_frozen BK189.out 2; have hfz38_3 := blk_frozen BK189.out 3))
       go_roundg k2
       case measure => have := HK1.out; have := HK2.out; omega
       case rel => exact ⟨(x4_2), (wrap64 (x23_2 + 1)), (by first | rfl | (simp; done) | (simp [*]; done) | (simp only [i64_w]; done) | (simp [i64_w]; done)), H', ⟨by have := HK1.out; have := HK2.out; omega⟩, ⟨by (with_reducible repeat (first | apply Kd.R_alloc | apply Kd.R_drewN | apply Kd.R_drew)); exact Kd.R_mono (Kd.R_far (p := ⟨gb191, 3, none⟩) (Kd.R_far (p := ⟨gb191, 2, none⟩) (Kd.R_far (p := ⟨gb191, 1, none⟩) (Kd.R_far (p := ⟨gb191, 0, none⟩) (Kd.R_types HO_4.out BK191.out (by decide)) (fun _ hk => hk.2) (.string ((rd_T68 l0 x23_2).f0))) (fun _ hk => hk.2) (.int .i64 ((rd_T68 l0 x23_2).f1))) (fun _ hk => hk.2) (.int .i64 ((rd_T68 l0 x23_2).f2))) (fun _ hk => hk.2) (.int .i64 ((rd_T68 l0 x23_2).f3))) (fun _ hk => trivial)⟩, ⟨by (with_reducible repeat (first | refine blk_drewN ?_ _ | refine blk_drew ?_ | refine blk_alloc ?_ _)); refine blk_far ?_ NB189_191.out _; (with_reducible repeat (first | refine blk_drewN ?_ _ | refine blk_drew ?_ | refine blk_alloc ?_ _)); refine blk_far ?_ NB189_191.out _; (with_reducible repeat (first | refine blk_drewN ?_ _ | refine blk_drew ?_ | refine blk_alloc ?_ _)); refine blk_far ?_ NB189_191.out _; (with_reducible repeat (first | refine blk_drewN ?_ _ | refine blk_drew ?_ | refine blk_alloc ?_ _)); refine blk_far ?_ NB189_191.out _; (with_reducible repeat (first | refine blk_drewN ?_ _ | refine blk_drew ?_ | refine blk_alloc ?_ _)); exact BK189.out⟩, ⟨by repeat (first | (with_reducible first | exact HB.out | apply below_alloc | apply pw_below_drewN | apply below_drew1 | refine below_set ?_ GE189.out | refine below_set ?_ GE191.out) | exact HB.out)⟩⟩
      rw [if_pos c18] at H
      have c18b0 : decide (((rd_T68 l0 x23_2).f3) ≤ ((rd_T68 l0 x16_1).f3)) = true := decide_eq_true c18
      clear c18
      by_cases c19 : ((rd_T68 l0 x23_2).f1) ≤ ((rd_T68 l0 x16_1).f1)
      rotate_left
      ·
       rw [if_neg c19] at H
       have c19b0 : decide (((rd_T68 l0 x23_2).f1) ≤ ((rd_T68 l0 x16_1).f1)) = false := decide_eq_false c19
       clear c19
       have H' := aS H
       clear H
       have p190 : 0 ≤ (x23_2 : Int) := of_decide_eq_true (by first | (with_reducible assumption) | assumption)
       have q190 : x23_2 < (l0.length : Int) := of_decide_eq_true (by first | (with_reducible assumption) | assumption)
       obtain ⟨ad190, e190, hx190_0, hx190_1, hx190_2, hx190_3⟩ := at_T68 HR0.out x23_2 p190 q190
       obtain rfl : ad188 = ad190 := (by injection e190)
       replace hx190_0 := (HB.out.cell (World.block_lt_of_cell? w _ hx190_0)).trans hx190_0
       replace hx190_1 := (HB.out.cell (World.block_lt_of_cell? w _ hx190_1)).trans hx190_1
       replace hx190_2 := (HB.out.cell (World.block_lt_of_cell? w _ hx190_2)).trans hx190_2
       replace hx190_3 := (HB.out.cell (World.block_lt_of_cell? w _ hx190_3)).trans hx190_3
       replace p190 := eq_true p190
       replace q190 := eq_true q190
       go_wp2_with (first | ((with_reducible refine gate_dst (N := 8) rfl ?_); refine box_event ?hg (N := 8) ?hd (cs := #[.string (⟨#[]⟩ : ByteArray), .int .i64 0, .int .i64 0, .int .i64 0]) (t := 68) ?hr ?_; (case hd => rfl); (case hg => rfl); (case hr => first | (go_simp; done) | (go_simp; rfl)); intro gb191 hg w31 hbox hb; have n0_ := aS (Kd.R_below (sR HO_4.out) hb); have n1_ := aS (blk_below (g := gb189) (o := .cells #[.string ((rd_T68 l0 x16_1).f0), .int .i64 ((rd_T68 l0 x16_1).f1), .int .i64 ((rd_T68 l0 x16_1).f2), .int .i64 ((rd_T68 l0 x16_1).f3)] 68 (0, 0)) (sB BK189.out) hb); have n2_ := aS (below_step (sW HB.out) hb); have n3_ := aS (hbox); have n4_ := aS ((by rw [hg]; exact (below_size (sW HB.out)) : w.heap.size ≤ gb191)); have n5_ := aS ((by rw [hg]; exact (below_size (sW HB.out)) : w.heap.size ≤ gb191)); have n6_ := aS ((by rw [hg]; exact Nat.ne_of_lt (blk_lt (g := gb189) (o := .cells #[.string ((rd_T68 l0 x16_1).f0), .int .i64 ((rd_T68 l0 x16_1).f1), .int .i64 ((rd_T68 l0 x16_1).f2), .int .i64 ((rd_T68 l0 x16_1).f3)] 68 (0, 0)) (sB BK189.out)) : gb189 ≠ gb191)); have n7_ := aS ((by rw [hg]; exact Nat.ne_of_gt (blk_lt (g := gb189) (o := .cells #[.string ((rd_T68 l0 x16_1).f0), .int .i64 ((rd_T68 l0 x16_1).f1), .int .i64 ((rd_T68 l0 x16_1).f2), .int .i64 ((rd_T68 l0 x16_1).f3)] 68 (0, 0)) (sB BK189.out)) : gb191 ≠ gb189)); clear HO_4 BK189 HB; have HO_4 := n0_; have BK189 := n1_; have HB := n2_; have BK191 := n3_; have GW191 := n4_; have GE191 := n5_; have NB189_191 := n6_; have NB191_189 := n7_; clear n0_ n1_ n2_ n3_ n4_ n5_ n6_ n7_; clear hb hbox hg; have hnb32 := NB191_189.out; have hnc32 := NB189_191.out; have hcz33_0 : w31.cell? ⟨gb191, 0, none⟩ = some (.string (⟨#[]⟩ : ByteArray)) := (blk_cell BK191.out 0).trans rfl; have hcz33_1 : w31.cell? ⟨gb191, 1, none⟩ = some (.int .i64 0) := (blk_cell BK191.out 1).trans rfl; have hcz33_2 : w31.cell? ⟨gb191, 2, none⟩ = some (.int .i64 0) := (blk_cell BK191.out 2).trans rfl; have hcz33_3 : w31.cell? ⟨gb191, 3, none⟩ = some (.int .i64 0) := (blk_cell BK191.out 3).trans rfl; have hfz33_0 := blk_frozen BK191.out 0; have hfz33_1 := blk_frozen BK191.out 1; have hfz33_2 := blk_frozen BK191.out 2; have hfz33_3 := blk_frozen BK191.out 3; have hcz34_0 : w31.cell? ⟨gb189, 0, none⟩ = some (.string ((rd_T68 l0 x16_1).f0)) := (blk_cell BK189.out 0).trans rfl; have hcz34_1 : w31.cell? ⟨gb189, 1, none⟩ = some (.int .i64 ((rd_T68 l0 x16_1).f1)) := (blk_cell BK189.out 1).trans rfl; have hcz34_2 : w31.cell? ⟨gb189, 2, none⟩ = some (.int .i64 ((rd_T68 l0 x16_1).f2)) := (blk_cell BK189.out 2).trans rfl; have hcz34_3 : w31.cell? ⟨gb189, 3, none⟩ = some (.int .i64 ((rd_T68 l0 x16_1).f3)) := (blk_cell BK189.out 3).trans rfl; have hfz34_0 := blk_frozen BK189.out 0; have hfz34_1 := blk_frozen BK189.out 1; have hfz34_2 := blk_frozen BK189.out 2; have hfz34_3 := blk_frozen BK189.out 3))
       go_roundg k2
       case measure => have := HK1.out; have := HK2.out; omega
       case rel => exact ⟨(x4_2), (wrap64 (x23_2 + 1)), (by first | rfl | (simp; done) | (simp [*]; done) | (simp only [i64_w]; done) | (simp [i64_w]; done)), H', ⟨by have := HK1.out; have := HK2.out; omega⟩, ⟨by (with_reducible repeat (first | apply Kd.R_alloc | apply Kd.R_drewN | apply Kd.R_drew)); exact Kd.R_mono (Kd.R_far (p := ⟨gb191, 3, none⟩) (Kd.R_far (p := ⟨gb191, 2, none⟩) (Kd.R_far (p := ⟨gb191, 1, none⟩) (Kd.R_far (p := ⟨gb191, 0, none⟩) (Kd.R_types HO_4.out BK191.out (by decide)) (fun _ hk => hk.2) (.string ((rd_T68 l0 x23_2).f0))) (fun _ hk => hk.2) (.int .i64 ((rd_T68 l0 x23_2).f1))) (fun _ hk => hk.2) (.int .i64 ((rd_T68 l0 x23_2).f2))) (fun _ hk => hk.2) (.int .i64 ((rd_T68 l0 x23_2).f3))) (fun _ hk => trivial)⟩, ⟨by (with_reducible repeat (first | refine blk_drewN ?_ _ | refine blk_drew ?_ | refine blk_alloc ?_ _)); refine blk_far ?_ NB189_191.out _; (with_reducible repeat (first | refine blk_drewN ?_ _ | refine blk_drew ?_ | refine blk_alloc ?_ _)); refine blk_far ?_ NB189_191.out _; (with_reducible repeat (first | refine blk_drewN ?_ _ | refine blk_drew ?_ | refine blk_alloc ?_ _)); refine blk_far ?_ NB189_191.out _; (with_reducible repeat (first | refine blk_drewN ?_ _ | refine blk_drew ?_ | refine blk_alloc ?_ _)); refine blk_far ?_ NB189_191.out _; (with_reducible repeat (first | refine blk_drewN ?_ _ | refine blk_drew ?_ | refine blk_alloc ?_ _)); exact BK189.out⟩, ⟨by repeat (first | (with_reducible first | exact HB.out | apply below_alloc | apply pw_below_drewN | apply below_drew1 | refine below_set ?_ GE189.out | refine below_set ?_ GE191.out) | exact HB.out)⟩⟩
      rw [if_pos c19] at H
      have c19b0 : decide (((rd_T68 l0 x23_2).f1) ≤ ((rd_T68 l0 x16_1).f1)) = true := decide_eq_true c19
      clear c19
      by_cases c20 : (((rd_T68 l0 x23_2).f1) = ((rd_T68 l0 x16_1).f1))
      ·
       rw [if_pos c20] at H
       have c20b0 : (((rd_T68 l0 x23_2).f1) == ((rd_T68 l0 x16_1).f1)) = true := beq_iff_eq.mpr c20
       have c20b1 : (((rd_T68 l0 x23_2).f1) != ((rd_T68 l0 x16_1).f1)) = false := bne_eq_false_iff_eq.mpr c20
       clear c20
       have H' := aS H
       clear H
       have p190 : 0 ≤ (x23_2 : Int) := of_decide_eq_true (by first | (with_reducible assumption) | assumption)
       have q190 : x23_2 < (l0.length : Int) := of_decide_eq_true (by first | (with_reducible assumption) | assumption)
       obtain ⟨ad190, e190, hx190_0, hx190_1, hx190_2, hx190_3⟩ := at_T68 HR0.out x23_2 p190 q190
       obtain rfl : ad188 = ad190 := (by injection e190)
       replace hx190_0 := (HB.out.cell (World.block_lt_of_cell? w _ hx190_0)).trans hx190_0
       replace hx190_1 := (HB.out.cell (World.block_lt_of_cell? w _ hx190_1)).trans hx190_1
       replace hx190_2 := (HB.out.cell (World.block_lt_of_cell? w _ hx190_2)).trans hx190_2
       replace hx190_3 := (HB.out.cell (World.block_lt_of_cell? w _ hx190_3)).trans hx190_3
       replace p190 := eq_true p190
       replace q190 := eq_true q190
       go_wp2_with (first | ((with_reducible refine gate_dst (N := 8) rfl ?_); refine box_event ?hg (N := 8) ?hd (cs := #[.string (⟨#[]⟩ : ByteArray), .int .i64 0, .int .i64 0, .int .i64 0]) (t := 68) ?hr ?_; (case hd => rfl); (case hg => rfl); (case hr => first | (go_simp; done) | (go_simp; rfl)); intro gb191 hg w21 hbox hb; have n0_ := aS (Kd.R_below (sR HO_4.out) hb); have n1_ := aS (blk_below (g := gb189) (o := .cells #[.string ((rd_T68 l0 x16_1).f0), .int .i64 ((rd_T68 l0 x16_1).f1), .int .i64 ((rd_T68 l0 x16_1).f2), .int .i64 ((rd_T68 l0 x16_1).f3)] 68 (0, 0)) (sB BK189.out) hb); have n2_ := aS (below_step (sW HB.out) hb); have n3_ := aS (hbox); have n4_ := aS ((by rw [hg]; exact (below_size (sW HB.out)) : w.heap.size ≤ gb191)); have n5_ := aS ((by rw [hg]; exact (below_size (sW HB.out)) : w.heap.size ≤ gb191)); have n6_ := aS ((by rw [hg]; exact Nat.ne_of_lt (blk_lt (g := gb189) (o := .cells #[.string ((rd_T68 l0 x16_1).f0), .int .i64 ((rd_T68 l0 x16_1).f1), .int .i64 ((rd_T68 l0 x16_1).f2), .int .i64 ((rd_T68 l0 x16_1).f3)] 68 (0, 0)) (sB BK189.out)) : gb189 ≠ gb191)); have n7_ := aS ((by rw [hg]; exact Nat.ne_of_gt (blk_lt (g := gb189) (o := .cells #[.string ((rd_T68 l0 x16_1).f0), .int .i64 ((rd_T68 l0 x16_1).f1), .int .i64 ((rd_T68 l0 x16_1).f2), .int .i64 ((rd_T68 l0 x16_1).f3)] 68 (0, 0)) (sB BK189.out)) : gb191 ≠ gb189)); clear HO_4 BK189 HB; have HO_4 := n0_; have BK189 := n1_; have HB := n2_; have BK191 := n3_; have GW191 := n4_; have GE191 := n5_; have NB189_191 := n6_; have NB191_189 := n7_; clear n0_ n1_ n2_ n3_ n4_ n5_ n6_ n7_; clear hb hbox hg; have hnb22 := NB191_189.out; have hnc22 := NB189_191.out; have hcz23_0 : w21.cell? ⟨gb191, 0, none⟩ = some (.string (⟨#[]⟩ : ByteArray)) := (blk_cell BK191.out 0).trans rfl; have hcz23_1 : w21.cell? ⟨gb191, 1, none⟩ = some (.int .i64 0) := (blk_cell BK191.out 1).trans rfl; have hcz23_2 : w21.cell? ⟨gb191, 2, none⟩ = some (.int .i64 0) := (blk_cell BK191.out 2).trans rfl; have hcz23_3 : w21.cell? ⟨gb191, 3, none⟩ = some (.int .i64 0) := (blk_cell BK191.out 3).trans rfl; have hfz23_0 := blk_frozen BK191.out 0; have hfz23_1 := blk_frozen BK191.out 1; have hfz23_2 := blk_frozen BK191.out 2; have hfz23_3 := blk_frozen BK191.out 3; have hcz24_0 : w21.cell? ⟨gb189, 0, none⟩ = some (.string ((rd_T68 l0 x16_1).f0)) := (blk_cell BK189.out 0).trans rfl; have hcz24_1 : w21.cell? ⟨gb189, 1, none⟩ = some (.int .i64 ((rd_T68 l0 x16_1).f1)) := (blk_cell BK189.out 1).trans rfl; have hcz24_2 : w21.cell? ⟨gb189, 2, none⟩ = some (.int .i64 ((rd_T68 l0 x16_1).f2)) := (blk_cell BK189.out 2).trans rfl; have hcz24_3 : w21.cell? ⟨gb189, 3, none⟩ = some (.int .i64 ((rd_T68 l0 x16_1).f3)) := (blk_cell BK189.out 3).trans rfl; have hfz24_0 := blk_frozen BK189.out 0; have hfz24_1 := blk_frozen BK189.out 1; have hfz24_2 := blk_frozen BK189.out 2; have hfz24_3 := blk_frozen BK189.out 3))
       go_roundg k2
       case measure => have := HK1.out; have := HK2.out; omega
       case rel => exact ⟨(x4_2), (wrap64 (x23_2 + 1)), (by first | rfl | (simp; done) | (simp [*]; done) | (simp only [i64_w]; done) | (simp [i64_w]; done)), H', ⟨by have := HK1.out; have := HK2.out; omega⟩, ⟨by (with_reducible repeat (first | apply Kd.R_alloc | apply Kd.R_drewN | apply Kd.R_drew)); exact Kd.R_mono (Kd.R_far (p := ⟨gb191, 3, none⟩) (Kd.R_far (p := ⟨gb191, 2, none⟩) (Kd.R_far (p := ⟨gb191, 1, none⟩) (Kd.R_far (p := ⟨gb191, 0, none⟩) (Kd.R_types HO_4.out BK191.out (by decide)) (fun _ hk => hk.2) (.string ((rd_T68 l0 x23_2).f0))) (fun _ hk => hk.2) (.int .i64 ((rd_T68 l0 x23_2).f1))) (fun _ hk => hk.2) (.int .i64 ((rd_T68 l0 x23_2).f2))) (fun _ hk => hk.2) (.int .i64 ((rd_T68 l0 x23_2).f3))) (fun _ hk => trivial)⟩, ⟨by (with_reducible repeat (first | refine blk_drewN ?_ _ | refine blk_drew ?_ | refine blk_alloc ?_ _)); refine blk_far ?_ NB189_191.out _; (with_reducible repeat (first | refine blk_drewN ?_ _ | refine blk_drew ?_ | refine blk_alloc ?_ _)); refine blk_far ?_ NB189_191.out _; (with_reducible repeat (first | refine blk_drewN ?_ _ | refine blk_drew ?_ | refine blk_alloc ?_ _)); refine blk_far ?_ NB189_191.out _; (with_reducible repeat (first | refine blk_drewN ?_ _ | refine blk_drew ?_ | refine blk_alloc ?_ _)); refine blk_far ?_ NB189_191.out _; (with_reducible repeat (first | refine blk_drewN ?_ _ | refine blk_drew ?_ | refine blk_alloc ?_ _)); exact BK189.out⟩, ⟨by repeat (first | (with_reducible first | exact HB.out | apply below_alloc | apply pw_below_drewN | apply below_drew1 | refine below_set ?_ GE189.out | refine below_set ?_ GE191.out) | exact HB.out)⟩⟩
      rw [if_neg c20] at H
      have c20b0 : (((rd_T68 l0 x23_2).f1) == ((rd_T68 l0 x16_1).f1)) = false := beq_eq_false_iff_ne.mpr c20
      have c20b1 : (((rd_T68 l0 x23_2).f1) != ((rd_T68 l0 x16_1).f1)) = true := bne_iff_ne.mpr c20
      by_cases c25 : x4_2.length < 17592186044416
      rotate_left
      ·
       rw [if_neg c25] at H
       exact absurd H (by simp)
      rw [if_pos c25] at H
      have LMc25 := aS c25
      clear c25
      obtain ⟨y192, hy192⟩ : ∃ y_ : List Int, y_ = (x4_2 ++ [x16_1]) := ⟨_, rfl⟩
      replace H : (impl_BeatenRopes.l0 k2 l0 y192 l0 (l0.length : Int) (wrap64 (x16_1 + 1))) = some (r1, r2) := by first | (rw [hy192]; with_reducible exact H) | (have H2_ := (Option.bind_some _ _).symm.trans H; rw [hy192]; with_reducible exact H2_) | (have H2_ := (Option.bind_some _ _).symm.trans H; with_reducible exact H2_) | with_reducible exact H | (rw [hy192]; exact H) | exact H
      have Ny192 := aS hy192
      clear hy192
      have H' := aS H
      clear H
      have p190 : 0 ≤ (x23_2 : Int) := of_decide_eq_true (by first | (with_reducible assumption) | assumption)
      have q190 : x23_2 < (l0.length : Int) := of_decide_eq_true (by first | (with_reducible assumption) | assumption)
      obtain ⟨ad190, e190, hx190_0, hx190_1, hx190_2, hx190_3⟩ := at_T68 HR0.out x23_2 p190 q190
      obtain rfl : ad188 = ad190 := (by injection e190)
      replace hx190_0 := (HB.out.cell (World.block_lt_of_cell? w _ hx190_0)).trans hx190_0
      replace hx190_1 := (HB.out.cell (World.block_lt_of_cell? w _ hx190_1)).trans hx190_1
      replace hx190_2 := (HB.out.cell (World.block_lt_of_cell? w _ hx190_2)).trans hx190_2
      replace hx190_3 := (HB.out.cell (World.block_lt_of_cell? w _ hx190_3)).trans hx190_3
      replace p190 := eq_true p190
      replace q190 := eq_true q190
      go_wp2_with (first | ((with_reducible refine gate_dst (N := 8) rfl ?_); refine box_event ?hg (N := 8) ?hd (cs := #[.string (⟨#[]⟩ : ByteArray), .int .i64 0, .int .i64 0, .int .i64 0]) (t := 68) ?hr ?_; (case hd => rfl); (case hg => rfl); (case hr => first | (go_simp; done) | (go_simp; rfl)); intro gb191 hg w26 hbox hb; have n0_ := aS (Kd.R_below (sR HO_4.out) hb); have n1_ := aS (blk_below (g := gb189) (o := .cells #[.string ((rd_T68 l0 x16_1).f0), .int .i64 ((rd_T68 l0 x16_1).f1), .int .i64 ((rd_T68 l0 x16_1).f2), .int .i64 ((rd_T68 l0 x16_1).f3)] 68 (0, 0)) (sB BK189.out) hb); have n2_ := aS (below_step (sW HB.out) hb); have n3_ := aS (hbox); have n4_ := aS ((by rw [hg]; exact (below_size (sW HB.out)) : w.heap.size ≤ gb191)); have n5_ := aS ((by rw [hg]; exact (below_size (sW HB.out)) : w.heap.size ≤ gb191)); have n6_ := aS ((by rw [hg]; exact Nat.ne_of_lt (blk_lt (g := gb189) (o := .cells #[.string ((rd_T68 l0 x16_1).f0), .int .i64 ((rd_T68 l0 x16_1).f1), .int .i64 ((rd_T68 l0 x16_1).f2), .int .i64 ((rd_T68 l0 x16_1).f3)] 68 (0, 0)) (sB BK189.out)) : gb189 ≠ gb191)); have n7_ := aS ((by rw [hg]; exact Nat.ne_of_gt (blk_lt (g := gb189) (o := .cells #[.string ((rd_T68 l0 x16_1).f0), .int .i64 ((rd_T68 l0 x16_1).f1), .int .i64 ((rd_T68 l0 x16_1).f2), .int .i64 ((rd_T68 l0 x16_1).f3)] 68 (0, 0)) (sB BK189.out)) : gb191 ≠ gb189)); clear HO_4 BK189 HB; have HO_4 := n0_; have BK189 := n1_; have HB := n2_; have BK191 := n3_; have GW191 := n4_; have GE191 := n5_; have NB189_191 := n6_; have NB191_189 := n7_; clear n0_ n1_ n2_ n3_ n4_ n5_ n6_ n7_; clear hb hbox hg; have hnb27 := NB191_189.out; have hnc27 := NB189_191.out; have hcz28_0 : w26.cell? ⟨gb191, 0, none⟩ = some (.string (⟨#[]⟩ : ByteArray)) := (blk_cell BK191.out 0).trans rfl; have hcz28_1 : w26.cell? ⟨gb191, 1, none⟩ = some (.int .i64 0) := (blk_cell BK191.out 1).trans rfl; have hcz28_2 : w26.cell? ⟨gb191, 2, none⟩ = some (.int .i64 0) := (blk_cell BK191.out 2).trans rfl; have hcz28_3 : w26.cell? ⟨gb191, 3, none⟩ = some (.int .i64 0) := (blk_cell BK191.out 3).trans rfl; have hfz28_0 := blk_frozen BK191.out 0; have hfz28_1 := blk_frozen BK191.out 1; have hfz28_2 := blk_frozen BK191.out 2; have hfz28_3 := blk_frozen BK191.out 3; have hcz29_0 : w26.cell? ⟨gb189, 0, none⟩ = some (.string ((rd_T68 l0 x16_1).f0)) := (blk_cell BK189.out 0).trans rfl; have hcz29_1 : w26.cell? ⟨gb189, 1, none⟩ = some (.int .i64 ((rd_T68 l0 x16_1).f1)) := (blk_cell BK189.out 1).trans rfl; have hcz29_2 : w26.cell? ⟨gb189, 2, none⟩ = some (.int .i64 ((rd_T68 l0 x16_1).f2)) := (blk_cell BK189.out 2).trans rfl; have hcz29_3 : w26.cell? ⟨gb189, 3, none⟩ = some (.int .i64 ((rd_T68 l0 x16_1).f3)) := (blk_cell BK189.out 3).trans rfl; have hfz29_0 := blk_frozen BK189.out 0; have hfz29_1 := blk_frozen BK189.out 1; have hfz29_2 := blk_frozen BK189.out 2; have hfz29_3 := blk_frozen BK189.out 3) | ((with_reducible refine gate_builtin (b := .append) (xs := #[.tmp 69, .tmp 71]) rfl ?_); at_builtin; refine Kd.R_append (Kd.int .i64) (w0 := w) w.heap.size rfl (.tmp 69) (.tmp 71) 27 2 (.int .i64 0) 8 rfl Try.underlying27 info2 rfl (by decide) (by omega) u4 x4_2 x16_1 [.int .i64 x16_1] (fun _ => True) (fun _ => False) rfl (by first | (go_simp; done) | (go_simp; rfl)) ?aP (fun _ hk => hk.elim) ?aF ?aO ?aB ?aS ?aL ?_; (case aP => exact rfl); (case aB => exact (sW HB.out)); (case aF => exact (fun _ _ => trivial)); (case aO => exact (sR (Kd.R_mono (Kd.R_far (p := ⟨gb191, 3, none⟩) (Kd.R_far (p := ⟨gb191, 2, none⟩) (Kd.R_far (p := ⟨gb191, 1, none⟩) (Kd.R_far (p := ⟨gb191, 0, none⟩) (Kd.R_types HO_4.out BK191.out (by decide)) (fun _ hk => hk.2) (.string ((rd_T68 l0 x23_2).f0))) (fun _ hk => hk.2) (.int .i64 ((rd_T68 l0 x23_2).f1))) (fun _ hk => hk.2) (.int .i64 ((rd_T68 l0 x23_2).f2))) (fun _ hk => hk.2) (.int .i64 ((rd_T68 l0 x23_2).f3))) (fun _ hk => trivial)))); (case aS => exact (below_size (sW HB.out))); (case aL => have := LMc25.out; omega); intro v193 w30 ho hb hg hat; rw [← Ny192.out] at ho; have n0_ := aS (blk_grown (g := gb189) (o := .cells #[.string ((rd_T68 l0 x16_1).f0), .int .i64 ((rd_T68 l0 x16_1).f1), .int .i64 ((rd_T68 l0 x16_1).f2), .int .i64 ((rd_T68 l0 x16_1).f3)] 68 (0, 0)) (by (with_reducible repeat (first | refine blk_drewN ?_ _ | refine blk_drew ?_ | refine blk_alloc ?_ _)); refine blk_far ?_ NB189_191.out _; (with_reducible repeat (first | refine blk_drewN ?_ _ | refine blk_drew ?_ | refine blk_alloc ?_ _)); refine blk_far ?_ NB189_191.out _; (with_reducible repeat (first | refine blk_drewN ?_ _ | refine blk_drew ?_ | refine blk_alloc ?_ _)); refine blk_far ?_ NB189_191.out _; (with_reducible repeat (first | refine blk_drewN ?_ _ | refine blk_drew ?_ | refine blk_alloc ?_ _)); refine blk_far ?_ NB189_191.out _; (with_reducible repeat (first | refine blk_drewN ?_ _ | refine blk_drew ?_ | refine blk_alloc ?_ _)); exact BK189.out) hg (Kd.R_ne HO_4.out BK189.out (by decide))); have n1_ := aS (blk_grown (g := gb191) (o := .cells #[.string ((rd_T68 l0 x23_2).f0), .int .i64 ((rd_T68 l0 x23_2).f1), .int .i64 ((rd_T68 l0 x23_2).f2), .int .i64 ((rd_T68 l0 x23_2).f3)] 68 (0, 0)) (by (with_reducible repeat (first | refine blk_drewN ?_ _ | refine blk_drew ?_ | refine blk_alloc ?_ _)); refine blk_put (cs := #[.string ((rd_T68 l0 x23_2).f0), .int .i64 ((rd_T68 l0 x23_2).f1), .int .i64 ((rd_T68 l0 x23_2).f2), .int .i64 0]) ?_ 3 _ rfl; (with_reducible repeat (first | refine blk_drewN ?_ _ | refine blk_drew ?_ | refine blk_alloc ?_ _)); refine blk_put (cs := #[.string ((rd_T68 l0 x23_2).f0), .int .i64 ((rd_T68 l0 x23_2).f1), .int .i64 0, .int .i64 0]) ?_ 2 _ rfl; (with_reducible repeat (first | refine blk_drewN ?_ _ | refine blk_drew ?_ | refine blk_alloc ?_ _)); refine blk_put (cs := #[.string ((rd_T68 l0 x23_2).f0), .int .i64 0, .int .i64 0, .int .i64 0]) ?_ 1 _ rfl; (with_reducible repeat (first | refine blk_drewN ?_ _ | refine blk_drew ?_ | refine blk_alloc ?_ _)); refine blk_put (cs := #[.string (⟨#[]⟩ : ByteArray), .int .i64 0, .int .i64 0, .int .i64 0]) ?_ 0 _ rfl; (with_reducible repeat (first | refine blk_drewN ?_ _ | refine blk_drew ?_ | refine blk_alloc ?_ _)); exact BK191.out) hg (Kd.R_ne HO_4.out BK191.out (by decide))); have n2_ := aS (hb); have n3_ := aS (ho); clear BK189 BK191 HB HO_4; have BK189 := n0_; have BK191 := n1_; have HB := n2_; have HO194 := n3_; clear n0_ n1_ n2_ n3_; clear ho hb hg hat))
      go_roundg k2
      case measure => have := HK1.out; have := HK2.out; omega
      case rel => exact ⟨(y192), (wrap64 (x16_1 + 1)), (by first | rfl | (simp; done) | (simp [*]; done) | (simp only [i64_w]; done) | (simp [i64_w]; done)), H', ⟨by have := HK1.out; have := HK2.out; omega⟩, ⟨by (with_reducible repeat (first | apply Kd.R_alloc | apply Kd.R_drewN | apply Kd.R_drew)); exact HO194.out⟩, ⟨by repeat (first | (with_reducible first | exact HB.out | apply below_alloc | apply pw_below_drewN | apply below_drew1 | refine below_set ?_ GE189.out | refine below_set ?_ GE191.out) | exact HB.out)⟩⟩
 ·
  replace c3 := Bool.eq_false_iff.mpr c3
  subst c3
  have H1 : (some (([] : List Int), 1)) = some (r1, r2) := by rw [if_neg (show ¬ (false = true) by decide)] at H; exact H
  clear H
  have H := H1
  clear H1
  simp only [Option.some.injEq, Prod.mk.injEq] at H
  obtain ⟨rfl, rfl⟩ := H
  go_enter Try.func35, Try.ntmps35
  go_wp2_with (first | ((with_reducible refine gate_callee (f := 80) rfl ?_); refine goesL_ (some 11) rfl rfl Try.func80 (by kernel_rfl) rfl #[.slice A0 l0.length c0] rfl sG ?_; (with_reducible refine (impl_ValidRopes.calls k _ _ l0 false _ ?side1 ?side2 A2.out).mono ?_); (case side1 => exact sC HR0.out); (case side2 => exact HC0.out); rintro e w85 ⟨rfl, hb⟩; refine ⟨_, rfl, ?_⟩; have n0_ := aS (below_step (sW HB.out) hb); clear HB; have HB := n0_; clear n0_; (try clear hb); (try clear hb2); (try clear hk); (try clear hi)))
  go_ret2
  exact ⟨_, by first | rfl | (simp [errW_none, errW_some, i64_w]; done) | (simp [errW_none, errW_some] <;> rfl) | (simp [*, errW_none, errW_some] <;> rfl), by first | exact Kd.R_nil _ _ _ _ _ | exact Kd.N_nil _ _ _ _ _ | exact Kd.V_nil _ _ _ _ _ | exact Kd.Q_nil _ _ _ _ _ | exact Kd.S_nil _ _ _ _ _, by repeat (first | (with_reducible first | exact HB.out | apply below_alloc | apply pw_below_drewN | apply below_drew1) | exact HB.out)⟩

/-! ### laws_a2Rises: function 36 -/
def laws_a2Rises.l0 : Nat → List Int → Int → Int → Option (Bool)
 | 0, _, _, _ => none
 | k + 1, x0, x1, x5 => if x5 < (x0.length : Int) then (if 0 ≤ x5 then (if (rd x0 x5) < 0 then (some false) else (if (rd x0 x5) ≥ x1 then (some false) else (if x5 > 0 then (if 0 ≤ (wrap64 (x5 - 1)) then (if (wrap64 (x5 - 1)) < (x0.length : Int) then (if (rd x0 (wrap64 (x5 - 1))) ≥ (rd x0 x5) then (some false) else (laws_a2Rises.l0 k x0 x1 (wrap64 (x5 + 1)))) else (none)) else (none)) else (laws_a2Rises.l0 k x0 x1 (wrap64 (x5 + 1)))))) else (none)) else (some true)
def laws_a2Rises.f (k : Nat) (l0 : List Int) (a1 : Int) : Option (Bool) := laws_a2Rises.l0 k l0 a1 0
theorem laws_a2Rises.mono_l : ∀ k, (∀ y0 y1 y2, LeO (laws_a2Rises.l0 k y0 y1 y2) (laws_a2Rises.l0 (k + 1) y0 y1 y2))
 | 0 => fun _ _ _ r h => by simp [laws_a2Rises.l0] at h
 | k + 1 => by
  have ih0 := laws_a2Rises.mono_l k
  ·
   intro y0 y1 y2
   unfold laws_a2Rises.l0
   repeat' first
   | (with_reducible exact ih0 _ _ _)
   | (with_reducible exact LeO.refl _)
   | (with_reducible exact LeO.none _)
   | (with_reducible refine LeO.ite ?_ ?_)
   | (with_reducible refine LeO.bind ?_ (fun _ => ?_))
   | exact ih0 _ _ _
   | exact LeO.none _
   | refine LeO.ite ?_ ?_
   | refine LeO.bind ?_ (fun _ => ?_)
theorem laws_a2Rises.mono : ∀ a0 a1 k, LeO (laws_a2Rises.f k a0 a1) (laws_a2Rises.f (k + 1) a0 a1) := by
 intro a0 a1 k
 have ih0 := laws_a2Rises.mono_l k
 unfold laws_a2Rises.f
 repeat' first
   | (with_reducible exact ih0 _ _ _)
   | (with_reducible exact LeO.refl _)
   | (with_reducible exact LeO.none _)
   | (with_reducible refine LeO.ite ?_ ?_)
   | (with_reducible refine LeO.bind ?_ (fun _ => ?_))
   | exact ih0 _ _ _
   | exact LeO.none _
   | refine LeO.ite ?_ ?_
   | refine LeO.bind ?_ (fun _ => ?_)
set_option maxHeartbeats 8000000 in
set_option maxRecDepth 100000 in
theorem laws_a2Rises.calls (k : Nat) (A0 : Option Addr) (c0 : Nat) (l0 : List Int) (a1 : Int) (r : Bool) (w : World) (hr0 : Kd.C (Kd.int .i64) w A0 l0.length l0) (hc0 : l0.length ≤ c0) (h : laws_a2Rises.f k l0 a1 = some r) :
  Calls Try.prog 36 #[.slice A0 l0.length c0, .int .i64 a1] w fun e w' => e = .returned (.bool r) ∧ Drawn0 w w' := by
 have HR0 := aS hr0
 have HC0 := aS hc0
 clear hr0 hc0
 have H : (laws_a2Rises.l0 k l0 a1 0) = some r := h
 clear h
 have H' := aS H
 clear H
 go_enter Try.func36, Try.ntmps36
 go_wp2
 repeat (go_quiet (fail); try go_wp2)
 go_loopg [5] k (fun kq v5 w' => ∃ (x5_1 : Int), v5 = .int .i64 x5_1 ∧ Aside0 (laws_a2Rises.l0 kq l0 a1 x5_1 = some r) ∧ Aside0 (kq ≤ k) ∧ Drawn0 w w')
 case atStart => exact ⟨(0), (by first | rfl | (simp; done) | (simp [*]; done) | (simp only [i64_w]; done) | (simp [i64_w]; done)), H', ⟨Nat.le_refl _⟩, by repeat (first | exact Drawn0.refl _ | apply Drawn0.step)⟩
 case round =>
  clear H'
  (try clear p2)
  obtain ⟨x5_1, rfl, HA, HK1, ⟨m1, rfl⟩⟩ := hrel
  cases gk with
  | zero => exact absurd HA.out (by simp [laws_a2Rises.l0])
  | succ k1 =>
   have H := HA.out
   clear HA
   simp only [laws_a2Rises.l0] at H
   by_cases c3 : x5_1 < (l0.length : Int)
   ·
    rw [if_pos c3] at H
    have c3b0 : decide (x5_1 < (l0.length : Int)) = true := decide_eq_true c3
    clear c3
    by_cases c4 : 0 ≤ x5_1
    ·
     rw [if_pos c4] at H
     have c4b0 : decide (0 ≤ x5_1) = true := decide_eq_true c4
     clear c4
     by_cases c5 : (rd l0 x5_1) < 0
     ·
      rw [if_pos c5] at H
      have c5b0 : decide ((rd l0 x5_1) < 0) = true := decide_eq_true c5
      clear c5
      obtain rfl := Option.some.inj H
      have p201 : 0 ≤ (x5_1 : Int) := of_decide_eq_true (by first | (with_reducible assumption) | assumption)
      have q201 : x5_1 < (l0.length : Int) := of_decide_eq_true (by first | (with_reducible assumption) | assumption)
      obtain ⟨ad201, e201, hx201_0⟩ := Kd.at_int HR0.out x5_1 p201 q201
      cases e201
      replace p201 := eq_true p201
      replace q201 := eq_true q201
      go_wp2
      repeat (go_quiet (fail); try go_wp2)
      go_ret
      exact ⟨by first | rfl | (simp; done) | (simp [*]; done) | (simp only [i64_w]; done) | (simp [i64_w]; done), by repeat (first | exact Drawn0.refl _ | apply Drawn0.step)⟩
     ·
      rw [if_neg c5] at H
      have c5b0 : decide ((rd l0 x5_1) < 0) = false := decide_eq_false c5
      clear c5
      by_cases c6 : (rd l0 x5_1) ≥ a1
      ·
       rw [if_pos c6] at H
       have c6b0 : decide (a1 ≤ (rd l0 x5_1)) = true := decide_eq_true c6
       clear c6
       obtain rfl := Option.some.inj H
       have p201 : 0 ≤ (x5_1 : Int) := of_decide_eq_true (by first | (with_reducible assumption) | assumption)
       have q201 : x5_1 < (l0.length : Int) := of_decide_eq_true (by first | (with_reducible assumption) | assumption)
       obtain ⟨ad201, e201, hx201_0⟩ := Kd.at_int HR0.out x5_1 p201 q201
       cases e201
       replace p201 := eq_true p201
       replace q201 := eq_true q201
       have p202 : 0 ≤ (x5_1 : Int) := of_decide_eq_true (by first | (with_reducible assumption) | assumption)
       have q202 : x5_1 < (l0.length : Int) := of_decide_eq_true (by first | (with_reducible assumption) | assumption)
       obtain ⟨ad202, e202, hx202_0⟩ := Kd.at_int HR0.out x5_1 p202 q202
       obtain rfl : ad201 = ad202 := (by injection e202)
       replace p202 := eq_true p202
       replace q202 := eq_true q202
       go_wp2
       repeat (go_quiet (fail); try go_wp2)
       go_ret
       exact ⟨by first | rfl | (simp; done) | (simp [*]; done) | (simp only [i64_w]; done) | (simp [i64_w]; done), by repeat (first | exact Drawn0.refl _ | apply Drawn0.step)⟩
      ·
       rw [if_neg c6] at H
       have c6b0 : decide (a1 ≤ (rd l0 x5_1)) = false := decide_eq_false c6
       clear c6
       by_cases c7 : x5_1 > 0
       ·
        rw [if_pos c7] at H
        have c7b0 : decide (0 < x5_1) = true := decide_eq_true c7
        clear c7
        obtain ⟨ji8, hji8⟩ : ∃ j_ : Int, (wrap64 (x5_1 - 1)) = j_ := ⟨_, rfl⟩
        replace H : (if 0 ≤ (ji8) then (if (ji8) < (l0.length : Int) then (if (rd l0 (ji8)) ≥ (rd l0 x5_1) then (some false) else (laws_a2Rises.l0 k1 l0 a1 (wrap64 (x5_1 + 1)))) else (none)) else (none)) = some r := by first | (rw [hji8] at H; exact H) | (simp only [hji8] at H ⊢; exact H)
        have hji8w : (IntKind.i64.wrap (x5_1 - 1)) = ji8 := (i64_w _).trans hji8
        by_cases c9 : 0 ≤ (ji8)
        ·
         rw [if_pos c9] at H
         have c9b0 : decide (0 ≤ (ji8)) = true := decide_eq_true c9
         clear c9
         by_cases c10 : (ji8) < (l0.length : Int)
         ·
          rw [if_pos c10] at H
          have c10b0 : decide ((ji8) < (l0.length : Int)) = true := decide_eq_true c10
          clear c10
          by_cases c11 : (rd l0 (ji8)) ≥ (rd l0 x5_1)
          ·
           rw [if_pos c11] at H
           have c11b0 : decide ((rd l0 x5_1) ≤ (rd l0 (ji8))) = true := decide_eq_true c11
           clear c11
           obtain rfl := Option.some.inj H
           have p201 : 0 ≤ (x5_1 : Int) := of_decide_eq_true (by first | (with_reducible assumption) | assumption)
           have q201 : x5_1 < (l0.length : Int) := of_decide_eq_true (by first | (with_reducible assumption) | assumption)
           obtain ⟨ad201, e201, hx201_0⟩ := Kd.at_int HR0.out x5_1 p201 q201
           cases e201
           replace p201 := eq_true p201
           replace q201 := eq_true q201
           have p202 : 0 ≤ (x5_1 : Int) := of_decide_eq_true (by first | (with_reducible assumption) | assumption)
           have q202 : x5_1 < (l0.length : Int) := of_decide_eq_true (by first | (with_reducible assumption) | assumption)
           obtain ⟨ad202, e202, hx202_0⟩ := Kd.at_int HR0.out x5_1 p202 q202
           obtain rfl : ad201 = ad202 := (by injection e202)
           replace p202 := eq_true p202
           replace q202 := eq_true q202
           have p203 : 0 ≤ ((ji8) : Int) := of_decide_eq_true (by first | (with_reducible assumption) | assumption)
           have q203 : (ji8) < (l0.length : Int) := of_decide_eq_true (by first | (with_reducible assumption) | assumption)
           obtain ⟨ad203, e203, hx203_0⟩ := Kd.at_int HR0.out (ji8) p203 q203
           obtain rfl : ad201 = ad203 := (by injection e203)
           replace p203 := eq_true p203
           replace q203 := eq_true q203
           have p204 : 0 ≤ (x5_1 : Int) := of_decide_eq_true (by first | (with_reducible assumption) | assumption)
           have q204 : x5_1 < (l0.length : Int) := of_decide_eq_true (by first | (with_reducible assumption) | assumption)
           obtain ⟨ad204, e204, hx204_0⟩ := Kd.at_int HR0.out x5_1 p204 q204
           obtain rfl : ad201 = ad204 := (by injection e204)
           replace p204 := eq_true p204
           replace q204 := eq_true q204
           go_wp2
           repeat (go_quiet (fail); try go_wp2)
           go_ret
           exact ⟨by first | rfl | (simp; done) | (simp only [← hji8] <;> (first | rfl | simp)) | (simp [*]; done) | (simp only [i64_w]; done) | (simp [i64_w]; done), by repeat (first | exact Drawn0.refl _ | apply Drawn0.step)⟩
          ·
           rw [if_neg c11] at H
           have c11b0 : decide ((rd l0 x5_1) ≤ (rd l0 (ji8))) = false := decide_eq_false c11
           clear c11
           have H' := aS H
           clear H
           have p201 : 0 ≤ (x5_1 : Int) := of_decide_eq_true (by first | (with_reducible assumption) | assumption)
           have q201 : x5_1 < (l0.length : Int) := of_decide_eq_true (by first | (with_reducible assumption) | assumption)
           obtain ⟨ad201, e201, hx201_0⟩ := Kd.at_int HR0.out x5_1 p201 q201
           cases e201
           replace p201 := eq_true p201
           replace q201 := eq_true q201
           have p202 : 0 ≤ (x5_1 : Int) := of_decide_eq_true (by first | (with_reducible assumption) | assumption)
           have q202 : x5_1 < (l0.length : Int) := of_decide_eq_true (by first | (with_reducible assumption) | assumption)
           obtain ⟨ad202, e202, hx202_0⟩ := Kd.at_int HR0.out x5_1 p202 q202
           obtain rfl : ad201 = ad202 := (by injection e202)
           replace p202 := eq_true p202
           replace q202 := eq_true q202
           have p203 : 0 ≤ ((ji8) : Int) := of_decide_eq_true (by first | (with_reducible assumption) | assumption)
           have q203 : (ji8) < (l0.length : Int) := of_decide_eq_true (by first | (with_reducible assumption) | assumption)
           obtain ⟨ad203, e203, hx203_0⟩ := Kd.at_int HR0.out (ji8) p203 q203
           obtain rfl : ad201 = ad203 := (by injection e203)
           replace p203 := eq_true p203
           replace q203 := eq_true q203
           have p204 : 0 ≤ (x5_1 : Int) := of_decide_eq_true (by first | (with_reducible assumption) | assumption)
           have q204 : x5_1 < (l0.length : Int) := of_decide_eq_true (by first | (with_reducible assumption) | assumption)
           obtain ⟨ad204, e204, hx204_0⟩ := Kd.at_int HR0.out x5_1 p204 q204
           obtain rfl : ad201 = ad204 := (by injection e204)
           replace p204 := eq_true p204
           replace q204 := eq_true q204
           go_wp2
           repeat (go_quiet (fail); try go_wp2)
           go_roundg k1
           case measure => have := HK1.out; omega
           case rel => exact ⟨(wrap64 (x5_1 + 1)), (by first | rfl | (simp; done) | (simp [*]; done) | (simp only [i64_w]; done) | (simp [i64_w]; done)), H', ⟨by have := HK1.out; omega⟩, by repeat (first | exact Drawn0.refl _ | apply Drawn0.step)⟩
         ·
          rw [if_neg c10] at H
          exact absurd H (by simp)
        ·
         rw [if_neg c9] at H
         exact absurd H (by simp)
       ·
        rw [if_neg c7] at H
        have c7b0 : decide (0 < x5_1) = false := decide_eq_false c7
        clear c7
        have H' := aS H
        clear H
        have p201 : 0 ≤ (x5_1 : Int) := of_decide_eq_true (by first | (with_reducible assumption) | assumption)
        have q201 : x5_1 < (l0.length : Int) := of_decide_eq_true (by first | (with_reducible assumption) | assumption)
        obtain ⟨ad201, e201, hx201_0⟩ := Kd.at_int HR0.out x5_1 p201 q201
        cases e201
        replace p201 := eq_true p201
        replace q201 := eq_true q201
        have p202 : 0 ≤ (x5_1 : Int) := of_decide_eq_true (by first | (with_reducible assumption) | assumption)
        have q202 : x5_1 < (l0.length : Int) := of_decide_eq_true (by first | (with_reducible assumption) | assumption)
        obtain ⟨ad202, e202, hx202_0⟩ := Kd.at_int HR0.out x5_1 p202 q202
        obtain rfl : ad201 = ad202 := (by injection e202)
        replace p202 := eq_true p202
        replace q202 := eq_true q202
        go_wp2
        repeat (go_quiet (fail); try go_wp2)
        go_roundg k1
        case measure => have := HK1.out; omega
        case rel => exact ⟨(wrap64 (x5_1 + 1)), (by first | rfl | (simp; done) | (simp [*]; done) | (simp only [i64_w]; done) | (simp [i64_w]; done)), H', ⟨by have := HK1.out; omega⟩, by repeat (first | exact Drawn0.refl _ | apply Drawn0.step)⟩
    ·
     rw [if_neg c4] at H
     exact absurd H (by simp)
   ·
    rw [if_neg c3] at H
    have c3b0 : decide (x5_1 < (l0.length : Int)) = false := decide_eq_false c3
    clear c3
    obtain rfl := Option.some.inj H
    go_wp2
    repeat (go_quiet (fail); try go_wp2)
    go_ret
    exact ⟨by first | rfl | (simp; done) | (simp [*]; done) | (simp only [i64_w]; done) | (simp [i64_w]; done), by repeat (first | exact Drawn0.refl _ | apply Drawn0.step)⟩

end Go.Proofs.Ytginmioklkcgbaa.QFnRopeLists

/- What the Go functions of this law compute, each as a Lean function, and that each call comes to that answer; written by a program of this session. No condition. -/
import Derived.Test.YtginmioklkcgbaaQFnExactFewestBlocksx0
import Derived.Test.YtginmioklkcgbaaQFnExactFewestBlocksx3
namespace Go.Proofs.Ytginmioklkcgbaa.QFnExactFewestBlocks
open Go.RowKit Go.Proofs.YtginmioklkcgbaaW.PrintWords Go.Proofs.YtginmioklkcgbaaW.PrintLast Go.Proofs.YtginmioklkcgbaaW.PrintMore
attribute [local go_sem] max2_int min2_int max_two min_two max_three min_three max_four min_four   -- for this text's walks alone
set_option linter.unusedVariables false
set_option linter.unusedSimpArgs false

/-! ### impl_allPurchases: function 122 -/
mutual
def impl_allPurchases.l0 : Nat → List (S140) → Int → Option ((List (S140)))
 | 0, _, _ => none
 | k + 1, x1, x2 => if x2 ≤ 2 then (impl_allPurchases.l1 k x1 x2 1) else (some x1)
def impl_allPurchases.l1 : Nat → List (S140) → Int → Int → Option ((List (S140)))
 | 0, _, _, _ => none
 | k + 1, x1, x2, x3 => if x3 ≤ 8 then ((some (([false, true] : List Bool) : List Bool)).bind fun y184 => (impl_allPurchases.l2 k x1 x2 x3 y184 (y184.length : Int) 0)) else (impl_allPurchases.l0 k x1 (wrap64 (x2 + 1)))
def impl_allPurchases.l2 : Nat → List (S140) → Int → Int → List Bool → Int → Int → Option ((List (S140)))
 | 0, _, _, _, _, _, _ => none
 | k + 1, x1, x2, x3, x17, x18, x19 => if x19 < x18 then (if 0 ≤ x19 then (if x19 < (x17.length : Int) then (impl_allPurchases.l3 k x1 x2 x3 (rdOf false x17 x19) 0 x17 x18 x19) else (none)) else (none)) else (impl_allPurchases.l1 k x1 x2 (wrap64 (x3 + 1)))
def impl_allPurchases.l3 : Nat → List (S140) → Int → Int → Bool → Int → List Bool → Int → Int → Option ((List (S140)))
 | 0, _, _, _, _, _, _, _, _ => none
 | k + 1, x1, x2, x3, x5, x6, x17, x18, x19 => if x6 ≤ x3 then ((impl_ValidPurchase.f k x6 (wrap64 (x3 - x6)) x5).bind fun t189 => (if t189 = true then ((impl_blocksOf.f x6 (wrap64 (x3 - x6)) x5).bind fun t190 => (if t190 = x2 then (if x1.length < 5864062014805 then (impl_allPurchases.l3 k (x1 ++ [(⟨x6, wrap64 (x3 - x6), x5⟩ : S140)]) x2 x3 x5 (wrap64 (x6 + 1)) x17 x18 x19) else (none)) else (impl_allPurchases.l3 k x1 x2 x3 x5 (wrap64 (x6 + 1)) x17 x18 x19))) else (impl_allPurchases.l3 k x1 x2 x3 x5 (wrap64 (x6 + 1)) x17 x18 x19))) else (impl_allPurchases.l2 k x1 x2 x3 x17 x18 (wrap64 (x19 + 1)))
end
def impl_allPurchases.f (k : Nat)  : Option ((List (S140))) := impl_allPurchases.l0 k (([] : List (S140))) 1
theorem impl_allPurchases.mono_l : ∀ k, (∀ y0 y1, LeO (impl_allPurchases.l0 k y0 y1) (impl_allPurchases.l0 (k + 1) y0 y1)) ∧ (∀ y0 y1 y2, LeO (impl_allPurchases.l1 k y0 y1 y2) (impl_allPurchases.l1 (k + 1) y0 y1 y2)) ∧ (∀ y0 y1 y2 y3 y4 y5, LeO (impl_allPurchases.l2 k y0 y1 y2 y3 y4 y5) (impl_allPurchases.l2 (k + 1) y0 y1 y2 y3 y4 y5)) ∧ (∀ y0 y1 y2 y3 y4 y5 y6 y7, LeO (impl_allPurchases.l3 k y0 y1 y2 y3 y4 y5 y6 y7) (impl_allPurchases.l3 (k + 1) y0 y1 y2 y3 y4 y5 y6 y7))
 | 0 => ⟨fun _ _ r h => by simp [impl_allPurchases.l0] at h, fun _ _ _ r h => by simp [impl_allPurchases.l1] at h, fun _ _ _ _ _ _ r h => by simp [impl_allPurchases.l2] at h, fun _ _ _ _ _ _ _ _ r h => by simp [impl_allPurchases.l3] at h⟩
 | k + 1 => by
  obtain ⟨ih0, ih1, ih2, ih3⟩ := impl_allPurchases.mono_l k
  refine ⟨?_, ?_, ?_, ?_⟩
  ·
   intro y0 y1
   unfold impl_allPurchases.l0
   repeat' first
   | (with_reducible exact ih0 _ _)
   | (with_reducible exact ih1 _ _ _)
   | (with_reducible exact ih2 _ _ _ _ _ _)
   | (with_reducible exact ih3 _ _ _ _ _ _ _ _)
   | (with_reducible exact impl_ValidPurchase.mono _ _ _ _)
   | (with_reducible exact LeO.refl _)
   | (with_reducible exact LeO.none _)
   | (with_reducible refine LeO.ite ?_ ?_)
   | (with_reducible refine LeO.bind ?_ (fun _ => ?_))
   | exact ih0 _ _
   | exact ih1 _ _ _
   | exact ih2 _ _ _ _ _ _
   | exact ih3 _ _ _ _ _ _ _ _
   | exact impl_ValidPurchase.mono _ _ _ _
   | exact LeO.none _
   | refine LeO.ite ?_ ?_
   | refine LeO.bind ?_ (fun _ => ?_)
  ·
   intro y0 y1 y2
   unfold impl_allPurchases.l1
   repeat' first
   | (with_reducible exact ih0 _ _)
   | (with_reducible exact ih1 _ _ _)
   | (with_reducible exact ih2 _ _ _ _ _ _)
   | (with_reducible exact ih3 _ _ _ _ _ _ _ _)
   | (with_reducible exact impl_ValidPurchase.mono _ _ _ _)
   | (with_reducible exact LeO.refl _)
   | (with_reducible exact LeO.none _)
   | (with_reducible refine LeO.ite ?_ ?_)
   | (with_reducible refine LeO.bind ?_ (fun _ => ?_))
   | exact ih0 _ _
   | exact ih1 _ _ _
   | exact ih2 _ _ _ _ _ _
   | exact ih3 _ _ _ _ _ _ _ _
   | exact impl_ValidPurchase.mono _ _ _ _
   | exact LeO.none _
   | refine LeO.ite ?_ ?_
   | refine LeO.bind ?_ (fun _ => ?_)
  ·
   intro y0 y1 y2 y3 y4 y5
   unfold impl_allPurchases.l2
   repeat' first
   | (with_reducible exact ih0 _ _)
   | (with_reducible exact ih1 _ _ _)
   | (with_reducible exact ih2 _ _ _ _ _ _)
   | (with_reducible exact ih3 _ _ _ _ _ _ _ _)
   | (with_reducible exact impl_ValidPurchase.mono _ _ _ _)
   | (with_reducible exact LeO.refl _)
   | (with_reducible exact LeO.none _)
   | (with_reducible refine LeO.ite ?_ ?_)
   | (with_reducible refine LeO.bind ?_ (fun _ => ?_))
   | exact ih0 _ _
   | exact ih1 _ _ _
   | exact ih2 _ _ _ _ _ _
   | exact ih3 _ _ _ _ _ _ _ _
   | exact impl_ValidPurchase.mono _ _ _ _
   | exact LeO.none _
   | refine LeO.ite ?_ ?_
   | refine LeO.bind ?_ (fun _ => ?_)
  ·
   intro y0 y1 y2 y3 y4 y5 y6 y7
   unfold impl_allPurchases.l3
   repeat' first
   | (with_reducible exact ih0 _ _)
   | (with_reducible exact ih1 _ _ _)
   | (with_reducible exact ih2 _ _ _ _ _ _)
   | (with_reducible exact ih3 _ _ _ _ _ _ _ _)
   | (with_reducible exact impl_ValidPurchase.mono _ _ _ _)
   | (with_reducible exact LeO.refl _)
   | (with_reducible exact LeO.none _)
   | (with_reducible refine LeO.ite ?_ ?_)
   | (with_reducible refine LeO.bind ?_ (fun _ => ?_))
   | exact ih0 _ _
   | exact ih1 _ _ _
   | exact ih2 _ _ _ _ _ _
   | exact ih3 _ _ _ _ _ _ _ _
   | exact impl_ValidPurchase.mono _ _ _ _
   | exact LeO.none _
   | refine LeO.ite ?_ ?_
   | refine LeO.bind ?_ (fun _ => ?_)
theorem impl_allPurchases.mono : ∀ k, LeO (impl_allPurchases.f k ) (impl_allPurchases.f (k + 1) ) := by
 intro  k
 obtain ⟨ih0, ih1, ih2, ih3⟩ := impl_allPurchases.mono_l k
 unfold impl_allPurchases.f
 repeat' first
   | (with_reducible exact ih0 _ _)
   | (with_reducible exact ih1 _ _ _)
   | (with_reducible exact ih2 _ _ _ _ _ _)
   | (with_reducible exact ih3 _ _ _ _ _ _ _ _)
   | (with_reducible exact impl_ValidPurchase.mono _ _ _ _)
   | (with_reducible exact LeO.refl _)
   | (with_reducible exact LeO.none _)
   | (with_reducible refine LeO.ite ?_ ?_)
   | (with_reducible refine LeO.bind ?_ (fun _ => ?_))
   | exact ih0 _ _
   | exact ih1 _ _ _
   | exact ih2 _ _ _ _ _ _
   | exact ih3 _ _ _ _ _ _ _ _
   | exact impl_ValidPurchase.mono _ _ _ _
   | exact LeO.none _
   | refine LeO.ite ?_ ?_
   | refine LeO.bind ?_ (fun _ => ?_)
set_option maxHeartbeats 8000000 in
set_option maxRecDepth 100000 in
theorem impl_allPurchases.calls (k : Nat)  (r : List (S140)) (w : World) (h : impl_allPurchases.f k  = some r) :
  Calls Try.prog 122 #[] w fun e w' => ∃ v0_ : Value, e = .returned (v0_) ∧ Kd.R k140 140 w' w.heap.size (fun _ => True) v0_ r ∧ Below w.heap.size w w' := by
 have hu140 := Try.underlying140
 have HB := aS (Below.refl w.heap.size w)
 have H : (impl_allPurchases.l0 k (([] : List (S140))) 1) = some r := h
 clear h
 obtain ⟨y181, hy181⟩ : ∃ y_ : List (S140), y_ = (([] : List (S140))) := ⟨_, rfl⟩
 replace H : (impl_allPurchases.l0 k y181 1) = some r := by first | (rw [hy181]; with_reducible exact H) | (have H2_ := (Option.bind_some _ _).symm.trans H; rw [hy181]; with_reducible exact H2_) | (have H2_ := (Option.bind_some _ _).symm.trans H; with_reducible exact H2_) | with_reducible exact H | (rw [hy181]; exact H) | exact H
 have Ny181 := aS hy181
 clear hy181
 have H' := aS H
 clear H
 go_enter Try.func122, Try.ntmps122
 go_wp2_with (first | ((with_reducible refine gate_dst (N := 8) rfl ?_); refine Kd.R_lit k140 _ 140 ?hg (N := 8) ?hd (xs := ([] : List (S140))) (inner := []) (ok := fun _ => True) (okp := fun _ => True) ?hr ?hp (fun _ hk => hk) trivial (Below.refl _ _) (Nat.le_refl _) (by simp) ?_; (case hd => rfl); (case hg => rfl); (case hr => first | (go_simp; done) | (go_simp; rfl)); (case hp => exact (Reps.none _ _)); intro v182 w1 ho2 hb hg_ hnew_; clear hg_ hnew_; (first | rw [← Ny181.out] at ho2 | (simp only [Int.reduceToNat] at ho2; rw [← Ny181.out] at ho2)); have n0_ := aS (Kd.R_lower ho2 (below_size (sW HB.out))); have n1_ := aS (below_step (sW HB.out) hb); clear HB; have HO183 := n0_; have HB := n1_; clear n0_ n1_; clear hb ho2))
 go_loopg [1, 2] k (fun kq v1 v2 w' => ∃ (x1_1 : List (S140)) (x2_1 : Int), v2 = .int .i64 x2_1 ∧ Aside0 (impl_allPurchases.l0 kq x1_1 x2_1 = some r) ∧ Aside0 (kq ≤ k) ∧ Aside0 (Kd.R k140 140 w' w.heap.size (fun _ => True) v1 x1_1) ∧ Aside0 (Below w.heap.size w w'))
 case atStart => exact ⟨(y181), (1), (by first | rfl | (simp; done) | (simp [*]; done) | (simp only [i64_w]; done) | (simp [i64_w]; done)), H', ⟨Nat.le_refl _⟩, ⟨by (with_reducible repeat (first | apply Kd.R_alloc | apply Kd.R_drewN | apply Kd.R_drew)); exact HO183.out⟩, ⟨by repeat (first | (with_reducible first | exact HB.out | apply below_alloc | apply pw_below_drewN | apply below_drew1) | exact HB.out)⟩⟩
 case round =>
  clear H'
  (try clear c1); (try clear p2)
  obtain ⟨x1_1, x2_1, rfl, HA, HK1, HO_1, HB⟩ := hrel
  cases gk with
  | zero => exact absurd HA.out (by simp [impl_allPurchases.l0])
  | succ k1 =>
   have H := HA.out
   clear HA
   simp only [impl_allPurchases.l0] at H
   by_cases c3 : x2_1 ≤ 2
   ·
    rw [if_pos c3] at H
    have c3b0 : decide (x2_1 ≤ 2) = true := decide_eq_true c3
    clear c3
    have H' := aS H
    clear H
    go_wp2
    go_loopg [1, 3] k1 (fun kq v1 v3 w' => ∃ (x1_2 : List (S140)) (x3_2 : Int), v3 = .int .i64 x3_2 ∧ Aside0 (impl_allPurchases.l1 kq x1_2 x2_1 x3_2 = some r) ∧ Aside0 (kq ≤ k1) ∧ Aside0 (Kd.R k140 140 w' w.heap.size (fun _ => True) v1 x1_2) ∧ Aside0 (Below w.heap.size w w'))
    case atStart => exact ⟨(x1_1), (1), (by first | rfl | (simp; done) | (simp [*]; done) | (simp only [i64_w]; done) | (simp [i64_w]; done)), H', ⟨Nat.le_refl _⟩, ⟨by (with_reducible repeat (first | apply Kd.R_alloc | apply Kd.R_drewN | apply Kd.R_drew)); exact HO_1.out⟩, ⟨by repeat (first | (with_reducible first | exact HB.out | apply below_alloc | apply pw_below_drewN | apply below_drew1) | exact HB.out)⟩⟩
    case round =>
     clear H'
     (try clear c1); (try clear p2); (try clear c3); (try clear c3b0); (try clear p2)
     obtain ⟨x1_2, x3_2, rfl, HA, HK2, HO_1, HB⟩ := hrel
     cases gk with
     | zero => exact absurd HA.out (by simp [impl_allPurchases.l1])
     | succ k2 =>
      have H := HA.out
      clear HA
      simp only [impl_allPurchases.l1] at H
      by_cases c4 : x3_2 ≤ 8
      ·
       rw [if_pos c4] at H
       have c4b0 : decide (x3_2 ≤ 8) = true := decide_eq_true c4
       clear c4
       obtain ⟨y184, hy184⟩ : ∃ y_ : List Bool, y_ = (([false, true] : List Bool)) := ⟨_, rfl⟩
       replace H : (impl_allPurchases.l2 k2 x1_2 x2_1 x3_2 y184 (y184.length : Int) 0) = some r := by first | (rw [hy184]; with_reducible exact H) | (have H2_ := (Option.bind_some _ _).symm.trans H; rw [hy184]; with_reducible exact H2_) | (have H2_ := (Option.bind_some _ _).symm.trans H; with_reducible exact H2_) | with_reducible exact H | (rw [hy184]; exact H) | exact H
       have Ny184 := aS hy184
       clear hy184
       have H' := aS H
       clear H
       go_wp2_with (first | ((with_reducible refine gate_dst (N := 17) rfl ?_); refine Kd.R_lit Kd.bool _ 4 ?hg (N := 17) ?hd (xs := ([false, true] : List Bool)) (inner := [.bool false, .bool true]) (ok := fun _ => True) (okp := fun _ => True) ?hr ?hp (fun _ hk => hk) trivial (Below.refl _ _) (Nat.le_refl _) (by simp) ?_; (case hd => rfl); (case hg => rfl); (case hr => first | (go_simp; done) | (go_simp; rfl)); (case hp => exact (Reps.one (show Kd.M Kd.bool _ _ _ false [.bool false] from rfl) (Reps.one (show Kd.M Kd.bool _ _ _ true [.bool true] from rfl) (Reps.none _ _)))); intro v185 w5 ho6 hb hg_ hnew_; clear hg_ hnew_; (first | rw [← Ny184.out] at ho6 | (simp only [Int.reduceToNat] at ho6; rw [← Ny184.out] at ho6)); have n0_ := aS (Kd.R_below (sR HO_1.out) hb); have n1_ := aS (Kd.R_lower ho6 (below_size (sW HB.out))); have n2_ := aS (below_step (sW HB.out) hb); clear HO_1 HB; have HO_1 := n0_; have HO186 := n1_; have HB := n2_; clear n0_ n1_ n2_; clear hb ho6; obtain ⟨Ao7, co7, eo7⟩ := Kd.R_slice HO186.out; subst eo7))
       go_loopg [1, 19] k2 (fun kq v1 v19 w' => ∃ (x1_3 : List (S140)) (x19_3 : Int), v19 = .int .i64 x19_3 ∧ Aside0 (impl_allPurchases.l2 kq x1_3 x2_1 x3_2 y184 (y184.length : Int) x19_3 = some r) ∧ Aside0 (kq ≤ k2) ∧ Aside0 (Kd.R k140 140 w' w.heap.size (fun _ => True) v1 x1_3) ∧ Aside0 (Kd.R Kd.bool 4 w' w.heap.size (fun _ => True) (.slice Ao7 y184.length co7) y184) ∧ Aside0 (Below w.heap.size w w'))
       case atStart => exact ⟨(x1_2), (0), (by first | rfl | (simp; done) | (simp [*]; done) | (simp only [i64_w]; done) | (simp [i64_w]; done)), H', ⟨Nat.le_refl _⟩, ⟨by (with_reducible repeat (first | apply Kd.R_alloc | apply Kd.R_drewN | apply Kd.R_drew)); exact HO_1.out⟩, ⟨by (with_reducible repeat (first | apply Kd.R_alloc | apply Kd.R_drewN | apply Kd.R_drew)); exact HO186.out⟩, ⟨by repeat (first | (with_reducible first | exact HB.out | apply below_alloc | apply pw_below_drewN | apply below_drew1) | exact HB.out)⟩⟩
       case round =>
        clear H'
        (try clear c1); (try clear p2); (try clear c3); (try clear c3b0); (try clear c4); (try clear c4b0); (try clear p2)
        obtain ⟨x1_3, x19_3, rfl, HA, HK3, HO_1, HO_17, HB⟩ := hrel
        cases gk with
        | zero => exact absurd HA.out (by simp [impl_allPurchases.l2])
        | succ k3 =>
         have H := HA.out
         clear HA
         simp only [impl_allPurchases.l2] at H
         by_cases c8 : x19_3 < (y184.length : Int)
         ·
          rw [if_pos c8] at H
          have c8b0 : decide (x19_3 < (y184.length : Int)) = true := decide_eq_true c8
          clear c8
          by_cases c9 : 0 ≤ x19_3
          ·
           rw [if_pos c9] at H
           have c9b0 : decide (0 ≤ x19_3) = true := decide_eq_true c9
           clear c9
           by_cases c10 : x19_3 < (y184.length : Int)
           ·
            rw [if_pos c10] at H
            have c10b0 : decide (x19_3 < (y184.length : Int)) = true := decide_eq_true c10
            clear c10
            have H' := aS H
            clear H
            have p187 : 0 ≤ (x19_3 : Int) := of_decide_eq_true (by first | (with_reducible assumption) | assumption)
            have q187 : x19_3 < (y184.length : Int) := of_decide_eq_true (by first | (with_reducible assumption) | assumption)
            obtain ⟨ad187, e187, hx187_0⟩ := Kd.at_bool (Kd.R_reads' HO_17.out).2.2 x19_3 p187 q187
            cases e187
            replace p187 := eq_true p187
            replace q187 := eq_true q187
            go_wp2
            go_loopg [1, 6] k3 (fun kq v1 v6 w' => ∃ (x1_4 : List (S140)) (x6_4 : Int), v6 = .int .i64 x6_4 ∧ Aside0 (impl_allPurchases.l3 kq x1_4 x2_1 x3_2 (rdOf false y184 x19_3) x6_4 y184 (y184.length : Int) x19_3 = some r) ∧ Aside0 (kq ≤ k3) ∧ Aside0 (Kd.R k140 140 w' w.heap.size (fun _ => True) v1 x1_4) ∧ Aside0 (Kd.R Kd.bool 4 w' w.heap.size (fun _ => True) (.slice (some ad187) y184.length co7) y184) ∧ Aside0 (Below w.heap.size w w'))
            case atStart => exact ⟨(x1_3), (0), (by first | rfl | (simp; done) | (simp [*]; done) | (simp only [i64_w]; done) | (simp [i64_w]; done)), H', ⟨Nat.le_refl _⟩, ⟨by (with_reducible repeat (first | apply Kd.R_alloc | apply Kd.R_drewN | apply Kd.R_drew)); exact HO_1.out⟩, ⟨by (with_reducible repeat (first | apply Kd.R_alloc | apply Kd.R_drewN | apply Kd.R_drew)); exact HO_17.out⟩, ⟨by repeat (first | (with_reducible first | exact HB.out | apply below_alloc | apply pw_below_drewN | apply below_drew1) | exact HB.out)⟩⟩
            case round =>
             clear H'
             (try clear c1); (try clear p1); (try clear q1); (try clear hx1); (try clear p2); (try clear c3); (try clear c3b0); (try clear c4); (try clear c4b0); (try clear c8); (try clear c8b0); (try clear c9); (try clear c9b0); (try clear c10); (try clear c10b0); (try clear hx187_0); (try clear p187); (try clear p2); (try clear q187)
             obtain ⟨x1_4, x6_4, rfl, HA, HK4, HO_1, HO_17, HB⟩ := hrel
             cases gk with
             | zero => exact absurd HA.out (by simp [impl_allPurchases.l3])
             | succ k4 =>
              have H := HA.out
              clear HA
              simp only [impl_allPurchases.l3] at H
              by_cases c11 : x6_4 ≤ x3_2
              ·
               rw [if_pos c11] at H
               have c11b0 : decide (x6_4 ≤ x3_2) = true := decide_eq_true c11
               clear c11
               replace H := Option.bind_eq_some_iff.mp H
               obtain ⟨t189, A120, H⟩ := H
               replace H : (if t189 = true then ((impl_blocksOf.f x6_4 (wrap64 (x3_2 - x6_4)) (rdOf false y184 x19_3)).bind fun t190 => (if t190 = x2_1 then (if x1_4.length < 5864062014805 then (impl_allPurchases.l3 k4 (x1_4 ++ [(⟨x6_4, wrap64 (x3_2 - x6_4), (rdOf false y184 x19_3)⟩ : S140)]) x2_1 x3_2 (rdOf false y184 x19_3) (wrap64 (x6_4 + 1)) y184 (y184.length : Int) x19_3) else (none)) else (impl_allPurchases.l3 k4 x1_4 x2_1 x3_2 (rdOf false y184 x19_3) (wrap64 (x6_4 + 1)) y184 (y184.length : Int) x19_3))) else (impl_allPurchases.l3 k4 x1_4 x2_1 x3_2 (rdOf false y184 x19_3) (wrap64 (x6_4 + 1)) y184 (y184.length : Int) x19_3)) = some r := H
               have A12 := aS A120
               clear A120
               by_cases c13 : t189 = true
               ·
                subst c13
                have H1 : ((impl_blocksOf.f x6_4 (wrap64 (x3_2 - x6_4)) (rdOf false y184 x19_3)).bind fun t190 => (if t190 = x2_1 then (if x1_4.length < 5864062014805 then (impl_allPurchases.l3 k4 (x1_4 ++ [(⟨x6_4, wrap64 (x3_2 - x6_4), (rdOf false y184 x19_3)⟩ : S140)]) x2_1 x3_2 (rdOf false y184 x19_3) (wrap64 (x6_4 + 1)) y184 (y184.length : Int) x19_3) else (none)) else (impl_allPurchases.l3 k4 x1_4 x2_1 x3_2 (rdOf false y184 x19_3) (wrap64 (x6_4 + 1)) y184 (y184.length : Int) x19_3))) = some r := by rw [if_pos rfl] at H; exact H
                clear H
                have H := H1
                clear H1
                replace H := Option.bind_eq_some_iff.mp H
                obtain ⟨t190, A140, H⟩ := H
                replace H : (if t190 = x2_1 then (if x1_4.length < 5864062014805 then (impl_allPurchases.l3 k4 (x1_4 ++ [(⟨x6_4, wrap64 (x3_2 - x6_4), (rdOf false y184 x19_3)⟩ : S140)]) x2_1 x3_2 (rdOf false y184 x19_3) (wrap64 (x6_4 + 1)) y184 (y184.length : Int) x19_3) else (none)) else (impl_allPurchases.l3 k4 x1_4 x2_1 x3_2 (rdOf false y184 x19_3) (wrap64 (x6_4 + 1)) y184 (y184.length : Int) x19_3)) = some r := H
                have A14 := aS A140
                clear A140
                by_cases c15 : t190 = x2_1
                ·
                 rw [if_pos c15] at H
                 have c15b0 : (t190 == x2_1) = true := beq_iff_eq.mpr c15
                 have c15b1 : (t190 != x2_1) = false := bne_eq_false_iff_eq.mpr c15
                 clear c15
                 by_cases c16 : x1_4.length < 5864062014805
                 ·
                  rw [if_pos c16] at H
                  have LMc16 := aS c16
                  clear c16
                  obtain ⟨y191, hy191⟩ : ∃ y_ : List (S140), y_ = (x1_4 ++ [(⟨x6_4, wrap64 (x3_2 - x6_4), (rdOf false y184 x19_3)⟩ : S140)]) := ⟨_, rfl⟩
                  replace H : (impl_allPurchases.l3 k4 y191 x2_1 x3_2 (rdOf false y184 x19_3) (wrap64 (x6_4 + 1)) y184 (y184.length : Int) x19_3) = some r := by first | (rw [hy191]; with_reducible exact H) | (have H2_ := (Option.bind_some _ _).symm.trans H; rw [hy191]; with_reducible exact H2_) | (have H2_ := (Option.bind_some _ _).symm.trans H; with_reducible exact H2_) | with_reducible exact H | (rw [hy191]; exact H) | exact H
                  have Ny191 := aS hy191
                  clear hy191
                  have H' := aS H
                  clear H
                  go_wp2_with (first | ((with_reducible refine gate_dst (N := 7) rfl ?_); refine box_event ?hg (N := 7) ?hd (cs := #[.int .i64 0, .int .i64 0, .bool false]) (t := 140) ?hr ?_; (case hd => rfl); (case hg => rfl); (case hr => first | (go_simp; done) | (go_simp; rfl)); intro gb188 hg w17 hbox hb; have n0_ := aS (Kd.R_below (Kd.R_elderB (sR HO_1.out) gb188 (Nat.le_of_eq hg.symm)) hb); have n1_ := aS (Kd.R_below (sR HO_17.out) hb); have n2_ := aS (below_step (sW HB.out) hb); have n3_ := aS (hbox); have n4_ := aS ((by rw [hg]; exact (below_size (sW HB.out)) : w.heap.size ≤ gb188)); have n5_ := aS ((by rw [hg]; exact (below_size (sW HB.out)) : w.heap.size ≤ gb188)); clear HO_1 HO_17 HB; have HO_1 := n0_; have HO_17 := n1_; have HB := n2_; have BK188 := n3_; have GW188 := n4_; have GE188 := n5_; clear n0_ n1_ n2_ n3_ n4_ n5_; clear hb hbox hg; have hcz18_0 : w17.cell? ⟨gb188, 0, none⟩ = some (.int .i64 0) := (blk_cell BK188.out 0).trans rfl; have hcz18_1 : w17.cell? ⟨gb188, 1, none⟩ = some (.int .i64 0) := (blk_cell BK188.out 1).trans rfl; have hcz18_2 : w17.cell? ⟨gb188, 2, none⟩ = some (.bool false) := (blk_cell BK188.out 2).trans rfl; have hfz18_0 := blk_frozen BK188.out 0; have hfz18_1 := blk_frozen BK188.out 1; have hfz18_2 := blk_frozen BK188.out 2) | ((with_reducible refine gate_callee (f := 124) rfl ?_); refine goesL_ (some 35) rfl rfl Try.func124 (by kernel_rfl) rfl #[.agg #[.int .i64 x6_4, .int .i64 (wrap64 (x3_2 - x6_4)), .bool (rdOf false y184 x19_3)]] rfl sG ?_; (with_reducible refine (impl_ValidPurchase.calls k4 x6_4 (wrap64 (x3_2 - x6_4)) (rdOf false y184 x19_3) true _ A12.out).mono ?_); rintro e w19 ⟨rfl, hb⟩; refine ⟨_, rfl, ?_⟩; have n0_ := aS (Kd.R_below (sR (Kd.R_mono (Kd.R_far (p := ⟨gb188, 2, none⟩) (Kd.R_far (p := ⟨gb188, 1, none⟩) (Kd.R_far (p := ⟨gb188, 0, none⟩) (Kd.R_mono HO_1.out (fun k_ hk => (⟨hk, hk.2⟩ : _ ∧ k_ ≠ gb188))) (fun _ hk => hk.2) (.int .i64 x6_4)) (fun _ hk => hk.2) (.int .i64 (wrap64 (x3_2 - x6_4)))) (fun _ hk => hk.2) (.bool (rdOf false y184 x19_3))) (fun _ h_ => h_.1))) hb); have n1_ := aS (Kd.R_below (sR (Kd.R_mono (Kd.R_far (p := ⟨gb188, 2, none⟩) (Kd.R_far (p := ⟨gb188, 1, none⟩) (Kd.R_far (p := ⟨gb188, 0, none⟩) (Kd.R_types HO_17.out BK188.out (by decide)) (fun _ hk => hk.2) (.int .i64 x6_4)) (fun _ hk => hk.2) (.int .i64 (wrap64 (x3_2 - x6_4)))) (fun _ hk => hk.2) (.bool (rdOf false y184 x19_3))) (fun _ h_ => h_.1))) hb); have n2_ := aS (blk_below (g := gb188) (o := .cells #[.int .i64 x6_4, .int .i64 (wrap64 (x3_2 - x6_4)), .bool (rdOf false y184 x19_3)] 140 (0, 0)) (by (with_reducible repeat (first | refine blk_drewN ?_ _ | refine blk_drew ?_ | refine blk_alloc ?_ _)); refine blk_put (cs := #[.int .i64 x6_4, .int .i64 (wrap64 (x3_2 - x6_4)), .bool false]) ?_ 2 _ rfl; (with_reducible repeat (first | refine blk_drewN ?_ _ | refine blk_drew ?_ | refine blk_alloc ?_ _)); refine blk_put (cs := #[.int .i64 x6_4, .int .i64 0, .bool false]) ?_ 1 _ rfl; (with_reducible repeat (first | refine blk_drewN ?_ _ | refine blk_drew ?_ | refine blk_alloc ?_ _)); refine blk_put (cs := #[.int .i64 0, .int .i64 0, .bool false]) ?_ 0 _ rfl; (with_reducible repeat (first | refine blk_drewN ?_ _ | refine blk_drew ?_ | refine blk_alloc ?_ _)); exact BK188.out) hb); have n3_ := aS (below_step (sW HB.out) hb); clear HO_1 HO_17 BK188 HB; have HO_1 := n0_; have HO_17 := n1_; have BK188 := n2_; have HB := n3_; clear n0_ n1_ n2_ n3_; (try clear hb); (try clear hb2); (try clear hk); (try clear hi); have hcz20_0 : w19.cell? ⟨gb188, 0, none⟩ = some (.int .i64 x6_4) := (blk_cell BK188.out 0).trans rfl; have hcz20_1 : w19.cell? ⟨gb188, 1, none⟩ = some (.int .i64 (wrap64 (x3_2 - x6_4))) := (blk_cell BK188.out 1).trans rfl; have hcz20_2 : w19.cell? ⟨gb188, 2, none⟩ = some (.bool (rdOf false y184 x19_3)) := (blk_cell BK188.out 2).trans rfl; have hfz20_0 := blk_frozen BK188.out 0; have hfz20_1 := blk_frozen BK188.out 1; have hfz20_2 := blk_frozen BK188.out 2) | (go_at_call 110; (with_reducible refine (impl_blocksOf.calls x6_4 (wrap64 (x3_2 - x6_4)) (rdOf false y184 x19_3) t190 _ A14.out).mono ?_); rintro e w21 ⟨rfl, hb⟩; have n0_ := aS (Kd.R_below (sR HO_1.out) hb); have n1_ := aS (Kd.R_below (sR HO_17.out) hb); have n2_ := aS (blk_below (g := gb188) (o := .cells #[.int .i64 x6_4, .int .i64 (wrap64 (x3_2 - x6_4)), .bool (rdOf false y184 x19_3)] 140 (0, 0)) (sB BK188.out) hb); have n3_ := aS (below_step (sW HB.out) hb); clear HO_1 HO_17 BK188 HB; have HO_1 := n0_; have HO_17 := n1_; have BK188 := n2_; have HB := n3_; clear n0_ n1_ n2_ n3_; (try clear hb); (try clear hb2); (try clear hk); (try clear hi); have hcz22_0 : w21.cell? ⟨gb188, 0, none⟩ = some (.int .i64 x6_4) := (blk_cell BK188.out 0).trans rfl; have hcz22_1 : w21.cell? ⟨gb188, 1, none⟩ = some (.int .i64 (wrap64 (x3_2 - x6_4))) := (blk_cell BK188.out 1).trans rfl; have hcz22_2 : w21.cell? ⟨gb188, 2, none⟩ = some (.bool (rdOf false y184 x19_3)) := (blk_cell BK188.out 2).trans rfl; have hfz22_0 := blk_frozen BK188.out 0; have hfz22_1 := blk_frozen BK188.out 1; have hfz22_2 := blk_frozen BK188.out 2) | ((with_reducible refine gate_builtin (b := .append) (xs := #[.tmp 42, .tmp 44]) rfl ?_); at_builtin; refine Kd.R_append k140 (w0 := w) w.heap.size rfl (.tmp 42) (.tmp 44) 115 140 (.agg #[(.int .i64 0), (.int .i64 0), (.bool false)]) 24 rfl Try.underlying115 info140 rfl (by decide) (by omega) u1 x1_4 (⟨x6_4, wrap64 (x3_2 - x6_4), (rdOf false y184 x19_3)⟩ : S140) [.int .i64 x6_4, .int .i64 (wrap64 (x3_2 - x6_4)), .bool (rdOf false y184 x19_3)] (fun k_ => k_ ≠ gb188) (fun _ => False) rfl rfl ?aP (fun _ hk => hk.elim) ?aF ?aO ?aB ?aS ?aL ?_; (case aP => exact k140_mkM _ _ _ (⟨x6_4, wrap64 (x3_2 - x6_4), (rdOf false y184 x19_3)⟩ : S140)); (case aB => exact (sW HB.out)); (case aF => exact (fun k_ hk => Kd.freshB (g := gb188) (o := .cells #[.int .i64 x6_4, .int .i64 (wrap64 (x3_2 - x6_4)), .bool (rdOf false y184 x19_3)] 140 (0, 0)) (sB BK188.out) k_ hk)); (case aO => exact (sR (Kd.R_mono HO_1.out (fun _ hk => hk.2)))); (case aS => exact (below_size (sW HB.out))); (case aL => have := LMc16.out; omega); intro v192 w23 ho hb hg hat; rw [← Ny191.out] at ho; have n0_ := aS (Kd.R_over' (sR HO_17.out) (Kd.R_typed (sR HO_1.out)) (by decide) hg); have n1_ := aS (blk_grown (g := gb188) (o := .cells #[.int .i64 x6_4, .int .i64 (wrap64 (x3_2 - x6_4)), .bool (rdOf false y184 x19_3)] 140 (0, 0)) (sB BK188.out) hg (Kd.R_away HO_1.out (fun _ hk => hk.2))); have n2_ := aS (hb); have n3_ := aS (ho); clear HO_17 BK188 HB HO_1; have HO_17 := n0_; have BK188 := n1_; have HB := n2_; have HO193 := n3_; clear n0_ n1_ n2_ n3_; clear ho hb hg hat))
                  go_roundg k4
                  case measure => have := HK1.out; have := HK2.out; have := HK3.out; have := HK4.out; omega
                  case rel => exact ⟨(y191), (wrap64 (x6_4 + 1)), (by first | rfl | (simp; done) | (simp [*]; done) | (simp only [i64_w]; done) | (simp [i64_w]; done)), H', ⟨by have := HK1.out; have := HK2.out; have := HK3.out; have := HK4.out; omega⟩, ⟨by (with_reducible repeat (first | apply Kd.R_alloc | apply Kd.R_drewN | apply Kd.R_drew)); exact Kd.R_mono HO193.out (fun _ hk => trivial)⟩, ⟨by (with_reducible repeat (first | apply Kd.R_alloc | apply Kd.R_drewN | apply Kd.R_drew)); exact HO_17.out⟩, ⟨by repeat (first | (with_reducible first | exact HB.out | apply below_alloc | apply pw_below_drewN | apply below_drew1 | refine below_set ?_ GE188.out) | exact HB.out)⟩⟩
                 ·
                  rw [if_neg c16] at H
                  exact absurd H (by simp)
                ·
                 rw [if_neg c15] at H
                 have c15b0 : (t190 == x2_1) = false := beq_eq_false_iff_ne.mpr c15
                 have c15b1 : (t190 != x2_1) = true := bne_iff_ne.mpr c15
                 have H' := aS H
                 clear H
                 go_wp2_with (first | ((with_reducible refine gate_dst (N := 7) rfl ?_); refine box_event ?hg (N := 7) ?hd (cs := #[.int .i64 0, .int .i64 0, .bool false]) (t := 140) ?hr ?_; (case hd => rfl); (case hg => rfl); (case hr => first | (go_simp; done) | (go_simp; rfl)); intro gb188 hg w24 hbox hb; have n0_ := aS (Kd.R_below (Kd.R_elderB (sR HO_1.out) gb188 (Nat.le_of_eq hg.symm)) hb); have n1_ := aS (Kd.R_below (sR HO_17.out) hb); have n2_ := aS (below_step (sW HB.out) hb); have n3_ := aS (hbox); have n4_ := aS ((by rw [hg]; exact (below_size (sW HB.out)) : w.heap.size ≤ gb188)); have n5_ := aS ((by rw [hg]; exact (below_size (sW HB.out)) : w.heap.size ≤ gb188)); clear HO_1 HO_17 HB; have HO_1 := n0_; have HO_17 := n1_; have HB := n2_; have BK188 := n3_; have GW188 := n4_; have GE188 := n5_; clear n0_ n1_ n2_ n3_ n4_ n5_; clear hb hbox hg; have hcz25_0 : w24.cell? ⟨gb188, 0, none⟩ = some (.int .i64 0) := (blk_cell BK188.out 0).trans rfl; have hcz25_1 : w24.cell? ⟨gb188, 1, none⟩ = some (.int .i64 0) := (blk_cell BK188.out 1).trans rfl; have hcz25_2 : w24.cell? ⟨gb188, 2, none⟩ = some (.bool false) := (blk_cell BK188.out 2).trans rfl; have hfz25_0 := blk_frozen BK188.out 0; have hfz25_1 := blk_frozen BK188.out 1; have hfz25_2 := blk_frozen BK188.out 2) | ((with_reducible refine gate_callee (f := 124) rfl ?_); refine goesL_ (some 35) rfl rfl Try.func124 (by kernel_rfl) rfl #[.agg #[.int .i64 x6_4, .int .i64 (wrap64 (x3_2 - x6_4)), .bool (rdOf false y184 x19_3)]] rfl sG ?_; (with_reducible refine (impl_ValidPurchase.calls k4 x6_4 (wrap64 (x3_2 - x6_4)) (rdOf false y184 x19_3) true _ A12.out).mono ?_); rintro e w26 ⟨rfl, hb⟩; refine ⟨_, rfl, ?_⟩; have n0_ := aS (Kd.R_below (sR (Kd.R_mono (Kd.R_far (p := ⟨gb188, 2, none⟩) (Kd.R_far (p := ⟨gb188, 1, none⟩) (Kd.R_far (p := ⟨gb188, 0, none⟩) (Kd.R_mono HO_1.out (fun k_ hk => (⟨hk, hk.2⟩ : _ ∧ k_ ≠ gb188))) (fun _ hk => hk.2) (.int .i64 x6_4)) (fun _ hk => hk.2) (.int .i64 (wrap64 (x3_2 - x6_4)))) (fun _ hk => hk.2) (.bool (rdOf false y184 x19_3))) (fun _ h_ => h_.1))) hb); have n1_ := aS (Kd.R_below (sR (Kd.R_mono (Kd.R_far (p := ⟨gb188, 2, none⟩) (Kd.R_far (p := ⟨gb188, 1, none⟩) (Kd.R_far (p := ⟨gb188, 0, none⟩) (Kd.R_types HO_17.out BK188.out (by decide)) (fun _ hk => hk.2) (.int .i64 x6_4)) (fun _ hk => hk.2) (.int .i64 (wrap64 (x3_2 - x6_4)))) (fun _ hk => hk.2) (.bool (rdOf false y184 x19_3))) (fun _ h_ => h_.1))) hb); have n2_ := aS (blk_below (g := gb188) (o := .cells #[.int .i64 x6_4, .int .i64 (wrap64 (x3_2 - x6_4)), .bool (rdOf false y184 x19_3)] 140 (0, 0)) (by (with_reducible repeat (first | refine blk_drewN ?_ _ | refine blk_drew ?_ | refine blk_alloc ?_ _)); refine blk_put (cs := #[.int .i64 x6_4, .int .i64 (wrap64 (x3_2 - x6_4)), .bool false]) ?_ 2 _ rfl; (with_reducible repeat (first | refine blk_drewN ?_ _ | refine blk_drew ?_ | refine blk_alloc ?_ _)); refine blk_put (cs := #[.int .i64 x6_4, .int .i64 0, .bool false]) ?_ 1 _ rfl; (with_reducible repeat (first | refine blk_drewN ?_ _ | refine blk_drew ?_ | refine blk_alloc ?_ _)); refine blk_put (cs := #[.int .i64 0, .int .i64 0, .bool false]) ?_ 0 _ rfl; (with_reducible repeat (first | refine blk_drewN ?_ _ | refine blk_drew ?_ | refine blk_alloc ?_ _)); exact BK188.out) hb); have n3_ := aS (below_step (sW HB.out) hb); clear HO_1 HO_17 BK188 HB; have HO_1 := n0_; have HO_17 := n1_; have BK188 := n2_; have HB := n3_; clear n0_ n1_ n2_ n3_; (try clear hb); (try clear hb2); (try clear hk); (try clear hi); have hcz27_0 : w26.cell? ⟨gb188, 0, none⟩ = some (.int .i64 x6_4) := (blk_cell BK188.out 0).trans rfl; have hcz27_1 : w26.cell? ⟨gb188, 1, none⟩ = some (.int .i64 (wrap64 (x3_2 - x6_4))) := (blk_cell BK188.out 1).trans rfl; have hcz27_2 : w26.cell? ⟨gb188, 2, none⟩ = some (.bool (rdOf false y184 x19_3)) := (blk_cell BK188.out 2).trans rfl; have hfz27_0 := blk_frozen BK188.out 0; have hfz27_1 := blk_frozen BK188.out 1; have hfz27_2 := blk_frozen BK188.out 2) | (go_at_call 110; (with_reducible refine (impl_blocksOf.calls x6_4 (wrap64 (x3_2 - x6_4)) (rdOf false y184 x19_3) t190 _ A14.out).mono ?_); rintro e w28 ⟨rfl, hb⟩; have n0_ := aS (Kd.R_below (sR HO_1.out) hb); have n1_ := aS (Kd.R_below (sR HO_17.out) hb); have n2_ := aS (blk_below (g := gb188) (o := .cells #[.int .i64 x6_4, .int .i64 (wrap64 (x3_2 - x6_4)), .bool (rdOf false y184 x19_3)] 140 (0, 0)) (sB BK188.out) hb); have n3_ := aS (below_step (sW HB.out) hb); clear HO_1 HO_17 BK188 HB; have HO_1 := n0_; have HO_17 := n1_; have BK188 := n2_; have HB := n3_; clear n0_ n1_ n2_ n3_; (try clear hb); (try clear hb2); (try clear hk); (try clear hi)))
                 go_roundg k4
                 case measure => have := HK1.out; have := HK2.out; have := HK3.out; have := HK4.out; omega
                 case rel => exact ⟨(x1_4), (wrap64 (x6_4 + 1)), (by first | rfl | (simp; done) | (simp [*]; done) | (simp only [i64_w]; done) | (simp [i64_w]; done)), H', ⟨by have := HK1.out; have := HK2.out; have := HK3.out; have := HK4.out; omega⟩, ⟨by (with_reducible repeat (first | apply Kd.R_alloc | apply Kd.R_drewN | apply Kd.R_drew)); exact Kd.R_mono HO_1.out (fun _ hk => trivial)⟩, ⟨by (with_reducible repeat (first | apply Kd.R_alloc | apply Kd.R_drewN | apply Kd.R_drew)); exact HO_17.out⟩, ⟨by repeat (first | (with_reducible first | exact HB.out | apply below_alloc | apply pw_below_drewN | apply below_drew1 | refine below_set ?_ GE188.out) | exact HB.out)⟩⟩
               ·
                replace c13 := Bool.eq_false_iff.mpr c13
                subst c13
                have H1 : (impl_allPurchases.l3 k4 x1_4 x2_1 x3_2 (rdOf false y184 x19_3) (wrap64 (x6_4 + 1)) y184 (y184.length : Int) x19_3) = some r := by rw [if_neg (show ¬ (false = true) by decide)] at H; exact H
                clear H
                have H := H1
                clear H1
                have H' := aS H
                clear H
                go_wp2_with (first | ((with_reducible refine gate_dst (N := 7) rfl ?_); refine box_event ?hg (N := 7) ?hd (cs := #[.int .i64 0, .int .i64 0, .bool false]) (t := 140) ?hr ?_; (case hd => rfl); (case hg => rfl); (case hr => first | (go_simp; done) | (go_simp; rfl)); intro gb188 hg w29 hbox hb; have n0_ := aS (Kd.R_below (Kd.R_elderB (sR HO_1.out) gb188 (Nat.le_of_eq hg.symm)) hb); have n1_ := aS (Kd.R_below (sR HO_17.out) hb); have n2_ := aS (below_step (sW HB.out) hb); have n3_ := aS (hbox); have n4_ := aS ((by rw [hg]; exact (below_size (sW HB.out)) : w.heap.size ≤ gb188)); have n5_ := aS ((by rw [hg]; exact (below_size (sW HB.out)) : w.heap.size ≤ gb188)); clear HO_1 HO_17 HB; have HO_1 := n0_; have HO_17 := n1_; have HB := n2_; have BK188 := n3_; have GW188 := n4_; have GE188 := n5_; clear n0_ n1_ n2_ n3_ n4_ n5_; clear hb hbox hg; have hcz30_0 : w29.cell? ⟨gb188, 0, none⟩ = some (.int .i64 0) := (blk_cell BK188.out 0).trans rfl; have hcz30_1 : w29.cell? ⟨gb188, 1, none⟩ = some (.int .i64 0) := (blk_cell BK188.out 1).trans rfl; have hcz30_2 : w29.cell? ⟨gb188, 2, none⟩ = some (.bool false) := (blk_cell BK188.out 2).trans rfl; have hfz30_0 := blk_frozen BK188.out 0; have hfz30_1 := blk_frozen BK188.out 1; have hfz30_2 := blk_frozen BK188.out 2) | ((with_reducible refine gate_callee (f := 124) rfl ?_); refine goesL_ (some 35) rfl rfl Try.func124 (by kernel_rfl) rfl #[.agg #[.int .i64 x6_4, .int .i64 (wrap64 (x3_2 - x6_4)), .bool (rdOf false y184 x19_3)]] rfl sG ?_; (with_reducible refine (impl_ValidPurchase.calls k4 x6_4 (wrap64 (x3_2 - x6_4)) (rdOf false y184 x19_3) false _ A12.out).mono ?_); rintro e w31 ⟨rfl, hb⟩; refine ⟨_, rfl, ?_⟩; have n0_ := aS (Kd.R_below (sR (Kd.R_mono (Kd.R_far (p := ⟨gb188, 2, none⟩) (Kd.R_far (p := ⟨gb188, 1, none⟩) (Kd.R_far (p := ⟨gb188, 0, none⟩) (Kd.R_mono HO_1.out (fun k_ hk => (⟨hk, hk.2⟩ : _ ∧ k_ ≠ gb188))) (fun _ hk => hk.2) (.int .i64 x6_4)) (fun _ hk => hk.2) (.int .i64 (wrap64 (x3_2 - x6_4)))) (fun _ hk => hk.2) (.bool (rdOf false y184 x19_3))) (fun _ h_ => h_.1))) hb); have n1_ := aS (Kd.R_below (sR (Kd.R_mono (Kd.R_far (p := ⟨gb188, 2, none⟩) (Kd.R_far (p := ⟨gb188, 1, none⟩) (Kd.R_far (p := ⟨gb188, 0, none⟩) (Kd.R_types HO_17.out BK188.out (by decide)) (fun _ hk => hk.2) (.int .i64 x6_4)) (fun _ hk => hk.2) (.int .i64 (wrap64 (x3_2 - x6_4)))) (fun _ hk => hk.2) (.bool (rdOf false y184 x19_3))) (fun _ h_ => h_.1))) hb); have n2_ := aS (blk_below (g := gb188) (o := .cells #[.int .i64 x6_4, .int .i64 (wrap64 (x3_2 - x6_4)), .bool (rdOf false y184 x19_3)] 140 (0, 0)) (by (with_reducible repeat (first | refine blk_drewN ?_ _ | refine blk_drew ?_ | refine blk_alloc ?_ _)); refine blk_put (cs := #[.int .i64 x6_4, .int .i64 (wrap64 (x3_2 - x6_4)), .bool false]) ?_ 2 _ rfl; (with_reducible repeat (first | refine blk_drewN ?_ _ | refine blk_drew ?_ | refine blk_alloc ?_ _)); refine blk_put (cs := #[.int .i64 x6_4, .int .i64 0, .bool false]) ?_ 1 _ rfl; (with_reducible repeat (first | refine blk_drewN ?_ _ | refine blk_drew ?_ | refine blk_alloc ?_ _)); refine blk_put (cs := #[.int .i64 0, .int .i64 0, .bool false]) ?_ 0 _ rfl; (with_reducible repeat (first | refine blk_drewN ?_ _ | refine blk_drew ?_ | refine blk_alloc ?_ _)); exact BK188.out) hb); have n3_ := aS (below_step (sW HB.out) hb); clear HO_1 HO_17 BK188 HB; have HO_1 := n0_; have HO_17 := n1_; have BK188 := n2_; have HB := n3_; clear n0_ n1_ n2_ n3_; (try clear hb); (try clear hb2); (try clear hk); (try clear hi)))
                go_roundg k4
                case measure => have := HK1.out; have := HK2.out; have := HK3.out; have := HK4.out; omega
                case rel => exact ⟨(x1_4), (wrap64 (x6_4 + 1)), (by first | rfl | (simp; done) | (simp [*]; done) | (simp only [i64_w]; done) | (simp [i64_w]; done)), H', ⟨by have := HK1.out; have := HK2.out; have := HK3.out; have := HK4.out; omega⟩, ⟨by (with_reducible repeat (first | apply Kd.R_alloc | apply Kd.R_drewN | apply Kd.R_drew)); exact Kd.R_mono HO_1.out (fun _ hk => trivial)⟩, ⟨by (with_reducible repeat (first | apply Kd.R_alloc | apply Kd.R_drewN | apply Kd.R_drew)); exact HO_17.out⟩, ⟨by repeat (first | (with_reducible first | exact HB.out | apply below_alloc | apply pw_below_drewN | apply below_drew1 | refine below_set ?_ GE188.out) | exact HB.out)⟩⟩
              ·
               rw [if_neg c11] at H
               have c11b0 : decide (x6_4 ≤ x3_2) = false := decide_eq_false c11
               clear c11
               have H' := aS H
               clear H
               go_wp2
               go_roundg k4
               case measure => have := HK1.out; have := HK2.out; have := HK3.out; have := HK4.out; omega
               case rel => exact ⟨(x1_4), (wrap64 (x19_3 + 1)), (by first | rfl | (simp; done) | (simp [*]; done) | (simp only [i64_w]; done) | (simp [i64_w]; done)), H', ⟨by have := HK1.out; have := HK2.out; have := HK3.out; have := HK4.out; omega⟩, ⟨by (with_reducible repeat (first | apply Kd.R_alloc | apply Kd.R_drewN | apply Kd.R_drew)); exact HO_1.out⟩, ⟨by (with_reducible repeat (first | apply Kd.R_alloc | apply Kd.R_drewN | apply Kd.R_drew)); exact HO_17.out⟩, ⟨by repeat (first | (with_reducible first | exact HB.out | apply below_alloc | apply pw_below_drewN | apply below_drew1) | exact HB.out)⟩⟩
           ·
            rw [if_neg c10] at H
            exact absurd H (by simp)
          ·
           rw [if_neg c9] at H
           exact absurd H (by simp)
         ·
          rw [if_neg c8] at H
          have c8b0 : decide (x19_3 < (y184.length : Int)) = false := decide_eq_false c8
          clear c8
          have H' := aS H
          clear H
          go_wp2
          go_roundg k3
          case measure => have := HK1.out; have := HK2.out; have := HK3.out; omega
          case rel => exact ⟨(x1_3), (wrap64 (x3_2 + 1)), (by first | rfl | (simp; done) | (simp [*]; done) | (simp only [i64_w]; done) | (simp [i64_w]; done)), H', ⟨by have := HK1.out; have := HK2.out; have := HK3.out; omega⟩, ⟨by (with_reducible repeat (first | apply Kd.R_alloc | apply Kd.R_drewN | apply Kd.R_drew)); exact HO_1.out⟩, ⟨by repeat (first | (with_reducible first | exact HB.out | apply below_alloc | apply pw_below_drewN | apply below_drew1) | exact HB.out)⟩⟩
      ·
       rw [if_neg c4] at H
       have c4b0 : decide (x3_2 ≤ 8) = false := decide_eq_false c4
       clear c4
       have H' := aS H
       clear H
       go_wp2
       go_roundg k2
       case measure => have := HK1.out; have := HK2.out; omega
       case rel => exact ⟨(x1_2), (wrap64 (x2_1 + 1)), (by first | rfl | (simp; done) | (simp [*]; done) | (simp only [i64_w]; done) | (simp [i64_w]; done)), H', ⟨by have := HK1.out; have := HK2.out; omega⟩, ⟨by (with_reducible repeat (first | apply Kd.R_alloc | apply Kd.R_drewN | apply Kd.R_drew)); exact HO_1.out⟩, ⟨by repeat (first | (with_reducible first | exact HB.out | apply below_alloc | apply pw_below_drewN | apply below_drew1) | exact HB.out)⟩⟩
   ·
    rw [if_neg c3] at H
    have c3b0 : decide (x2_1 ≤ 2) = false := decide_eq_false c3
    clear c3
    obtain rfl := Option.some.inj H
    go_wp2
    go_ret
    exact ⟨_, by first | rfl | (simp [errW_none, errW_some, i64_w]; done) | (simp [errW_none, errW_some] <;> rfl) | (simp [*, errW_none, errW_some] <;> rfl), by (with_reducible repeat (first | apply Kd.R_alloc | apply Kd.R_drewN | apply Kd.R_drew)); exact HO_1.out, by repeat (first | (with_reducible first | exact HB.out | apply below_alloc | apply pw_below_drewN | apply below_drew1) | exact HB.out)⟩

/-! ### impl_partsOf: function 123 -/
def impl_partsOf.f (a0_0 : Int) (a0_1 : Int) (a0_2 : Bool) : Option (Int) := if a0_2 = true then (some (wrap64 ((wrap64 (a0_0 + a0_1)) + 1))) else (some (wrap64 (a0_0 + a0_1)))
set_option maxHeartbeats 8000000 in
set_option maxRecDepth 100000 in
theorem impl_partsOf.calls (a0_0 : Int) (a0_1 : Int) (a0_2 : Bool) (r : Int) (w : World) (h : impl_partsOf.f a0_0 a0_1 a0_2 = some r) :
  Calls Try.prog 123 #[.agg #[.int .i64 a0_0, .int .i64 a0_1, .bool a0_2]] w fun e w' => e = .returned (.int .i64 r) ∧ Below w.heap.size w w' := by
 have hu140 := Try.underlying140
 have HB := aS (Below.refl w.heap.size w)
 have H : (if a0_2 = true then (some (wrap64 ((wrap64 (a0_0 + a0_1)) + 1))) else (some (wrap64 (a0_0 + a0_1)))) = some r := h
 clear h
 by_cases c2 : a0_2 = true
 ·
  subst c2
  have H1 : (some (wrap64 ((wrap64 (a0_0 + a0_1)) + 1))) = some r := by rw [if_pos rfl] at H; exact H
  clear H
  have H := H1
  clear H1
  obtain rfl := Option.some.inj H
  go_enter Try.func123, Try.ntmps123
  go_wp2_with (first | ((with_reducible refine gate_dst (N := 1) rfl ?_); refine box_event ?hg (N := 1) ?hd (cs := #[.int .i64 a0_0, .int .i64 a0_1, .bool true]) (t := 140) ?hr ?_; (case hd => rfl); (case hg => rfl); (case hr => first | (go_simp; done) | (go_simp; rfl)); intro gb194 hg w3 hbox hb; have n0_ := aS (below_step (sW HB.out) hb); have n1_ := aS (hbox); have n2_ := aS ((by rw [hg]; exact (below_size (sW HB.out)) : w.heap.size ≤ gb194)); have n3_ := aS ((by rw [hg]; exact (below_size (sW HB.out)) : w.heap.size ≤ gb194)); clear HB; have HB := n0_; have BK194 := n1_; have GW194 := n2_; have GE194 := n3_; clear n0_ n1_ n2_ n3_; clear hb hbox hg; have hcz4_0 : w3.cell? ⟨gb194, 0, none⟩ = some (.int .i64 a0_0) := (blk_cell BK194.out 0).trans rfl; have hcz4_1 : w3.cell? ⟨gb194, 1, none⟩ = some (.int .i64 a0_1) := (blk_cell BK194.out 1).trans rfl; have hcz4_2 : w3.cell? ⟨gb194, 2, none⟩ = some (.bool true) := (blk_cell BK194.out 2).trans rfl; have hfz4_0 := blk_frozen BK194.out 0; have hfz4_1 := blk_frozen BK194.out 1; have hfz4_2 := blk_frozen BK194.out 2))
  go_ret
  exact ⟨by first | rfl | (simp [errW_none, errW_some, i64_w]; done) | (simp [errW_none, errW_some] <;> rfl) | (simp [*, errW_none, errW_some] <;> rfl), by repeat (first | (with_reducible first | exact HB.out | apply below_alloc | apply pw_below_drewN | apply below_drew1) | exact HB.out)⟩
 ·
  replace c2 := Bool.eq_false_iff.mpr c2
  subst c2
  have H1 : (some (wrap64 (a0_0 + a0_1))) = some r := by rw [if_neg (show ¬ (false = true) by decide)] at H; exact H
  clear H
  have H := H1
  clear H1
  obtain rfl := Option.some.inj H
  go_enter Try.func123, Try.ntmps123
  go_wp2_with (first | ((with_reducible refine gate_dst (N := 1) rfl ?_); refine box_event ?hg (N := 1) ?hd (cs := #[.int .i64 a0_0, .int .i64 a0_1, .bool false]) (t := 140) ?hr ?_; (case hd => rfl); (case hg => rfl); (case hr => first | (go_simp; done) | (go_simp; rfl)); intro gb194 hg w5 hbox hb; have n0_ := aS (below_step (sW HB.out) hb); have n1_ := aS (hbox); have n2_ := aS ((by rw [hg]; exact (below_size (sW HB.out)) : w.heap.size ≤ gb194)); have n3_ := aS ((by rw [hg]; exact (below_size (sW HB.out)) : w.heap.size ≤ gb194)); clear HB; have HB := n0_; have BK194 := n1_; have GW194 := n2_; have GE194 := n3_; clear n0_ n1_ n2_ n3_; clear hb hbox hg; have hcz6_0 : w5.cell? ⟨gb194, 0, none⟩ = some (.int .i64 a0_0) := (blk_cell BK194.out 0).trans rfl; have hcz6_1 : w5.cell? ⟨gb194, 1, none⟩ = some (.int .i64 a0_1) := (blk_cell BK194.out 1).trans rfl; have hcz6_2 : w5.cell? ⟨gb194, 2, none⟩ = some (.bool false) := (blk_cell BK194.out 2).trans rfl; have hfz6_0 := blk_frozen BK194.out 0; have hfz6_1 := blk_frozen BK194.out 1; have hfz6_2 := blk_frozen BK194.out 2))
  go_ret
  exact ⟨by first | rfl | (simp [errW_none, errW_some, i64_w]; done) | (simp [errW_none, errW_some] <;> rfl) | (simp [*, errW_none, errW_some] <;> rfl), by repeat (first | (with_reducible first | exact HB.out | apply below_alloc | apply pw_below_drewN | apply below_drew1) | exact HB.out)⟩

/-! ### impl_purchasesFor: function 108 -/
def impl_purchasesFor.l0 : Nat → Int → List (S140) → List (S140) → Int → Int → Option ((List (S140)))
 | 0, _, _, _, _, _ => none
 | k + 1, x0, x3, x7, x8, x9 => if x9 < x8 then (if 0 ≤ x9 then (if x9 < (x7.length : Int) then ((impl_partsOf.f ((rd_T140 x7 x9).f0) ((rd_T140 x7 x9).f1) ((rd_T140 x7 x9).f2)).bind fun t203 => (if t203 = x0 then (if x3.length < 5864062014805 then (impl_purchasesFor.l0 k x0 (x3 ++ [(⟨(rd_T140 x7 x9).f0, (rd_T140 x7 x9).f1, (rd_T140 x7 x9).f2⟩ : S140)]) x7 x8 (wrap64 (x9 + 1))) else (none)) else (impl_purchasesFor.l0 k x0 x3 x7 x8 (wrap64 (x9 + 1))))) else (none)) else (none)) else (some x3)
def impl_purchasesFor.f (k : Nat) (a0 : Int) : Option ((List (S140))) := (impl_allPurchases.f k).bind fun t198 => (impl_purchasesFor.l0 k a0 (([] : List (S140))) t198 (t198.length : Int) 0)
theorem impl_purchasesFor.mono_l : ∀ k, (∀ y0 y1 y2 y3 y4, LeO (impl_purchasesFor.l0 k y0 y1 y2 y3 y4) (impl_purchasesFor.l0 (k + 1) y0 y1 y2 y3 y4))
 | 0 => fun _ _ _ _ _ r h => by simp [impl_purchasesFor.l0] at h
 | k + 1 => by
  have ih0 := impl_purchasesFor.mono_l k
  ·
   intro y0 y1 y2 y3 y4
   unfold impl_purchasesFor.l0
   repeat' first
   | (with_reducible exact ih0 _ _ _ _ _)
   | (with_reducible exact impl_allPurchases.mono _)
   | (with_reducible exact LeO.refl _)
   | (with_reducible exact LeO.none _)
   | (with_reducible refine LeO.ite ?_ ?_)
   | (with_reducible refine LeO.bind ?_ (fun _ => ?_))
   | exact ih0 _ _ _ _ _
   | exact impl_allPurchases.mono _
   | exact LeO.none _
   | refine LeO.ite ?_ ?_
   | refine LeO.bind ?_ (fun _ => ?_)
theorem impl_purchasesFor.mono : ∀ a0 k, LeO (impl_purchasesFor.f k a0) (impl_purchasesFor.f (k + 1) a0) := by
 intro a0 k
 have ih0 := impl_purchasesFor.mono_l k
 unfold impl_purchasesFor.f
 repeat' first
   | (with_reducible exact ih0 _ _ _ _ _)
   | (with_reducible exact impl_allPurchases.mono _)
   | (with_reducible exact LeO.refl _)
   | (with_reducible exact LeO.none _)
   | (with_reducible refine LeO.ite ?_ ?_)
   | (with_reducible refine LeO.bind ?_ (fun _ => ?_))
   | exact ih0 _ _ _ _ _
   | exact impl_allPurchases.mono _
   | exact LeO.none _
   | refine LeO.ite ?_ ?_
   | refine LeO.bind ?_ (fun _ => ?_)
set_option maxHeartbeats 8000000 in
set_option maxRecDepth 100000 in
theorem impl_purchasesFor.calls (k : Nat) (a0 : Int) (r : List (S140)) (w : World) (h : impl_purchasesFor.f k a0 = some r) :
  Calls Try.prog 108 #[.int .i64 a0] w fun e w' => ∃ v0_ : Value, e = .returned (v0_) ∧ Kd.R k140 140 w' w.heap.size (fun _ => True) v0_ r ∧ Below w.heap.size w w' := by
 have hu140 := Try.underlying140
 have HB := aS (Below.refl w.heap.size w)
 have H : ((impl_allPurchases.f k).bind fun t198 => (impl_purchasesFor.l0 k a0 (([] : List (S140))) t198 (t198.length : Int) 0)) = some r := h
 clear h
 obtain ⟨y195, hy195⟩ : ∃ y_ : List (S140), y_ = (([] : List (S140))) := ⟨_, rfl⟩
 replace H : ((impl_allPurchases.f k).bind fun t198 => (impl_purchasesFor.l0 k a0 y195 t198 (t198.length : Int) 0)) = some r := by first | (rw [hy195]; with_reducible exact H) | (have H2_ := (Option.bind_some _ _).symm.trans H; rw [hy195]; with_reducible exact H2_) | (have H2_ := (Option.bind_some _ _).symm.trans H; with_reducible exact H2_) | with_reducible exact H | (rw [hy195]; exact H) | exact H
 have Ny195 := aS hy195
 clear hy195
 replace H := Option.bind_eq_some_iff.mp H
 obtain ⟨t198, A20, H⟩ := H
 replace H : (impl_purchasesFor.l0 k a0 y195 t198 (t198.length : Int) 0) = some r := H
 have A2 := aS A20
 clear A20
 have H' := aS H
 clear H
 go_enter Try.func108, Try.ntmps108
 go_wp2_with (first | ((with_reducible refine gate_dst (N := 6) rfl ?_); refine Kd.R_lit k140 _ 140 ?hg (N := 6) ?hd (xs := ([] : List (S140))) (inner := []) (ok := fun _ => True) (okp := fun _ => True) ?hr ?hp (fun _ hk => hk) trivial (Below.refl _ _) (Nat.le_refl _) (by simp) ?_; (case hd => rfl); (case hg => rfl); (case hr => first | (go_simp; done) | (go_simp; rfl)); (case hp => exact (Reps.none _ _)); intro v196 w3 ho4 hb hg_ hnew_; clear hg_ hnew_; (first | rw [← Ny195.out] at ho4 | (simp only [Int.reduceToNat] at ho4; rw [← Ny195.out] at ho4)); have n0_ := aS (Kd.R_lower ho4 (below_size (sW HB.out))); have n1_ := aS (below_step (sW HB.out) hb); clear HB; have HO197 := n0_; have HB := n1_; clear n0_ n1_; clear hb ho4) | ((with_reducible refine gate_callee (f := 122) rfl ?_); refine goesL_ (some 7) rfl rfl Try.func122 (by kernel_rfl) rfl #[] rfl sG ?_; (with_reducible refine (impl_allPurchases.calls k  t198 _ A2.out).mono ?_); rintro e w5 ⟨v199, rfl, ho0, hb⟩; refine ⟨_, rfl, ?_⟩; have n0_ := aS (Kd.R_elder' (sR HO197.out) (Kd.R_base ho0) hb); have n1_ := aS (Kd.R_lower (Kd.R_new' ho0 (Kd.R_lt (sR HO197.out))) (below_size (sW HB.out))); have n2_ := aS (below_step (sW HB.out) hb); clear HO197 HB; have HO197 := n0_; have HO200 := n1_; have HB := n2_; clear n0_ n1_ n2_; (try clear hb); (try clear hb2); (try clear hk); (try clear hi); (try clear ho0); obtain ⟨Ao6, co6, eo6⟩ := Kd.R_slice HO200.out; subst eo6))
 (try simp only [Act.put, List.setIfInBounds_toArray, List.set_cons_zero, List.set_cons_succ])
 go_loopg [3, 9] k (fun kq v3 v9 w' => ∃ (x3_1 : List (S140)) (x9_1 : Int), v9 = .int .i64 x9_1 ∧ Aside0 (impl_purchasesFor.l0 kq a0 x3_1 t198 (t198.length : Int) x9_1 = some r) ∧ Aside0 (kq ≤ k) ∧ Aside0 (Kd.R k140 140 w' w.heap.size (fun k_ => some k_ ≠ ((.slice Ao6 t198.length co6) : Value).ownBlock) v3 x3_1) ∧ Aside0 (Kd.R k140 140 w' w.heap.size (fun k_ => some k_ ≠ (v3 : Value).ownBlock) (.slice Ao6 t198.length co6) t198) ∧ Aside0 (Below w.heap.size w w'))
 case atStart => exact ⟨(y195), (0), (by first | rfl | (simp; done) | (simp [*]; done) | (simp only [i64_w]; done) | (simp [i64_w]; done)), H', ⟨Nat.le_refl _⟩, ⟨by (with_reducible repeat (first | apply Kd.R_alloc | apply Kd.R_drewN | apply Kd.R_drew)); exact Kd.R_mono HO197.out (fun _ hk => hk.2)⟩, ⟨by (with_reducible repeat (first | apply Kd.R_alloc | apply Kd.R_drewN | apply Kd.R_drew)); exact Kd.R_mono HO200.out (fun _ hk => hk.2)⟩, ⟨by repeat (first | (with_reducible first | exact HB.out | apply below_alloc | apply pw_below_drewN | apply below_drew1) | exact HB.out)⟩⟩
 case round =>
  clear H'
  (try clear c1); (try clear p2)
  obtain ⟨x3_1, x9_1, rfl, HA, HK1, HO_3, HO_7, HB⟩ := hrel
  cases gk with
  | zero => exact absurd HA.out (by simp [impl_purchasesFor.l0])
  | succ k1 =>
   have H := HA.out
   clear HA
   simp only [impl_purchasesFor.l0] at H
   by_cases c7 : x9_1 < (t198.length : Int)
   ·
    rw [if_pos c7] at H
    have c7b0 : decide (x9_1 < (t198.length : Int)) = true := decide_eq_true c7
    clear c7
    by_cases c8 : 0 ≤ x9_1
    ·
     rw [if_pos c8] at H
     have c8b0 : decide (0 ≤ x9_1) = true := decide_eq_true c8
     clear c8
     by_cases c9 : x9_1 < (t198.length : Int)
     ·
      rw [if_pos c9] at H
      have c9b0 : decide (x9_1 < (t198.length : Int)) = true := decide_eq_true c9
      clear c9
      replace H := Option.bind_eq_some_iff.mp H
      obtain ⟨t203, A100, H⟩ := H
      replace H : (if t203 = a0 then (if x3_1.length < 5864062014805 then (impl_purchasesFor.l0 k1 a0 (x3_1 ++ [(⟨(rd_T140 t198 x9_1).f0, (rd_T140 t198 x9_1).f1, (rd_T140 t198 x9_1).f2⟩ : S140)]) t198 (t198.length : Int) (wrap64 (x9_1 + 1))) else (none)) else (impl_purchasesFor.l0 k1 a0 x3_1 t198 (t198.length : Int) (wrap64 (x9_1 + 1)))) = some r := H
      have A10 := aS A100
      clear A100
      by_cases c11 : t203 = a0
      ·
       rw [if_pos c11] at H
       have c11b0 : (t203 == a0) = true := beq_iff_eq.mpr c11
       have c11b1 : (t203 != a0) = false := bne_eq_false_iff_eq.mpr c11
       clear c11
       by_cases c12 : x3_1.length < 5864062014805
       ·
        rw [if_pos c12] at H
        have LMc12 := aS c12
        clear c12
        obtain ⟨y204, hy204⟩ : ∃ y_ : List (S140), y_ = (x3_1 ++ [(⟨(rd_T140 t198 x9_1).f0, (rd_T140 t198 x9_1).f1, (rd_T140 t198 x9_1).f2⟩ : S140)]) := ⟨_, rfl⟩
        replace H : (impl_purchasesFor.l0 k1 a0 y204 t198 (t198.length : Int) (wrap64 (x9_1 + 1))) = some r := by first | (rw [hy204]; with_reducible exact H) | (have H2_ := (Option.bind_some _ _).symm.trans H; rw [hy204]; with_reducible exact H2_) | (have H2_ := (Option.bind_some _ _).symm.trans H; with_reducible exact H2_) | with_reducible exact H | (rw [hy204]; exact H) | exact H
        have Ny204 := aS hy204
        clear hy204
        have H' := aS H
        clear H
        have p201 : 0 ≤ (x9_1 : Int) := of_decide_eq_true (by first | (with_reducible assumption) | assumption)
        have q201 : x9_1 < (t198.length : Int) := of_decide_eq_true (by first | (with_reducible assumption) | assumption)
        obtain ⟨ad201, e201, hx201_0, hx201_1, hx201_2⟩ := at_T140 (Kd.R_reads' HO_7.out).2.2 x9_1 p201 q201
        cases e201
        replace p201 := eq_true p201
        replace q201 := eq_true q201
        go_wp2_with (first | ((with_reducible refine gate_dst (N := 5) rfl ?_); refine box_event ?hg (N := 5) ?hd (cs := #[.int .i64 0, .int .i64 0, .bool false]) (t := 140) ?hr ?_; (case hd => rfl); (case hg => rfl); (case hr => first | (go_simp; done) | (go_simp; rfl)); intro gb202 hg w13 hbox hb; have n0_ := aS (Kd.R_below (Kd.R_elderB (sR HO_3.out) gb202 (Nat.le_of_eq hg.symm)) hb); have n1_ := aS (Kd.R_below (Kd.R_elderB (sR HO_7.out) gb202 (Nat.le_of_eq hg.symm)) hb); have n2_ := aS (below_step (sW HB.out) hb); have n3_ := aS (hbox); have n4_ := aS ((by rw [hg]; exact (below_size (sW HB.out)) : w.heap.size ≤ gb202)); have n5_ := aS ((by rw [hg]; exact (below_size (sW HB.out)) : w.heap.size ≤ gb202)); clear HO_3 HO_7 HB; have HO_3 := n0_; have HO_7 := n1_; have HB := n2_; have BK202 := n3_; have GW202 := n4_; have GE202 := n5_; clear n0_ n1_ n2_ n3_ n4_ n5_; clear hb hbox hg; have hcz14_0 : w13.cell? ⟨gb202, 0, none⟩ = some (.int .i64 0) := (blk_cell BK202.out 0).trans rfl; have hcz14_1 : w13.cell? ⟨gb202, 1, none⟩ = some (.int .i64 0) := (blk_cell BK202.out 1).trans rfl; have hcz14_2 : w13.cell? ⟨gb202, 2, none⟩ = some (.bool false) := (blk_cell BK202.out 2).trans rfl; have hfz14_0 := blk_frozen BK202.out 0; have hfz14_1 := blk_frozen BK202.out 1; have hfz14_2 := blk_frozen BK202.out 2) | ((with_reducible refine gate_callee (f := 123) rfl ?_); refine goesL_ (some 14) rfl rfl Try.func123 (by kernel_rfl) rfl #[.agg #[.int .i64 ((rd_T140 t198 x9_1).f0), .int .i64 ((rd_T140 t198 x9_1).f1), .bool ((rd_T140 t198 x9_1).f2)]] rfl sG ?_; (with_reducible refine (impl_partsOf.calls ((rd_T140 t198 x9_1).f0) ((rd_T140 t198 x9_1).f1) ((rd_T140 t198 x9_1).f2) t203 _ A10.out).mono ?_); rintro e w15 ⟨rfl, hb⟩; refine ⟨_, rfl, ?_⟩; have n0_ := aS (Kd.R_below (sR (Kd.R_mono (Kd.R_far (p := ⟨gb202, 2, none⟩) (Kd.R_far (p := ⟨gb202, 1, none⟩) (Kd.R_far (p := ⟨gb202, 0, none⟩) (Kd.R_mono HO_3.out (fun k_ hk => (⟨hk, hk.2⟩ : _ ∧ k_ ≠ gb202))) (fun _ hk => hk.2) (.int .i64 ((rd_T140 t198 x9_1).f0))) (fun _ hk => hk.2) (.int .i64 ((rd_T140 t198 x9_1).f1))) (fun _ hk => hk.2) (.bool ((rd_T140 t198 x9_1).f2))) (fun _ h_ => h_.1))) hb); have n1_ := aS (Kd.R_below (sR (Kd.R_mono (Kd.R_far (p := ⟨gb202, 2, none⟩) (Kd.R_far (p := ⟨gb202, 1, none⟩) (Kd.R_far (p := ⟨gb202, 0, none⟩) (Kd.R_mono HO_7.out (fun k_ hk => (⟨hk, hk.2⟩ : _ ∧ k_ ≠ gb202))) (fun _ hk => hk.2) (.int .i64 ((rd_T140 t198 x9_1).f0))) (fun _ hk => hk.2) (.int .i64 ((rd_T140 t198 x9_1).f1))) (fun _ hk => hk.2) (.bool ((rd_T140 t198 x9_1).f2))) (fun _ h_ => h_.1))) hb); have n2_ := aS (blk_below (g := gb202) (o := .cells #[.int .i64 ((rd_T140 t198 x9_1).f0), .int .i64 ((rd_T140 t198 x9_1).f1), .bool ((rd_T140 t198 x9_1).f2)] 140 (0, 0)) (by (with_reducible repeat (first | refine blk_drewN ?_ _ | refine blk_drew ?_ | refine blk_alloc ?_ _)); refine blk_put (cs := #[.int .i64 ((rd_T140 t198 x9_1).f0), .int .i64 ((rd_T140 t198 x9_1).f1), .bool false]) ?_ 2 _ rfl; (with_reducible repeat (first | refine blk_drewN ?_ _ | refine blk_drew ?_ | refine blk_alloc ?_ _)); refine blk_put (cs := #[.int .i64 ((rd_T140 t198 x9_1).f0), .int .i64 0, .bool false]) ?_ 1 _ rfl; (with_reducible repeat (first | refine blk_drewN ?_ _ | refine blk_drew ?_ | refine blk_alloc ?_ _)); refine blk_put (cs := #[.int .i64 0, .int .i64 0, .bool false]) ?_ 0 _ rfl; (with_reducible repeat (first | refine blk_drewN ?_ _ | refine blk_drew ?_ | refine blk_alloc ?_ _)); exact BK202.out) hb); have n3_ := aS (below_step (sW HB.out) hb); clear HO_3 HO_7 BK202 HB; have HO_3 := n0_; have HO_7 := n1_; have BK202 := n2_; have HB := n3_; clear n0_ n1_ n2_ n3_; (try clear hb); (try clear hb2); (try clear hk); (try clear hi); have hcz16_0 : w15.cell? ⟨gb202, 0, none⟩ = some (.int .i64 ((rd_T140 t198 x9_1).f0)) := (blk_cell BK202.out 0).trans rfl; have hcz16_1 : w15.cell? ⟨gb202, 1, none⟩ = some (.int .i64 ((rd_T140 t198 x9_1).f1)) := (blk_cell BK202.out 1).trans rfl; have hcz16_2 : w15.cell? ⟨gb202, 2, none⟩ = some (.bool ((rd_T140 t198 x9_1).f2)) := (blk_cell BK202.out 2).trans rfl; have hfz16_0 := blk_frozen BK202.out 0; have hfz16_1 := blk_frozen BK202.out 1; have hfz16_2 := blk_frozen BK202.out 2) | ((with_reducible refine gate_builtin (b := .append) (xs := #[.tmp 17, .tmp 19]) rfl ?_); at_builtin; refine Kd.R_append k140 (w0 := w) w.heap.size rfl (.tmp 17) (.tmp 19) 115 140 (.agg #[(.int .i64 0), (.int .i64 0), (.bool false)]) 24 rfl Try.underlying115 info140 rfl (by decide) (by omega) u3 x3_1 (⟨(rd_T140 t198 x9_1).f0, (rd_T140 t198 x9_1).f1, (rd_T140 t198 x9_1).f2⟩ : S140) [.int .i64 ((rd_T140 t198 x9_1).f0), .int .i64 ((rd_T140 t198 x9_1).f1), .bool ((rd_T140 t198 x9_1).f2)] (fun k_ => some k_ ≠ (.slice (some ad201) t198.length co6 : Value).ownBlock ∧ k_ ≠ gb202) (fun _ => False) rfl rfl ?aP (fun _ hk => hk.elim) ?aF ?aO ?aB ?aS ?aL ?_; (case aP => exact k140_mkM _ _ _ (⟨(rd_T140 t198 x9_1).f0, (rd_T140 t198 x9_1).f1, (rd_T140 t198 x9_1).f2⟩ : S140)); (case aB => exact (sW HB.out)); (case aF => exact (fun k_ hk => ⟨Kd.fresh' (Kd.R_lt (sR HO_7.out)) k_ hk, Kd.freshB (g := gb202) (o := .cells #[.int .i64 ((rd_T140 t198 x9_1).f0), .int .i64 ((rd_T140 t198 x9_1).f1), .bool ((rd_T140 t198 x9_1).f2)] 140 (0, 0)) (sB BK202.out) k_ hk⟩)); (case aO => exact (sR HO_3.out)); (case aS => exact (below_size (sW HB.out))); (case aL => have := LMc12.out; omega); intro v205 w17 ho hb hg hat; rw [← Ny204.out] at ho; have n0_ := aS (Kd.R_after (ok := (fun k_ => k_ ≠ gb202)) (sR (Kd.R_mono HO_7.out (fun _ hk => ⟨hk.2, hk.1⟩))) hg hat); have n1_ := aS (blk_grown (g := gb202) (o := .cells #[.int .i64 ((rd_T140 t198 x9_1).f0), .int .i64 ((rd_T140 t198 x9_1).f1), .bool ((rd_T140 t198 x9_1).f2)] 140 (0, 0)) (sB BK202.out) hg (Kd.R_away HO_3.out (fun _ hk => hk.2))); have n2_ := aS (hb); have n3_ := aS (ho); clear HO_7 BK202 HB HO_3; have HO_7 := n0_; have BK202 := n1_; have HB := n2_; have HO206 := n3_; clear n0_ n1_ n2_ n3_; clear ho hb hg hat))
        go_roundg k1
        case measure => have := HK1.out; omega
        case rel => exact ⟨(y204), (wrap64 (x9_1 + 1)), (by first | rfl | (simp; done) | (simp [*]; done) | (simp only [i64_w]; done) | (simp [i64_w]; done)), H', ⟨by have := HK1.out; omega⟩, ⟨by (with_reducible repeat (first | apply Kd.R_alloc | apply Kd.R_drewN | apply Kd.R_drew)); exact Kd.R_mono HO206.out (fun _ hk => hk.1)⟩, ⟨by (with_reducible repeat (first | apply Kd.R_alloc | apply Kd.R_drewN | apply Kd.R_drew)); exact Kd.R_mono HO_7.out (fun _ hk => hk.2)⟩, ⟨by repeat (first | (with_reducible first | exact HB.out | apply below_alloc | apply pw_below_drewN | apply below_drew1 | refine below_set ?_ GE202.out) | exact HB.out)⟩⟩
       ·
        rw [if_neg c12] at H
        exact absurd H (by simp)
      ·
       rw [if_neg c11] at H
       have c11b0 : (t203 == a0) = false := beq_eq_false_iff_ne.mpr c11
       have c11b1 : (t203 != a0) = true := bne_iff_ne.mpr c11
       have H' := aS H
       clear H
       have p201 : 0 ≤ (x9_1 : Int) := of_decide_eq_true (by first | (with_reducible assumption) | assumption)
       have q201 : x9_1 < (t198.length : Int) := of_decide_eq_true (by first | (with_reducible assumption) | assumption)
       obtain ⟨ad201, e201, hx201_0, hx201_1, hx201_2⟩ := at_T140 (Kd.R_reads' HO_7.out).2.2 x9_1 p201 q201
       cases e201
       replace p201 := eq_true p201
       replace q201 := eq_true q201
       go_wp2_with (first | ((with_reducible refine gate_dst (N := 5) rfl ?_); refine box_event ?hg (N := 5) ?hd (cs := #[.int .i64 0, .int .i64 0, .bool false]) (t := 140) ?hr ?_; (case hd => rfl); (case hg => rfl); (case hr => first | (go_simp; done) | (go_simp; rfl)); intro gb202 hg w18 hbox hb; have n0_ := aS (Kd.R_below (Kd.R_elderB (sR HO_3.out) gb202 (Nat.le_of_eq hg.symm)) hb); have n1_ := aS (Kd.R_below (Kd.R_elderB (sR HO_7.out) gb202 (Nat.le_of_eq hg.symm)) hb); have n2_ := aS (below_step (sW HB.out) hb); have n3_ := aS (hbox); have n4_ := aS ((by rw [hg]; exact (below_size (sW HB.out)) : w.heap.size ≤ gb202)); have n5_ := aS ((by rw [hg]; exact (below_size (sW HB.out)) : w.heap.size ≤ gb202)); clear HO_3 HO_7 HB; have HO_3 := n0_; have HO_7 := n1_; have HB := n2_; have BK202 := n3_; have GW202 := n4_; have GE202 := n5_; clear n0_ n1_ n2_ n3_ n4_ n5_; clear hb hbox hg; have hcz19_0 : w18.cell? ⟨gb202, 0, none⟩ = some (.int .i64 0) := (blk_cell BK202.out 0).trans rfl; have hcz19_1 : w18.cell? ⟨gb202, 1, none⟩ = some (.int .i64 0) := (blk_cell BK202.out 1).trans rfl; have hcz19_2 : w18.cell? ⟨gb202, 2, none⟩ = some (.bool false) := (blk_cell BK202.out 2).trans rfl; have hfz19_0 := blk_frozen BK202.out 0; have hfz19_1 := blk_frozen BK202.out 1; have hfz19_2 := blk_frozen BK202.out 2) | ((with_reducible refine gate_callee (f := 123) rfl ?_); refine goesL_ (some 14) rfl rfl Try.func123 (by kernel_rfl) rfl #[.agg #[.int .i64 ((rd_T140 t198 x9_1).f0), .int .i64 ((rd_T140 t198 x9_1).f1), .bool ((rd_T140 t198 x9_1).f2)]] rfl sG ?_; (with_reducible refine (impl_partsOf.calls ((rd_T140 t198 x9_1).f0) ((rd_T140 t198 x9_1).f1) ((rd_T140 t198 x9_1).f2) t203 _ A10.out).mono ?_); rintro e w20 ⟨rfl, hb⟩; refine ⟨_, rfl, ?_⟩; have n0_ := aS (Kd.R_below (sR (Kd.R_mono (Kd.R_far (p := ⟨gb202, 2, none⟩) (Kd.R_far (p := ⟨gb202, 1, none⟩) (Kd.R_far (p := ⟨gb202, 0, none⟩) (Kd.R_mono HO_3.out (fun k_ hk => (⟨hk, hk.2⟩ : _ ∧ k_ ≠ gb202))) (fun _ hk => hk.2) (.int .i64 ((rd_T140 t198 x9_1).f0))) (fun _ hk => hk.2) (.int .i64 ((rd_T140 t198 x9_1).f1))) (fun _ hk => hk.2) (.bool ((rd_T140 t198 x9_1).f2))) (fun _ h_ => h_.1))) hb); have n1_ := aS (Kd.R_below (sR (Kd.R_mono (Kd.R_far (p := ⟨gb202, 2, none⟩) (Kd.R_far (p := ⟨gb202, 1, none⟩) (Kd.R_far (p := ⟨gb202, 0, none⟩) (Kd.R_mono HO_7.out (fun k_ hk => (⟨hk, hk.2⟩ : _ ∧ k_ ≠ gb202))) (fun _ hk => hk.2) (.int .i64 ((rd_T140 t198 x9_1).f0))) (fun _ hk => hk.2) (.int .i64 ((rd_T140 t198 x9_1).f1))) (fun _ hk => hk.2) (.bool ((rd_T140 t198 x9_1).f2))) (fun _ h_ => h_.1))) hb); have n2_ := aS (blk_below (g := gb202) (o := .cells #[.int .i64 ((rd_T140 t198 x9_1).f0), .int .i64 ((rd_T140 t198 x9_1).f1), .bool ((rd_T140 t198 x9_1).f2)] 140 (0, 0)) (by (with_reducible repeat (first | refine blk_drewN ?_ _ | refine blk_drew ?_ | refine blk_alloc ?_ _)); refine blk_put (cs := #[.int .i64 ((rd_T140 t198 x9_1).f0), .int .i64 ((rd_T140 t198 x9_1).f1), .bool false]) ?_ 2 _ rfl; (with_reducible repeat (first | refine blk_drewN ?_ _ | refine blk_drew ?_ | refine blk_alloc ?_ _)); refine blk_put (cs := #[.int .i64 ((rd_T140 t198 x9_1).f0), .int .i64 0, .bool false]) ?_ 1 _ rfl; (with_reducible repeat (first | refine blk_drewN ?_ _ | refine blk_drew ?_ | refine blk_alloc ?_ _)); refine blk_put (cs := #[.int .i64 0, .int .i64 0, .bool false]) ?_ 0 _ rfl; (with_reducible repeat (first | refine blk_drewN ?_ _ | refine blk_drew ?_ | refine blk_alloc ?_ _)); exact BK202.out) hb); have n3_ := aS (below_step (sW HB.out) hb); clear HO_3 HO_7 BK202 HB; have HO_3 := n0_; have HO_7 := n1_; have BK202 := n2_; have HB := n3_; clear n0_ n1_ n2_ n3_; (try clear hb); (try clear hb2); (try clear hk); (try clear hi)))
       go_roundg k1
       case measure => have := HK1.out; omega
       case rel => exact ⟨(x3_1), (wrap64 (x9_1 + 1)), (by first | rfl | (simp; done) | (simp [*]; done) | (simp only [i64_w]; done) | (simp [i64_w]; done)), H', ⟨by have := HK1.out; omega⟩, ⟨by (with_reducible repeat (first | apply Kd.R_alloc | apply Kd.R_drewN | apply Kd.R_drew)); exact Kd.R_mono HO_3.out (fun _ hk => hk.1)⟩, ⟨by (with_reducible repeat (first | apply Kd.R_alloc | apply Kd.R_drewN | apply Kd.R_drew)); exact Kd.R_mono HO_7.out (fun _ hk => hk.1)⟩, ⟨by repeat (first | (with_reducible first | exact HB.out | apply below_alloc | apply pw_below_drewN | apply below_drew1 | refine below_set ?_ GE202.out) | exact HB.out)⟩⟩
     ·
      rw [if_neg c9] at H
      exact absurd H (by simp)
    ·
     rw [if_neg c8] at H
     exact absurd H (by simp)
   ·
    rw [if_neg c7] at H
    have c7b0 : decide (x9_1 < (t198.length : Int)) = false := decide_eq_false c7
    clear c7
    obtain rfl := Option.some.inj H
    go_wp2
    go_ret
    exact ⟨_, by first | rfl | (simp [errW_none, errW_some, i64_w]; done) | (simp [errW_none, errW_some] <;> rfl) | (simp [*, errW_none, errW_some] <;> rfl), by (with_reducible repeat (first | apply Kd.R_alloc | apply Kd.R_drewN | apply Kd.R_drew)); exact Kd.R_mono HO_3.out (fun _ hk => trivial), by repeat (first | (with_reducible first | exact HB.out | apply below_alloc | apply pw_below_drewN | apply below_drew1) | exact HB.out)⟩

-- NOT PRINTED: function 85 (impl_bestTackle)

/-! ### impl_ValidTackle: function 111 -/
mutual
def impl_ValidTackle.j0 : Nat → List (S140) → Bool → Option (Bool)
 | 0, _, _ => none
 | k + 1, x0, x12 => if x12 = true then (some false) else (impl_ValidTackle.l0 k x0 (x0.length : Int) 0)
def impl_ValidTackle.l0 : Nat → List (S140) → Int → Int → Option (Bool)
 | 0, _, _, _ => none
 | k + 1, x13, x14, x15 => if x15 < x14 then (if 0 ≤ x15 then (if x15 < (x13.length : Int) then ((impl_ValidPurchase.f k ((rd_T140 x13 x15).f0) ((rd_T140 x13 x15).f1) ((rd_T140 x13 x15).f2)).bind fun t212 => (if t212 = true then (impl_ValidTackle.l0 k x13 x14 (wrap64 (x15 + 1))) else (some false))) else (none)) else (none)) else (some true)
end
def impl_ValidTackle.f (k : Nat) (l0 : List (S140)) : Option (Bool) := if (l0.length : Int) < 1 then (impl_ValidTackle.j0 k l0 true) else (impl_ValidTackle.j0 k l0 (decide ((l0.length : Int) > 6)))
theorem impl_ValidTackle.mono_l : ∀ k, (∀ y0 y1, LeO (impl_ValidTackle.j0 k y0 y1) (impl_ValidTackle.j0 (k + 1) y0 y1)) ∧ (∀ y0 y1 y2, LeO (impl_ValidTackle.l0 k y0 y1 y2) (impl_ValidTackle.l0 (k + 1) y0 y1 y2))
 | 0 => ⟨fun _ _ r h => by simp [impl_ValidTackle.j0] at h, fun _ _ _ r h => by simp [impl_ValidTackle.l0] at h⟩
 | k + 1 => by
  obtain ⟨ih0, ih1⟩ := impl_ValidTackle.mono_l k
  refine ⟨?_, ?_⟩
  ·
   intro y0 y1
   unfold impl_ValidTackle.j0
   repeat' first
   | (with_reducible exact ih0 _ _)
   | (with_reducible exact ih1 _ _ _)
   | (with_reducible exact impl_ValidPurchase.mono _ _ _ _)
   | (with_reducible exact LeO.refl _)
   | (with_reducible exact LeO.none _)
   | (with_reducible refine LeO.ite ?_ ?_)
   | (with_reducible refine LeO.bind ?_ (fun _ => ?_))
   | exact ih0 _ _
   | exact ih1 _ _ _
   | exact impl_ValidPurchase.mono _ _ _ _
   | exact LeO.none _
   | refine LeO.ite ?_ ?_
   | refine LeO.bind ?_ (fun _ => ?_)
  ·
   intro y0 y1 y2
   unfold impl_ValidTackle.l0
   repeat' first
   | (with_reducible exact ih0 _ _)
   | (with_reducible exact ih1 _ _ _)
   | (with_reducible exact impl_ValidPurchase.mono _ _ _ _)
   | (with_reducible exact LeO.refl _)
   | (with_reducible exact LeO.none _)
   | (with_reducible refine LeO.ite ?_ ?_)
   | (with_reducible refine LeO.bind ?_ (fun _ => ?_))
   | exact ih0 _ _
   | exact ih1 _ _ _
   | exact impl_ValidPurchase.mono _ _ _ _
   | exact LeO.none _
   | refine LeO.ite ?_ ?_
   | refine LeO.bind ?_ (fun _ => ?_)
theorem impl_ValidTackle.mono : ∀ a0 k, LeO (impl_ValidTackle.f k a0) (impl_ValidTackle.f (k + 1) a0) := by
 intro a0 k
 obtain ⟨ih0, ih1⟩ := impl_ValidTackle.mono_l k
 unfold impl_ValidTackle.f
 repeat' first
   | (with_reducible exact ih0 _ _)
   | (with_reducible exact ih1 _ _ _)
   | (with_reducible exact impl_ValidPurchase.mono _ _ _ _)
   | (with_reducible exact LeO.refl _)
   | (with_reducible exact LeO.none _)
   | (with_reducible refine LeO.ite ?_ ?_)
   | (with_reducible refine LeO.bind ?_ (fun _ => ?_))
   | exact ih0 _ _
   | exact ih1 _ _ _
   | exact impl_ValidPurchase.mono _ _ _ _
   | exact LeO.none _
   | refine LeO.ite ?_ ?_
   | refine LeO.bind ?_ (fun _ => ?_)
set_option maxHeartbeats 8000000 in
set_option maxRecDepth 100000 in
theorem impl_ValidTackle.calls (k : Nat) (A0 : Option Addr) (c0 : Nat) (l0 : List (S140)) (r : Bool) (w : World) (hr0 : Kd.C k140 w A0 l0.length l0) (hc0 : l0.length ≤ c0) (h : impl_ValidTackle.f k l0 = some r) :
  Calls Try.prog 111 #[.slice A0 l0.length c0] w fun e w' => e = .returned (.bool r) ∧ Below w.heap.size w w' := by
 have hu140 := Try.underlying140
 have HR0 := aS hr0
 have HC0 := aS hc0
 clear hr0 hc0
 have HB := aS (Below.refl w.heap.size w)
 have H : (if (l0.length : Int) < 1 then (impl_ValidTackle.j0 k l0 true) else (impl_ValidTackle.j0 k l0 (decide ((l0.length : Int) > 6)))) = some r := h
 clear h
 have HC2 := aS H
 clear H
 go_enter Try.func111, Try.ntmps111
 go_upto_region 1 with (fail)
 go_cut [12] (fun v12 wc => ∃ (kq : Nat) (x12_1 : Bool), v12 = .bool x12_1 ∧ Aside0 (impl_ValidTackle.j0 kq l0 x12_1 = some r) ∧ Aside0 (kq ≤ k) ∧ Aside0 (Below w.heap.size w wc))
 case first =>
  have H := HC2.out
  clear HC2
  by_cases c3 : (l0.length : Int) < 1
  ·
   rw [if_pos c3] at H
   have c3b0 : decide ((l0.length : Int) < 1) = true := decide_eq_true c3
   have c3b1 : decide (l0.length < 1) = true := decide_eq_true (by omega)
   clear c3
   (first | rw [c3b0] | (simp only [i64_w, i32_w]; rw [c3b0]) | (rw [c3b2]; simp only [Bool.not_false, Bool.not_true]) | skip)
   have H' := aS H
   clear H
   go_wp2
   go_meet
   case rel => exact ⟨_, (true), (by first | rfl | (simp; done) | (simp [*]; done) | (simp only [i64_w]; done) | (simp [i64_w]; done)), H', ⟨by first | omega | exact Nat.le_refl _⟩, ⟨by repeat (first | (with_reducible first | exact HB.out | apply below_alloc | apply pw_below_drewN | apply below_drew1) | exact HB.out)⟩⟩
  ·
   rw [if_neg c3] at H
   have c3b0 : decide ((l0.length : Int) < 1) = false := decide_eq_false c3
   have c3b1 : decide (l0.length < 1) = false := decide_eq_false (by omega)
   clear c3
   (first | rw [c3b0] | (simp only [i64_w, i32_w]; rw [c3b0]) | (rw [c3b2]; simp only [Bool.not_false, Bool.not_true]) | skip)
   have H' := aS H
   clear H
   go_wp2
   go_meet
   case rel => exact ⟨_, (decide ((l0.length : Int) > 6)), (by first | rfl | (simp; done) | (simp [*]; done) | (simp only [i64_w]; done) | (simp [i64_w]; done)), H', ⟨by first | omega | exact Nat.le_refl _⟩, ⟨by repeat (first | (with_reducible first | exact HB.out | apply below_alloc | apply pw_below_drewN | apply below_drew1) | exact HB.out)⟩⟩
 case rest =>
  clear HC2
  (try clear c1); (try clear p2); (try clear c3); (try clear c3b0); (try clear c3b1); (try clear c3b2)
  obtain ⟨kq, x12_1, rfl, HA, HJ1, HB⟩ := hcut
  cases kq with
  | zero => exact absurd HA.out (by simp [impl_ValidTackle.j0])
  | succ kj1 =>
   have H := HA.out
   clear HA
   simp only [impl_ValidTackle.j0] at H
   by_cases c4 : x12_1 = true
   ·
    subst c4
    have H1 : (some false) = some r := by rw [if_pos rfl] at H; exact H
    clear H
    have H := H1
    clear H1
    obtain rfl := Option.some.inj H
    go_wp2
    go_ret
    exact ⟨by first | rfl | (simp [errW_none, errW_some, i64_w]; done) | (simp [errW_none, errW_some] <;> rfl) | (simp [*, errW_none, errW_some] <;> rfl), by repeat (first | (with_reducible first | exact HB.out | apply below_alloc | apply pw_below_drewN | apply below_drew1) | exact HB.out)⟩
   ·
    replace c4 := Bool.eq_false_iff.mpr c4
    subst c4
    have H1 : (impl_ValidTackle.l0 kj1 l0 (l0.length : Int) 0) = some r := by rw [if_neg (show ¬ (false = true) by decide)] at H; exact H
    clear H
    have H := H1
    clear H1
    have H' := aS H
    clear H
    go_wp2
    go_loopg [15] kj1 (fun kq v15 w' => ∃ (x15_2 : Int), v15 = .int .i64 x15_2 ∧ Aside0 (impl_ValidTackle.l0 kq l0 (l0.length : Int) x15_2 = some r) ∧ Aside0 (kq ≤ kj1) ∧ Aside0 (Below w.heap.size w w'))
    case atStart => exact ⟨(0), (by first | rfl | (simp; done) | (simp [*]; done) | (simp only [i64_w]; done) | (simp [i64_w]; done)), H', ⟨Nat.le_refl _⟩, ⟨by repeat (first | (with_reducible first | exact HB.out | apply below_alloc | apply pw_below_drewN | apply below_drew1) | exact HB.out)⟩⟩
    case round =>
     clear H'
     (try clear c1); (try clear p2); (try clear c3); (try clear c3b0); (try clear c3b1); (try clear c3b2); (try clear c4); (try clear p2)
     obtain ⟨x15_2, rfl, HA, HK2, HB⟩ := hrel
     cases gk with
     | zero => exact absurd HA.out (by simp [impl_ValidTackle.l0])
     | succ k2 =>
      have H := HA.out
      clear HA
      simp only [impl_ValidTackle.l0] at H
      by_cases c5 : x15_2 < (l0.length : Int)
      ·
       rw [if_pos c5] at H
       have c5b0 : decide (x15_2 < (l0.length : Int)) = true := decide_eq_true c5
       clear c5
       by_cases c6 : 0 ≤ x15_2
       ·
        rw [if_pos c6] at H
        have c6b0 : decide (0 ≤ x15_2) = true := decide_eq_true c6
        clear c6
        by_cases c7 : x15_2 < (l0.length : Int)
        ·
         rw [if_pos c7] at H
         have c7b0 : decide (x15_2 < (l0.length : Int)) = true := decide_eq_true c7
         clear c7
         replace H := Option.bind_eq_some_iff.mp H
         obtain ⟨t212, A80, H⟩ := H
         replace H : (if t212 = true then (impl_ValidTackle.l0 k2 l0 (l0.length : Int) (wrap64 (x15_2 + 1))) else (some false)) = some r := H
         have A8 := aS A80
         clear A80
         by_cases c9 : t212 = true
         ·
          subst c9
          have H1 : (impl_ValidTackle.l0 k2 l0 (l0.length : Int) (wrap64 (x15_2 + 1))) = some r := by rw [if_pos rfl] at H; exact H
          clear H
          have H := H1
          clear H1
          have H' := aS H
          clear H
          have p210 : 0 ≤ (x15_2 : Int) := of_decide_eq_true (by first | (with_reducible assumption) | assumption)
          have q210 : x15_2 < (l0.length : Int) := of_decide_eq_true (by first | (with_reducible assumption) | assumption)
          obtain ⟨ad210, e210, hx210_0, hx210_1, hx210_2⟩ := at_T140 HR0.out x15_2 p210 q210
          cases e210
          replace hx210_0 := (HB.out.cell (World.block_lt_of_cell? w _ hx210_0)).trans hx210_0
          replace hx210_1 := (HB.out.cell (World.block_lt_of_cell? w _ hx210_1)).trans hx210_1
          replace hx210_2 := (HB.out.cell (World.block_lt_of_cell? w _ hx210_2)).trans hx210_2
          replace p210 := eq_true p210
          replace q210 := eq_true q210
          go_wp2_with (first | ((with_reducible refine gate_dst (N := 4) rfl ?_); (try (refine gate_guard (by rfl) ?_; dsimp only)); refine box_event ?hg (N := 4) ?hd (cs := #[.int .i64 0, .int .i64 0, .bool false]) (t := 140) ?hr ?_; (case hd => rfl); (case hg => rfl); (case hr => first | (go_simp; done) | (go_simp; rfl)); intro gb211 hg w10 hbox hb; have n0_ := aS (below_step (sW HB.out) hb); have n1_ := aS (hbox); have n2_ := aS ((by rw [hg]; exact (below_size (sW HB.out)) : w.heap.size ≤ gb211)); have n3_ := aS ((by rw [hg]; exact (below_size (sW HB.out)) : w.heap.size ≤ gb211)); clear HB; have HB := n0_; have BK211 := n1_; have GW211 := n2_; have GE211 := n3_; clear n0_ n1_ n2_ n3_; clear hb hbox hg; have hcz11_0 : w10.cell? ⟨gb211, 0, none⟩ = some (.int .i64 0) := (blk_cell BK211.out 0).trans rfl; have hcz11_1 : w10.cell? ⟨gb211, 1, none⟩ = some (.int .i64 0) := (blk_cell BK211.out 1).trans rfl; have hcz11_2 : w10.cell? ⟨gb211, 2, none⟩ = some (.bool false) := (blk_cell BK211.out 2).trans rfl; have hfz11_0 := blk_frozen BK211.out 0; have hfz11_1 := blk_frozen BK211.out 1; have hfz11_2 := blk_frozen BK211.out 2) | ((with_reducible refine gate_callee (f := 124) rfl ?_); refine goesL_ (some 20) rfl rfl Try.func124 (by kernel_rfl) rfl #[.agg #[.int .i64 ((rd_T140 l0 x15_2).f0), .int .i64 ((rd_T140 l0 x15_2).f1), .bool ((rd_T140 l0 x15_2).f2)]] rfl sG ?_; (with_reducible refine (impl_ValidPurchase.calls k2 ((rd_T140 l0 x15_2).f0) ((rd_T140 l0 x15_2).f1) ((rd_T140 l0 x15_2).f2) true _ A8.out).mono ?_); rintro e w12 ⟨rfl, hb⟩; refine ⟨_, rfl, ?_⟩; have n0_ := aS (blk_below (g := gb211) (o := .cells #[.int .i64 ((rd_T140 l0 x15_2).f0), .int .i64 ((rd_T140 l0 x15_2).f1), .bool ((rd_T140 l0 x15_2).f2)] 140 (0, 0)) (by (with_reducible repeat (first | refine blk_drewN ?_ _ | refine blk_drew ?_ | refine blk_alloc ?_ _)); refine blk_put (cs := #[.int .i64 ((rd_T140 l0 x15_2).f0), .int .i64 ((rd_T140 l0 x15_2).f1), .bool false]) ?_ 2 _ rfl; (with_reducible repeat (first | refine blk_drewN ?_ _ | refine blk_drew ?_ | refine blk_alloc ?_ _)); refine blk_put (cs := #[.int .i64 ((rd_T140 l0 x15_2).f0), .int .i64 0, .bool false]) ?_ 1 _ rfl; (with_reducible repeat (first | refine blk_drewN ?_ _ | refine blk_drew ?_ | refine blk_alloc ?_ _)); refine blk_put (cs := #[.int .i64 0, .int .i64 0, .bool false]) ?_ 0 _ rfl; (with_reducible repeat (first | refine blk_drewN ?_ _ | refine blk_drew ?_ | refine blk_alloc ?_ _)); exact BK211.out) hb); have n1_ := aS (below_step (sW HB.out) hb); clear BK211 HB; have BK211 := n0_; have HB := n1_; clear n0_ n1_; (try clear hb); (try clear hb2); (try clear hk); (try clear hi)))
          go_roundg k2
          case measure => have := HJ1.out; have := HK2.out; omega
          case rel => exact ⟨(wrap64 (x15_2 + 1)), (by first | rfl | (simp; done) | (simp [*]; done) | (simp only [i64_w]; done) | (simp [i64_w]; done)), H', ⟨by have := HJ1.out; have := HK2.out; omega⟩, ⟨by repeat (first | (with_reducible first | exact HB.out | apply below_alloc | apply pw_below_drewN | apply below_drew1 | refine below_set ?_ GE211.out) | exact HB.out)⟩⟩
         ·
          replace c9 := Bool.eq_false_iff.mpr c9
          subst c9
          have H1 : (some false) = some r := by rw [if_neg (show ¬ (false = true) by decide)] at H; exact H
          clear H
          have H := H1
          clear H1
          obtain rfl := Option.some.inj H
          have p210 : 0 ≤ (x15_2 : Int) := of_decide_eq_true (by first | (with_reducible assumption) | assumption)
          have q210 : x15_2 < (l0.length : Int) := of_decide_eq_true (by first | (with_reducible assumption) | assumption)
          obtain ⟨ad210, e210, hx210_0, hx210_1, hx210_2⟩ := at_T140 HR0.out x15_2 p210 q210
          cases e210
          replace hx210_0 := (HB.out.cell (World.block_lt_of_cell? w _ hx210_0)).trans hx210_0
          replace hx210_1 := (HB.out.cell (World.block_lt_of_cell? w _ hx210_1)).trans hx210_1
          replace hx210_2 := (HB.out.cell (World.block_lt_of_cell? w _ hx210_2)).trans hx210_2
          replace p210 := eq_true p210
          replace q210 := eq_true q210
          go_wp2_with (first | ((with_reducible refine gate_dst (N := 4) rfl ?_); (try (refine gate_guard (by rfl) ?_; dsimp only)); refine box_event ?hg (N := 4) ?hd (cs := #[.int .i64 0, .int .i64 0, .bool false]) (t := 140) ?hr ?_; (case hd => rfl); (case hg => rfl); (case hr => first | (go_simp; done) | (go_simp; rfl)); intro gb211 hg w13 hbox hb; have n0_ := aS (below_step (sW HB.out) hb); have n1_ := aS (hbox); have n2_ := aS ((by rw [hg]; exact (below_size (sW HB.out)) : w.heap.size ≤ gb211)); have n3_ := aS ((by rw [hg]; exact (below_size (sW HB.out)) : w.heap.size ≤ gb211)); clear HB; have HB := n0_; have BK211 := n1_; have GW211 := n2_; have GE211 := n3_; clear n0_ n1_ n2_ n3_; clear hb hbox hg; have hcz14_0 : w13.cell? ⟨gb211, 0, none⟩ = some (.int .i64 0) := (blk_cell BK211.out 0).trans rfl; have hcz14_1 : w13.cell? ⟨gb211, 1, none⟩ = some (.int .i64 0) := (blk_cell BK211.out 1).trans rfl; have hcz14_2 : w13.cell? ⟨gb211, 2, none⟩ = some (.bool false) := (blk_cell BK211.out 2).trans rfl; have hfz14_0 := blk_frozen BK211.out 0; have hfz14_1 := blk_frozen BK211.out 1; have hfz14_2 := blk_frozen BK211.out 2) | ((with_reducible refine gate_callee (f := 124) rfl ?_); refine goesL_ (some 20) rfl rfl Try.func124 (by kernel_rfl) rfl #[.agg #[.int .i64 ((rd_T140 l0 x15_2).f0), .int .i64 ((rd_T140 l0 x15_2).f1), .bool ((rd_T140 l0 x15_2).f2)]] rfl sG ?_; (with_reducible refine (impl_ValidPurchase.calls k2 ((rd_T140 l0 x15_2).f0) ((rd_T140 l0 x15_2).f1) ((rd_T140 l0 x15_2).f2) false _ A8.out).mono ?_); rintro e w15 ⟨rfl, hb⟩; refine ⟨_, rfl, ?_⟩; have n0_ := aS (blk_below (g := gb211) (o := .cells #[.int .i64 ((rd_T140 l0 x15_2).f0), .int .i64 ((rd_T140 l0 x15_2).f1), .bool ((rd_T140 l0 x15_2).f2)] 140 (0, 0)) (by (with_reducible repeat (first | refine blk_drewN ?_ _ | refine blk_drew ?_ | refine blk_alloc ?_ _)); refine blk_put (cs := #[.int .i64 ((rd_T140 l0 x15_2).f0), .int .i64 ((rd_T140 l0 x15_2).f1), .bool false]) ?_ 2 _ rfl; (with_reducible repeat (first | refine blk_drewN ?_ _ | refine blk_drew ?_ | refine blk_alloc ?_ _)); refine blk_put (cs := #[.int .i64 ((rd_T140 l0 x15_2).f0), .int .i64 0, .bool false]) ?_ 1 _ rfl; (with_reducible repeat (first | refine blk_drewN ?_ _ | refine blk_drew ?_ | refine blk_alloc ?_ _)); refine blk_put (cs := #[.int .i64 0, .int .i64 0, .bool false]) ?_ 0 _ rfl; (with_reducible repeat (first | refine blk_drewN ?_ _ | refine blk_drew ?_ | refine blk_alloc ?_ _)); exact BK211.out) hb); have n1_ := aS (below_step (sW HB.out) hb); clear BK211 HB; have BK211 := n0_; have HB := n1_; clear n0_ n1_; (try clear hb); (try clear hb2); (try clear hk); (try clear hi)))
          go_ret
          exact ⟨by first | rfl | (simp [errW_none, errW_some, i64_w]; done) | (simp [errW_none, errW_some] <;> rfl) | (simp [*, errW_none, errW_some] <;> rfl), by repeat (first | (with_reducible first | exact HB.out | apply below_alloc | apply pw_below_drewN | apply below_drew1) | exact HB.out)⟩
        ·
         rw [if_neg c7] at H
         exact absurd H (by simp)
       ·
        rw [if_neg c6] at H
        exact absurd H (by simp)
      ·
       rw [if_neg c5] at H
       have c5b0 : decide (x15_2 < (l0.length : Int)) = false := decide_eq_false c5
       clear c5
       obtain rfl := Option.some.inj H
       go_wp2
       go_ret
       exact ⟨by first | rfl | (simp [errW_none, errW_some, i64_w]; done) | (simp [errW_none, errW_some] <;> rfl) | (simp [*, errW_none, errW_some] <;> rfl), by repeat (first | (with_reducible first | exact HB.out | apply below_alloc | apply pw_below_drewN | apply below_drew1) | exact HB.out)⟩

end Go.Proofs.Ytginmioklkcgbaa.QFnExactFewestBlocks

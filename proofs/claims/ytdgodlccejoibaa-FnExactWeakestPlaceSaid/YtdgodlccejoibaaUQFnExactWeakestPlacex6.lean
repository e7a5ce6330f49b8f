/- What the Go functions of this law compute, each as a Lean function, and that each call comes to that answer; written by a program of this session. No condition. -/
import Derived.Test.YtdgodlccejoibaaUQFnExactWeakestPlacex0
namespace Go.Proofs.Ytdgodlccejoibaa.QFnExactWeakestPlace
open Go.RowKit Go.Proofs.YtdgodlccejoibaaW.PrintWords Go.Proofs.YtdgodlccejoibaaW.PrintLast Go.Proofs.YtdgodlccejoibaaW.PrintMore
attribute [local go_sem] max2_int min2_int max_two min_two max_three min_three max_four min_four   -- for this text's walks alone
set_option linter.unusedVariables false
set_option linter.unusedSimpArgs false

/-! ### spec_l03LengthAt: function 68 -/
mutual
def spec_l03LengthAt.l0 : Nat → List (S68) → List (S37) → Int → Int → Option (Int)
 | 0, _, _, _, _ => none
 | k + 1, x0, x1, x5, x6 => if 0 < (x1.length : Int) then (if x6 < (((rd_T37 x1 0).f0).length : Int) then (if 0 ≤ x6 then (spec_l03LengthAt.l0 k x0 x1 (wrap64 (x5 + ((rd_T44 ((rd_T37 x1 0).f0) x6).f1))) (wrap64 (x6 + 1))) else (none)) else (spec_l03LengthAt.l1 k x0 x1 x5 0)) else (none)
def spec_l03LengthAt.l1 : Nat → List (S68) → List (S37) → Int → Int → Option (Int)
 | 0, _, _, _, _ => none
 | k + 1, x0, x1, x5, x7 => if 0 < (x1.length : Int) then (if x7 < (((rd_T37 x1 0).f1).length : Int) then (if 0 ≤ x7 then (if 0 ≤ (rd ((rd_T37 x1 0).f1) x7) then (if (rd ((rd_T37 x1 0).f1) x7) < (x0.length : Int) then (spec_l03LengthAt.l1 k x0 x1 (wrap64 (x5 - ((rd_T68 x0 (rd ((rd_T37 x1 0).f1) x7)).f2))) (wrap64 (x7 + 1))) else (none)) else (none)) else (none)) else (some x5)) else (none)
end
def spec_l03LengthAt.f (k : Nat) (l0 : List (S68)) (l1 : List (S37)) : Option (Int) := spec_l03LengthAt.l0 k l0 l1 0 0
theorem spec_l03LengthAt.mono_l : ∀ k, (∀ y0 y1 y2 y3, LeO (spec_l03LengthAt.l0 k y0 y1 y2 y3) (spec_l03LengthAt.l0 (k + 1) y0 y1 y2 y3)) ∧ (∀ y0 y1 y2 y3, LeO (spec_l03LengthAt.l1 k y0 y1 y2 y3) (spec_l03LengthAt.l1 (k + 1) y0 y1 y2 y3))
 | 0 => ⟨fun _ _ _ _ r h => by simp [spec_l03LengthAt.l0] at h, fun _ _ _ _ r h => by simp [spec_l03LengthAt.l1] at h⟩
 | k + 1 => by
  obtain ⟨ih0, ih1⟩ := spec_l03LengthAt.mono_l k
  refine ⟨?_, ?_⟩
  ·
   intro y0 y1 y2 y3
   unfold spec_l03LengthAt.l0
   repeat' first
   | (with_reducible exact ih0 _ _ _ _)
   | (with_reducible exact ih1 _ _ _ _)
   | (with_reducible exact LeO.refl _)
   | (with_reducible exact LeO.none _)
   | (with_reducible refine LeO.ite ?_ ?_)
   | (with_reducible refine LeO.bind ?_ (fun _ => ?_))
   | exact ih0 _ _ _ _
   | exact ih1 _ _ _ _
   | exact LeO.none _
   | refine LeO.ite ?_ ?_
   | refine LeO.bind ?_ (fun _ => ?_)
  ·
   intro y0 y1 y2 y3
   unfold spec_l03LengthAt.l1
   repeat' first
   | (with_reducible exact ih0 _ _ _ _)
   | (with_reducible exact ih1 _ _ _ _)
   | (with_reducible exact LeO.refl _)
   | (with_reducible exact LeO.none _)
   | (with_reducible refine LeO.ite ?_ ?_)
   | (with_reducible refine LeO.bind ?_ (fun _ => ?_))
   | exact ih0 _ _ _ _
   | exact ih1 _ _ _ _
   | exact LeO.none _
   | refine LeO.ite ?_ ?_
   | refine LeO.bind ?_ (fun _ => ?_)
theorem spec_l03LengthAt.mono : ∀ a0 a1 k, LeO (spec_l03LengthAt.f k a0 a1) (spec_l03LengthAt.f (k + 1) a0 a1) := by
 intro a0 a1 k
 obtain ⟨ih0, ih1⟩ := spec_l03LengthAt.mono_l k
 unfold spec_l03LengthAt.f
 repeat' first
   | (with_reducible exact ih0 _ _ _ _)
   | (with_reducible exact ih1 _ _ _ _)
   | (with_reducible exact LeO.refl _)
   | (with_reducible exact LeO.none _)
   | (with_reducible refine LeO.ite ?_ ?_)
   | (with_reducible refine LeO.bind ?_ (fun _ => ?_))
   | exact ih0 _ _ _ _
   | exact ih1 _ _ _ _
   | exact LeO.none _
   | refine LeO.ite ?_ ?_
   | refine LeO.bind ?_ (fun _ => ?_)
set_option maxHeartbeats 8000000 in
set_option maxRecDepth 100000 in
theorem spec_l03LengthAt.calls (k : Nat) (A0 : Option Addr) (c0 : Nat) (l0 : List (S68)) (A1 : Option Addr) (c1 : Nat) (l1 : List (S37)) (r : Int) (w : World) (hr0 : Kd.C k68 w A0 l0.length l0) (hc0 : l0.length ≤ c0) (hr1 : Kd.C k37 w A1 l1.length l1) (hc1 : l1.length ≤ c1) (h : spec_l03LengthAt.f k l0 l1 = some r) :
  Calls Try.prog 68 #[.slice A0 l0.length c0, .pointer A1] w fun e w' => e = .returned (.int .i64 r) ∧ Drawn0 w w' := by
 have HR0 := aS hr0
 have HC0 := aS hc0
 clear hr0 hc0
 have HR1 := aS hr1
 have HC1 := aS hc1
 clear hr1 hc1
 have H : (spec_l03LengthAt.l0 k l0 l1 0 0) = some r := h
 clear h
 have H' := aS H
 clear H
 go_enter Try.func68, Try.ntmps68
 go_wp2
 go_loopg [5, 6] k (fun kq v5 v6 w' => ∃ (x5_1 : Int) (x6_1 : Int), v5 = .int .i64 x5_1 ∧ v6 = .int .i64 x6_1 ∧ Aside0 (spec_l03LengthAt.l0 kq l0 l1 x5_1 x6_1 = some r) ∧ Aside0 (kq ≤ k) ∧ Drawn0 w w')
 case atStart => exact ⟨(0), (0), (by first | rfl | (simp; done) | (simp [*]; done) | (simp only [i64_w]; done) | (simp [i64_w]; done)), (by first | rfl | (simp; done) | (simp [*]; done) | (simp only [i64_w]; done) | (simp [i64_w]; done)), H', ⟨Nat.le_refl _⟩, by repeat (first | exact Drawn0.refl _ | apply Drawn0.step)⟩
 case round =>
  clear H'
  (try clear c1); (try clear p2)
  obtain ⟨x5_1, x6_1, rfl, rfl, HA, HK1, ⟨m1, rfl⟩⟩ := hrel
  cases gk with
  | zero => exact absurd HA.out (by simp [spec_l03LengthAt.l0])
  | succ k1 =>
   have H := HA.out
   clear HA
   simp only [spec_l03LengthAt.l0] at H
   by_cases c3 : 0 < (l1.length : Int)
   ·
    rw [if_pos c3] at H
    have c3b0 : decide (0 < (l1.length : Int)) = true := decide_eq_true c3
    have c3b1 : decide (0 < l1.length) = true := decide_eq_true (by omega)
    clear c3
    by_cases c4 : x6_1 < (((rd_T37 l1 0).f0).length : Int)
    ·
     rw [if_pos c4] at H
     have c4b0 : decide (x6_1 < (((rd_T37 l1 0).f0).length : Int)) = true := decide_eq_true c4
     clear c4
     by_cases c5 : 0 ≤ x6_1
     ·
      rw [if_pos c5] at H
      have c5b0 : decide (0 ≤ x6_1) = true := decide_eq_true c5
      clear c5
      have H' := aS H
      clear H
      have p180 : 0 ≤ (0 : Int) := (by omega)
      have q180 : 0 < (l1.length : Int) := of_decide_eq_true (by first | (with_reducible assumption) | assumption)
      obtain ⟨ad180, A180_0, c180_0, A180_1, c180_1, e180, hx180_0, hx180_1, hl180_0, hi180_0, hl180_1, hi180_1⟩ := at_T37 HR1.out 0 p180 q180
      cases e180
      have qi180 : (0 < l1.length) = True := eq_true (by omega)
      (try rw [show ((0 : Int)).toNat = 0 from rfl] at hx180_0)
      (try rw [show 0 * 2 = 0 from rfl] at hx180_0)
      (try rw [Addr.add_zero'] at hx180_0)
      (try rw [show ((0 : Int)).toNat = 0 from rfl] at hx180_1)
      (try rw [show 0 * 2 = 0 from rfl] at hx180_1)
      (try rw [Addr.add_zero'] at hx180_1)
      have HR180_0 := aS hi180_0
      have HC180_0 := aS hl180_0
      clear hi180_0 hl180_0
      have HR180_1 := aS hi180_1
      have HC180_1 := aS hl180_1
      clear hi180_1 hl180_1
      replace p180 := eq_true p180
      replace q180 := eq_true q180
      have p181 : 0 ≤ (0 : Int) := (by omega)
      have q181 : 0 < (l1.length : Int) := of_decide_eq_true (by first | (with_reducible assumption) | assumption)
      obtain ⟨ad181, A181_0, c181_0, A181_1, c181_1, e181, hx181_0, hx181_1, hl181_0, hi181_0, hl181_1, hi181_1⟩ := at_T37 HR1.out 0 p181 q181
      obtain rfl : ad180 = ad181 := (by injection e181)
      have qi181 : (0 < l1.length) = True := eq_true (by omega)
      (try rw [show ((0 : Int)).toNat = 0 from rfl] at hx181_0)
      (try rw [show 0 * 2 = 0 from rfl] at hx181_0)
      (try rw [Addr.add_zero'] at hx181_0)
      (try rw [show ((0 : Int)).toNat = 0 from rfl] at hx181_1)
      (try rw [show 0 * 2 = 0 from rfl] at hx181_1)
      (try rw [Addr.add_zero'] at hx181_1)
      have HR181_0 := aS hi181_0
      have HC181_0 := aS hl181_0
      clear hi181_0 hl181_0
      have HR181_1 := aS hi181_1
      have HC181_1 := aS hl181_1
      clear hi181_1 hl181_1
      replace p181 := eq_true p181
      replace q181 := eq_true q181
      have ea_ := Option.some.inj (hx180_0.symm.trans hx181_0)
      injection ea_ with ea_ en_ ec_
      subst ea_
      subst ec_
      clear en_
      have ea_ := Option.some.inj (hx180_1.symm.trans hx181_1)
      injection ea_ with ea_ en_ ec_
      subst ea_
      subst ec_
      clear en_
      have p182 : 0 ≤ (x6_1 : Int) := of_decide_eq_true (by first | (with_reducible assumption) | assumption)
      have q182 : x6_1 < (((rd_T37 l1 0).f0).length : Int) := of_decide_eq_true (by first | (with_reducible assumption) | assumption)
      obtain ⟨ad182, e182, hx182_0, hx182_1⟩ := at_T44 HR181_0.out x6_1 p182 q182
      cases e182
      replace p182 := eq_true p182
      replace q182 := eq_true q182
      go_wp2
      go_roundg k1
      case measure => have := HK1.out; omega
      case rel => exact ⟨(wrap64 (x5_1 + ((rd_T44 ((rd_T37 l1 0).f0) x6_1).f1))), (wrap64 (x6_1 + 1)), (by first | rfl | (simp; done) | (simp [*]; done) | (simp only [i64_w]; done) | (simp [i64_w]; done)), (by first | rfl | (simp; done) | (simp [*]; done) | (simp only [i64_w]; done) | (simp [i64_w]; done)), H', ⟨by have := HK1.out; omega⟩, by repeat (first | exact Drawn0.refl _ | apply Drawn0.step)⟩
     ·
      rw [if_neg c5] at H
      exact absurd H (by simp)
    ·
     rw [if_neg c4] at H
     have c4b0 : decide (x6_1 < (((rd_T37 l1 0).f0).length : Int)) = false := decide_eq_false c4
     clear c4
     have H' := aS H
     clear H
     have p180 : 0 ≤ (0 : Int) := (by omega)
     have q180 : 0 < (l1.length : Int) := of_decide_eq_true (by first | (with_reducible assumption) | assumption)
     obtain ⟨ad180, A180_0, c180_0, A180_1, c180_1, e180, hx180_0, hx180_1, hl180_0, hi180_0, hl180_1, hi180_1⟩ := at_T37 HR1.out 0 p180 q180
     cases e180
     have qi180 : (0 < l1.length) = True := eq_true (by omega)
     (try rw [show ((0 : Int)).toNat = 0 from rfl] at hx180_0)
     (try rw [show 0 * 2 = 0 from rfl] at hx180_0)
     (try rw [Addr.add_zero'] at hx180_0)
     (try rw [show ((0 : Int)).toNat = 0 from rfl] at hx180_1)
     (try rw [show 0 * 2 = 0 from rfl] at hx180_1)
     (try rw [Addr.add_zero'] at hx180_1)
     have HR180_0 := aS hi180_0
     have HC180_0 := aS hl180_0
     clear hi180_0 hl180_0
     have HR180_1 := aS hi180_1
     have HC180_1 := aS hl180_1
     clear hi180_1 hl180_1
     replace p180 := eq_true p180
     replace q180 := eq_true q180
     go_wp2
     go_loopg [5, 7] k1 (fun kq v5 v7 w' => ∃ (x5_2 : Int) (x7_2 : Int), v5 = .int .i64 x5_2 ∧ v7 = .int .i64 x7_2 ∧ Aside0 (spec_l03LengthAt.l1 kq l0 l1 x5_2 x7_2 = some r) ∧ Aside0 (kq ≤ k1) ∧ Drawn0 w w')
     case atStart => exact ⟨(x5_1), (0), (by first | rfl | (simp; done) | (simp [*]; done) | (simp only [i64_w]; done) | (simp [i64_w]; done)), (by first | rfl | (simp; done) | (simp [*]; done) | (simp only [i64_w]; done) | (simp [i64_w]; done)), H', ⟨Nat.le_refl _⟩, by repeat (first | exact Drawn0.refl _ | apply Drawn0.step)⟩
     case round =>
      clear H'
      (try clear c1); (try clear p1); (try clear q1); (try clear hx1); (try clear qi1); (try clear p2); (try clear c3); (try clear c3b0); (try clear c3b1); (try clear c4); (try clear c4b0); (try clear c5); (try clear c5b0); (try clear hx180_0); (try clear hx180_1); (try clear hx181_0); (try clear hx181_1); (try clear hx182_0); (try clear hx182_1); (try clear p180); (try clear p181); (try clear p182); (try clear p2); (try clear q180); (try clear q181); (try clear q182)
      obtain ⟨x5_2, x7_2, rfl, rfl, HA, HK2, ⟨m2, rfl⟩⟩ := hrel
      cases gk with
      | zero => exact absurd HA.out (by simp [spec_l03LengthAt.l1])
      | succ k2 =>
       have H := HA.out
       clear HA
       simp only [spec_l03LengthAt.l1] at H
       by_cases c6 : 0 < (l1.length : Int)
       ·
        rw [if_pos c6] at H
        have c6b0 : decide (0 < (l1.length : Int)) = true := decide_eq_true c6
        have c6b1 : decide (0 < l1.length) = true := decide_eq_true (by omega)
        clear c6
        by_cases c7 : x7_2 < (((rd_T37 l1 0).f1).length : Int)
        ·
         rw [if_pos c7] at H
         have c7b0 : decide (x7_2 < (((rd_T37 l1 0).f1).length : Int)) = true := decide_eq_true c7
         clear c7
         by_cases c8 : 0 ≤ x7_2
         ·
          rw [if_pos c8] at H
          have c8b0 : decide (0 ≤ x7_2) = true := decide_eq_true c8
          clear c8
          by_cases c9 : 0 ≤ (rd ((rd_T37 l1 0).f1) x7_2)
          ·
           rw [if_pos c9] at H
           have c9b0 : decide (0 ≤ (rd ((rd_T37 l1 0).f1) x7_2)) = true := decide_eq_true c9
           clear c9
           by_cases c10 : (rd ((rd_T37 l1 0).f1) x7_2) < (l0.length : Int)
           ·
            rw [if_pos c10] at H
            have c10b0 : decide ((rd ((rd_T37 l1 0).f1) x7_2) < (l0.length : Int)) = true := decide_eq_true c10
            clear c10
            have H' := aS H
            clear H
            have p183 : 0 ≤ (0 : Int) := (by omega)
            have q183 : 0 < (l1.length : Int) := of_decide_eq_true (by first | (with_reducible assumption) | assumption)
            obtain ⟨ad183, A183_0, c183_0, A183_1, c183_1, e183, hx183_0, hx183_1, hl183_0, hi183_0, hl183_1, hi183_1⟩ := at_T37 HR1.out 0 p183 q183
            obtain rfl : ad180 = ad183 := (by injection e183)
            have qi183 : (0 < l1.length) = True := eq_true (by omega)
            (try rw [show ((0 : Int)).toNat = 0 from rfl] at hx183_0)
            (try rw [show 0 * 2 = 0 from rfl] at hx183_0)
            (try rw [Addr.add_zero'] at hx183_0)
            (try rw [show ((0 : Int)).toNat = 0 from rfl] at hx183_1)
            (try rw [show 0 * 2 = 0 from rfl] at hx183_1)
            (try rw [Addr.add_zero'] at hx183_1)
            have HR183_0 := aS hi183_0
            have HC183_0 := aS hl183_0
            clear hi183_0 hl183_0
            have HR183_1 := aS hi183_1
            have HC183_1 := aS hl183_1
            clear hi183_1 hl183_1
            replace p183 := eq_true p183
            replace q183 := eq_true q183
            have p184 : 0 ≤ (0 : Int) := (by omega)
            have q184 : 0 < (l1.length : Int) := of_decide_eq_true (by first | (with_reducible assumption) | assumption)
            obtain ⟨ad184, A184_0, c184_0, A184_1, c184_1, e184, hx184_0, hx184_1, hl184_0, hi184_0, hl184_1, hi184_1⟩ := at_T37 HR1.out 0 p184 q184
            obtain rfl : ad180 = ad184 := (by injection e184)
            have qi184 : (0 < l1.length) = True := eq_true (by omega)
            (try rw [show ((0 : Int)).toNat = 0 from rfl] at hx184_0)
            (try rw [show 0 * 2 = 0 from rfl] at hx184_0)
            (try rw [Addr.add_zero'] at hx184_0)
            (try rw [show ((0 : Int)).toNat = 0 from rfl] at hx184_1)
            (try rw [show 0 * 2 = 0 from rfl] at hx184_1)
            (try rw [Addr.add_zero'] at hx184_1)
            have HR184_0 := aS hi184_0
            have HC184_0 := aS hl184_0
            clear hi184_0 hl184_0
            have HR184_1 := aS hi184_1
            have HC184_1 := aS hl184_1
            clear hi184_1 hl184_1
            replace p184 := eq_true p184
            replace q184 := eq_true q184
            have ea_ := Option.some.inj (hx183_0.symm.trans hx184_0)
            injection ea_ with ea_ en_ ec_
            subst ea_
            subst ec_
            clear en_
            have ea_ := Option.some.inj (hx183_1.symm.trans hx184_1)
            injection ea_ with ea_ en_ ec_
            subst ea_
            subst ec_
            clear en_
            have p185 : 0 ≤ (x7_2 : Int) := of_decide_eq_true (by first | (with_reducible assumption) | assumption)
            have q185 : x7_2 < (((rd_T37 l1 0).f1).length : Int) := of_decide_eq_true (by first | (with_reducible assumption) | assumption)
            obtain ⟨ad185, e185, hx185_0⟩ := Kd.at_int HR184_1.out x7_2 p185 q185
            cases e185
            replace p185 := eq_true p185
            replace q185 := eq_true q185
            have p186 : 0 ≤ ((rd ((rd_T37 l1 0).f1) x7_2) : Int) := of_decide_eq_true (by first | (with_reducible assumption) | assumption)
            have q186 : (rd ((rd_T37 l1 0).f1) x7_2) < (l0.length : Int) := of_decide_eq_true (by first | (with_reducible assumption) | assumption)
            obtain ⟨ad186, e186, hx186_0, hx186_1, hx186_2⟩ := at_T68 HR0.out (rd ((rd_T37 l1 0).f1) x7_2) p186 q186
            cases e186
            replace p186 := eq_true p186
            replace q186 := eq_true q186
            go_wp2
            go_roundg k2
            case measure => have := HK1.out; have := HK2.out; omega
            case rel => exact ⟨(wrap64 (x5_2 - ((rd_T68 l0 (rd ((rd_T37 l1 0).f1) x7_2)).f2))), (wrap64 (x7_2 + 1)), (by first | rfl | (simp; done) | (simp [*]; done) | (simp only [i64_w]; done) | (simp [i64_w]; done)), (by first | rfl | (simp; done) | (simp [*]; done) | (simp only [i64_w]; done) | (simp [i64_w]; done)), H', ⟨by have := HK1.out; have := HK2.out; omega⟩, by repeat (first | exact Drawn0.refl _ | apply Drawn0.step)⟩
           ·
            rw [if_neg c10] at H
            exact absurd H (by simp)
          ·
           rw [if_neg c9] at H
           exact absurd H (by simp)
         ·
          rw [if_neg c8] at H
          exact absurd H (by simp)
        ·
         rw [if_neg c7] at H
         have c7b0 : decide (x7_2 < (((rd_T37 l1 0).f1).length : Int)) = false := decide_eq_false c7
         clear c7
         obtain rfl := Option.some.inj H
         have p183 : 0 ≤ (0 : Int) := (by omega)
         have q183 : 0 < (l1.length : Int) := of_decide_eq_true (by first | (with_reducible assumption) | assumption)
         obtain ⟨ad183, A183_0, c183_0, A183_1, c183_1, e183, hx183_0, hx183_1, hl183_0, hi183_0, hl183_1, hi183_1⟩ := at_T37 HR1.out 0 p183 q183
         obtain rfl : ad180 = ad183 := (by injection e183)
         have qi183 : (0 < l1.length) = True := eq_true (by omega)
         (try rw [show ((0 : Int)).toNat = 0 from rfl] at hx183_0)
         (try rw [show 0 * 2 = 0 from rfl] at hx183_0)
         (try rw [Addr.add_zero'] at hx183_0)
         (try rw [show ((0 : Int)).toNat = 0 from rfl] at hx183_1)
         (try rw [show 0 * 2 = 0 from rfl] at hx183_1)
         (try rw [Addr.add_zero'] at hx183_1)
         have HR183_0 := aS hi183_0
         have HC183_0 := aS hl183_0
         clear hi183_0 hl183_0
         have HR183_1 := aS hi183_1
         have HC183_1 := aS hl183_1
         clear hi183_1 hl183_1
         replace p183 := eq_true p183
         replace q183 := eq_true q183
         go_wp2
         go_ret
         exact ⟨by first | rfl | (simp; done) | (simp [*]; done) | (simp only [i64_w]; done) | (simp [i64_w]; done), by repeat (first | exact Drawn0.refl _ | apply Drawn0.step)⟩
       ·
        rw [if_neg c6] at H
        exact absurd H (by simp)
   ·
    rw [if_neg c3] at H
    exact absurd H (by simp)

-- NOT PRINTED: function 66 (spec_l03Line)

end Go.Proofs.Ytdgodlccejoibaa.QFnExactWeakestPlace

/- What the Go functions of this law compute, each as a Lean function, and that each call comes to that answer; written by a program of this session. No condition. -/
import Derived.Test.YtjhlliacgkjhaaaVQFnExactJoinLinesx0
namespace Go.Proofs.Ytjhlliacgkjhaaa.QFnExactJoinLines
open Go.RowKit Go.Proofs.YtjhlliacgkjhaaaW.PrintWords Go.Proofs.YtjhlliacgkjhaaaW.PrintLast Go.Proofs.YtjhlliacgkjhaaaW.PrintMore
attribute [local go_sem] max2_int min2_int max_two min_two max_three min_three max_four min_four   -- for this text's walks alone
set_option linter.unusedVariables false
set_option linter.unusedSimpArgs false

/-! ### spec_l03LengthAt: function 55 -/
mutual
def spec_l03LengthAt.l0 : Nat → List (S74) → List (S45) → Int → Int → Option (Int)
 | 0, _, _, _, _ => none
 | k + 1, x0, x1, x5, x6 => if 0 < (x1.length : Int) then (if x6 < (((rd_T45 x1 0).f0).length : Int) then (if 0 ≤ x6 then (spec_l03LengthAt.l0 k x0 x1 (wrap64 (x5 + ((rd_T91 ((rd_T45 x1 0).f0) x6).f1))) (wrap64 (x6 + 1))) else (none)) else (spec_l03LengthAt.l1 k x0 x1 x5 0)) else (none)
def spec_l03LengthAt.l1 : Nat → List (S74) → List (S45) → Int → Int → Option (Int)
 | 0, _, _, _, _ => none
 | k + 1, x0, x1, x5, x7 => if 0 < (x1.length : Int) then (if x7 < (((rd_T45 x1 0).f1).length : Int) then (if 0 ≤ x7 then (if 0 ≤ (rd ((rd_T45 x1 0).f1) x7) then (if (rd ((rd_T45 x1 0).f1) x7) < (x0.length : Int) then (spec_l03LengthAt.l1 k x0 x1 (wrap64 (x5 - ((rd_T74 x0 (rd ((rd_T45 x1 0).f1) x7)).f2))) (wrap64 (x7 + 1))) else (none)) else (none)) else (none)) else (some x5)) else (none)
end
def spec_l03LengthAt.f (k : Nat) (l0 : List (S74)) (l1 : List (S45)) : Option (Int) := spec_l03LengthAt.l0 k l0 l1 0 0
theorem spec_l03LengthAt.mono_l : ∀ k, (∀ y0 y1 y2 y3, LeO (spec_l03LengthAt.l0 k y0 y1 y2 y3) (spec_l03LengthAt.l0 (k + 1) y0 y1 y2 y3)) ∧ (∀ y0 y1 y2 y3, LeO (spec_l03LengthAt.l1 k y0 y1 y2 y3) (spec_l03LengthAt.l1 (k + 1) y0 y1 y2 y3))
 | 0 => ⟨fun _ _ _ _ r h => by simp [spec_l03LengthAt.l0] at h, fun _ _ _ _ r h => by simp [spec_l03LengthAt.l1] at h⟩
 | k + 1 => by
  obtain ⟨ih0, ih1⟩ := spec_l03LengthAt.mono_l k
  refine ⟨?_, ?_⟩
  ·
   intro y0 y1 y2 y3
   unfold spec_l03LengthAt.l0
   repeat' first
   | (with_reducible exact ih0 _ _ _ _)
   | (with_reducible exact ih1 _ _ _ _)
   | (with_reducible exact LeO.refl _)
   | (with_reducible exact LeO.none _)
   | (with_reducible refine LeO.ite ?_ ?_)
   | (with_reducible refine LeO.bind ?_ (fun _ => ?_))
   | exact ih0 _ _ _ _
   | exact ih1 _ _ _ _
   | exact LeO.none _
   | refine LeO.ite ?_ ?_
   | refine LeO.bind ?_ (fun _ => ?_)
  ·
   intro y0 y1 y2 y3
   unfold spec_l03LengthAt.l1
   repeat' first
   | (with_reducible exact ih0 _ _ _ _)
   | (with_reducible exact ih1 _ _ _ _)
   | (with_reducible exact LeO.refl _)
   | (with_reducible exact LeO.none _)
   | (with_reducible refine LeO.ite ?_ ?_)
   | (with_reducible refine LeO.bind ?_ (fun _ => ?_))
   | exact ih0 _ _ _ _
   | exact ih1 _ _ _ _
   | exact LeO.none _
   | refine LeO.ite ?_ ?_
   | refine LeO.bind ?_ (fun _ => ?_)
theorem spec_l03LengthAt.mono : ∀ a0 a1 k, LeO (spec_l03LengthAt.f k a0 a1) (spec_l03LengthAt.f (k + 1) a0 a1) := by
 intro a0 a1 k
 obtain ⟨ih0, ih1⟩ := spec_l03LengthAt.mono_l k
 unfold spec_l03LengthAt.f
 repeat' first
   | (with_reducible exact ih0 _ _ _ _)
   | (with_reducible exact ih1 _ _ _ _)
   | (with_reducible exact LeO.refl _)
   | (with_reducible exact LeO.none _)
   | (with_reducible refine LeO.ite ?_ ?_)
   | (with_reducible refine LeO.bind ?_ (fun _ => ?_))
   | exact ih0 _ _ _ _
   | exact ih1 _ _ _ _
   | exact LeO.none _
   | refine LeO.ite ?_ ?_
   | refine LeO.bind ?_ (fun _ => ?_)
set_option maxHeartbeats 8000000 in
set_option maxRecDepth 100000 in
theorem spec_l03LengthAt.calls (k : Nat) (A0 : Option Addr) (c0 : Nat) (l0 : List (S74)) (A1 : Option Addr) (c1 : Nat) (l1 : List (S45)) (r : Int) (w : World) (hr0 : Kd.C k74 w A0 l0.length l0) (hc0 : l0.length ≤ c0) (hr1 : Kd.C k45 w A1 l1.length l1) (hc1 : l1.length ≤ c1) (h : spec_l03LengthAt.f k l0 l1 = some r) :
  Calls Try.prog 55 #[.slice A0 l0.length c0, .pointer A1] w fun e w' => e = .returned (.int .i64 r) ∧ Drawn0 w w' := by
 have HR0 := aS hr0
 have HC0 := aS hc0
 clear hr0 hc0
 have HR1 := aS hr1
 have HC1 := aS hc1
 clear hr1 hc1
 have H : (spec_l03LengthAt.l0 k l0 l1 0 0) = some r := h
 clear h
 have H' := aS H
 clear H
 go_enter Try.func55, Try.ntmps55
 go_wp2
 go_loopg [5, 6] k (fun kq v5 v6 w' => ∃ (x5_1 : Int) (x6_1 : Int), v5 = .int .i64 x5_1 ∧ v6 = .int .i64 x6_1 ∧ Aside0 (spec_l03LengthAt.l0 kq l0 l1 x5_1 x6_1 = some r) ∧ Aside0 (kq ≤ k) ∧ Drawn0 w w')
 case atStart => exact ⟨(0), (0), (by first | rfl | (simp; done) | (simp [*]; done) | (simp only [i64_w]; done) | (simp [i64_w]; done)), (by first | rfl | (simp; done) | (simp [*]; done) | (simp only [i64_w]; done) | (simp [i64_w]; done)), H', ⟨Nat.le_refl _⟩, by repeat (first | exact Drawn0.refl _ | apply Drawn0.step)⟩
 case round =>
  clear H'
  (try clear c1); (try clear p2)
  obtain ⟨x5_1, x6_1, rfl, rfl, HA, HK1, ⟨m1, rfl⟩⟩ := hrel
  cases gk with
  | zero => exact absurd HA.out (by simp [spec_l03LengthAt.l0])
  | succ k1 =>
   have H := HA.out
   clear HA
   simp only [spec_l03LengthAt.l0] at H
   by_cases c3 : 0 < (l1.length : Int)
   ·
    rw [if_pos c3] at H
    have c3b0 : decide (0 < (l1.length : Int)) = true := decide_eq_true c3
    have c3b1 : decide (0 < l1.length) = true := decide_eq_true (by omega)
    clear c3
    by_cases c4 : x6_1 < (((rd_T45 l1 0).f0).length : Int)
    ·
     rw [if_pos c4] at H
     have c4b0 : decide (x6_1 < (((rd_T45 l1 0).f0).length : Int)) = true := decide_eq_true c4
     clear c4
     by_cases c5 : 0 ≤ x6_1
     ·
      rw [if_pos c5] at H
      have c5b0 : decide (0 ≤ x6_1) = true := decide_eq_true c5
      clear c5
      have H' := aS H
      clear H
      have p129 : 0 ≤ (0 : Int) := (by omega)
      have q129 : 0 < (l1.length : Int) := of_decide_eq_true (by first | (with_reducible assumption) | assumption)
      obtain ⟨ad129, A129_0, c129_0, A129_1, c129_1, e129, hx129_0, hx129_1, hl129_0, hi129_0, hl129_1, hi129_1⟩ := at_T45 HR1.out 0 p129 q129
      cases e129
      have qi129 : (0 < l1.length) = True := eq_true (by omega)
      (try rw [show ((0 : Int)).toNat = 0 from rfl] at hx129_0)
      (try rw [show 0 * 2 = 0 from rfl] at hx129_0)
      (try rw [Addr.add_zero'] at hx129_0)
      (try rw [show ((0 : Int)).toNat = 0 from rfl] at hx129_1)
      (try rw [show 0 * 2 = 0 from rfl] at hx129_1)
      (try rw [Addr.add_zero'] at hx129_1)
      have HR129_0 := aS hi129_0
      have HC129_0 := aS hl129_0
      clear hi129_0 hl129_0
      have HR129_1 := aS hi129_1
      have HC129_1 := aS hl129_1
      clear hi129_1 hl129_1
      replace p129 := eq_true p129
      replace q129 := eq_true q129
      have p130 : 0 ≤ (0 : Int) := (by omega)
      have q130 : 0 < (l1.length : Int) := of_decide_eq_true (by first | (with_reducible assumption) | assumption)
      obtain ⟨ad130, A130_0, c130_0, A130_1, c130_1, e130, hx130_0, hx130_1, hl130_0, hi130_0, hl130_1, hi130_1⟩ := at_T45 HR1.out 0 p130 q130
      obtain rfl : ad129 = ad130 := (by injection e130)
      have qi130 : (0 < l1.length) = True := eq_true (by omega)
      (try rw [show ((0 : Int)).toNat = 0 from rfl] at hx130_0)
      (try rw [show 0 * 2 = 0 from rfl] at hx130_0)
      (try rw [Addr.add_zero'] at hx130_0)
      (try rw [show ((0 : Int)).toNat = 0 from rfl] at hx130_1)
      (try rw [show 0 * 2 = 0 from rfl] at hx130_1)
      (try rw [Addr.add_zero'] at hx130_1)
      have HR130_0 := aS hi130_0
      have HC130_0 := aS hl130_0
      clear hi130_0 hl130_0
      have HR130_1 := aS hi130_1
      have HC130_1 := aS hl130_1
      clear hi130_1 hl130_1
      replace p130 := eq_true p130
      replace q130 := eq_true q130
      have ea_ := Option.some.inj (hx129_0.symm.trans hx130_0)
      injection ea_ with ea_ en_ ec_
      subst ea_
      subst ec_
      clear en_
      have ea_ := Option.some.inj (hx129_1.symm.trans hx130_1)
      injection ea_ with ea_ en_ ec_
      subst ea_
      subst ec_
      clear en_
      have p131 : 0 ≤ (x6_1 : Int) := of_decide_eq_true (by first | (with_reducible assumption) | assumption)
      have q131 : x6_1 < (((rd_T45 l1 0).f0).length : Int) := of_decide_eq_true (by first | (with_reducible assumption) | assumption)
      obtain ⟨ad131, e131, hx131_0, hx131_1⟩ := at_T91 HR130_0.out x6_1 p131 q131
      cases e131
      replace p131 := eq_true p131
      replace q131 := eq_true q131
      go_wp2
      go_roundg k1
      case measure => have := HK1.out; omega
      case rel => exact ⟨(wrap64 (x5_1 + ((rd_T91 ((rd_T45 l1 0).f0) x6_1).f1))), (wrap64 (x6_1 + 1)), (by first | rfl | (simp; done) | (simp [*]; done) | (simp only [i64_w]; done) | (simp [i64_w]; done)), (by first | rfl | (simp; done) | (simp [*]; done) | (simp only [i64_w]; done) | (simp [i64_w]; done)), H', ⟨by have := HK1.out; omega⟩, by repeat (first | exact Drawn0.refl _ | apply Drawn0.step)⟩
     ·
      rw [if_neg c5] at H
      exact absurd H (by simp)
    ·
     rw [if_neg c4] at H
     have c4b0 : decide (x6_1 < (((rd_T45 l1 0).f0).length : Int)) = false := decide_eq_false c4
     clear c4
     have H' := aS H
     clear H
     have p129 : 0 ≤ (0 : Int) := (by omega)
     have q129 : 0 < (l1.length : Int) := of_decide_eq_true (by first | (with_reducible assumption) | assumption)
     obtain ⟨ad129, A129_0, c129_0, A129_1, c129_1, e129, hx129_0, hx129_1, hl129_0, hi129_0, hl129_1, hi129_1⟩ := at_T45 HR1.out 0 p129 q129
     cases e129
     have qi129 : (0 < l1.length) = True := eq_true (by omega)
     (try rw [show ((0 : Int)).toNat = 0 from rfl] at hx129_0)
     (try rw [show 0 * 2 = 0 from rfl] at hx129_0)
     (try rw [Addr.add_zero'] at hx129_0)
     (try rw [show ((0 : Int)).toNat = 0 from rfl] at hx129_1)
     (try rw [show 0 * 2 = 0 from rfl] at hx129_1)
     (try rw [Addr.add_zero'] at hx129_1)
     have HR129_0 := aS hi129_0
     have HC129_0 := aS hl129_0
     clear hi129_0 hl129_0
     have HR129_1 := aS hi129_1
     have HC129_1 := aS hl129_1
     clear hi129_1 hl129_1
     replace p129 := eq_true p129
     replace q129 := eq_true q129
     go_wp2
     go_loopg [5, 7] k1 (fun kq v5 v7 w' => ∃ (x5_2 : Int) (x7_2 : Int), v5 = .int .i64 x5_2 ∧ v7 = .int .i64 x7_2 ∧ Aside0 (spec_l03LengthAt.l1 kq l0 l1 x5_2 x7_2 = some r) ∧ Aside0 (kq ≤ k1) ∧ Drawn0 w w')
     case atStart => exact ⟨(x5_1), (0), (by first | rfl | (simp; done) | (simp [*]; done) | (simp only [i64_w]; done) | (simp [i64_w]; done)), (by first | rfl | (simp; done) | (simp [*]; done) | (simp only [i64_w]; done) | (simp [i64_w]; done)), H', ⟨Nat.le_refl _⟩, by repeat (first | exact Drawn0.refl _ | apply Drawn0.step)⟩
     case round =>
      clear H'
      (try clear c1); (try clear p1); (try clear q1); (try clear hx1); (try clear qi1); (try clear p2); (try clear c3); (try clear c3b0); (try clear c3b1); (try clear c4); (try clear c4b0); (try clear c5); (try clear c5b0); (try clear hx129_0); (try clear hx129_1); (try clear hx130_0); (try clear hx130_1); (try clear hx131_0); (try clear hx131_1); (try clear p129); (try clear p130); (try clear p131); (try clear p2); (try clear q129); (try clear q130); (try clear q131)
      obtain ⟨x5_2, x7_2, rfl, rfl, HA, HK2, ⟨m2, rfl⟩⟩ := hrel
      cases gk with
      | zero => exact absurd HA.out (by simp [spec_l03LengthAt.l1])
      | succ k2 =>
       have H := HA.out
       clear HA
       simp only [spec_l03LengthAt.l1] at H
       by_cases c6 : 0 < (l1.length : Int)
       ·
        rw [if_pos c6] at H
        have c6b0 : decide (0 < (l1.length : Int)) = true := decide_eq_true c6
        have c6b1 : decide (0 < l1.length) = true := decide_eq_true (by omega)
        clear c6
        by_cases c7 : x7_2 < (((rd_T45 l1 0).f1).length : Int)
        ·
         rw [if_pos c7] at H
         have c7b0 : decide (x7_2 < (((rd_T45 l1 0).f1).length : Int)) = true := decide_eq_true c7
         clear c7
         by_cases c8 : 0 ≤ x7_2
         ·
          rw [if_pos c8] at H
          have c8b0 : decide (0 ≤ x7_2) = true := decide_eq_true c8
          clear c8
          by_cases c9 : 0 ≤ (rd ((rd_T45 l1 0).f1) x7_2)
          ·
           rw [if_pos c9] at H
           have c9b0 : decide (0 ≤ (rd ((rd_T45 l1 0).f1) x7_2)) = true := decide_eq_true c9
           clear c9
           by_cases c10 : (rd ((rd_T45 l1 0).f1) x7_2) < (l0.length : Int)
           ·
            rw [if_pos c10] at H
            have c10b0 : decide ((rd ((rd_T45 l1 0).f1) x7_2) < (l0.length : Int)) = true := decide_eq_true c10
            clear c10
            have H' := aS H
            clear H
            have p132 : 0 ≤ (0 : Int) := (by omega)
            have q132 : 0 < (l1.length : Int) := of_decide_eq_true (by first | (with_reducible assumption) | assumption)
            obtain ⟨ad132, A132_0, c132_0, A132_1, c132_1, e132, hx132_0, hx132_1, hl132_0, hi132_0, hl132_1, hi132_1⟩ := at_T45 HR1.out 0 p132 q132
            obtain rfl : ad129 = ad132 := (by injection e132)
            have qi132 : (0 < l1.length) = True := eq_true (by omega)
            (try rw [show ((0 : Int)).toNat = 0 from rfl] at hx132_0)
            (try rw [show 0 * 2 = 0 from rfl] at hx132_0)
            (try rw [Addr.add_zero'] at hx132_0)
            (try rw [show ((0 : Int)).toNat = 0 from rfl] at hx132_1)
            (try rw [show 0 * 2 = 0 from rfl] at hx132_1)
            (try rw [Addr.add_zero'] at hx132_1)
            have HR132_0 := aS hi132_0
            have HC132_0 := aS hl132_0
            clear hi132_0 hl132_0
            have HR132_1 := aS hi132_1
            have HC132_1 := aS hl132_1
            clear hi132_1 hl132_1
            replace p132 := eq_true p132
            replace q132 := eq_true q132
            have p133 : 0 ≤ (0 : Int) := (by omega)
            have q133 : 0 < (l1.length : Int) := of_decide_eq_true (by first | (with_reducible assumption) | assumption)
            obtain ⟨ad133, A133_0, c133_0, A133_1, c133_1, e133, hx133_0, hx133_1, hl133_0, hi133_0, hl133_1, hi133_1⟩ := at_T45 HR1.out 0 p133 q133
            obtain rfl : ad129 = ad133 := (by injection e133)
            have qi133 : (0 < l1.length) = True := eq_true (by omega)
            (try rw [show ((0 : Int)).toNat = 0 from rfl] at hx133_0)
            (try rw [show 0 * 2 = 0 from rfl] at hx133_0)
            (try rw [Addr.add_zero'] at hx133_0)
            (try rw [show ((0 : Int)).toNat = 0 from rfl] at hx133_1)
            (try rw [show 0 * 2 = 0 from rfl] at hx133_1)
            (try rw [Addr.add_zero'] at hx133_1)
            have HR133_0 := aS hi133_0
            have HC133_0 := aS hl133_0
            clear hi133_0 hl133_0
            have HR133_1 := aS hi133_1
            have HC133_1 := aS hl133_1
            clear hi133_1 hl133_1
            replace p133 := eq_true p133
            replace q133 := eq_true q133
            have ea_ := Option.some.inj (hx132_0.symm.trans hx133_0)
            injection ea_ with ea_ en_ ec_
            subst ea_
            subst ec_
            clear en_
            have ea_ := Option.some.inj (hx132_1.symm.trans hx133_1)
            injection ea_ with ea_ en_ ec_
            subst ea_
            subst ec_
            clear en_
            have p134 : 0 ≤ (x7_2 : Int) := of_decide_eq_true (by first | (with_reducible assumption) | assumption)
            have q134 : x7_2 < (((rd_T45 l1 0).f1).length : Int) := of_decide_eq_true (by first | (with_reducible assumption) | assumption)
            obtain ⟨ad134, e134, hx134_0⟩ := Kd.at_int HR133_1.out x7_2 p134 q134
            cases e134
            replace p134 := eq_true p134
            replace q134 := eq_true q134
            have p135 : 0 ≤ ((rd ((rd_T45 l1 0).f1) x7_2) : Int) := of_decide_eq_true (by first | (with_reducible assumption) | assumption)
            have q135 : (rd ((rd_T45 l1 0).f1) x7_2) < (l0.length : Int) := of_decide_eq_true (by first | (with_reducible assumption) | assumption)
            obtain ⟨ad135, e135, hx135_0, hx135_1, hx135_2⟩ := at_T74 HR0.out (rd ((rd_T45 l1 0).f1) x7_2) p135 q135
            cases e135
            replace p135 := eq_true p135
            replace q135 := eq_true q135
            go_wp2
            go_roundg k2
            case measure => have := HK1.out; have := HK2.out; omega
            case rel => exact ⟨(wrap64 (x5_2 - ((rd_T74 l0 (rd ((rd_T45 l1 0).f1) x7_2)).f2))), (wrap64 (x7_2 + 1)), (by first | rfl | (simp; done) | (simp [*]; done) | (simp only [i64_w]; done) | (simp [i64_w]; done)), (by first | rfl | (simp; done) | (simp [*]; done) | (simp only [i64_w]; done) | (simp [i64_w]; done)), H', ⟨by have := HK1.out; have := HK2.out; omega⟩, by repeat (first | exact Drawn0.refl _ | apply Drawn0.step)⟩
           ·
            rw [if_neg c10] at H
            exact absurd H (by simp)
          ·
           rw [if_neg c9] at H
           exact absurd H (by simp)
         ·
          rw [if_neg c8] at H
          exact absurd H (by simp)
        ·
         rw [if_neg c7] at H
         have c7b0 : decide (x7_2 < (((rd_T45 l1 0).f1).length : Int)) = false := decide_eq_false c7
         clear c7
         obtain rfl := Option.some.inj H
         have p132 : 0 ≤ (0 : Int) := (by omega)
         have q132 : 0 < (l1.length : Int) := of_decide_eq_true (by first | (with_reducible assumption) | assumption)
         obtain ⟨ad132, A132_0, c132_0, A132_1, c132_1, e132, hx132_0, hx132_1, hl132_0, hi132_0, hl132_1, hi132_1⟩ := at_T45 HR1.out 0 p132 q132
         obtain rfl : ad129 = ad132 := (by injection e132)
         have qi132 : (0 < l1.length) = True := eq_true (by omega)
         (try rw [show ((0 : Int)).toNat = 0 from rfl] at hx132_0)
         (try rw [show 0 * 2 = 0 from rfl] at hx132_0)
         (try rw [Addr.add_zero'] at hx132_0)
         (try rw [show ((0 : Int)).toNat = 0 from rfl] at hx132_1)
         (try rw [show 0 * 2 = 0 from rfl] at hx132_1)
         (try rw [Addr.add_zero'] at hx132_1)
         have HR132_0 := aS hi132_0
         have HC132_0 := aS hl132_0
         clear hi132_0 hl132_0
         have HR132_1 := aS hi132_1
         have HC132_1 := aS hl132_1
         clear hi132_1 hl132_1
         replace p132 := eq_true p132
         replace q132 := eq_true q132
         go_wp2
         go_ret
         exact ⟨by first | rfl | (simp; done) | (simp [*]; done) | (simp only [i64_w]; done) | (simp [i64_w]; done), by repeat (first | exact Drawn0.refl _ | apply Drawn0.step)⟩
       ·
        rw [if_neg c6] at H
        exact absurd H (by simp)
   ·
    rw [if_neg c3] at H
    exact absurd H (by simp)

-- NOT PRINTED: function 35 (spec_l03Line)

end Go.Proofs.Ytjhlliacgkjhaaa.QFnExactJoinLines

/- What the Go functions of this law compute, each as a Lean function, and that each call comes to that answer; written by a program of this session. No condition. -/
import Derived.Test.YtaigofkmcalmfaaQFnExactBeatenRopesx0
namespace Go.Proofs.Ytaigofkmcalmfaa.QFnExactBeatenRopes
open Go.RowKit Go.Proofs.YtaigofkmcalmfaaW.PrintWords Go.Proofs.YtaigofkmcalmfaaW.PrintLast Go.Proofs.YtaigofkmcalmfaaW.PrintMore
attribute [local go_sem] max2_int min2_int max_two min_two max_three min_three max_four min_four   -- for this text's walks alone
set_option linter.unusedVariables false
set_option linter.unusedSimpArgs false

/-! ### spec_l02BeatsAt: function 58 -/
def spec_l02BeatsAt.f (l0 : List (S27)) (l1 : List (S27)) : Option (Bool) := if 0 < (l0.length : Int) then (if 0 < (l1.length : Int) then (if ((rd_T27 l0 0).f2) < ((rd_T27 l1 0).f2) then (some false) else (if ((rd_T27 l0 0).f3) > ((rd_T27 l1 0).f3) then (some false) else (if ((rd_T27 l0 0).f1) > ((rd_T27 l1 0).f1) then (some false) else (if ((rd_T27 l0 0).f2) = ((rd_T27 l1 0).f2) then (if ((rd_T27 l0 0).f3) = ((rd_T27 l1 0).f3) then (some (((rd_T27 l0 0).f1) != ((rd_T27 l1 0).f1))) else (some true)) else (some true))))) else (none)) else (none)
set_option maxHeartbeats 8000000 in
set_option maxRecDepth 100000 in
theorem spec_l02BeatsAt.calls (A0 : Option Addr) (c0 : Nat) (l0 : List (S27)) (A1 : Option Addr) (c1 : Nat) (l1 : List (S27)) (r : Bool) (w : World) (hr0 : Kd.C k27 w A0 l0.length l0) (hc0 : l0.length ≤ c0) (hr1 : Kd.C k27 w A1 l1.length l1) (hc1 : l1.length ≤ c1) (h : spec_l02BeatsAt.f l0 l1 = some r) :
    Calls Try.prog 58 #[.pointer A0, .pointer A1] w fun e w' => e = .returned (.bool r) ∧ Drawn0 w w' := by
  have HR0 := Aside0.mk hr0
  have HC0 := Aside0.mk hc0
  clear hr0 hc0
  have HR1 := Aside0.mk hr1
  have HC1 := Aside0.mk hc1
  clear hr1 hc1
  have H : (if 0 < (l0.length : Int) then (if 0 < (l1.length : Int) then (if ((rd_T27 l0 0).f2) < ((rd_T27 l1 0).f2) then (some false) else (if ((rd_T27 l0 0).f3) > ((rd_T27 l1 0).f3) then (some false) else (if ((rd_T27 l0 0).f1) > ((rd_T27 l1 0).f1) then (some false) else (if ((rd_T27 l0 0).f2) = ((rd_T27 l1 0).f2) then (if ((rd_T27 l0 0).f3) = ((rd_T27 l1 0).f3) then (some (((rd_T27 l0 0).f1) != ((rd_T27 l1 0).f1))) else (some true)) else (some true))))) else (none)) else (none)) = some r := h
  clear h
  by_cases c3 : 0 < (l0.length : Int)
  · rw [if_pos c3] at H
    have c3b0 : decide (0 < (l0.length : Int)) = true := decide_eq_true c3
    have c3b1 : decide (0 < l0.length) = true := decide_eq_true (by omega)
    clear c3
    by_cases c4 : 0 < (l1.length : Int)
    · rw [if_pos c4] at H
      have c4b0 : decide (0 < (l1.length : Int)) = true := decide_eq_true c4
      have c4b1 : decide (0 < l1.length) = true := decide_eq_true (by omega)
      clear c4
      by_cases c5 : ((rd_T27 l0 0).f2) < ((rd_T27 l1 0).f2)
      · rw [if_pos c5] at H
        have c5b0 : decide (((rd_T27 l0 0).f2) < ((rd_T27 l1 0).f2)) = true := decide_eq_true c5
        clear c5
        obtain rfl := Option.some.inj H
        have p153 : 0 ≤ (0 : Int) := (by omega)
        have q153 : 0 < (l0.length : Int) := of_decide_eq_true (by first | (with_reducible assumption) | assumption)
        obtain ⟨ad153, e153, hx153_0, hx153_1, hx153_2, hx153_3⟩ := at_T27 HR0.out 0 p153 q153
        cases e153
        have qi153 : (0 < l0.length) = True := eq_true (by omega)
        (try rw [show ((0 : Int)).toNat = 0 from rfl] at hx153_0)
        (try rw [show 0 * 4 = 0 from rfl] at hx153_0)
        (try rw [Addr.add_zero'] at hx153_0)
        (try rw [show ((0 : Int)).toNat = 0 from rfl] at hx153_1)
        (try rw [show 0 * 4 = 0 from rfl] at hx153_1)
        (try rw [Addr.add_zero'] at hx153_1)
        (try rw [show ((0 : Int)).toNat = 0 from rfl] at hx153_2)
        (try rw [show 0 * 4 = 0 from rfl] at hx153_2)
        (try rw [Addr.add_zero'] at hx153_2)
        (try rw [show ((0 : Int)).toNat = 0 from rfl] at hx153_3)
        (try rw [show 0 * 4 = 0 from rfl] at hx153_3)
        (try rw [Addr.add_zero'] at hx153_3)
        replace p153 := eq_true p153
        replace q153 := eq_true q153
        have p154 : 0 ≤ (0 : Int) := (by omega)
        have q154 : 0 < (l1.length : Int) := of_decide_eq_true (by first | (with_reducible assumption) | assumption)
        obtain ⟨ad154, e154, hx154_0, hx154_1, hx154_2, hx154_3⟩ := at_T27 HR1.out 0 p154 q154
        cases e154
        have qi154 : (0 < l1.length) = True := eq_true (by omega)
        (try rw [show ((0 : Int)).toNat = 0 from rfl] at hx154_0)
        (try rw [show 0 * 4 = 0 from rfl] at hx154_0)
        (try rw [Addr.add_zero'] at hx154_0)
        (try rw [show ((0 : Int)).toNat = 0 from rfl] at hx154_1)
        (try rw [show 0 * 4 = 0 from rfl] at hx154_1)
        (try rw [Addr.add_zero'] at hx154_1)
        (try rw [show ((0 : Int)).toNat = 0 from rfl] at hx154_2)
        (try rw [show 0 * 4 = 0 from rfl] at hx154_2)
        (try rw [Addr.add_zero'] at hx154_2)
        (try rw [show ((0 : Int)).toNat = 0 from rfl] at hx154_3)
        (try rw [show 0 * 4 = 0 from rfl] at hx154_3)
        (try rw [Addr.add_zero'] at hx154_3)
        replace p154 := eq_true p154
        replace q154 := eq_true q154
        go_enter Try.func58, Try.ntmps58
        go_wp2
        repeat ((refine wp_region_quiet_lit (by kernel_rfl) (by kernel_rfl) ?_; (repeat ((first | (with_reducible refine wpQuiet_step (fun K hK => ?_)) | refine wpQuiet_step (fun K hK => ?_)); go_simp; first | (refine hK _ ?_; clear hK K) | (apply Exists.intro; refine ⟨fun _ => ?_, hK _ ?_⟩; (try simp only [i64_w]); (fail); clear hK K))); refine wpQuiet_nil ?_; intro _ hw'; obtain ⟨nq, hw''⟩ := hw'; subst hw''); try go_wp2)
        go_ret
        exact ⟨by first | rfl | (simp; done) | (simp [*]; done) | (simp only [i64_w]; done) | (simp [i64_w]; done), by repeat (first | exact Drawn0.refl _ | apply Drawn0.step)⟩
      · rw [if_neg c5] at H
        have c5b0 : decide (((rd_T27 l0 0).f2) < ((rd_T27 l1 0).f2)) = false := decide_eq_false c5
        clear c5
        by_cases c6 : ((rd_T27 l0 0).f3) > ((rd_T27 l1 0).f3)
        · rw [if_pos c6] at H
          have c6b0 : decide (((rd_T27 l1 0).f3) < ((rd_T27 l0 0).f3)) = true := decide_eq_true c6
          clear c6
          obtain rfl := Option.some.inj H
          have p153 : 0 ≤ (0 : Int) := (by omega)
          have q153 : 0 < (l0.length : Int) := of_decide_eq_true (by first | (with_reducible assumption) | assumption)
          obtain ⟨ad153, e153, hx153_0, hx153_1, hx153_2, hx153_3⟩ := at_T27 HR0.out 0 p153 q153
          cases e153
          have qi153 : (0 < l0.length) = True := eq_true (by omega)
          (try rw [show ((0 : Int)).toNat = 0 from rfl] at hx153_0)
          (try rw [show 0 * 4 = 0 from rfl] at hx153_0)
          (try rw [Addr.add_zero'] at hx153_0)
          (try rw [show ((0 : Int)).toNat = 0 from rfl] at hx153_1)
          (try rw [show 0 * 4 = 0 from rfl] at hx153_1)
          (try rw [Addr.add_zero'] at hx153_1)
          (try rw [show ((0 : Int)).toNat = 0 from rfl] at hx153_2)
          (try rw [show 0 * 4 = 0 from rfl] at hx153_2)
          (try rw [Addr.add_zero'] at hx153_2)
          (try rw [show ((0 : Int)).toNat = 0 from rfl] at hx153_3)
          (try rw [show 0 * 4 = 0 from rfl] at hx153_3)
          (try rw [Addr.add_zero'] at hx153_3)
          replace p153 := eq_true p153
          replace q153 := eq_true q153
          have p154 : 0 ≤ (0 : Int) := (by omega)
          have q154 : 0 < (l1.length : Int) := of_decide_eq_true (by first | (with_reducible assumption) | assumption)
          obtain ⟨ad154, e154, hx154_0, hx154_1, hx154_2, hx154_3⟩ := at_T27 HR1.out 0 p154 q154
          cases e154
          have qi154 : (0 < l1.length) = True := eq_true (by omega)
          (try rw [show ((0 : Int)).toNat = 0 from rfl] at hx154_0)
          (try rw [show 0 * 4 = 0 from rfl] at hx154_0)
          (try rw [Addr.add_zero'] at hx154_0)
          (try rw [show ((0 : Int)).toNat = 0 from rfl] at hx154_1)
          (try rw [show 0 * 4 = 0 from rfl] at hx154_1)
          (try rw [Addr.add_zero'] at hx154_1)
          (try rw [show ((0 : Int)).toNat = 0 from rfl] at hx154_2)
          (try rw [show 0 * 4 = 0 from rfl] at hx154_2)
          (try rw [Addr.add_zero'] at hx154_2)
          (try rw [show ((0 : Int)).toNat = 0 from rfl] at hx154_3)
          (try rw [show 0 * 4 = 0 from rfl] at hx154_3)
          (try rw [Addr.add_zero'] at hx154_3)
          replace p154 := eq_true p154
          replace q154 := eq_true q154
          have p155 : 0 ≤ (0 : Int) := (by omega)
          have q155 : 0 < (l0.length : Int) := of_decide_eq_true (by first | (with_reducible assumption) | assumption)
          obtain ⟨ad155, e155, hx155_0, hx155_1, hx155_2, hx155_3⟩ := at_T27 HR0.out 0 p155 q155
          obtain rfl : ad153 = ad155 := (by injection e155)
          have qi155 : (0 < l0.length) = True := eq_true (by omega)
          (try rw [show ((0 : Int)).toNat = 0 from rfl] at hx155_0)
          (try rw [show 0 * 4 = 0 from rfl] at hx155_0)
          (try rw [Addr.add_zero'] at hx155_0)
          (try rw [show ((0 : Int)).toNat = 0 from rfl] at hx155_1)
          (try rw [show 0 * 4 = 0 from rfl] at hx155_1)
          (try rw [Addr.add_zero'] at hx155_1)
          (try rw [show ((0 : Int)).toNat = 0 from rfl] at hx155_2)
          (try rw [show 0 * 4 = 0 from rfl] at hx155_2)
          (try rw [Addr.add_zero'] at hx155_2)
          (try rw [show ((0 : Int)).toNat = 0 from rfl] at hx155_3)
          (try rw [show 0 * 4 = 0 from rfl] at hx155_3)
          (try rw [Addr.add_zero'] at hx155_3)
          replace p155 := eq_true p155
          replace q155 := eq_true q155
          have p156 : 0 ≤ (0 : Int) := (by omega)
          have q156 : 0 < (l1.length : Int) := of_decide_eq_true (by first | (with_reducible assumption) | assumption)
          obtain ⟨ad156, e156, hx156_0, hx156_1, hx156_2, hx156_3⟩ := at_T27 HR1.out 0 p156 q156
          obtain rfl : ad154 = ad156 := (by injection e156)
          have qi156 : (0 < l1.length) = True := eq_true (by omega)
          (try rw [show ((0 : Int)).toNat = 0 from rfl] at hx156_0)
          (try rw [show 0 * 4 = 0 from rfl] at hx156_0)
          (try rw [Addr.add_zero'] at hx156_0)
          (try rw [show ((0 : Int)).toNat = 0 from rfl] at hx156_1)
          (try rw [show 0 * 4 = 0 from rfl] at hx156_1)
          (try rw [Addr.add_zero'] at hx156_1)
          (try rw [show ((0 : Int)).toNat = 0 from rfl] at hx156_2)
          (try rw [show 0 * 4 = 0 from rfl] at hx156_2)
          (try rw [Addr.add_zero'] at hx156_2)
          (try rw [show ((0 : Int)).toNat = 0 from rfl] at hx156_3)
          (try rw [show 0 * 4 = 0 from rfl] at hx156_3)
          (try rw [Addr.add_zero'] at hx156_3)
          replace p156 := eq_true p156
          replace q156 := eq_true q156
          go_enter Try.func58, Try.ntmps58
          go_wp2
          repeat ((refine wp_region_quiet_lit (by kernel_rfl) (by kernel_rfl) ?_; (repeat ((first | (with_reducible refine wpQuiet_step (fun K hK => ?_)) | refine wpQuiet_step (fun K hK => ?_)); go_simp; first | (refine hK _ ?_; clear hK K) | (apply Exists.intro; refine ⟨fun _ => ?_, hK _ ?_⟩; (try simp only [i64_w]); (fail); clear hK K))); refine wpQuiet_nil ?_; intro _ hw'; obtain ⟨nq, hw''⟩ := hw'; subst hw''); try go_wp2)
          go_ret
          exact ⟨by first | rfl | (simp; done) | (simp [*]; done) | (simp only [i64_w]; done) | (simp [i64_w]; done), by repeat (first | exact Drawn0.refl _ | apply Drawn0.step)⟩
        · rw [if_neg c6] at H
          have c6b0 : decide (((rd_T27 l1 0).f3) < ((rd_T27 l0 0).f3)) = false := decide_eq_false c6
          clear c6
          by_cases c7 : ((rd_T27 l0 0).f1) > ((rd_T27 l1 0).f1)
          · rw [if_pos c7] at H
            have c7b0 : decide (((rd_T27 l1 0).f1) < ((rd_T27 l0 0).f1)) = true := decide_eq_true c7
            clear c7
            obtain rfl := Option.some.inj H
            have p153 : 0 ≤ (0 : Int) := (by omega)
            have q153 : 0 < (l0.length : Int) := of_decide_eq_true (by first | (with_reducible assumption) | assumption)
            obtain ⟨ad153, e153, hx153_0, hx153_1, hx153_2, hx153_3⟩ := at_T27 HR0.out 0 p153 q153
            cases e153
            have qi153 : (0 < l0.length) = True := eq_true (by omega)
            (try rw [show ((0 : Int)).toNat = 0 from rfl] at hx153_0)
            (try rw [show 0 * 4 = 0 from rfl] at hx153_0)
            (try rw [Addr.add_zero'] at hx153_0)
            (try rw [show ((0 : Int)).toNat = 0 from rfl] at hx153_1)
            (try rw [show 0 * 4 = 0 from rfl] at hx153_1)
            (try rw [Addr.add_zero'] at hx153_1)
            (try rw [show ((0 : Int)).toNat = 0 from rfl] at hx153_2)
            (try rw [show 0 * 4 = 0 from rfl] at hx153_2)
            (try rw [Addr.add_zero'] at hx153_2)
            (try rw [show ((0 : Int)).toNat = 0 from rfl] at hx153_3)
            (try rw [show 0 * 4 = 0 from rfl] at hx153_3)
            (try rw [Addr.add_zero'] at hx153_3)
            replace p153 := eq_true p153
            replace q153 := eq_true q153
            have p154 : 0 ≤ (0 : Int) := (by omega)
            have q154 : 0 < (l1.length : Int) := of_decide_eq_true (by first | (with_reducible assumption) | assumption)
            obtain ⟨ad154, e154, hx154_0, hx154_1, hx154_2, hx154_3⟩ := at_T27 HR1.out 0 p154 q154
            cases e154
            have qi154 : (0 < l1.length) = True := eq_true (by omega)
            (try rw [show ((0 : Int)).toNat = 0 from rfl] at hx154_0)
            (try rw [show 0 * 4 = 0 from rfl] at hx154_0)
            (try rw [Addr.add_zero'] at hx154_0)
            (try rw [show ((0 : Int)).toNat = 0 from rfl] at hx154_1)
            (try rw [show 0 * 4 = 0 from rfl] at hx154_1)
            (try rw [Addr.add_zero'] at hx154_1)
            (try rw [show ((0 : Int)).toNat = 0 from rfl] at hx154_2)
            (try rw [show 0 * 4 = 0 from rfl] at hx154_2)
            (try rw [Addr.add_zero'] at hx154_2)
            (try rw [show ((0 : Int)).toNat = 0 from rfl] at hx154_3)
            (try rw [show 0 * 4 = 0 from rfl] at hx154_3)
            (try rw [Addr.add_zero'] at hx154_3)
            replace p154 := eq_true p154
            replace q154 := eq_true q154
            have p155 : 0 ≤ (0 : Int) := (by omega)
            have q155 : 0 < (l0.length : Int) := of_decide_eq_true (by first | (with_reducible assumption) | assumption)
            obtain ⟨ad155, e155, hx155_0, hx155_1, hx155_2, hx155_3⟩ := at_T27 HR0.out 0 p155 q155
            obtain rfl : ad153 = ad155 := (by injection e155)
            have qi155 : (0 < l0.length) = True := eq_true (by omega)
            (try rw [show ((0 : Int)).toNat = 0 from rfl] at hx155_0)
            (try rw [show 0 * 4 = 0 from rfl] at hx155_0)
            (try rw [Addr.add_zero'] at hx155_0)
            (try rw [show ((0 : Int)).toNat = 0 from rfl] at hx155_1)
            (try rw [show 0 * 4 = 0 from rfl] at hx155_1)
            (try rw [Addr.add_zero'] at hx155_1)
            (try rw [show ((0 : Int)).toNat = 0 from rfl] at hx155_2)
            (try rw [show 0 * 4 = 0 from rfl] at hx155_2)
            (try rw [Addr.add_zero'] at hx155_2)
            (try rw [show ((0 : Int)).toNat = 0 from rfl] at hx155_3)
            (try rw [show 0 * 4 = 0 from rfl] at hx155_3)
            (try rw [Addr.add_zero'] at hx155_3)
            replace p155 := eq_true p155
            replace q155 := eq_true q155
            have p156 : 0 ≤ (0 : Int) := (by omega)
            have q156 : 0 < (l1.length : Int) := of_decide_eq_true (by first | (with_reducible assumption) | assumption)
            obtain ⟨ad156, e156, hx156_0, hx156_1, hx156_2, hx156_3⟩ := at_T27 HR1.out 0 p156 q156
            obtain rfl : ad154 = ad156 := (by injection e156)
            have qi156 : (0 < l1.length) = True := eq_true (by omega)
            (try rw [show ((0 : Int)).toNat = 0 from rfl] at hx156_0)
            (try rw [show 0 * 4 = 0 from rfl] at hx156_0)
            (try rw [Addr.add_zero'] at hx156_0)
            (try rw [show ((0 : Int)).toNat = 0 from rfl] at hx156_1)
            (try rw [show 0 * 4 = 0 from rfl] at hx156_1)
            (try rw [Addr.add_zero'] at hx156_1)
            (try rw [show ((0 : Int)).toNat = 0 from rfl] at hx156_2)
            (try rw [show 0 * 4 = 0 from rfl] at hx156_2)
            (try rw [Addr.add_zero'] at hx156_2)
            (try rw [show ((0 : Int)).toNat = 0 from rfl] at hx156_3)
            (try rw [show 0 * 4 = 0 from rfl] at hx156_3)
            (try rw [Addr.add_zero'] at hx156_3)
            replace p156 := eq_true p156
            replace q156 := eq_true q156
            have p157 : 0 ≤ (0 : Int) := (by omega)
            have q157 : 0 < (l0.length : Int) := of_decide_eq_true (by first | (with_reducible assumption) | assumption)
            obtain ⟨ad157, e157, hx157_0, hx157_1, hx157_2, hx157_3⟩ := at_T27 HR0.out 0 p157 q157
            obtain rfl : ad153 = ad157 := (by injection e157)
            have qi157 : (0 < l0.length) = True := eq_true (by omega)
            (try rw [show ((0 : Int)).toNat = 0 from rfl] at hx157_0)
            (try rw [show 0 * 4 = 0 from rfl] at hx157_0)
            (try rw [Addr.add_zero'] at hx157_0)
            (try rw [show ((0 : Int)).toNat = 0 from rfl] at hx157_1)
            (try rw [show 0 * 4 = 0 from rfl] at hx157_1)
            (try rw [Addr.add_zero'] at hx157_1)
            (try rw [show ((0 : Int)).toNat = 0 from rfl] at hx157_2)
            (try rw [show 0 * 4 = 0 from rfl] at hx157_2)
            (try rw [Addr.add_zero'] at hx157_2)
            (try rw [show ((0 : Int)).toNat = 0 from rfl] at hx157_3)
            (try rw [show 0 * 4 = 0 from rfl] at hx157_3)
            (try rw [Addr.add_zero'] at hx157_3)
            replace p157 := eq_true p157
            replace q157 := eq_true q157
            have p158 : 0 ≤ (0 : Int) := (by omega)
            have q158 : 0 < (l1.length : Int) := of_decide_eq_true (by first | (with_reducible assumption) | assumption)
            obtain ⟨ad158, e158, hx158_0, hx158_1, hx158_2, hx158_3⟩ := at_T27 HR1.out 0 p158 q158
            obtain rfl : ad154 = ad158 := (by injection e158)
            have qi158 : (0 < l1.length) = True := eq_true (by omega)
            (try rw [show ((0 : Int)).toNat = 0 from rfl] at hx158_0)
            (try rw [show 0 * 4 = 0 from rfl] at hx158_0)
            (try rw [Addr.add_zero'] at hx158_0)
            (try rw [show ((0 : Int)).toNat = 0 from rfl] at hx158_1)
            (try rw [show 0 * 4 = 0 from rfl] at hx158_1)
            (try rw [Addr.add_zero'] at hx158_1)
            (try rw [show ((0 : Int)).toNat = 0 from rfl] at hx158_2)
            (try rw [show 0 * 4 = 0 from rfl] at hx158_2)
            (try rw [Addr.add_zero'] at hx158_2)
            (try rw [show ((0 : Int)).toNat = 0 from rfl] at hx158_3)
            (try rw [show 0 * 4 = 0 from rfl] at hx158_3)
            (try rw [Addr.add_zero'] at hx158_3)
            replace p158 := eq_true p158
            replace q158 := eq_true q158
            go_enter Try.func58, Try.ntmps58
            go_wp2
            repeat ((refine wp_region_quiet_lit (by kernel_rfl) (by kernel_rfl) ?_; (repeat ((first | (with_reducible refine wpQuiet_step (fun K hK => ?_)) | refine wpQuiet_step (fun K hK => ?_)); go_simp; first | (refine hK _ ?_; clear hK K) | (apply Exists.intro; refine ⟨fun _ => ?_, hK _ ?_⟩; (try simp only [i64_w]); (fail); clear hK K))); refine wpQuiet_nil ?_; intro _ hw'; obtain ⟨nq, hw''⟩ := hw'; subst hw''); try go_wp2)
            go_ret
            exact ⟨by first | rfl | (simp; done) | (simp [*]; done) | (simp only [i64_w]; done) | (simp [i64_w]; done), by repeat (first | exact Drawn0.refl _ | apply Drawn0.step)⟩
          · rw [if_neg c7] at H
            have c7b0 : decide (((rd_T27 l1 0).f1) < ((rd_T27 l0 0).f1)) = false := decide_eq_false c7
            clear c7
            by_cases c8 : ((rd_T27 l0 0).f2) = ((rd_T27 l1 0).f2)
            · rw [if_pos c8] at H
              have c8b0 : (((rd_T27 l0 0).f2) == ((rd_T27 l1 0).f2)) = true := beq_iff_eq.mpr c8
              have c8b1 : (((rd_T27 l0 0).f2) != ((rd_T27 l1 0).f2)) = false := bne_eq_false_iff_eq.mpr c8
              clear c8
              by_cases c9 : ((rd_T27 l0 0).f3) = ((rd_T27 l1 0).f3)
              · rw [if_pos c9] at H
                have c9b0 : (((rd_T27 l0 0).f3) == ((rd_T27 l1 0).f3)) = true := beq_iff_eq.mpr c9
                have c9b1 : (((rd_T27 l0 0).f3) != ((rd_T27 l1 0).f3)) = false := bne_eq_false_iff_eq.mpr c9
                clear c9
                obtain rfl := Option.some.inj H
                have p153 : 0 ≤ (0 : Int) := (by omega)
                have q153 : 0 < (l0.length : Int) := of_decide_eq_true (by first | (with_reducible assumption) | assumption)
                obtain ⟨ad153, e153, hx153_0, hx153_1, hx153_2, hx153_3⟩ := at_T27 HR0.out 0 p153 q153
                cases e153
                have qi153 : (0 < l0.length) = True := eq_true (by omega)
                (try rw [show ((0 : Int)).toNat = 0 from rfl] at hx153_0)
                (try rw [show 0 * 4 = 0 from rfl] at hx153_0)
                (try rw [Addr.add_zero'] at hx153_0)
                (try rw [show ((0 : Int)).toNat = 0 from rfl] at hx153_1)
                (try rw [show 0 * 4 = 0 from rfl] at hx153_1)
                (try rw [Addr.add_zero'] at hx153_1)
                (try rw [show ((0 : Int)).toNat = 0 from rfl] at hx153_2)
                (try rw [show 0 * 4 = 0 from rfl] at hx153_2)
                (try rw [Addr.add_zero'] at hx153_2)
                (try rw [show ((0 : Int)).toNat = 0 from rfl] at hx153_3)
                (try rw [show 0 * 4 = 0 from rfl] at hx153_3)
                (try rw [Addr.add_zero'] at hx153_3)
                replace p153 := eq_true p153
                replace q153 := eq_true q153
                have p154 : 0 ≤ (0 : Int) := (by omega)
                have q154 : 0 < (l1.length : Int) := of_decide_eq_true (by first | (with_reducible assumption) | assumption)
                obtain ⟨ad154, e154, hx154_0, hx154_1, hx154_2, hx154_3⟩ := at_T27 HR1.out 0 p154 q154
                cases e154
                have qi154 : (0 < l1.length) = True := eq_true (by omega)
                (try rw [show ((0 : Int)).toNat = 0 from rfl] at hx154_0)
                (try rw [show 0 * 4 = 0 from rfl] at hx154_0)
                (try rw [Addr.add_zero'] at hx154_0)
                (try rw [show ((0 : Int)).toNat = 0 from rfl] at hx154_1)
                (try rw [show 0 * 4 = 0 from rfl] at hx154_1)
                (try rw [Addr.add_zero'] at hx154_1)
                (try rw [show ((0 : Int)).toNat = 0 from rfl] at hx154_2)
                (try rw [show 0 * 4 = 0 from rfl] at hx154_2)
                (try rw [Addr.add_zero'] at hx154_2)
                (try rw [show ((0 : Int)).toNat = 0 from rfl] at hx154_3)
                (try rw [show 0 * 4 = 0 from rfl] at hx154_3)
                (try rw [Addr.add_zero'] at hx154_3)
                replace p154 := eq_true p154
                replace q154 := eq_true q154
                have p155 : 0 ≤ (0 : Int) := (by omega)
                have q155 : 0 < (l0.length : Int) := of_decide_eq_true (by first | (with_reducible assumption) | assumption)
                obtain ⟨ad155, e155, hx155_0, hx155_1, hx155_2, hx155_3⟩ := at_T27 HR0.out 0 p155 q155
                obtain rfl : ad153 = ad155 := (by injection e155)
                have qi155 : (0 < l0.length) = True := eq_true (by omega)
                (try rw [show ((0 : Int)).toNat = 0 from rfl] at hx155_0)
                (try rw [show 0 * 4 = 0 from rfl] at hx155_0)
                (try rw [Addr.add_zero'] at hx155_0)
                (try rw [show ((0 : Int)).toNat = 0 from rfl] at hx155_1)
                (try rw [show 0 * 4 = 0 from rfl] at hx155_1)
                (try rw [Addr.add_zero'] at hx155_1)
                (try rw [show ((0 : Int)).toNat = 0 from rfl] at hx155_2)
                (try rw [show 0 * 4 = 0 from rfl] at hx155_2)
                (try rw [Addr.add_zero'] at hx155_2)
                (try rw [show ((0 : Int)).toNat = 0 from rfl] at hx155_3)
                (try rw [show 0 * 4 = 0 from rfl] at hx155_3)
                (try rw [Addr.add_zero'] at hx155_3)
                replace p155 := eq_true p155
                replace q155 := eq_true q155
                have p156 : 0 ≤ (0 : Int) := (by omega)
                have q156 : 0 < (l1.length : Int) := of_decide_eq_true (by first | (with_reducible assumption) | assumption)
                obtain ⟨ad156, e156, hx156_0, hx156_1, hx156_2, hx156_3⟩ := at_T27 HR1.out 0 p156 q156
                obtain rfl : ad154 = ad156 := (by injection e156)
                have qi156 : (0 < l1.length) = True := eq_true (by omega)
                (try rw [show ((0 : Int)).toNat = 0 from rfl] at hx156_0)
                (try rw [show 0 * 4 = 0 from rfl] at hx156_0)
                (try rw [Addr.add_zero'] at hx156_0)
                (try rw [show ((0 : Int)).toNat = 0 from rfl] at hx156_1)
                (try rw [show 0 * 4 = 0 from rfl] at hx156_1)
                (try rw [Addr.add_zero'] at hx156_1)
                (try rw [show ((0 : Int)).toNat = 0 from rfl] at hx156_2)
                (try rw [show 0 * 4 = 0 from rfl] at hx156_2)
                (try rw [Addr.add_zero'] at hx156_2)
                (try rw [show ((0 : Int)).toNat = 0 from rfl] at hx156_3)
                (try rw [show 0 * 4 = 0 from rfl] at hx156_3)
                (try rw [Addr.add_zero'] at hx156_3)
                replace p156 := eq_true p156
                replace q156 := eq_true q156
                have p157 : 0 ≤ (0 : Int) := (by omega)
                have q157 : 0 < (l0.length : Int) := of_decide_eq_true (by first | (with_reducible assumption) | assumption)
                obtain ⟨ad157, e157, hx157_0, hx157_1, hx157_2, hx157_3⟩ := at_T27 HR0.out 0 p157 q157
                obtain rfl : ad153 = ad157 := (by injection e157)
                have qi157 : (0 < l0.length) = True := eq_true (by omega)
                (try rw [show ((0 : Int)).toNat = 0 from rfl] at hx157_0)
                (try rw [show 0 * 4 = 0 from rfl] at hx157_0)
                (try rw [Addr.add_zero'] at hx157_0)
                (try rw [show ((0 : Int)).toNat = 0 from rfl] at hx157_1)
                (try rw [show 0 * 4 = 0 from rfl] at hx157_1)
                (try rw [Addr.add_zero'] at hx157_1)
                (try rw [show ((0 : Int)).toNat = 0 from rfl] at hx157_2)
                (try rw [show 0 * 4 = 0 from rfl] at hx157_2)
                (try rw [Addr.add_zero'] at hx157_2)
                (try rw [show ((0 : Int)).toNat = 0 from rfl] at hx157_3)
                (try rw [show 0 * 4 = 0 from rfl] at hx157_3)
                (try rw [Addr.add_zero'] at hx157_3)
                replace p157 := eq_true p157
                replace q157 := eq_true q157
                have p158 : 0 ≤ (0 : Int) := (by omega)
                have q158 : 0 < (l1.length : Int) := of_decide_eq_true (by first | (with_reducible assumption) | assumption)
                obtain ⟨ad158, e158, hx158_0, hx158_1, hx158_2, hx158_3⟩ := at_T27 HR1.out 0 p158 q158
                obtain rfl : ad154 = ad158 := (by injection e158)
                have qi158 : (0 < l1.length) = True := eq_true (by omega)
                (try rw [show ((0 : Int)).toNat = 0 from rfl] at hx158_0)
                (try rw [show 0 * 4 = 0 from rfl] at hx158_0)
                (try rw [Addr.add_zero'] at hx158_0)
                (try rw [show ((0 : Int)).toNat = 0 from rfl] at hx158_1)
                (try rw [show 0 * 4 = 0 from rfl] at hx158_1)
                (try rw [Addr.add_zero'] at hx158_1)
                (try rw [show ((0 : Int)).toNat = 0 from rfl] at hx158_2)
                (try rw [show 0 * 4 = 0 from rfl] at hx158_2)
                (try rw [Addr.add_zero'] at hx158_2)
                (try rw [show ((0 : Int)).toNat = 0 from rfl] at hx158_3)
                (try rw [show 0 * 4 = 0 from rfl] at hx158_3)
                (try rw [Addr.add_zero'] at hx158_3)
                replace p158 := eq_true p158
                replace q158 := eq_true q158
                have p159 : 0 ≤ (0 : Int) := (by omega)
                have q159 : 0 < (l0.length : Int) := of_decide_eq_true (by first | (with_reducible assumption) | assumption)
                obtain ⟨ad159, e159, hx159_0, hx159_1, hx159_2, hx159_3⟩ := at_T27 HR0.out 0 p159 q159
                obtain rfl : ad153 = ad159 := (by injection e159)
                have qi159 : (0 < l0.length) = True := eq_true (by omega)
                (try rw [show ((0 : Int)).toNat = 0 from rfl] at hx159_0)
                (try rw [show 0 * 4 = 0 from rfl] at hx159_0)
                (try rw [Addr.add_zero'] at hx159_0)
                (try rw [show ((0 : Int)).toNat = 0 from rfl] at hx159_1)
                (try rw [show 0 * 4 = 0 from rfl] at hx159_1)
                (try rw [Addr.add_zero'] at hx159_1)
                (try rw [show ((0 : Int)).toNat = 0 from rfl] at hx159_2)
                (try rw [show 0 * 4 = 0 from rfl] at hx159_2)
                (try rw [Addr.add_zero'] at hx159_2)
                (try rw [show ((0 : Int)).toNat = 0 from rfl] at hx159_3)
                (try rw [show 0 * 4 = 0 from rfl] at hx159_3)
                (try rw [Addr.add_zero'] at hx159_3)
                replace p159 := eq_true p159
                replace q159 := eq_true q159
                have p160 : 0 ≤ (0 : Int) := (by omega)
                have q160 : 0 < (l1.length : Int) := of_decide_eq_true (by first | (with_reducible assumption) | assumption)
                obtain ⟨ad160, e160, hx160_0, hx160_1, hx160_2, hx160_3⟩ := at_T27 HR1.out 0 p160 q160
                obtain rfl : ad154 = ad160 := (by injection e160)
                have qi160 : (0 < l1.length) = True := eq_true (by omega)
                (try rw [show ((0 : Int)).toNat = 0 from rfl] at hx160_0)
                (try rw [show 0 * 4 = 0 from rfl] at hx160_0)
                (try rw [Addr.add_zero'] at hx160_0)
                (try rw [show ((0 : Int)).toNat = 0 from rfl] at hx160_1)
                (try rw [show 0 * 4 = 0 from rfl] at hx160_1)
                (try rw [Addr.add_zero'] at hx160_1)
                (try rw [show ((0 : Int)).toNat = 0 from rfl] at hx160_2)
                (try rw [show 0 * 4 = 0 from rfl] at hx160_2)
                (try rw [Addr.add_zero'] at hx160_2)
                (try rw [show ((0 : Int)).toNat = 0 from rfl] at hx160_3)
                (try rw [show 0 * 4 = 0 from rfl] at hx160_3)
                (try rw [Addr.add_zero'] at hx160_3)
                replace p160 := eq_true p160
                replace q160 := eq_true q160
                have p161 : 0 ≤ (0 : Int) := (by omega)
                have q161 : 0 < (l0.length : Int) := of_decide_eq_true (by first | (with_reducible assumption) | assumption)
                obtain ⟨ad161, e161, hx161_0, hx161_1, hx161_2, hx161_3⟩ := at_T27 HR0.out 0 p161 q161
                obtain rfl : ad153 = ad161 := (by injection e161)
                have qi161 : (0 < l0.length) = True := eq_true (by omega)
                (try rw [show ((0 : Int)).toNat = 0 from rfl] at hx161_0)
                (try rw [show 0 * 4 = 0 from rfl] at hx161_0)
                (try rw [Addr.add_zero'] at hx161_0)
                (try rw [show ((0 : Int)).toNat = 0 from rfl] at hx161_1)
                (try rw [show 0 * 4 = 0 from rfl] at hx161_1)
                (try rw [Addr.add_zero'] at hx161_1)
                (try rw [show ((0 : Int)).toNat = 0 from rfl] at hx161_2)
                (try rw [show 0 * 4 = 0 from rfl] at hx161_2)
                (try rw [Addr.add_zero'] at hx161_2)
                (try rw [show ((0 : Int)).toNat = 0 from rfl] at hx161_3)
                (try rw [show 0 * 4 = 0 from rfl] at hx161_3)
                (try rw [Addr.add_zero'] at hx161_3)
                replace p161 := eq_true p161
                replace q161 := eq_true q161
                have p162 : 0 ≤ (0 : Int) := (by omega)
                have q162 : 0 < (l1.length : Int) := of_decide_eq_true (by first | (with_reducible assumption) | assumption)
                obtain ⟨ad162, e162, hx162_0, hx162_1, hx162_2, hx162_3⟩ := at_T27 HR1.out 0 p162 q162
                obtain rfl : ad154 = ad162 := (by injection e162)
                have qi162 : (0 < l1.length) = True := eq_true (by omega)
                (try rw [show ((0 : Int)).toNat = 0 from rfl] at hx162_0)
                (try rw [show 0 * 4 = 0 from rfl] at hx162_0)
                (try rw [Addr.add_zero'] at hx162_0)
                (try rw [show ((0 : Int)).toNat = 0 from rfl] at hx162_1)
                (try rw [show 0 * 4 = 0 from rfl] at hx162_1)
                (try rw [Addr.add_zero'] at hx162_1)
                (try rw [show ((0 : Int)).toNat = 0 from rfl] at hx162_2)
                (try rw [show 0 * 4 = 0 from rfl] at hx162_2)
                (try rw [Addr.add_zero'] at hx162_2)
                (try rw [show ((0 : Int)).toNat = 0 from rfl] at hx162_3)
                (try rw [show 0 * 4 = 0 from rfl] at hx162_3)
                (try rw [Addr.add_zero'] at hx162_3)
                replace p162 := eq_true p162
                replace q162 := eq_true q162
                have p163 : 0 ≤ (0 : Int) := (by omega)
                have q163 : 0 < (l0.length : Int) := of_decide_eq_true (by first | (with_reducible assumption) | assumption)
                obtain ⟨ad163, e163, hx163_0, hx163_1, hx163_2, hx163_3⟩ := at_T27 HR0.out 0 p163 q163
                obtain rfl : ad153 = ad163 := (by injection e163)
                have qi163 : (0 < l0.length) = True := eq_true (by omega)
                (try rw [show ((0 : Int)).toNat = 0 from rfl] at hx163_0)
                (try rw [show 0 * 4 = 0 from rfl] at hx163_0)
                (try rw [Addr.add_zero'] at hx163_0)
                (try rw [show ((0 : Int)).toNat = 0 from rfl] at hx163_1)
                (try rw [show 0 * 4 = 0 from rfl] at hx163_1)
                (try rw [Addr.add_zero'] at hx163_1)
                (try rw [show ((0 : Int)).toNat = 0 from rfl] at hx163_2)
                (try rw [show 0 * 4 = 0 from rfl] at hx163_2)
                (try rw [Addr.add_zero'] at hx163_2)
                (try rw [show ((0 : Int)).toNat = 0 from rfl] at hx163_3)
                (try rw [show 0 * 4 = 0 from rfl] at hx163_3)
                (try rw [Addr.add_zero'] at hx163_3)
                replace p163 := eq_true p163
                replace q163 := eq_true q163
                have p164 : 0 ≤ (0 : Int) := (by omega)
                have q164 : 0 < (l1.length : Int) := of_decide_eq_true (by first | (with_reducible assumption) | assumption)
                obtain ⟨ad164, e164, hx164_0, hx164_1, hx164_2, hx164_3⟩ := at_T27 HR1.out 0 p164 q164
                obtain rfl : ad154 = ad164 := (by injection e164)
                have qi164 : (0 < l1.length) = True := eq_true (by omega)
                (try rw [show ((0 : Int)).toNat = 0 from rfl] at hx164_0)
                (try rw [show 0 * 4 = 0 from rfl] at hx164_0)
                (try rw [Addr.add_zero'] at hx164_0)
                (try rw [show ((0 : Int)).toNat = 0 from rfl] at hx164_1)
                (try rw [show 0 * 4 = 0 from rfl] at hx164_1)
                (try rw [Addr.add_zero'] at hx164_1)
                (try rw [show ((0 : Int)).toNat = 0 from rfl] at hx164_2)
                (try rw [show 0 * 4 = 0 from rfl] at hx164_2)
                (try rw [Addr.add_zero'] at hx164_2)
                (try rw [show ((0 : Int)).toNat = 0 from rfl] at hx164_3)
                (try rw [show 0 * 4 = 0 from rfl] at hx164_3)
                (try rw [Addr.add_zero'] at hx164_3)
                replace p164 := eq_true p164
                replace q164 := eq_true q164
                go_enter Try.func58, Try.ntmps58
                go_wp2
                repeat ((refine wp_region_quiet_lit (by kernel_rfl) (by kernel_rfl) ?_; (repeat ((first | (with_reducible refine wpQuiet_step (fun K hK => ?_)) | refine wpQuiet_step (fun K hK => ?_)); go_simp; first | (refine hK _ ?_; clear hK K) | (apply Exists.intro; refine ⟨fun _ => ?_, hK _ ?_⟩; (try simp only [i64_w]); (fail); clear hK K))); refine wpQuiet_nil ?_; intro _ hw'; obtain ⟨nq, hw''⟩ := hw'; subst hw''); try go_wp2)
                go_ret
                exact ⟨by first | rfl | (simp; done) | (simp [*]; done) | (simp only [i64_w]; done) | (simp [i64_w]; done), by repeat (first | exact Drawn0.refl _ | apply Drawn0.step)⟩
              · rw [if_neg c9] at H
                have c9b0 : (((rd_T27 l0 0).f3) == ((rd_T27 l1 0).f3)) = false := beq_eq_false_iff_ne.mpr c9
                have c9b1 : (((rd_T27 l0 0).f3) != ((rd_T27 l1 0).f3)) = true := bne_iff_ne.mpr c9
                obtain rfl := Option.some.inj H
                have p153 : 0 ≤ (0 : Int) := (by omega)
                have q153 : 0 < (l0.length : Int) := of_decide_eq_true (by first | (with_reducible assumption) | assumption)
                obtain ⟨ad153, e153, hx153_0, hx153_1, hx153_2, hx153_3⟩ := at_T27 HR0.out 0 p153 q153
                cases e153
                have qi153 : (0 < l0.length) = True := eq_true (by omega)
                (try rw [show ((0 : Int)).toNat = 0 from rfl] at hx153_0)
                (try rw [show 0 * 4 = 0 from rfl] at hx153_0)
                (try rw [Addr.add_zero'] at hx153_0)
                (try rw [show ((0 : Int)).toNat = 0 from rfl] at hx153_1)
                (try rw [show 0 * 4 = 0 from rfl] at hx153_1)
                (try rw [Addr.add_zero'] at hx153_1)
                (try rw [show ((0 : Int)).toNat = 0 from rfl] at hx153_2)
                (try rw [show 0 * 4 = 0 from rfl] at hx153_2)
                (try rw [Addr.add_zero'] at hx153_2)
                (try rw [show ((0 : Int)).toNat = 0 from rfl] at hx153_3)
                (try rw [show 0 * 4 = 0 from rfl] at hx153_3)
                (try rw [Addr.add_zero'] at hx153_3)
                replace p153 := eq_true p153
                replace q153 := eq_true q153
                have p154 : 0 ≤ (0 : Int) := (by omega)
                have q154 : 0 < (l1.length : Int) := of_decide_eq_true (by first | (with_reducible assumption) | assumption)
                obtain ⟨ad154, e154, hx154_0, hx154_1, hx154_2, hx154_3⟩ := at_T27 HR1.out 0 p154 q154
                cases e154
                have qi154 : (0 < l1.length) = True := eq_true (by omega)
                (try rw [show ((0 : Int)).toNat = 0 from rfl] at hx154_0)
                (try rw [show 0 * 4 = 0 from rfl] at hx154_0)
                (try rw [Addr.add_zero'] at hx154_0)
                (try rw [show ((0 : Int)).toNat = 0 from rfl] at hx154_1)
                (try rw [show 0 * 4 = 0 from rfl] at hx154_1)
                (try rw [Addr.add_zero'] at hx154_1)
                (try rw [show ((0 : Int)).toNat = 0 from rfl] at hx154_2)
                (try rw [show 0 * 4 = 0 from rfl] at hx154_2)
                (try rw [Addr.add_zero'] at hx154_2)
                (try rw [show ((0 : Int)).toNat = 0 from rfl] at hx154_3)
                (try rw [show 0 * 4 = 0 from rfl] at hx154_3)
                (try rw [Addr.add_zero'] at hx154_3)
                replace p154 := eq_true p154
                replace q154 := eq_true q154
                have p155 : 0 ≤ (0 : Int) := (by omega)
                have q155 : 0 < (l0.length : Int) := of_decide_eq_true (by first | (with_reducible assumption) | assumption)
                obtain ⟨ad155, e155, hx155_0, hx155_1, hx155_2, hx155_3⟩ := at_T27 HR0.out 0 p155 q155
                obtain rfl : ad153 = ad155 := (by injection e155)
                have qi155 : (0 < l0.length) = True := eq_true (by omega)
                (try rw [show ((0 : Int)).toNat = 0 from rfl] at hx155_0)
                (try rw [show 0 * 4 = 0 from rfl] at hx155_0)
                (try rw [Addr.add_zero'] at hx155_0)
                (try rw [show ((0 : Int)).toNat = 0 from rfl] at hx155_1)
                (try rw [show 0 * 4 = 0 from rfl] at hx155_1)
                (try rw [Addr.add_zero'] at hx155_1)
                (try rw [show ((0 : Int)).toNat = 0 from rfl] at hx155_2)
                (try rw [show 0 * 4 = 0 from rfl] at hx155_2)
                (try rw [Addr.add_zero'] at hx155_2)
                (try rw [show ((0 : Int)).toNat = 0 from rfl] at hx155_3)
                (try rw [show 0 * 4 = 0 from rfl] at hx155_3)
                (try rw [Addr.add_zero'] at hx155_3)
                replace p155 := eq_true p155
                replace q155 := eq_true q155
                have p156 : 0 ≤ (0 : Int) := (by omega)
                have q156 : 0 < (l1.length : Int) := of_decide_eq_true (by first | (with_reducible assumption) | assumption)
                obtain ⟨ad156, e156, hx156_0, hx156_1, hx156_2, hx156_3⟩ := at_T27 HR1.out 0 p156 q156
                obtain rfl : ad154 = ad156 := (by injection e156)
                have qi156 : (0 < l1.length) = True := eq_true (by omega)
                (try rw [show ((0 : Int)).toNat = 0 from rfl] at hx156_0)
                (try rw [show 0 * 4 = 0 from rfl] at hx156_0)
                (try rw [Addr.add_zero'] at hx156_0)
                (try rw [show ((0 : Int)).toNat = 0 from rfl] at hx156_1)
                (try rw [show 0 * 4 = 0 from rfl] at hx156_1)
                (try rw [Addr.add_zero'] at hx156_1)
                (try rw [show ((0 : Int)).toNat = 0 from rfl] at hx156_2)
                (try rw [show 0 * 4 = 0 from rfl] at hx156_2)
                (try rw [Addr.add_zero'] at hx156_2)
                (try rw [show ((0 : Int)).toNat = 0 from rfl] at hx156_3)
                (try rw [show 0 * 4 = 0 from rfl] at hx156_3)
                (try rw [Addr.add_zero'] at hx156_3)
                replace p156 := eq_true p156
                replace q156 := eq_true q156
                have p157 : 0 ≤ (0 : Int) := (by omega)
                have q157 : 0 < (l0.length : Int) := of_decide_eq_true (by first | (with_reducible assumption) | assumption)
                obtain ⟨ad157, e157, hx157_0, hx157_1, hx157_2, hx157_3⟩ := at_T27 HR0.out 0 p157 q157
                obtain rfl : ad153 = ad157 := (by injection e157)
                have qi157 : (0 < l0.length) = True := eq_true (by omega)
                (try rw [show ((0 : Int)).toNat = 0 from rfl] at hx157_0)
                (try rw [show 0 * 4 = 0 from rfl] at hx157_0)
                (try rw [Addr.add_zero'] at hx157_0)
                (try rw [show ((0 : Int)).toNat = 0 from rfl] at hx157_1)
                (try rw [show 0 * 4 = 0 from rfl] at hx157_1)
                (try rw [Addr.add_zero'] at hx157_1)
                (try rw [show ((0 : Int)).toNat = 0 from rfl] at hx157_2)
                (try rw [show 0 * 4 = 0 from rfl] at hx157_2)
                (try rw [Addr.add_zero'] at hx157_2)
                (try rw [show ((0 : Int)).toNat = 0 from rfl] at hx157_3)
                (try rw [show 0 * 4 = 0 from rfl] at hx157_3)
                (try rw [Addr.add_zero'] at hx157_3)
                replace p157 := eq_true p157
                replace q157 := eq_true q157
                have p158 : 0 ≤ (0 : Int) := (by omega)
                have q158 : 0 < (l1.length : Int) := of_decide_eq_true (by first | (with_reducible assumption) | assumption)
                obtain ⟨ad158, e158, hx158_0, hx158_1, hx158_2, hx158_3⟩ := at_T27 HR1.out 0 p158 q158
                obtain rfl : ad154 = ad158 := (by injection e158)
                have qi158 : (0 < l1.length) = True := eq_true (by omega)
                (try rw [show ((0 : Int)).toNat = 0 from rfl] at hx158_0)
                (try rw [show 0 * 4 = 0 from rfl] at hx158_0)
                (try rw [Addr.add_zero'] at hx158_0)
                (try rw [show ((0 : Int)).toNat = 0 from rfl] at hx158_1)
                (try rw [show 0 * 4 = 0 from rfl] at hx158_1)
                (try rw [Addr.add_zero'] at hx158_1)
                (try rw [show ((0 : Int)).toNat = 0 from rfl] at hx158_2)
                (try rw [show 0 * 4 = 0 from rfl] at hx158_2)
                (try rw [Addr.add_zero'] at hx158_2)
                (try rw [show ((0 : Int)).toNat = 0 from rfl] at hx158_3)
                (try rw [show 0 * 4 = 0 from rfl] at hx158_3)
                (try rw [Addr.add_zero'] at hx158_3)
                replace p158 := eq_true p158
                replace q158 := eq_true q158
                have p159 : 0 ≤ (0 : Int) := (by omega)
                have q159 : 0 < (l0.length : Int) := of_decide_eq_true (by first | (with_reducible assumption) | assumption)
                obtain ⟨ad159, e159, hx159_0, hx159_1, hx159_2, hx159_3⟩ := at_T27 HR0.out 0 p159 q159
                obtain rfl : ad153 = ad159 := (by injection e159)
                have qi159 : (0 < l0.length) = True := eq_true (by omega)
                (try rw [show ((0 : Int)).toNat = 0 from rfl] at hx159_0)
                (try rw [show 0 * 4 = 0 from rfl] at hx159_0)
                (try rw [Addr.add_zero'] at hx159_0)
                (try rw [show ((0 : Int)).toNat = 0 from rfl] at hx159_1)
                (try rw [show 0 * 4 = 0 from rfl] at hx159_1)
                (try rw [Addr.add_zero'] at hx159_1)
                (try rw [show ((0 : Int)).toNat = 0 from rfl] at hx159_2)
                (try rw [show 0 * 4 = 0 from rfl] at hx159_2)
                (try rw [Addr.add_zero'] at hx159_2)
                (try rw [show ((0 : Int)).toNat = 0 from rfl] at hx159_3)
                (try rw [show 0 * 4 = 0 from rfl] at hx159_3)
                (try rw [Addr.add_zero'] at hx159_3)
                replace p159 := eq_true p159
                replace q159 := eq_true q159
                have p160 : 0 ≤ (0 : Int) := (by omega)
                have q160 : 0 < (l1.length : Int) := of_decide_eq_true (by first | (with_reducible assumption) | assumption)
                obtain ⟨ad160, e160, hx160_0, hx160_1, hx160_2, hx160_3⟩ := at_T27 HR1.out 0 p160 q160
                obtain rfl : ad154 = ad160 := (by injection e160)
                have qi160 : (0 < l1.length) = True := eq_true (by omega)
                (try rw [show ((0 : Int)).toNat = 0 from rfl] at hx160_0)
                (try rw [show 0 * 4 = 0 from rfl] at hx160_0)
                (try rw [Addr.add_zero'] at hx160_0)
                (try rw [show ((0 : Int)).toNat = 0 from rfl] at hx160_1)
                (try rw [show 0 * 4 = 0 from rfl] at hx160_1)
                (try rw [Addr.add_zero'] at hx160_1)
                (try rw [show ((0 : Int)).toNat = 0 from rfl] at hx160_2)
                (try rw [show 0 * 4 = 0 from rfl] at hx160_2)
                (try rw [Addr.add_zero'] at hx160_2)
                (try rw [show ((0 : Int)).toNat = 0 from rfl] at hx160_3)
                (try rw [show 0 * 4 = 0 from rfl] at hx160_3)
                (try rw [Addr.add_zero'] at hx160_3)
                replace p160 := eq_true p160
                replace q160 := eq_true q160
                have p161 : 0 ≤ (0 : Int) := (by omega)
                have q161 : 0 < (l0.length : Int) := of_decide_eq_true (by first | (with_reducible assumption) | assumption)
                obtain ⟨ad161, e161, hx161_0, hx161_1, hx161_2, hx161_3⟩ := at_T27 HR0.out 0 p161 q161
                obtain rfl : ad153 = ad161 := (by injection e161)
                have qi161 : (0 < l0.length) = True := eq_true (by omega)
                (try rw [show ((0 : Int)).toNat = 0 from rfl] at hx161_0)
                (try rw [show 0 * 4 = 0 from rfl] at hx161_0)
                (try rw [Addr.add_zero'] at hx161_0)
                (try rw [show ((0 : Int)).toNat = 0 from rfl] at hx161_1)
                (try rw [show 0 * 4 = 0 from rfl] at hx161_1)
                (try rw [Addr.add_zero'] at hx161_1)
                (try rw [show ((0 : Int)).toNat = 0 from rfl] at hx161_2)
                (try rw [show 0 * 4 = 0 from rfl] at hx161_2)
                (try rw [Addr.add_zero'] at hx161_2)
                (try rw [show ((0 : Int)).toNat = 0 from rfl] at hx161_3)
                (try rw [show 0 * 4 = 0 from rfl] at hx161_3)
                (try rw [Addr.add_zero'] at hx161_3)
                replace p161 := eq_true p161
                replace q161 := eq_true q161
                have p162 : 0 ≤ (0 : Int) := (by omega)
                have q162 : 0 < (l1.length : Int) := of_decide_eq_true (by first | (with_reducible assumption) | assumption)
                obtain ⟨ad162, e162, hx162_0, hx162_1, hx162_2, hx162_3⟩ := at_T27 HR1.out 0 p162 q162
                obtain rfl : ad154 = ad162 := (by injection e162)
                have qi162 : (0 < l1.length) = True := eq_true (by omega)
                (try rw [show ((0 : Int)).toNat = 0 from rfl] at hx162_0)
                (try rw [show 0 * 4 = 0 from rfl] at hx162_0)
                (try rw [Addr.add_zero'] at hx162_0)
                (try rw [show ((0 : Int)).toNat = 0 from rfl] at hx162_1)
                (try rw [show 0 * 4 = 0 from rfl] at hx162_1)
                (try rw [Addr.add_zero'] at hx162_1)
                (try rw [show ((0 : Int)).toNat = 0 from rfl] at hx162_2)
                (try rw [show 0 * 4 = 0 from rfl] at hx162_2)
                (try rw [Addr.add_zero'] at hx162_2)
                (try rw [show ((0 : Int)).toNat = 0 from rfl] at hx162_3)
                (try rw [show 0 * 4 = 0 from rfl] at hx162_3)
                (try rw [Addr.add_zero'] at hx162_3)
                replace p162 := eq_true p162
                replace q162 := eq_true q162
                go_enter Try.func58, Try.ntmps58
                go_wp2
                repeat ((refine wp_region_quiet_lit (by kernel_rfl) (by kernel_rfl) ?_; (repeat ((first | (with_reducible refine wpQuiet_step (fun K hK => ?_)) | refine wpQuiet_step (fun K hK => ?_)); go_simp; first | (refine hK _ ?_; clear hK K) | (apply Exists.intro; refine ⟨fun _ => ?_, hK _ ?_⟩; (try simp only [i64_w]); (fail); clear hK K))); refine wpQuiet_nil ?_; intro _ hw'; obtain ⟨nq, hw''⟩ := hw'; subst hw''); try go_wp2)
                go_ret
                exact ⟨by first | rfl | (simp; done) | (simp [*]; done) | (simp only [i64_w]; done) | (simp [i64_w]; done), by repeat (first | exact Drawn0.refl _ | apply Drawn0.step)⟩
            · rw [if_neg c8] at H
              have c8b0 : (((rd_T27 l0 0).f2) == ((rd_T27 l1 0).f2)) = false := beq_eq_false_iff_ne.mpr c8
              have c8b1 : (((rd_T27 l0 0).f2) != ((rd_T27 l1 0).f2)) = true := bne_iff_ne.mpr c8
              obtain rfl := Option.some.inj H
              have p153 : 0 ≤ (0 : Int) := (by omega)
              have q153 : 0 < (l0.length : Int) := of_decide_eq_true (by first | (with_reducible assumption) | assumption)
              obtain ⟨ad153, e153, hx153_0, hx153_1, hx153_2, hx153_3⟩ := at_T27 HR0.out 0 p153 q153
              cases e153
              have qi153 : (0 < l0.length) = True := eq_true (by omega)
              (try rw [show ((0 : Int)).toNat = 0 from rfl] at hx153_0)
              (try rw [show 0 * 4 = 0 from rfl] at hx153_0)
              (try rw [Addr.add_zero'] at hx153_0)
              (try rw [show ((0 : Int)).toNat = 0 from rfl] at hx153_1)
              (try rw [show 0 * 4 = 0 from rfl] at hx153_1)
              (try rw [Addr.add_zero'] at hx153_1)
              (try rw [show ((0 : Int)).toNat = 0 from rfl] at hx153_2)
              (try rw [show 0 * 4 = 0 from rfl] at hx153_2)
              (try rw [Addr.add_zero'] at hx153_2)
              (try rw [show ((0 : Int)).toNat = 0 from rfl] at hx153_3)
              (try rw [show 0 * 4 = 0 from rfl] at hx153_3)
              (try rw [Addr.add_zero'] at hx153_3)
              replace p153 := eq_true p153
              replace q153 := eq_true q153
              have p154 : 0 ≤ (0 : Int) := (by omega)
              have q154 : 0 < (l1.length : Int) := of_decide_eq_true (by first | (with_reducible assumption) | assumption)
              obtain ⟨ad154, e154, hx154_0, hx154_1, hx154_2, hx154_3⟩ := at_T27 HR1.out 0 p154 q154
              cases e154
              have qi154 : (0 < l1.length) = True := eq_true (by omega)
              (try rw [show ((0 : Int)).toNat = 0 from rfl] at hx154_0)
              (try rw [show 0 * 4 = 0 from rfl] at hx154_0)
              (try rw [Addr.add_zero'] at hx154_0)
              (try rw [show ((0 : Int)).toNat = 0 from rfl] at hx154_1)
              (try rw [show 0 * 4 = 0 from rfl] at hx154_1)
              (try rw [Addr.add_zero'] at hx154_1)
              (try rw [show ((0 : Int)).toNat = 0 from rfl] at hx154_2)
              (try rw [show 0 * 4 = 0 from rfl] at hx154_2)
              (try rw [Addr.add_zero'] at hx154_2)
              (try rw [show ((0 : Int)).toNat = 0 from rfl] at hx154_3)
              (try rw [show 0 * 4 = 0 from rfl] at hx154_3)
              (try rw [Addr.add_zero'] at hx154_3)
              replace p154 := eq_true p154
              replace q154 := eq_true q154
              have p155 : 0 ≤ (0 : Int) := (by omega)
              have q155 : 0 < (l0.length : Int) := of_decide_eq_true (by first | (with_reducible assumption) | assumption)
              obtain ⟨ad155, e155, hx155_0, hx155_1, hx155_2, hx155_3⟩ := at_T27 HR0.out 0 p155 q155
              obtain rfl : ad153 = ad155 := (by injection e155)
              have qi155 : (0 < l0.length) = True := eq_true (by omega)
              (try rw [show ((0 : Int)).toNat = 0 from rfl] at hx155_0)
              (try rw [show 0 * 4 = 0 from rfl] at hx155_0)
              (try rw [Addr.add_zero'] at hx155_0)
              (try rw [show ((0 : Int)).toNat = 0 from rfl] at hx155_1)
              (try rw [show 0 * 4 = 0 from rfl] at hx155_1)
              (try rw [Addr.add_zero'] at hx155_1)
              (try rw [show ((0 : Int)).toNat = 0 from rfl] at hx155_2)
              (try rw [show 0 * 4 = 0 from rfl] at hx155_2)
              (try rw [Addr.add_zero'] at hx155_2)
              (try rw [show ((0 : Int)).toNat = 0 from rfl] at hx155_3)
              (try rw [show 0 * 4 = 0 from rfl] at hx155_3)
              (try rw [Addr.add_zero'] at hx155_3)
              replace p155 := eq_true p155
              replace q155 := eq_true q155
              have p156 : 0 ≤ (0 : Int) := (by omega)
              have q156 : 0 < (l1.length : Int) := of_decide_eq_true (by first | (with_reducible assumption) | assumption)
              obtain ⟨ad156, e156, hx156_0, hx156_1, hx156_2, hx156_3⟩ := at_T27 HR1.out 0 p156 q156
              obtain rfl : ad154 = ad156 := (by injection e156)
              have qi156 : (0 < l1.length) = True := eq_true (by omega)
              (try rw [show ((0 : Int)).toNat = 0 from rfl] at hx156_0)
              (try rw [show 0 * 4 = 0 from rfl] at hx156_0)
              (try rw [Addr.add_zero'] at hx156_0)
              (try rw [show ((0 : Int)).toNat = 0 from rfl] at hx156_1)
              (try rw [show 0 * 4 = 0 from rfl] at hx156_1)
              (try rw [Addr.add_zero'] at hx156_1)
              (try rw [show ((0 : Int)).toNat = 0 from rfl] at hx156_2)
              (try rw [show 0 * 4 = 0 from rfl] at hx156_2)
              (try rw [Addr.add_zero'] at hx156_2)
              (try rw [show ((0 : Int)).toNat = 0 from rfl] at hx156_3)
              (try rw [show 0 * 4 = 0 from rfl] at hx156_3)
              (try rw [Addr.add_zero'] at hx156_3)
              replace p156 := eq_true p156
              replace q156 := eq_true q156
              have p157 : 0 ≤ (0 : Int) := (by omega)
              have q157 : 0 < (l0.length : Int) := of_decide_eq_true (by first | (with_reducible assumption) | assumption)
              obtain ⟨ad157, e157, hx157_0, hx157_1, hx157_2, hx157_3⟩ := at_T27 HR0.out 0 p157 q157
              obtain rfl : ad153 = ad157 := (by injection e157)
              have qi157 : (0 < l0.length) = True := eq_true (by omega)
              (try rw [show ((0 : Int)).toNat = 0 from rfl] at hx157_0)
              (try rw [show 0 * 4 = 0 from rfl] at hx157_0)
              (try rw [Addr.add_zero'] at hx157_0)
              (try rw [show ((0 : Int)).toNat = 0 from rfl] at hx157_1)
              (try rw [show 0 * 4 = 0 from rfl] at hx157_1)
              (try rw [Addr.add_zero'] at hx157_1)
              (try rw [show ((0 : Int)).toNat = 0 from rfl] at hx157_2)
              (try rw [show 0 * 4 = 0 from rfl] at hx157_2)
              (try rw [Addr.add_zero'] at hx157_2)
              (try rw [show ((0 : Int)).toNat = 0 from rfl] at hx157_3)
              (try rw [show 0 * 4 = 0 from rfl] at hx157_3)
              (try rw [Addr.add_zero'] at hx157_3)
              replace p157 := eq_true p157
              replace q157 := eq_true q157
              have p158 : 0 ≤ (0 : Int) := (by omega)
              have q158 : 0 < (l1.length : Int) := of_decide_eq_true (by first | (with_reducible assumption) | assumption)
              obtain ⟨ad158, e158, hx158_0, hx158_1, hx158_2, hx158_3⟩ := at_T27 HR1.out 0 p158 q158
              obtain rfl : ad154 = ad158 := (by injection e158)
              have qi158 : (0 < l1.length) = True := eq_true (by omega)
              (try rw [show ((0 : Int)).toNat = 0 from rfl] at hx158_0)
              (try rw [show 0 * 4 = 0 from rfl] at hx158_0)
              (try rw [Addr.add_zero'] at hx158_0)
              (try rw [show ((0 : Int)).toNat = 0 from rfl] at hx158_1)
              (try rw [show 0 * 4 = 0 from rfl] at hx158_1)
              (try rw [Addr.add_zero'] at hx158_1)
              (try rw [show ((0 : Int)).toNat = 0 from rfl] at hx158_2)
              (try rw [show 0 * 4 = 0 from rfl] at hx158_2)
              (try rw [Addr.add_zero'] at hx158_2)
              (try rw [show ((0 : Int)).toNat = 0 from rfl] at hx158_3)
              (try rw [show 0 * 4 = 0 from rfl] at hx158_3)
              (try rw [Addr.add_zero'] at hx158_3)
              replace p158 := eq_true p158
              replace q158 := eq_true q158
              have p159 : 0 ≤ (0 : Int) := (by omega)
              have q159 : 0 < (l0.length : Int) := of_decide_eq_true (by first | (with_reducible assumption) | assumption)
              obtain ⟨ad159, e159, hx159_0, hx159_1, hx159_2, hx159_3⟩ := at_T27 HR0.out 0 p159 q159
              obtain rfl : ad153 = ad159 := (by injection e159)
              have qi159 : (0 < l0.length) = True := eq_true (by omega)
              (try rw [show ((0 : Int)).toNat = 0 from rfl] at hx159_0)
              (try rw [show 0 * 4 = 0 from rfl] at hx159_0)
              (try rw [Addr.add_zero'] at hx159_0)
              (try rw [show ((0 : Int)).toNat = 0 from rfl] at hx159_1)
              (try rw [show 0 * 4 = 0 from rfl] at hx159_1)
              (try rw [Addr.add_zero'] at hx159_1)
              (try rw [show ((0 : Int)).toNat = 0 from rfl] at hx159_2)
              (try rw [show 0 * 4 = 0 from rfl] at hx159_2)
              (try rw [Addr.add_zero'] at hx159_2)
              (try rw [show ((0 : Int)).toNat = 0 from rfl] at hx159_3)
              (try rw [show 0 * 4 = 0 from rfl] at hx159_3)
              (try rw [Addr.add_zero'] at hx159_3)
              replace p159 := eq_true p159
              replace q159 := eq_true q159
              have p160 : 0 ≤ (0 : Int) := (by omega)
              have q160 : 0 < (l1.length : Int) := of_decide_eq_true (by first | (with_reducible assumption) | assumption)
              obtain ⟨ad160, e160, hx160_0, hx160_1, hx160_2, hx160_3⟩ := at_T27 HR1.out 0 p160 q160
              obtain rfl : ad154 = ad160 := (by injection e160)
              have qi160 : (0 < l1.length) = True := eq_true (by omega)
              (try rw [show ((0 : Int)).toNat = 0 from rfl] at hx160_0)
              (try rw [show 0 * 4 = 0 from rfl] at hx160_0)
              (try rw [Addr.add_zero'] at hx160_0)
              (try rw [show ((0 : Int)).toNat = 0 from rfl] at hx160_1)
              (try rw [show 0 * 4 = 0 from rfl] at hx160_1)
              (try rw [Addr.add_zero'] at hx160_1)
              (try rw [show ((0 : Int)).toNat = 0 from rfl] at hx160_2)
              (try rw [show 0 * 4 = 0 from rfl] at hx160_2)
              (try rw [Addr.add_zero'] at hx160_2)
              (try rw [show ((0 : Int)).toNat = 0 from rfl] at hx160_3)
              (try rw [show 0 * 4 = 0 from rfl] at hx160_3)
              (try rw [Addr.add_zero'] at hx160_3)
              replace p160 := eq_true p160
              replace q160 := eq_true q160
              go_enter Try.func58, Try.ntmps58
              go_wp2
              repeat ((refine wp_region_quiet_lit (by kernel_rfl) (by kernel_rfl) ?_; (repeat ((first | (with_reducible refine wpQuiet_step (fun K hK => ?_)) | refine wpQuiet_step (fun K hK => ?_)); go_simp; first | (refine hK _ ?_; clear hK K) | (apply Exists.intro; refine ⟨fun _ => ?_, hK _ ?_⟩; (try simp only [i64_w]); (fail); clear hK K))); refine wpQuiet_nil ?_; intro _ hw'; obtain ⟨nq, hw''⟩ := hw'; subst hw''); try go_wp2)
              go_ret
              exact ⟨by first | rfl | (simp; done) | (simp [*]; done) | (simp only [i64_w]; done) | (simp [i64_w]; done), by repeat (first | exact Drawn0.refl _ | apply Drawn0.step)⟩
    · rw [if_neg c4] at H
      exact absurd H (by simp)
  · rw [if_neg c3] at H
    exact absurd H (by simp)

end Go.Proofs.Ytaigofkmcalmfaa.QFnExactBeatenRopes

/- What the Go functions of this law compute, each as a Lean function, and that each call comes to that answer; written by a program of this session. No condition. -/
import Derived.Test.YtginmioklkcgbaaVShn
import Derived.Test.YtginmioklkcgbaaVQFnBestJoinsx0
namespace Go.Proofs.Ytginmioklkcgbaa.QFnBestJoins
open Go.RowKit Go.Proofs.YtginmioklkcgbaaW.PrintWords Go.Proofs.YtginmioklkcgbaaW.PrintLast Go.Proofs.YtginmioklkcgbaaW.PrintMore
attribute [local go_sem] max2_int min2_int max_two min_two max_three min_three max_four min_four   -- for this text's walks alone
set_option linter.unusedVariables false
set_option linter.unusedSimpArgs false

/-! ### impl_within: function 50 -/
def impl_within.f (a0 : Int) (a1 : Int) (a2 : Int) : Option (Bool) := if a0 ≥ a1 then (some (decide (a0 ≤ a2))) else (some false)
set_option maxHeartbeats 8000000 in
set_option maxRecDepth 100000 in
theorem impl_within.calls (a0 : Int) (a1 : Int) (a2 : Int) (r : Bool) (w : World) (h : impl_within.f a0 a1 a2 = some r) :
  Calls Try.prog 50 #[.int .i64 a0, .int .i64 a1, .int .i64 a2] w fun e w' => e = .returned (.bool r) ∧ Drawn0 w w' := by
 have H := h
 clear h
 unfold impl_within.f at H
 replace H := iE H; rcases H with ⟨c4, H⟩ | ⟨c4, H⟩
 ·
  have c4b0 : decide (a1 ≤ a0) = true := decide_eq_true c4
  clear c4
  obtain rfl := Option.some.inj H
  go_enter Try.func50, Try.ntmps50
  go_wp2
  go_ret
  exact ⟨eV, eD⟩
 ·
  have c4b0 : decide (a1 ≤ a0) = false := decide_eq_false c4
  clear c4
  obtain rfl := Option.some.inj H
  go_enter Try.func50, Try.ntmps50
  go_wp2
  go_ret
  exact ⟨eV, eD⟩

/-! ### impl_IsName: function 106 -/
mutual
def impl_IsName.j0 : Nat → ByteArray → Bool → Option (Bool)
 | 0, _, _ => none
 | k + 1, x0, x21 => if x21 = true then (some false) else (impl_IsName.l0 k x0 0)
def impl_IsName.l0 : Nat → ByteArray → Int → Option (Bool)
 | 0, _, _ => none
 | k + 1, x0, x3 => if x3 < (x0.size : Int) then (if 0 ≤ x3 then (if (bt x0 x3) < 97 then (if (bt x0 x3) < 48 then (if (bt x0 x3) = 45 then (impl_IsName.l0 k x0 (wrap64 (x3 + 1))) else (some false)) else (if (bt x0 x3) > 57 then (if (bt x0 x3) = 45 then (impl_IsName.l0 k x0 (wrap64 (x3 + 1))) else (some false)) else (impl_IsName.l0 k x0 (wrap64 (x3 + 1))))) else (if (bt x0 x3) > 122 then (if (bt x0 x3) < 48 then (if (bt x0 x3) = 45 then (impl_IsName.l0 k x0 (wrap64 (x3 + 1))) else (some false)) else (if (bt x0 x3) > 57 then (if (bt x0 x3) = 45 then (impl_IsName.l0 k x0 (wrap64 (x3 + 1))) else (some false)) else (impl_IsName.l0 k x0 (wrap64 (x3 + 1))))) else (impl_IsName.l0 k x0 (wrap64 (x3 + 1))))) else (none)) else (some true)
end
def impl_IsName.f (k : Nat) (a0 : ByteArray) : Option (Bool) := if (a0.size : Int) < 1 then (impl_IsName.j0 k a0 true) else (if (a0.size : Int) > 12 then (impl_IsName.j0 k a0 true) else (if 0 < (a0.size : Int) then (if (bt a0 0) < 97 then (impl_IsName.j0 k a0 true) else (impl_IsName.j0 k a0 (decide ((bt a0 0) > 122)))) else (none)))
theorem impl_IsName.mono_l : ∀ k, (∀ y0 y1, LeO (impl_IsName.j0 k y0 y1) (impl_IsName.j0 (k + 1) y0 y1)) ∧ (∀ y0 y1, LeO (impl_IsName.l0 k y0 y1) (impl_IsName.l0 (k + 1) y0 y1))
 | 0 => by refine ⟨?_, ?_⟩ <;> (intros; intro r h; simp [impl_IsName.j0, impl_IsName.l0] at h)
 | k + 1 => by
  obtain ⟨ih0, ih1⟩ := impl_IsName.mono_l k
  refine ⟨?_, ?_⟩ <;> (intros; (first | unfold impl_IsName.j0 | unfold impl_IsName.l0); repeat' first | (with_reducible first | exact ih0 _ _ | exact ih1 _ _ | exact LeO.refl _ | exact LeO.none _ | refine LeO.ite ?_ ?_ | refine LeO.bind ?_ (fun _ => ?_)) | refine LeO.ite ?_ ?_ | refine LeO.bind ?_ (fun _ => ?_))
theorem impl_IsName.mono : ∀ a0 k, LeO (impl_IsName.f k a0) (impl_IsName.f (k + 1) a0) := by
 intro a0 k
 obtain ⟨ih0, ih1⟩ := impl_IsName.mono_l k
 unfold impl_IsName.f
 repeat' first | (with_reducible first | exact ih0 _ _ | exact ih1 _ _ | exact LeO.refl _ | exact LeO.none _ | refine LeO.ite ?_ ?_ | refine LeO.bind ?_ (fun _ => ?_)) | refine LeO.ite ?_ ?_ | refine LeO.bind ?_ (fun _ => ?_)
set_option maxHeartbeats 8000000 in
set_option maxRecDepth 100000 in
theorem impl_IsName.calls (k : Nat) (a0 : ByteArray) (r : Bool) (w : World) (h : impl_IsName.f k a0 = some r) :
  Calls Try.prog 106 #[.string a0] w fun e w' => e = .returned (.bool r) ∧ Drawn0 w w' := by
 have H := h
 clear h
 unfold impl_IsName.f at H
 have HC2 := aS H
 clear H
 go_enter Try.func106, Try.ntmps106
 go_upto_region 1 with (fail)
 go_cut [21] (fun v21 wc => ∃ (kq : Nat) (x21_1 : Bool), v21 = .bool x21_1 ∧ Aside0 (impl_IsName.j0 kq a0 x21_1 = some r) ∧ Aside0 (kq ≤ k) ∧ Drawn0 w wc)
 case first =>
  have H := HC2.out
  clear HC2
  replace H := iE H; rcases H with ⟨c3, H⟩ | ⟨c3, H⟩
  ·
   have c3b0 := decide_eq_true c3
   have c3b1 : decide (a0.size < 1) = true := decide_eq_true (by omega)
   clear c3
   (first | rw [c3b0] | (simp only [i64_w, i32_w]; rw [c3b0]) | (rw [c3b2]; simp only [Bool.not_false, Bool.not_true]) | skip)
   have H' := aS H
   clear H
   go_wp2
   go_meet
   case rel => exact ⟨_, (true), eV, H', ⟨by first | omega | exact Nat.le_refl _⟩, eD⟩
  ·
   have c3b0 := decide_eq_false c3
   have c3b1 : decide (a0.size < 1) = false := decide_eq_false (by omega)
   clear c3
   (first | rw [c3b0] | (simp only [i64_w, i32_w]; rw [c3b0]) | (rw [c3b2]; simp only [Bool.not_false, Bool.not_true]) | skip)
   replace H := iE H; rcases H with ⟨c4, H⟩ | ⟨c4, H⟩
   ·
    have c4b0 : decide (12 < (a0.size : Int)) = true := decide_eq_true c4
    have c4b1 : decide (12 < a0.size) = true := decide_eq_true (by omega)
    clear c4
    have H' := aS H
    clear H
    go_wp2
    go_meet
    case rel => exact ⟨_, (true), eV, H', ⟨by first | omega | exact Nat.le_refl _⟩, eD⟩
   ·
    have c4b0 : decide (12 < (a0.size : Int)) = false := decide_eq_false c4
    have c4b1 : decide (12 < a0.size) = false := decide_eq_false (by omega)
    clear c4
    replace H := iE H; rcases H with ⟨c5, H⟩ | ⟨c5, H⟩
    ·
     have c5b0 := decide_eq_true c5
     have c5b1 : decide (0 < a0.size) = true := decide_eq_true (by omega)
     clear c5
     replace H := iE H; rcases H with ⟨c7, H⟩ | ⟨c7, H⟩
     ·
      have c7b0 := decide_eq_true c7
      clear c7
      have H' := aS H
      clear H
      have p6 : 0 ≤ (0 : Int) := (by omega)
      have q6 : 0 < a0.size := (by have : (0 : Int) < (a0.size : Int) := sD; omega)
      have hx6 : ∀ h : 0 < a0.size, ((a0[0]'h).toNat : Int) = bt a0 0 := bt_at a0 0
      clear p6
      have qi6 : (0 < (a0.size : Int)) = True := eq_true (sD)
      replace q6 := eq_true q6
      go_wp2
      go_meet
      case rel => exact ⟨_, (true), eV, H', ⟨by first | omega | exact Nat.le_refl _⟩, eD⟩
     ·
      have c7b0 := decide_eq_false c7
      clear c7
      have H' := aS H
      clear H
      have p6 : 0 ≤ (0 : Int) := (by omega)
      have q6 : 0 < a0.size := (by have : (0 : Int) < (a0.size : Int) := sD; omega)
      have hx6 : ∀ h : 0 < a0.size, ((a0[0]'h).toNat : Int) = bt a0 0 := bt_at a0 0
      clear p6
      have qi6 : (0 < (a0.size : Int)) = True := eq_true (sD)
      replace q6 := eq_true q6
      have p8 : 0 ≤ (0 : Int) := (by omega)
      have q8 : 0 < a0.size := (by have : (0 : Int) < (a0.size : Int) := sD; omega)
      have hx8 : ∀ h : 0 < a0.size, ((a0[0]'h).toNat : Int) = bt a0 0 := bt_at a0 0
      clear p8
      have qi8 : (0 < (a0.size : Int)) = True := eq_true (sD)
      replace q8 := eq_true q8
      go_wp2
      go_meet
      case rel => exact ⟨_, (decide ((bt a0 0) > 122)), eV, H', ⟨by first | omega | exact Nat.le_refl _⟩, eD⟩
    ·
     exact absurd H (by simp)
 case rest =>
  clear HC2
  (try clear hx6); (try clear hx8)
  obtain ⟨kq, x21_1, rfl, HA, HJ1, ⟨mc1, rfl⟩⟩ := hcut
  cases kq with
  | zero => exact absurd HA.out (by simp [impl_IsName.j0])
  | succ kj1 =>
   have H := HA.out
   clear HA
   simp only [impl_IsName.j0] at H
   replace H := iE H; rcases H with ⟨c9, H⟩ | ⟨c9, H⟩
   ·
    subst c9
    obtain rfl := Option.some.inj H
    go_wp2
    go_ret
    exact ⟨eV, eD⟩
   ·
    replace c9 := Bool.eq_false_iff.mpr c9
    subst c9
    have H' := aS H
    clear H
    go_wp2
    go_loopg [3] kj1 (fun kq v3 w' => ∃ (x3_2 : Int), v3 = .int .i64 x3_2 ∧ Aside0 (impl_IsName.l0 kq a0 x3_2 = some r) ∧ Aside0 (kq ≤ kj1) ∧ Drawn0 w w')
    case atStart => exact ⟨(0), eV, H', ⟨Nat.le_refl _⟩, eD⟩
    case round =>
     clear H'
     (try clear hx6); (try clear hx8)
     obtain ⟨x3_2, rfl, HA, HK2, ⟨m2, rfl⟩⟩ := hrel
     cases gk with
     | zero => exact absurd HA.out (by simp [impl_IsName.l0])
     | succ k2 =>
      have H := HA.out
      clear HA
      simp only [impl_IsName.l0] at H
      replace H := iE H; rcases H with ⟨c10, H⟩ | ⟨c10, H⟩
      ·
       have c10b0 := decide_eq_true c10
       clear c10
       replace H := iE H; rcases H with ⟨c11, H⟩ | ⟨c11, H⟩
       ·
        have c11b0 := decide_eq_true c11
        clear c11
        replace H := iE H; rcases H with ⟨c13, H⟩ | ⟨c13, H⟩
        ·
         have c13b0 := decide_eq_true c13
         clear c13
         replace H := iE H; rcases H with ⟨c15, H⟩ | ⟨c15, H⟩
         ·
          have c15b0 := decide_eq_true c15
          clear c15
          replace H := iE H; rcases H with ⟨c17, H⟩ | ⟨c17, H⟩
          ·
           have c17b0 := beq_iff_eq.mpr c17
           have c17b1 := bne_eq_false_iff_eq.mpr c17
           clear c17
           have H' := aS H
           clear H
           have p12 : 0 ≤ (x3_2 : Int) := sD
           have q12 : x3_2 < (a0.size : Int) := sD
           have hx12 := bt_at a0 x3_2
           replace p12 := eq_true p12
           replace q12 := eq_true q12
           have p14 : 0 ≤ (x3_2 : Int) := sD
           have q14 : x3_2 < (a0.size : Int) := sD
           have hx14 := bt_at a0 x3_2
           replace p14 := eq_true p14
           replace q14 := eq_true q14
           have p16 : 0 ≤ (x3_2 : Int) := sD
           have q16 : x3_2 < (a0.size : Int) := sD
           have hx16 := bt_at a0 x3_2
           replace p16 := eq_true p16
           replace q16 := eq_true q16
           go_wp2
           go_roundg k2
           case measure => have := HJ1.out; have := HK2.out; omega
           case rel => exact ⟨(wrap64 (x3_2 + 1)), eV, H', ⟨by have := HJ1.out; have := HK2.out; omega⟩, eD⟩
          ·
           have c17b0 := beq_eq_false_iff_ne.mpr c17
           have c17b1 := bne_iff_ne.mpr c17
           obtain rfl := Option.some.inj H
           have p12 : 0 ≤ (x3_2 : Int) := sD
           have q12 : x3_2 < (a0.size : Int) := sD
           have hx12 := bt_at a0 x3_2
           replace p12 := eq_true p12
           replace q12 := eq_true q12
           have p14 : 0 ≤ (x3_2 : Int) := sD
           have q14 : x3_2 < (a0.size : Int) := sD
           have hx14 := bt_at a0 x3_2
           replace p14 := eq_true p14
           replace q14 := eq_true q14
           have p16 : 0 ≤ (x3_2 : Int) := sD
           have q16 : x3_2 < (a0.size : Int) := sD
           have hx16 := bt_at a0 x3_2
           replace p16 := eq_true p16
           replace q16 := eq_true q16
           go_wp2
           go_ret
           exact ⟨eV, eD⟩
         ·
          have c15b0 := decide_eq_false c15
          clear c15
          replace H := iE H; rcases H with ⟨c19, H⟩ | ⟨c19, H⟩
          ·
           have c19b0 : decide (57 < (bt a0 x3_2)) = true := decide_eq_true c19
           clear c19
           replace H := iE H; rcases H with ⟨c21, H⟩ | ⟨c21, H⟩
           ·
            have c21b0 := beq_iff_eq.mpr c21
            have c21b1 := bne_eq_false_iff_eq.mpr c21
            clear c21
            have H' := aS H
            clear H
            have p12 : 0 ≤ (x3_2 : Int) := sD
            have q12 : x3_2 < (a0.size : Int) := sD
            have hx12 := bt_at a0 x3_2
            replace p12 := eq_true p12
            replace q12 := eq_true q12
            have p14 : 0 ≤ (x3_2 : Int) := sD
            have q14 : x3_2 < (a0.size : Int) := sD
            have hx14 := bt_at a0 x3_2
            replace p14 := eq_true p14
            replace q14 := eq_true q14
            have p18 : 0 ≤ (x3_2 : Int) := sD
            have q18 : x3_2 < (a0.size : Int) := sD
            have hx18 := bt_at a0 x3_2
            replace p18 := eq_true p18
            replace q18 := eq_true q18
            have p20 : 0 ≤ (x3_2 : Int) := sD
            have q20 : x3_2 < (a0.size : Int) := sD
            have hx20 := bt_at a0 x3_2
            replace p20 := eq_true p20
            replace q20 := eq_true q20
            go_wp2
            go_roundg k2
            case measure => have := HJ1.out; have := HK2.out; omega
            case rel => exact ⟨(wrap64 (x3_2 + 1)), eV, H', ⟨by have := HJ1.out; have := HK2.out; omega⟩, eD⟩
           ·
            have c21b0 := beq_eq_false_iff_ne.mpr c21
            have c21b1 := bne_iff_ne.mpr c21
            obtain rfl := Option.some.inj H
            have p12 : 0 ≤ (x3_2 : Int) := sD
            have q12 : x3_2 < (a0.size : Int) := sD
            have hx12 := bt_at a0 x3_2
            replace p12 := eq_true p12
            replace q12 := eq_true q12
            have p14 : 0 ≤ (x3_2 : Int) := sD
            have q14 : x3_2 < (a0.size : Int) := sD
            have hx14 := bt_at a0 x3_2
            replace p14 := eq_true p14
            replace q14 := eq_true q14
            have p18 : 0 ≤ (x3_2 : Int) := sD
            have q18 : x3_2 < (a0.size : Int) := sD
            have hx18 := bt_at a0 x3_2
            replace p18 := eq_true p18
            replace q18 := eq_true q18
            have p20 : 0 ≤ (x3_2 : Int) := sD
            have q20 : x3_2 < (a0.size : Int) := sD
            have hx20 := bt_at a0 x3_2
            replace p20 := eq_true p20
            replace q20 := eq_true q20
            go_wp2
            go_ret
            exact ⟨eV, eD⟩
          ·
           have c19b0 : decide (57 < (bt a0 x3_2)) = false := decide_eq_false c19
           clear c19
           have H' := aS H
           clear H
           have p12 : 0 ≤ (x3_2 : Int) := sD
           have q12 : x3_2 < (a0.size : Int) := sD
           have hx12 := bt_at a0 x3_2
           replace p12 := eq_true p12
           replace q12 := eq_true q12
           have p14 : 0 ≤ (x3_2 : Int) := sD
           have q14 : x3_2 < (a0.size : Int) := sD
           have hx14 := bt_at a0 x3_2
           replace p14 := eq_true p14
           replace q14 := eq_true q14
           have p18 : 0 ≤ (x3_2 : Int) := sD
           have q18 : x3_2 < (a0.size : Int) := sD
           have hx18 := bt_at a0 x3_2
           replace p18 := eq_true p18
           replace q18 := eq_true q18
           go_wp2
           go_roundg k2
           case measure => have := HJ1.out; have := HK2.out; omega
           case rel => exact ⟨(wrap64 (x3_2 + 1)), eV, H', ⟨by have := HJ1.out; have := HK2.out; omega⟩, eD⟩
        ·
         have c13b0 := decide_eq_false c13
         clear c13
         replace H := iE H; rcases H with ⟨c23, H⟩ | ⟨c23, H⟩
         ·
          have c23b0 : decide (122 < (bt a0 x3_2)) = true := decide_eq_true c23
          clear c23
          replace H := iE H; rcases H with ⟨c25, H⟩ | ⟨c25, H⟩
          ·
           have c25b0 := decide_eq_true c25
           clear c25
           replace H := iE H; rcases H with ⟨c27, H⟩ | ⟨c27, H⟩
           ·
            have c27b0 := beq_iff_eq.mpr c27
            have c27b1 := bne_eq_false_iff_eq.mpr c27
            clear c27
            have H' := aS H
            clear H
            have p12 : 0 ≤ (x3_2 : Int) := sD
            have q12 : x3_2 < (a0.size : Int) := sD
            have hx12 := bt_at a0 x3_2
            replace p12 := eq_true p12
            replace q12 := eq_true q12
            have p22 : 0 ≤ (x3_2 : Int) := sD
            have q22 : x3_2 < (a0.size : Int) := sD
            have hx22 := bt_at a0 x3_2
            replace p22 := eq_true p22
            replace q22 := eq_true q22
            have p24 : 0 ≤ (x3_2 : Int) := sD
            have q24 : x3_2 < (a0.size : Int) := sD
            have hx24 := bt_at a0 x3_2
            replace p24 := eq_true p24
            replace q24 := eq_true q24
            have p26 : 0 ≤ (x3_2 : Int) := sD
            have q26 : x3_2 < (a0.size : Int) := sD
            have hx26 := bt_at a0 x3_2
            replace p26 := eq_true p26
            replace q26 := eq_true q26
            go_wp2
            go_roundg k2
            case measure => have := HJ1.out; have := HK2.out; omega
            case rel => exact ⟨(wrap64 (x3_2 + 1)), eV, H', ⟨by have := HJ1.out; have := HK2.out; omega⟩, eD⟩
           ·
            have c27b0 := beq_eq_false_iff_ne.mpr c27
            have c27b1 := bne_iff_ne.mpr c27
            obtain rfl := Option.some.inj H
            have p12 : 0 ≤ (x3_2 : Int) := sD
            have q12 : x3_2 < (a0.size : Int) := sD
            have hx12 := bt_at a0 x3_2
            replace p12 := eq_true p12
            replace q12 := eq_true q12
            have p22 : 0 ≤ (x3_2 : Int) := sD
            have q22 : x3_2 < (a0.size : Int) := sD
            have hx22 := bt_at a0 x3_2
            replace p22 := eq_true p22
            replace q22 := eq_true q22
            have p24 : 0 ≤ (x3_2 : Int) := sD
            have q24 : x3_2 < (a0.size : Int) := sD
            have hx24 := bt_at a0 x3_2
            replace p24 := eq_true p24
            replace q24 := eq_true q24
            have p26 : 0 ≤ (x3_2 : Int) := sD
            have q26 : x3_2 < (a0.size : Int) := sD
            have hx26 := bt_at a0 x3_2
            replace p26 := eq_true p26
            replace q26 := eq_true q26
            go_wp2
            go_ret
            exact ⟨eV, eD⟩
          ·
           have c25b0 := decide_eq_false c25
           clear c25
           replace H := iE H; rcases H with ⟨c29, H⟩ | ⟨c29, H⟩
           ·
            have c29b0 : decide (57 < (bt a0 x3_2)) = true := decide_eq_true c29
            clear c29
            replace H := iE H; rcases H with ⟨c31, H⟩ | ⟨c31, H⟩
            ·
             have c31b0 := beq_iff_eq.mpr c31
             have c31b1 := bne_eq_false_iff_eq.mpr c31
             clear c31
             have H' := aS H
             clear H
             have p12 : 0 ≤ (x3_2 : Int) := sD
             have q12 : x3_2 < (a0.size : Int) := sD
             have hx12 := bt_at a0 x3_2
             replace p12 := eq_true p12
             replace q12 := eq_true q12
             have p22 : 0 ≤ (x3_2 : Int) := sD
             have q22 : x3_2 < (a0.size : Int) := sD
             have hx22 := bt_at a0 x3_2
             replace p22 := eq_true p22
             replace q22 := eq_true q22
             have p24 : 0 ≤ (x3_2 : Int) := sD
             have q24 : x3_2 < (a0.size : Int) := sD
             have hx24 := bt_at a0 x3_2
             replace p24 := eq_true p24
             replace q24 := eq_true q24
             have p28 : 0 ≤ (x3_2 : Int) := sD
             have q28 : x3_2 < (a0.size : Int) := sD
             have hx28 := bt_at a0 x3_2
             replace p28 := eq_true p28
             replace q28 := eq_true q28
             have p30 : 0 ≤ (x3_2 : Int) := sD
             have q30 : x3_2 < (a0.size : Int) := sD
             have hx30 := bt_at a0 x3_2
             replace p30 := eq_true p30
             replace q30 := eq_true q30
             go_wp2
             go_roundg k2
             case measure => have := HJ1.out; have := HK2.out; omega
             case rel => exact ⟨(wrap64 (x3_2 + 1)), eV, H', ⟨by have := HJ1.out; have := HK2.out; omega⟩, eD⟩
            ·
             have c31b0 := beq_eq_false_iff_ne.mpr c31
             have c31b1 := bne_iff_ne.mpr c31
             obtain rfl := Option.some.inj H
             have p12 : 0 ≤ (x3_2 : Int) := sD
             have q12 : x3_2 < (a0.size : Int) := sD
             have hx12 := bt_at a0 x3_2
             replace p12 := eq_true p12
             replace q12 := eq_true q12
             have p22 : 0 ≤ (x3_2 : Int) := sD
             have q22 : x3_2 < (a0.size : Int) := sD
             have hx22 := bt_at a0 x3_2
             replace p22 := eq_true p22
             replace q22 := eq_true q22
             have p24 : 0 ≤ (x3_2 : Int) := sD
             have q24 : x3_2 < (a0.size : Int) := sD
             have hx24 := bt_at a0 x3_2
             replace p24 := eq_true p24
             replace q24 := eq_true q24
             have p28 : 0 ≤ (x3_2 : Int) := sD
             have q28 : x3_2 < (a0.size : Int) := sD
             have hx28 := bt_at a0 x3_2
             replace p28 := eq_true p28
             replace q28 := eq_true q28
             have p30 : 0 ≤ (x3_2 : Int) := sD
             have q30 : x3_2 < (a0.size : Int) := sD
             have hx30 := bt_at a0 x3_2
             replace p30 := eq_true p30
             replace q30 := eq_true q30
             go_wp2
             go_ret
             exact ⟨eV, eD⟩
           ·
            have c29b0 : decide (57 < (bt a0 x3_2)) = false := decide_eq_false c29
            clear c29
            have H' := aS H
            clear H
            have p12 : 0 ≤ (x3_2 : Int) := sD
            have q12 : x3_2 < (a0.size : Int) := sD
            have hx12 := bt_at a0 x3_2
            replace p12 := eq_true p12
            replace q12 := eq_true q12
            have p22 : 0 ≤ (x3_2 : Int) := sD
            have q22 : x3_2 < (a0.size : Int) := sD
            have hx22 := bt_at a0 x3_2
            replace p22 := eq_true p22
            replace q22 := eq_true q22
            have p24 : 0 ≤ (x3_2 : Int) := sD
            have q24 : x3_2 < (a0.size : Int) := sD
            have hx24 := bt_at a0 x3_2
            replace p24 := eq_true p24
            replace q24 := eq_true q24
            have p28 : 0 ≤ (x3_2 : Int) := sD
            have q28 : x3_2 < (a0.size : Int) := sD
            have hx28 := bt_at a0 x3_2
            replace p28 := eq_true p28
            replace q28 := eq_true q28
            go_wp2
            go_roundg k2
            case measure => have := HJ1.out; have := HK2.out; omega
            case rel => exact ⟨(wrap64 (x3_2 + 1)), eV, H', ⟨by have := HJ1.out; have := HK2.out; omega⟩, eD⟩
         ·
          have c23b0 : decide (122 < (bt a0 x3_2)) = false := decide_eq_false c23
          clear c23
          have H' := aS H
          clear H
          have p12 : 0 ≤ (x3_2 : Int) := sD
          have q12 : x3_2 < (a0.size : Int) := sD
          have hx12 := bt_at a0 x3_2
          replace p12 := eq_true p12
          replace q12 := eq_true q12
          have p22 : 0 ≤ (x3_2 : Int) := sD
          have q22 : x3_2 < (a0.size : Int) := sD
          have hx22 := bt_at a0 x3_2
          replace p22 := eq_true p22
          replace q22 := eq_true q22
          go_wp2
          go_roundg k2
          case measure => have := HJ1.out; have := HK2.out; omega
          case rel => exact ⟨(wrap64 (x3_2 + 1)), eV, H', ⟨by have := HJ1.out; have := HK2.out; omega⟩, eD⟩
       ·
        exact absurd H (by simp)
      ·
       have c10b0 := decide_eq_false c10
       clear c10
       obtain rfl := Option.some.inj H
       go_wp2
       go_ret
       exact ⟨eV, eD⟩

/-! ### impl_validJoin: function 88 -/
def impl_validJoin.f (k : Nat) (a0_0 : ByteArray) (a0_1 : Int) (a0_2 : Int) : Option (Bool) := (impl_IsName.f k a0_0).bind fun t197 => (if t197 = true then ((impl_within.f a0_1 1 1000).bind fun t198 => (if t198 = true then ((impl_within.f a0_2 0 1000).bind fun t199 => (some t199)) else (some false))) else (some false))
theorem impl_validJoin.mono : ∀ a0 a1 a2 k, LeO (impl_validJoin.f k a0 a1 a2) (impl_validJoin.f (k + 1) a0 a1 a2) := by
 intro a0 a1 a2 k
 unfold impl_validJoin.f
 repeat' first | (with_reducible first | exact impl_IsName.mono _ _ | exact LeO.refl _ | exact LeO.none _ | refine LeO.ite ?_ ?_ | refine LeO.bind ?_ (fun _ => ?_)) | refine LeO.ite ?_ ?_ | refine LeO.bind ?_ (fun _ => ?_)
set_option maxHeartbeats 8000000 in
set_option maxRecDepth 100000 in
theorem impl_validJoin.calls (k : Nat) (a0_0 : ByteArray) (a0_1 : Int) (a0_2 : Int) (r : Bool) (w : World) (h : impl_validJoin.f k a0_0 a0_1 a0_2 = some r) :
  Calls Try.prog 88 #[.agg #[.string a0_0, .int .i64 a0_1, .int .i64 a0_2]] w fun e w' => e = .returned (.bool r) ∧ Below w.heap.size w w' := by
 have hu61 := Try.underlying61
 have HB := aS (Below.refl w.heap.size w)
 have H := h
 clear h
 unfold impl_validJoin.f at H
 replace H := bE H; obtain ⟨t197, A2, H⟩ := H; try dsimp only at H
 replace H := iE H; rcases H with ⟨c3, H⟩ | ⟨c3, H⟩
 ·
  subst c3
  replace H := bE H; obtain ⟨t198, A4, H⟩ := H; try dsimp only at H
  replace H := iE H; rcases H with ⟨c5, H⟩ | ⟨c5, H⟩
  ·
   subst c5
   replace H := bE H; obtain ⟨t199, A6, H⟩ := H; try dsimp only at H
   obtain rfl := Option.some.inj H
   go_enter Try.func88, Try.ntmps88
   go_wp2_with (first | ((with_reducible refine gate_dst (N := 1) rfl ?_); refine bx 1 #[.string a0_0, .int .i64 a0_1, .int .i64 a0_2] 61 ?_; intro gb196 hg w7 hbox hb; have BK196 := aS (hbox); have GW196 := aS (gW hg (sW HB.out)); have GE196 := aS (gW hg (sW HB.out)); replace HB := aS (below_step (sW HB.out) hb); clear hb hbox hg; obtain ⟨hcz8_0, hcz8_1, hcz8_2, hfz8_0, hfz8_1, hfz8_2⟩ := z3 BK196.out) | ((with_reducible refine gate_callee (f := 106) rfl ?_); refine goesL_ (some 5) rfl rfl Try.func106 (by kernel_rfl) rfl #[.string a0_0] rfl sG ?_; (with_reducible refine (impl_IsName.calls k a0_0 true _ A2.out).mono ?_); rintro e w' ⟨rfl, ⟨nd, rfl⟩⟩; refine ⟨_, rfl, ?_⟩) | (go_at_call 50; (with_reducible refine (impl_within.calls a0_1 1 1000 true _ A4.out).mono ?_); rintro e w' ⟨rfl, ⟨nd, rfl⟩⟩) | (go_at_call 50; (with_reducible refine (impl_within.calls a0_2 0 1000 t199 _ A6.out).mono ?_); rintro e w' ⟨rfl, ⟨nd, rfl⟩⟩))
   go_ret
   exact ⟨eE, sW HB.out⟩
  ·
   replace c5 := Bool.eq_false_iff.mpr c5
   subst c5
   obtain rfl := Option.some.inj H
   go_enter Try.func88, Try.ntmps88
   go_wp2_with (first | ((with_reducible refine gate_dst (N := 1) rfl ?_); refine bx 1 #[.string a0_0, .int .i64 a0_1, .int .i64 a0_2] 61 ?_; intro gb196 hg w9 hbox hb; have BK196 := aS (hbox); have GW196 := aS (gW hg (sW HB.out)); have GE196 := aS (gW hg (sW HB.out)); replace HB := aS (below_step (sW HB.out) hb); clear hb hbox hg; obtain ⟨hcz10_0, hcz10_1, hcz10_2, hfz10_0, hfz10_1, hfz10_2⟩ := z3 BK196.out) | ((with_reducible refine gate_callee (f := 106) rfl ?_); refine goesL_ (some 5) rfl rfl Try.func106 (by kernel_rfl) rfl #[.string a0_0] rfl sG ?_; (with_reducible refine (impl_IsName.calls k a0_0 true _ A2.out).mono ?_); rintro e w' ⟨rfl, ⟨nd, rfl⟩⟩; refine ⟨_, rfl, ?_⟩) | (go_at_call 50; (with_reducible refine (impl_within.calls a0_1 1 1000 false _ A4.out).mono ?_); rintro e w' ⟨rfl, ⟨nd, rfl⟩⟩))
   go_ret
   exact ⟨eE, sW HB.out⟩
 ·
  replace c3 := Bool.eq_false_iff.mpr c3
  subst c3
  obtain rfl := Option.some.inj H
  go_enter Try.func88, Try.ntmps88
  go_wp2_with (first | ((with_reducible refine gate_dst (N := 1) rfl ?_); refine bx 1 #[.string a0_0, .int .i64 a0_1, .int .i64 a0_2] 61 ?_; intro gb196 hg w11 hbox hb; have BK196 := aS (hbox); have GW196 := aS (gW hg (sW HB.out)); have GE196 := aS (gW hg (sW HB.out)); replace HB := aS (below_step (sW HB.out) hb); clear hb hbox hg; obtain ⟨hcz12_0, hcz12_1, hcz12_2, hfz12_0, hfz12_1, hfz12_2⟩ := z3 BK196.out) | ((with_reducible refine gate_callee (f := 106) rfl ?_); refine goesL_ (some 5) rfl rfl Try.func106 (by kernel_rfl) rfl #[.string a0_0] rfl sG ?_; (with_reducible refine (impl_IsName.calls k a0_0 false _ A2.out).mono ?_); rintro e w' ⟨rfl, ⟨nd, rfl⟩⟩; refine ⟨_, rfl, ?_⟩))
  go_ret
  exact ⟨eE, sW HB.out⟩

/-! ### impl_ValidJoins_1: function 90 -/
def impl_ValidJoins_1.f (a0_0 : ByteArray) (a0_1 : Int) (a0_2 : Int) (l1 : List (S61)) : Option (Bool) := if 0 < (l1.length : Int) then (some (a0_0.toList == ((rd_T61 l1 0).f0).toList)) else (none)
set_option maxHeartbeats 8000000 in
set_option maxRecDepth 100000 in
theorem impl_ValidJoins_1.calls (a0_0 : ByteArray) (a0_1 : Int) (a0_2 : Int) (A1 : Option Addr) (c1 : Nat) (l1 : List (S61)) (r : Bool) (w : World) (hr1 : Kd.C k61 w A1 l1.length l1) (hc1 : l1.length ≤ c1) (h : impl_ValidJoins_1.f a0_0 a0_1 a0_2 l1 = some r) :
  Calls Try.prog 90 #[.agg #[.string a0_0, .int .i64 a0_1, .int .i64 a0_2], .pointer A1] w fun e w' => e = .returned (.bool r) ∧ Below w.heap.size w w' := by
 have hu61 := Try.underlying61
 have HR1 := aS hr1
 have HC1 := aS hc1
 clear hr1 hc1
 have HB := aS (Below.refl w.heap.size w)
 have H := h
 clear h
 unfold impl_ValidJoins_1.f at H
 replace H := iE H; rcases H with ⟨c3, H⟩ | ⟨c3, H⟩
 ·
  have c3b0 := decide_eq_true c3
  have c3b1 : decide (0 < l1.length) = true := decide_eq_true (by omega)
  clear c3
  obtain rfl := Option.some.inj H
  go_enter Try.func90, Try.ntmps90
  go_wp2_with (first | ((with_reducible refine gate_dst (N := 2) rfl ?_); refine bx 2 #[.string a0_0, .int .i64 a0_1, .int .i64 a0_2] 61 ?_; intro gb200 hg w4 hbox hb; have BK200 := aS (hbox); have GW200 := aS (gW hg (sW HB.out)); have GE200 := aS (gW hg (sW HB.out)); replace HB := aS (below_step (sW HB.out) hb); clear hb hbox hg; obtain ⟨hcz5_0, hcz5_1, hcz5_2, hfz5_0, hfz5_1, hfz5_2⟩ := z3 BK200.out; have p201 : 0 ≤ (0 : Int) := (by omega); have q201 : 0 < (l1.length : Int) := sD; obtain ⟨ad201, e201, hx201_0, hx201_1, hx201_2⟩ := at_T61 HR1.out 0 p201 q201; cases e201; have qi201 : (0 < l1.length) = True := eq_true (by omega); (try rw [show ((0 : Int)).toNat = 0 from rfl] at hx201_0); (try rw [show 0 * 3 = 0 from rfl] at hx201_0); (try rw [Addr.add_zero'] at hx201_0); (try rw [show ((0 : Int)).toNat = 0 from rfl] at hx201_1); (try rw [show 0 * 3 = 0 from rfl] at hx201_1); (try rw [Addr.add_zero'] at hx201_1); (try rw [show ((0 : Int)).toNat = 0 from rfl] at hx201_2); (try rw [show 0 * 3 = 0 from rfl] at hx201_2); (try rw [Addr.add_zero'] at hx201_2); replace hx201_0 := bC HB.out hx201_0; replace hx201_1 := bC HB.out hx201_1; replace hx201_2 := bC HB.out hx201_2; replace p201 := eq_true p201; replace q201 := eq_true q201))
  go_ret
  exact ⟨eE, sW HB.out⟩
 ·
  exact absurd H (by simp)

/-! ### impl_Join_113: function 113 -/
def impl_Join_113.l0 : Nat → List (S61) → List (S61) → Int → Int → Option (Int)
 | 0, _, _, _, _ => none
 | k + 1, x0, x1, x7, x8 => if x8 < x7 then (if 0 ≤ x8 then (if x8 < (x0.length : Int) then ((impl_ValidJoins_1.f ((rd_T61 x0 x8).f0) ((rd_T61 x0 x8).f1) ((rd_T61 x0 x8).f2) x1).bind fun t203 => (if t203 = true then (some x8) else (impl_Join_113.l0 k x0 x1 x7 (wrap64 (x8 + 1))))) else (none)) else (none)) else (some (-1))
def impl_Join_113.f (k : Nat) (l0 : List (S61)) (l1 : List (S61)) : Option (Int) := impl_Join_113.l0 k l0 l1 (l0.length : Int) 0
theorem impl_Join_113.mono_l : ∀ k, (∀ y0 y1 y2 y3, LeO (impl_Join_113.l0 k y0 y1 y2 y3) (impl_Join_113.l0 (k + 1) y0 y1 y2 y3))
 | 0 => fun _ _ _ _ r h => by simp [impl_Join_113.l0] at h
 | k + 1 => by
  have ih0 := impl_Join_113.mono_l k
  ·
   intro y0 y1 y2 y3
   unfold impl_Join_113.l0
   repeat' first | (with_reducible first | exact ih0 _ _ _ _ | exact LeO.refl _ | exact LeO.none _ | refine LeO.ite ?_ ?_ | refine LeO.bind ?_ (fun _ => ?_)) | refine LeO.ite ?_ ?_ | refine LeO.bind ?_ (fun _ => ?_)
theorem impl_Join_113.mono : ∀ a0 a1 k, LeO (impl_Join_113.f k a0 a1) (impl_Join_113.f (k + 1) a0 a1) := by
 intro a0 a1 k
 have ih0 := impl_Join_113.mono_l k
 unfold impl_Join_113.f
 repeat' first | (with_reducible first | exact ih0 _ _ _ _ | exact LeO.refl _ | exact LeO.none _ | refine LeO.ite ?_ ?_ | refine LeO.bind ?_ (fun _ => ?_)) | refine LeO.ite ?_ ?_ | refine LeO.bind ?_ (fun _ => ?_)
set_option maxHeartbeats 8000000 in
set_option maxRecDepth 100000 in
theorem impl_Join_113.calls (k : Nat) (A0 : Option Addr) (c0 : Nat) (l0 : List (S61)) (A1 : Option Addr) (c1 : Nat) (l1 : List (S61)) (r : Int) (w : World) (hr0 : Kd.C k61 w A0 l0.length l0) (hc0 : l0.length ≤ c0) (hr1 : Kd.C k61 w A1 l1.length l1) (hc1 : l1.length ≤ c1) (h : impl_Join_113.f k l0 l1 = some r) :
  Calls Try.prog 113 #[.slice A0 l0.length c0, .func (.func 90) #[] #[.pointer A1]] w fun e w' => e = .returned (.int .i64 r) ∧ Below w.heap.size w w' := by
 have hu61 := Try.underlying61
 have HR0 := aS hr0
 have HC0 := aS hc0
 clear hr0 hc0
 have HR1 := aS hr1
 have HC1 := aS hc1
 clear hr1 hc1
 have HB := aS (Below.refl w.heap.size w)
 have H := h
 clear h
 unfold impl_Join_113.f at H
 have H' := aS H
 clear H
 go_enter Try.func113, Try.ntmps113
 go_wp2
 go_loopg [8] k (fun kq v8 w' => ∃ (x8_1 : Int), v8 = .int .i64 x8_1 ∧ Aside0 (impl_Join_113.l0 kq l0 l1 (l0.length : Int) x8_1 = some r) ∧ Aside0 (kq ≤ k) ∧ Aside0 (Below w.heap.size w w'))
 case atStart => exact ⟨(0), eV, H', ⟨Nat.le_refl _⟩, (aS (sW HB.out))⟩
 case round =>
  clear H'
  obtain ⟨x8_1, rfl, HA, HK1, HB⟩ := hrel
  cases gk with
  | zero => exact absurd HA.out (by simp [impl_Join_113.l0])
  | succ k1 =>
   have H := HA.out
   clear HA
   simp only [impl_Join_113.l0] at H
   replace H := iE H; rcases H with ⟨c3, H⟩ | ⟨c3, H⟩
   ·
    have c3b0 := decide_eq_true c3
    clear c3
    replace H := iE H; rcases H with ⟨c4, H⟩ | ⟨c4, H⟩
    ·
     have c4b0 := decide_eq_true c4
     clear c4
     replace H := iE H; rcases H with ⟨c5, H⟩ | ⟨c5, H⟩
     ·
      have c5b0 := decide_eq_true c5
      clear c5
      replace H := bE H; obtain ⟨t203, A6, H⟩ := H; try dsimp only at H
      have HC7 := aS H
      clear H
      have p202 : 0 ≤ (x8_1 : Int) := sD
      have q202 : x8_1 < (l0.length : Int) := sD
      obtain ⟨ad202, e202, hx202_0, hx202_1, hx202_2⟩ := at_T61 HR0.out x8_1 p202 q202
      cases e202
      replace hx202_0 := bC HB.out hx202_0
      replace hx202_1 := bC HB.out hx202_1
      replace hx202_2 := bC HB.out hx202_2
      replace p202 := eq_true p202
      replace q202 := eq_true q202
      go_upto_if 16 with (first | ((with_reducible refine gate_closure 11 rfl ?_); refine goesC_ (some 16) rfl rfl Try.func90 (by kernel_rfl) rfl #[.agg #[.string ((rd_T61 l0 x8_1).f0), .int .i64 ((rd_T61 l0 x8_1).f1), .int .i64 ((rd_T61 l0 x8_1).f2)], .pointer A1] #[.pointer A1] rfl rfl (by (try simp only [List.map_toArray, List.map_cons, List.map_nil]); first | done | rfl) ?_; (with_reducible refine (impl_ValidJoins_1.calls ((rd_T61 l0 x8_1).f0) ((rd_T61 l0 x8_1).f1) ((rd_T61 l0 x8_1).f2) _ l1.length l1 t203 _ ?side1 ?side2 A6.out).mono ?_); (case side1 => exact sC (Kd.C_below HR1.out HB.out)); (case side2 => exact Nat.le_refl _); rintro e w8 ⟨rfl, hb⟩; refine ⟨_, rfl, ?_⟩; replace HB := aS (below_step (sW HB.out) hb)))
      (try simp only [Act.put, List.setIfInBounds_toArray, List.set_cons_zero, List.set_cons_succ])
      have H := HC7.out
      clear HC7
      replace H := iE H; rcases H with ⟨c9, H⟩ | ⟨c9, H⟩
      ·
       subst c9
       obtain rfl := Option.some.inj H
       go_wp2
       go_ret
       exact ⟨eE, sW HB.out⟩
      ·
       replace c9 := Bool.eq_false_iff.mpr c9
       subst c9
       have H' := aS H
       clear H
       go_wp2
       go_roundg k1
       case measure => have := HK1.out; omega
       case rel => exact ⟨(wrap64 (x8_1 + 1)), eV, H', ⟨by have := HK1.out; omega⟩, (aS (sW HB.out))⟩
     ·
      exact absurd H (by simp)
    ·
     exact absurd H (by simp)
   ·
    have c3b0 := decide_eq_false c3
    clear c3
    obtain rfl := Option.some.inj H
    go_wp2
    go_ret
    exact ⟨eE, sW HB.out⟩

/-! ### impl_Join_89: function 89 -/
def impl_Join_89.f (k : Nat) (l0 : List (S61)) (l1 : List (S61)) : Option (Bool) := (impl_Join_113.f k l0 l1).bind fun t204 => (some (decide (t204 ≥ 0)))
theorem impl_Join_89.mono : ∀ a0 a1 k, LeO (impl_Join_89.f k a0 a1) (impl_Join_89.f (k + 1) a0 a1) := by
 intro a0 a1 k
 unfold impl_Join_89.f
 repeat' first | (with_reducible first | exact impl_Join_113.mono _ _ _ | exact LeO.refl _ | exact LeO.none _ | refine LeO.ite ?_ ?_ | refine LeO.bind ?_ (fun _ => ?_)) | refine LeO.ite ?_ ?_ | refine LeO.bind ?_ (fun _ => ?_)
set_option maxHeartbeats 8000000 in
set_option maxRecDepth 100000 in
theorem impl_Join_89.calls (k : Nat) (A0 : Option Addr) (c0 : Nat) (l0 : List (S61)) (A1 : Option Addr) (c1 : Nat) (l1 : List (S61)) (r : Bool) (w : World) (hr0 : Kd.C k61 w A0 l0.length l0) (hc0 : l0.length ≤ c0) (hr1 : Kd.C k61 w A1 l1.length l1) (hc1 : l1.length ≤ c1) (h : impl_Join_89.f k l0 l1 = some r) :
  Calls Try.prog 89 #[.slice A0 l0.length c0, .func (.func 90) #[] #[.pointer A1]] w fun e w' => e = .returned (.bool r) ∧ Below w.heap.size w w' := by
 have HR0 := aS hr0
 have HC0 := aS hc0
 clear hr0 hc0
 have HR1 := aS hr1
 have HC1 := aS hc1
 clear hr1 hc1
 have HB := aS (Below.refl w.heap.size w)
 have H := h
 clear h
 unfold impl_Join_89.f at H
 replace H := bE H; obtain ⟨t204, A3, H⟩ := H; try dsimp only at H
 obtain rfl := Option.some.inj H
 go_enter Try.func89, Try.ntmps89
 go_wp2_with (first | ((with_reducible refine gate_callee (f := 113) rfl ?_); refine goesL_ (some 7) rfl rfl Try.func113 (by kernel_rfl) rfl #[.slice A0 l0.length c0, .func (.func 90) #[] #[.pointer A1]] rfl sG ?_; (with_reducible refine (impl_Join_113.calls k _ _ l0 _ l1.length l1 t204 _ ?side1 ?side2 ?side3 ?side4 A3.out).mono ?_); (case side1 => exact sC HR0.out); (case side2 => exact HC0.out); (case side3 => exact sC HR1.out); (case side4 => exact Nat.le_refl _); rintro e w4 ⟨rfl, hb⟩; refine ⟨_, rfl, ?_⟩; replace HB := aS (below_step (sW HB.out) hb)))
 go_ret
 exact ⟨eE, sW HB.out⟩

end Go.Proofs.Ytginmioklkcgbaa.QFnBestJoins

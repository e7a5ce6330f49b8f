/- What the Go functions of this law compute, each as a Lean function, and that each call comes to that answer; written by a program of this session. No condition. -/
import Derived.Test.YtginmioklkcgbaaVShn
import Derived.Test.YtginmioklkcgbaaVQFnBestJoinsx0
import Derived.Test.YtginmioklkcgbaaVQFnBestJoinsx3
namespace Go.Proofs.Ytginmioklkcgbaa.QFnBestJoins
open Go.RowKit Go.Proofs.YtginmioklkcgbaaW.PrintWords Go.Proofs.YtginmioklkcgbaaW.PrintLast Go.Proofs.YtginmioklkcgbaaW.PrintMore
attribute [local go_sem] max2_int min2_int max_two min_two max_three min_three max_four min_four   -- for this text's walks alone
set_option linter.unusedVariables false
set_option linter.unusedSimpArgs false

/-! ### spec_l03Ok: function 43 -/
mutual
def spec_l03Ok.l0 : Nat → List (S61) → Int → Option (Bool)
 | 0, _, _ => none
 | k + 1, x0, x3 => if x3 < (x0.length : Int) then (if 0 ≤ x3 then ((spec_l03OneAt.f k [rd_T61 x0 x3]).bind fun t114 => (if t114 = true then (spec_l03Ok.l1 k x0 x3 0) else (some false))) else (none)) else (some (decide ((x0.length : Int) ≤ 20)))
def spec_l03Ok.l1 : Nat → List (S61) → Int → Int → Option (Bool)
 | 0, _, _, _ => none
 | k + 1, x0, x3, x4 => if x4 < x3 then (if 0 ≤ x4 then (if x4 < (x0.length : Int) then (if 0 ≤ x3 then (if x3 < (x0.length : Int) then (if ((rd_T61 x0 x4).f0).toList = ((rd_T61 x0 x3).f0).toList then (some false) else (spec_l03Ok.l1 k x0 x3 (wrap64 (x4 + 1)))) else (none)) else (none)) else (none)) else (none)) else (spec_l03Ok.l0 k x0 (wrap64 (x3 + 1)))
end
def spec_l03Ok.f (k : Nat) (l0 : List (S61)) : Option (Bool) := spec_l03Ok.l0 k l0 0
theorem spec_l03Ok.mono_l : ∀ k, (∀ y0 y1, LeO (spec_l03Ok.l0 k y0 y1) (spec_l03Ok.l0 (k + 1) y0 y1)) ∧ (∀ y0 y1 y2, LeO (spec_l03Ok.l1 k y0 y1 y2) (spec_l03Ok.l1 (k + 1) y0 y1 y2))
 | 0 => by refine ⟨?_, ?_⟩ <;> (intros; intro r h; simp [spec_l03Ok.l0, spec_l03Ok.l1] at h)
 | k + 1 => by
  obtain ⟨ih0, ih1⟩ := spec_l03Ok.mono_l k
  refine ⟨?_, ?_⟩ <;> (intros; (first | unfold spec_l03Ok.l0 | unfold spec_l03Ok.l1); repeat' first | (with_reducible first | exact ih0 _ _ | exact ih1 _ _ _ | exact spec_l03OneAt.mono _ _ | exact LeO.refl _ | exact LeO.none _ | refine LeO.ite ?_ ?_ | refine LeO.bind ?_ (fun _ => ?_)) | refine LeO.ite ?_ ?_ | refine LeO.bind ?_ (fun _ => ?_))
theorem spec_l03Ok.mono : ∀ a0 k, LeO (spec_l03Ok.f k a0) (spec_l03Ok.f (k + 1) a0) := by
 intro a0 k
 obtain ⟨ih0, ih1⟩ := spec_l03Ok.mono_l k
 unfold spec_l03Ok.f
 repeat' first | (with_reducible first | exact ih0 _ _ | exact ih1 _ _ _ | exact spec_l03OneAt.mono _ _ | exact LeO.refl _ | exact LeO.none _ | refine LeO.ite ?_ ?_ | refine LeO.bind ?_ (fun _ => ?_)) | refine LeO.ite ?_ ?_ | refine LeO.bind ?_ (fun _ => ?_)
set_option maxHeartbeats 8000000 in
set_option maxRecDepth 100000 in
theorem spec_l03Ok.calls (k : Nat) (A0 : Option Addr) (c0 : Nat) (l0 : List (S61)) (r : Bool) (w : World) (hr0 : Kd.C k61 w A0 l0.length l0) (hc0 : l0.length ≤ c0) (h : spec_l03Ok.f k l0 = some r) :
  Calls Try.prog 43 #[.slice A0 l0.length c0] w fun e w' => e = .returned (.bool r) ∧ Below w.heap.size w w' := by
 have HR0 := aS hr0
 have HC0 := aS hc0
 clear hr0 hc0
 have HB := aS (Below.refl w.heap.size w)
 have H := h
 clear h
 unfold spec_l03Ok.f at H
 have H' := aS H
 clear H
 go_enter Try.func43, Try.ntmps43
 go_wp2
 repeat (go_quiet (fail); try go_wp2)
 go_loopg [3] k (fun kq v3 w' => ∃ (x3_1 : Int), v3 = .int .i64 x3_1 ∧ Aside0 (spec_l03Ok.l0 kq l0 x3_1 = some r) ∧ Aside0 (kq ≤ k) ∧ Aside0 (Below w.heap.size w w'))
 case atStart => exact ⟨(0), eV, H', ⟨Nat.le_refl _⟩, (aS (sW HB.out))⟩
 case round =>
  clear H'
  obtain ⟨x3_1, rfl, HA, HK1, HB⟩ := hrel
  cases gk with
  | zero => exact absurd HA.out (by simp [spec_l03Ok.l0])
  | succ k1 =>
   have H := HA.out
   clear HA
   simp only [spec_l03Ok.l0] at H
   replace H := iE H; rcases H with ⟨c2, H⟩ | ⟨c2, H⟩
   ·
    have c2b0 := decide_eq_true c2
    clear c2
    replace H := iE H; rcases H with ⟨c3, H⟩ | ⟨c3, H⟩
    ·
     have c3b0 := decide_eq_true c3
     clear c3
     replace H := bE H; obtain ⟨t114, A4, H⟩ := H; try dsimp only at H
     have HC5 := aS H
     clear H
     have p113 : 0 ≤ (x3_1 : Int) := sD
     have q113 : x3_1 < (l0.length : Int) := sD
     obtain ⟨ad113, e113, hx113_0, hx113_1, hx113_2⟩ := at_T61 HR0.out x3_1 p113 q113
     cases e113
     replace hx113_0 := bC HB.out hx113_0
     replace hx113_1 := bC HB.out hx113_1
     replace hx113_2 := bC HB.out hx113_2
     replace p113 := eq_true p113
     replace q113 := eq_true q113
     go_upto_if 15 with (first | (go_at_call 87; (with_reducible refine (spec_l03OneAt.calls k1 _ 1 [rd_T61 l0 x3_1] t114 _ ?side1 ?side2 A4.out).mono ?_); (case side1 => refine elem_C ?_ z61 x3_1 (sD) (sD); repeat (first | exact (Kd.C_below HR0.out HB.out) | (with_reducible refine Kd.C_alloc ?_ _) | (with_reducible refine Kd.C_drewN ?_ _) | (with_reducible refine Kd.C_drew ?_))); (case side2 => exact Nat.le_refl _); rintro e w' ⟨rfl, ⟨nd, rfl⟩⟩; (try exact eW)) | ((with_reducible refine gR ?_); go_quiet (first | (go_at_call 87; (with_reducible refine (spec_l03OneAt.calls k1 _ 1 [rd_T61 l0 x3_1] t114 _ ?side1 ?side2 A4.out).mono ?_); (case side1 => refine elem_C ?_ z61 x3_1 (sD) (sD); repeat (first | exact (Kd.C_below HR0.out HB.out) | (with_reducible refine Kd.C_alloc ?_ _) | (with_reducible refine Kd.C_drewN ?_ _) | (with_reducible refine Kd.C_drew ?_))); (case side2 => exact Nat.le_refl _); rintro e w' ⟨rfl, ⟨nd, rfl⟩⟩; (try exact eW)))))
     (try simp only [Act.put, List.setIfInBounds_toArray, List.set_cons_zero, List.set_cons_succ])
     have H := HC5.out
     clear HC5
     replace H := iE H; rcases H with ⟨c6, H⟩ | ⟨c6, H⟩
     ·
      subst c6
      have H' := aS H
      clear H
      go_wp2
      repeat (go_quiet (fail); try go_wp2)
      go_loopg [4] k1 (fun kq v4 w' => ∃ (x4_2 : Int), v4 = .int .i64 x4_2 ∧ Aside0 (spec_l03Ok.l1 kq l0 x3_1 x4_2 = some r) ∧ Aside0 (kq ≤ k1) ∧ Aside0 (Below w.heap.size w w'))
      case atStart => exact ⟨(0), eV, H', ⟨Nat.le_refl _⟩, (aS (sW HB.out))⟩
      case round =>
       clear H'
       (try clear hx1); (try clear hx113_0); (try clear hx113_1); (try clear hx113_2)
       obtain ⟨x4_2, rfl, HA, HK2, HB⟩ := hrel
       cases gk with
       | zero => exact absurd HA.out (by simp [spec_l03Ok.l1])
       | succ k2 =>
        have H := HA.out
        clear HA
        simp only [spec_l03Ok.l1] at H
        replace H := iE H; rcases H with ⟨c7, H⟩ | ⟨c7, H⟩
        ·
         have c7b0 := decide_eq_true c7
         clear c7
         (first | rw [c7b0] | (simp only [i64_w, i32_w]; rw [c7b0]) | (rw [c7b2]; simp only [Bool.not_false, Bool.not_true]) | skip)
         replace H := iE H; rcases H with ⟨c8, H⟩ | ⟨c8, H⟩
         ·
          have c8b0 := decide_eq_true c8
          clear c8
          replace H := iE H; rcases H with ⟨c9, H⟩ | ⟨c9, H⟩
          ·
           have c9b0 := decide_eq_true c9
           clear c9
           replace H := iE H; rcases H with ⟨c10, H⟩ | ⟨c10, H⟩
           ·
            have c10b0 := decide_eq_true c10
            clear c10
            replace H := iE H; rcases H with ⟨c11, H⟩ | ⟨c11, H⟩
            ·
             have c11b0 := decide_eq_true c11
             clear c11
             replace H := iE H; rcases H with ⟨c12, H⟩ | ⟨c12, H⟩
             ·
              have c12b0 := beq_iff_eq.mpr c12
              have c12b1 := bne_eq_false_iff_eq.mpr c12
              clear c12
              obtain rfl := Option.some.inj H
              have p115 : 0 ≤ (x4_2 : Int) := sD
              have q115 : x4_2 < (l0.length : Int) := sD
              obtain ⟨ad115, e115, hx115_0, hx115_1, hx115_2⟩ := at_T61 HR0.out x4_2 p115 q115
              obtain rfl : ad113 = ad115 := (by injection e115)
              replace hx115_0 := bC HB.out hx115_0
              replace hx115_1 := bC HB.out hx115_1
              replace hx115_2 := bC HB.out hx115_2
              replace p115 := eq_true p115
              replace q115 := eq_true q115
              have p116 : 0 ≤ (x3_1 : Int) := sD
              have q116 : x3_1 < (l0.length : Int) := sD
              obtain ⟨ad116, e116, hx116_0, hx116_1, hx116_2⟩ := at_T61 HR0.out x3_1 p116 q116
              obtain rfl : ad113 = ad116 := (by injection e116)
              replace hx116_0 := bC HB.out hx116_0
              replace hx116_1 := bC HB.out hx116_1
              replace hx116_2 := bC HB.out hx116_2
              replace p116 := eq_true p116
              replace q116 := eq_true q116
              go_wp2
              repeat (go_quiet (fail); try go_wp2)
              go_ret
              exact ⟨eE, sW HB.out⟩
             ·
              have c12b0 := beq_eq_false_iff_ne.mpr c12
              have c12b1 := bne_iff_ne.mpr c12
              have H' := aS H
              clear H
              have p115 : 0 ≤ (x4_2 : Int) := sD
              have q115 : x4_2 < (l0.length : Int) := sD
              obtain ⟨ad115, e115, hx115_0, hx115_1, hx115_2⟩ := at_T61 HR0.out x4_2 p115 q115
              obtain rfl : ad113 = ad115 := (by injection e115)
              replace hx115_0 := bC HB.out hx115_0
              replace hx115_1 := bC HB.out hx115_1
              replace hx115_2 := bC HB.out hx115_2
              replace p115 := eq_true p115
              replace q115 := eq_true q115
              have p116 : 0 ≤ (x3_1 : Int) := sD
              have q116 : x3_1 < (l0.length : Int) := sD
              obtain ⟨ad116, e116, hx116_0, hx116_1, hx116_2⟩ := at_T61 HR0.out x3_1 p116 q116
              obtain rfl : ad113 = ad116 := (by injection e116)
              replace hx116_0 := bC HB.out hx116_0
              replace hx116_1 := bC HB.out hx116_1
              replace hx116_2 := bC HB.out hx116_2
              replace p116 := eq_true p116
              replace q116 := eq_true q116
              go_wp2
              repeat (go_quiet (fail); try go_wp2)
              go_roundg k2
              case measure => have := HK1.out; have := HK2.out; omega
              case rel => exact ⟨(wrap64 (x4_2 + 1)), eV, H', ⟨by have := HK1.out; have := HK2.out; omega⟩, (aS (sW HB.out))⟩
            ·
             exact absurd H (by simp)
           ·
            exact absurd H (by simp)
          ·
           exact absurd H (by simp)
         ·
          exact absurd H (by simp)
        ·
         have c7b0 := decide_eq_false c7
         clear c7
         (first | rw [c7b0] | (simp only [i64_w, i32_w]; rw [c7b0]) | (rw [c7b2]; simp only [Bool.not_false, Bool.not_true]) | skip)
         have H' := aS H
         clear H
         go_wp2
         repeat (go_quiet (fail); try go_wp2)
         go_roundg k2
         case measure => have := HK1.out; have := HK2.out; omega
         case rel => exact ⟨(wrap64 (x3_1 + 1)), eV, H', ⟨by have := HK1.out; have := HK2.out; omega⟩, (aS (sW HB.out))⟩
     ·
      replace c6 := Bool.eq_false_iff.mpr c6
      subst c6
      obtain rfl := Option.some.inj H
      go_wp2
      repeat (go_quiet (fail); try go_wp2)
      go_ret
      exact ⟨eE, sW HB.out⟩
    ·
     exact absurd H (by simp)
   ·
    have c2b0 := decide_eq_false c2
    clear c2
    obtain rfl := Option.some.inj H
    go_wp2
    repeat (go_quiet (fail); try go_wp2)
    go_ret
    exact ⟨eE, sW HB.out⟩

/-! ### spec_l03Piece: function 44 -/
def spec_l03Piece.f (a0_0 : Int) (a0_1 : Int) : Option (Bool) := (spec_l00In.f a0_0 1 1000000).bind fun t118 => (if t118 = true then ((spec_l00In.f a0_1 1 100000).bind fun t119 => (some t119)) else (some false))
set_option maxHeartbeats 8000000 in
set_option maxRecDepth 100000 in
theorem spec_l03Piece.calls (a0_0 : Int) (a0_1 : Int) (r : Bool) (w : World) (h : spec_l03Piece.f a0_0 a0_1 = some r) :
  Calls Try.prog 44 #[.agg #[.int .i64 a0_0, .int .i64 a0_1]] w fun e w' => e = .returned (.bool r) ∧ Below w.heap.size w w' := by
 have hu45 := Try.underlying45
 have HB := aS (Below.refl w.heap.size w)
 have H := h
 clear h
 unfold spec_l03Piece.f at H
 replace H := bE H; obtain ⟨t118, A2, H⟩ := H; try dsimp only at H
 replace H := iE H; rcases H with ⟨c3, H⟩ | ⟨c3, H⟩
 ·
  subst c3
  replace H := bE H; obtain ⟨t119, A4, H⟩ := H; try dsimp only at H
  obtain rfl := Option.some.inj H
  go_enter Try.func44, Try.ntmps44
  go_wp2_with (first | ((with_reducible refine gate_dst (N := 1) rfl ?_); refine bx 1 #[.int .i64 a0_0, .int .i64 a0_1] 45 ?_; intro gb117 hg w5 hbox hb; have BK117 := aS (hbox); have GW117 := aS (gW hg (sW HB.out)); have GE117 := aS (gW hg (sW HB.out)); replace HB := aS (below_step (sW HB.out) hb); clear hb hbox hg; obtain ⟨hcz6_0, hcz6_1, hfz6_0, hfz6_1⟩ := z2 BK117.out) | ((with_reducible refine gate_callee (f := 75) rfl ?_); refine goesL_ (some 5) rfl rfl Try.func75 (by kernel_rfl) rfl #[.int .i64 a0_0, .int .i64 1, .int .i64 1000000] rfl sG ?_; (with_reducible refine (spec_l00In.calls a0_0 1 1000000 true _ A2.out).mono ?_); rintro e w' ⟨rfl, ⟨nd, rfl⟩⟩; refine ⟨_, rfl, ?_⟩) | (go_at_call 75; (with_reducible refine (spec_l00In.calls a0_1 1 100000 t119 _ A4.out).mono ?_); rintro e w' ⟨rfl, ⟨nd, rfl⟩⟩))
  go_ret
  exact ⟨eE, sW HB.out⟩
 ·
  replace c3 := Bool.eq_false_iff.mpr c3
  subst c3
  obtain rfl := Option.some.inj H
  go_enter Try.func44, Try.ntmps44
  go_wp2_with (first | ((with_reducible refine gate_dst (N := 1) rfl ?_); refine bx 1 #[.int .i64 a0_0, .int .i64 a0_1] 45 ?_; intro gb117 hg w7 hbox hb; have BK117 := aS (hbox); have GW117 := aS (gW hg (sW HB.out)); have GE117 := aS (gW hg (sW HB.out)); replace HB := aS (below_step (sW HB.out) hb); clear hb hbox hg; obtain ⟨hcz8_0, hcz8_1, hfz8_0, hfz8_1⟩ := z2 BK117.out) | ((with_reducible refine gate_callee (f := 75) rfl ?_); refine goesL_ (some 5) rfl rfl Try.func75 (by kernel_rfl) rfl #[.int .i64 a0_0, .int .i64 1, .int .i64 1000000] rfl sG ?_; (with_reducible refine (spec_l00In.calls a0_0 1 1000000 false _ A2.out).mono ?_); rintro e w' ⟨rfl, ⟨nd, rfl⟩⟩; refine ⟨_, rfl, ?_⟩))
  go_ret
  exact ⟨eE, sW HB.out⟩

/-! ### spec_l03Need: function 45 -/
def spec_l03Need.f (a0 : Int) : Option (Bool) := (spec_l00In.f a0 0 1000000).bind fun t120 => (some t120)
set_option maxHeartbeats 8000000 in
set_option maxRecDepth 100000 in
theorem spec_l03Need.calls (a0 : Int) (r : Bool) (w : World) (h : spec_l03Need.f a0 = some r) :
  Calls Try.prog 45 #[.int .i64 a0] w fun e w' => e = .returned (.bool r) ∧ Drawn0 w w' := by
 have H := h
 clear h
 unfold spec_l03Need.f at H
 replace H := bE H; obtain ⟨t120, A2, H⟩ := H; try dsimp only at H
 obtain rfl := Option.some.inj H
 go_enter Try.func45, Try.ntmps45
 go_wp2_with (first | ((with_reducible refine gate_callee (f := 75) rfl ?_); refine goesL_ (some 4) rfl rfl Try.func75 (by kernel_rfl) rfl #[.int .i64 a0, .int .i64 0, .int .i64 1000000] rfl sG ?_; (with_reducible refine (spec_l00In.calls a0 0 1000000 t120 _ A2.out).mono ?_); rintro e w' ⟨rfl, ⟨nd, rfl⟩⟩; refine ⟨_, rfl, ?_⟩))
 go_ret
 exact ⟨eV, eD⟩

/-! ### spec_l00Min: function 97 -/
def spec_l00Min.f (a0 : Int) (a1 : Int) : Option (Int) := if a0 < a1 then (some a0) else (some a1)
set_option maxHeartbeats 8000000 in
set_option maxRecDepth 100000 in
theorem spec_l00Min.calls (a0 : Int) (a1 : Int) (r : Int) (w : World) (h : spec_l00Min.f a0 a1 = some r) :
  Calls Try.prog 97 #[.int .i64 a0, .int .i64 a1] w fun e w' => e = .returned (.int .i64 r) ∧ Drawn0 w w' := by
 have H := h
 clear h
 unfold spec_l00Min.f at H
 replace H := iE H; rcases H with ⟨c3, H⟩ | ⟨c3, H⟩
 ·
  have c3b0 := decide_eq_true c3
  clear c3
  obtain rfl := Option.some.inj H
  go_enter Try.func97, Try.ntmps97
  go_wp2
  go_ret
  exact ⟨eV, eD⟩
 ·
  have c3b0 := decide_eq_false c3
  clear c3
  obtain rfl := Option.some.inj H
  go_enter Try.func97, Try.ntmps97
  go_wp2
  go_ret
  exact ⟨eV, eD⟩

/-! ### spec_l03JoinedAt: function 69 -/
def spec_l03JoinedAt.f (l0 : List (S61)) (a1_0 : Int) (a1_1 : Int) (a2_0 : Int) (a2_1 : Int) : Option (Int) := if 0 < (l0.length : Int) then ((spec_l00Min.f a1_0 a2_0).bind fun t127 => (some (wrap64 (((rd_T61 l0 0).f1) * t127)))) else (none)
set_option maxHeartbeats 8000000 in
set_option maxRecDepth 100000 in
theorem spec_l03JoinedAt.calls (A0 : Option Addr) (c0 : Nat) (l0 : List (S61)) (a1_0 : Int) (a1_1 : Int) (a2_0 : Int) (a2_1 : Int) (r : Int) (w : World) (hr0 : Kd.C k61 w A0 l0.length l0) (hc0 : l0.length ≤ c0) (h : spec_l03JoinedAt.f l0 a1_0 a1_1 a2_0 a2_1 = some r) :
  Calls Try.prog 69 #[.pointer A0, .agg #[.int .i64 a1_0, .int .i64 a1_1], .agg #[.int .i64 a2_0, .int .i64 a2_1]] w fun e w' => e = .returned (.int .i64 r) ∧ Below w.heap.size w w' := by
 have hu45 := Try.underlying45
 have HR0 := aS hr0
 have HC0 := aS hc0
 clear hr0 hc0
 have HB := aS (Below.refl w.heap.size w)
 have H := h
 clear h
 unfold spec_l03JoinedAt.f at H
 replace H := iE H; rcases H with ⟨c4, H⟩ | ⟨c4, H⟩
 ·
  have c4b0 := decide_eq_true c4
  have c4b1 : decide (0 < l0.length) = true := decide_eq_true (by omega)
  clear c4
  replace H := bE H; obtain ⟨t127, A5, H⟩ := H; try dsimp only at H
  obtain rfl := Option.some.inj H
  go_enter Try.func69, Try.ntmps69
  go_wp2_with (first | ((with_reducible refine gate_dst (N := 4) rfl ?_); refine bx 4 #[.int .i64 a1_0, .int .i64 a1_1] 45 ?_; intro gb124 hg w6 hbox hb; have BK124 := aS (hbox); have GW124 := aS (gW hg (sW HB.out)); have GE124 := aS (gW hg (sW HB.out)); replace HB := aS (below_step (sW HB.out) hb); clear hb hbox hg) | ((with_reducible refine gate_dst (N := 5) rfl ?_); refine bx 5 #[.int .i64 a2_0, .int .i64 a2_1] 45 ?_; intro gb125 hg w7 hbox hb; have BK125 := aS (hbox); have GW125 := aS (gW hg (sW HB.out)); have GE125 := aS (gW hg (sW HB.out)); replace HB := aS (below_step (sW HB.out) hb); have NB124_125 := aS (nL hg (sB BK124.out)); have NB125_124 := aS (nG hg (sB BK124.out)); replace BK124 := aS (blk_below (sB BK124.out) hb); clear hb hbox hg; have p126 : 0 ≤ (0 : Int) := (by omega); have q126 : 0 < (l0.length : Int) := sD; obtain ⟨ad126, e126, hx126_0, hx126_1, hx126_2⟩ := at_T61 HR0.out 0 p126 q126; cases e126; have qi126 : (0 < l0.length) = True := eq_true (by omega); (try rw [show ((0 : Int)).toNat = 0 from rfl] at hx126_0); (try rw [show 0 * 3 = 0 from rfl] at hx126_0); (try rw [Addr.add_zero'] at hx126_0); (try rw [show ((0 : Int)).toNat = 0 from rfl] at hx126_1); (try rw [show 0 * 3 = 0 from rfl] at hx126_1); (try rw [Addr.add_zero'] at hx126_1); (try rw [show ((0 : Int)).toNat = 0 from rfl] at hx126_2); (try rw [show 0 * 3 = 0 from rfl] at hx126_2); (try rw [Addr.add_zero'] at hx126_2); replace hx126_0 := bC HB.out hx126_0; replace hx126_1 := bC HB.out hx126_1; replace hx126_2 := bC HB.out hx126_2; replace p126 := eq_true p126; replace q126 := eq_true q126; have hnb8 := NB124_125.out; have hnc8 := NB125_124.out; obtain ⟨hcz9_0, hcz9_1, hfz9_0, hfz9_1⟩ := z2 BK124.out; obtain ⟨hcz10_0, hcz10_1, hfz10_0, hfz10_1⟩ := z2 BK125.out) | (go_at_call 97; (with_reducible refine (spec_l00Min.calls a1_0 a2_0 t127 _ A5.out).mono ?_); rintro e w' ⟨rfl, ⟨nd, rfl⟩⟩; (try exact eW)))
  repeat ((refine wp_region_quiet_lit (by kernel_rfl) (by kernel_rfl) ?_; (repeat ((first | (with_reducible refine wpQuiet_step (fun K hK => ?_)) | refine wpQuiet_step (fun K hK => ?_)); go_simp; first | (refine hK _ ?_; clear hK K) | (apply Exists.intro; refine ⟨fun _ => ?_, hK _ ?_⟩; (try simp only [i64_w]); (first | ((with_reducible refine gate_dst (N := 4) rfl ?_); refine bx 4 #[.int .i64 a1_0, .int .i64 a1_1] 45 ?_; intro gb124 hg w6 hbox hb; have BK124 := aS (hbox); have GW124 := aS (gW hg (sW HB.out)); have GE124 := aS (gW hg (sW HB.out)); replace HB := aS (below_step (sW HB.out) hb); clear hb hbox hg) | ((with_reducible refine gate_dst (N := 5) rfl ?_); refine bx 5 #[.int .i64 a2_0, .int .i64 a2_1] 45 ?_; intro gb125 hg w7 hbox hb; have BK125 := aS (hbox); have GW125 := aS (gW hg (sW HB.out)); have GE125 := aS (gW hg (sW HB.out)); replace HB := aS (below_step (sW HB.out) hb); have NB124_125 := aS (nL hg (sB BK124.out)); have NB125_124 := aS (nG hg (sB BK124.out)); replace BK124 := aS (blk_below (sB BK124.out) hb); clear hb hbox hg; have p126 : 0 ≤ (0 : Int) := (by omega); have q126 : 0 < (l0.length : Int) := sD; obtain ⟨ad126, e126, hx126_0, hx126_1, hx126_2⟩ := at_T61 HR0.out 0 p126 q126; cases e126; have qi126 : (0 < l0.length) = True := eq_true (by omega); (try rw [show ((0 : Int)).toNat = 0 from rfl] at hx126_0); (try rw [show 0 * 3 = 0 from rfl] at hx126_0); (try rw [Addr.add_zero'] at hx126_0); (try rw [show ((0 : Int)).toNat = 0 from rfl] at hx126_1); (try rw [show 0 * 3 = 0 from rfl] at hx126_1); (try rw [Addr.add_zero'] at hx126_1); (try rw [show ((0 : Int)).toNat = 0 from rfl] at hx126_2); (try rw [show 0 * 3 = 0 from rfl] at hx126_2); (try rw [Addr.add_zero'] at hx126_2); replace hx126_0 := bC HB.out hx126_0; replace hx126_1 := bC HB.out hx126_1; replace hx126_2 := bC HB.out hx126_2; replace p126 := eq_true p126; replace q126 := eq_true q126; have hnb8 := NB124_125.out; have hnc8 := NB125_124.out; obtain ⟨hcz9_0, hcz9_1, hfz9_0, hfz9_1⟩ := z2 BK124.out; obtain ⟨hcz10_0, hcz10_1, hfz10_0, hfz10_1⟩ := z2 BK125.out) | (go_at_call 97; (with_reducible refine (spec_l00Min.calls a1_0 a2_0 t127 _ A5.out).mono ?_); rintro e w' ⟨rfl, ⟨nd, rfl⟩⟩; (try exact eW))); clear hK K))); refine wpQuiet_nil ?_; intro _ hw'; obtain ⟨nq, hw''⟩ := hw'; subst hw''); try go_wp2_with (first | ((with_reducible refine gate_dst (N := 4) rfl ?_); refine bx 4 #[.int .i64 a1_0, .int .i64 a1_1] 45 ?_; intro gb124 hg w6 hbox hb; have BK124 := aS (hbox); have GW124 := aS (gW hg (sW HB.out)); have GE124 := aS (gW hg (sW HB.out)); replace HB := aS (below_step (sW HB.out) hb); clear hb hbox hg) | ((with_reducible refine gate_dst (N := 5) rfl ?_); refine bx 5 #[.int .i64 a2_0, .int .i64 a2_1] 45 ?_; intro gb125 hg w7 hbox hb; have BK125 := aS (hbox); have GW125 := aS (gW hg (sW HB.out)); have GE125 := aS (gW hg (sW HB.out)); replace HB := aS (below_step (sW HB.out) hb); have NB124_125 := aS (nL hg (sB BK124.out)); have NB125_124 := aS (nG hg (sB BK124.out)); replace BK124 := aS (blk_below (sB BK124.out) hb); clear hb hbox hg; have p126 : 0 ≤ (0 : Int) := (by omega); have q126 : 0 < (l0.length : Int) := sD; obtain ⟨ad126, e126, hx126_0, hx126_1, hx126_2⟩ := at_T61 HR0.out 0 p126 q126; cases e126; have qi126 : (0 < l0.length) = True := eq_true (by omega); (try rw [show ((0 : Int)).toNat = 0 from rfl] at hx126_0); (try rw [show 0 * 3 = 0 from rfl] at hx126_0); (try rw [Addr.add_zero'] at hx126_0); (try rw [show ((0 : Int)).toNat = 0 from rfl] at hx126_1); (try rw [show 0 * 3 = 0 from rfl] at hx126_1); (try rw [Addr.add_zero'] at hx126_1); (try rw [show ((0 : Int)).toNat = 0 from rfl] at hx126_2); (try rw [show 0 * 3 = 0 from rfl] at hx126_2); (try rw [Addr.add_zero'] at hx126_2); replace hx126_0 := bC HB.out hx126_0; replace hx126_1 := bC HB.out hx126_1; replace hx126_2 := bC HB.out hx126_2; replace p126 := eq_true p126; replace q126 := eq_true q126; have hnb8 := NB124_125.out; have hnc8 := NB125_124.out; obtain ⟨hcz9_0, hcz9_1, hfz9_0, hfz9_1⟩ := z2 BK124.out; obtain ⟨hcz10_0, hcz10_1, hfz10_0, hfz10_1⟩ := z2 BK125.out) | (go_at_call 97; (with_reducible refine (spec_l00Min.calls a1_0 a2_0 t127 _ A5.out).mono ?_); rintro e w' ⟨rfl, ⟨nd, rfl⟩⟩; (try exact eW))))
  go_ret
  exact ⟨eE, sW HB.out⟩
 ·
  exact absurd H (by simp)

end Go.Proofs.Ytginmioklkcgbaa.QFnBestJoins

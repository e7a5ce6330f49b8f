/- What the Go functions of this law compute, each as a Lean function, and that each call comes to that answer; written by a program of this session. No condition. -/
import Derived.Test.YtginmioklkcgbaaVShn
import Derived.Test.YtginmioklkcgbaaVQFnBestJoinsx0
import Derived.Test.YtginmioklkcgbaaVQFnBestJoinsx1
import Derived.Test.YtginmioklkcgbaaVQFnBestJoinsx8
import Derived.Test.YtginmioklkcgbaaVQFnBestJoinsx21
namespace Go.Proofs.Ytginmioklkcgbaa.QFnBestJoins
open Go.RowKit Go.Proofs.YtginmioklkcgbaaW.PrintWords Go.Proofs.YtginmioklkcgbaaW.PrintLast Go.Proofs.YtginmioklkcgbaaW.PrintMore
attribute [local go_sem] max2_int min2_int max_two min_two max_three min_three max_four min_four   -- for this text's walks alone
set_option linter.unusedVariables false
set_option linter.unusedSimpArgs false

attribute [local go_sem high] eqA45
/-! ### spec_SameLine: function 28 -/
mutual
def spec_SameLine.j0 : Nat → Bool → List (S45) → List Int → List (S45) → List Int → Option (Bool)
 | 0, _, _, _, _, _ => none
 | k + 1, x20, x670000, x670001, x671000, x671001 => if x20 = true then (some false) else (spec_SameLine.l0 k 0 x670000 x670001 x671000 x671001)
def spec_SameLine.l0 : Nat → Int → List (S45) → List Int → List (S45) → List Int → Option (Bool)
 | 0, _, _, _, _, _ => none
 | k + 1, x5, x670000, x670001, x671000, x671001 => if x5 < (x670000.length : Int) then (if 0 ≤ x5 then (if x5 < (x671000.length : Int) then (if (!(((rd_T45 x670000 x5).f0) == ((rd_T45 x671000 x5).f0)) || (!(((rd_T45 x670000 x5).f1) == ((rd_T45 x671000 x5).f1)))) = true then (some false) else (spec_SameLine.l0 k (wrap64 (x5 + 1)) x670000 x670001 x671000 x671001)) else (none)) else (none)) else (some true)
end
def spec_SameLine.f (k : Nat) (l0_0 : List (S45)) (l0_1 : List Int) (l1_0 : List (S45)) (l1_1 : List Int) : Option (Bool) := if (l0_0.length : Int) = (l1_0.length : Int) then ((spec_l00Same.f k l0_1 l1_1).bind fun t671 => (spec_SameLine.j0 k (!t671) l0_0 l0_1 l1_0 l1_1)) else (spec_SameLine.j0 k true l0_0 l0_1 l1_0 l1_1)
theorem spec_SameLine.mono_l : ∀ k, (∀ y0 y1 y2 y3 y4, LeO (spec_SameLine.j0 k y0 y1 y2 y3 y4) (spec_SameLine.j0 (k + 1) y0 y1 y2 y3 y4)) ∧ (∀ y0 y1 y2 y3 y4, LeO (spec_SameLine.l0 k y0 y1 y2 y3 y4) (spec_SameLine.l0 (k + 1) y0 y1 y2 y3 y4))
 | 0 => by refine ⟨?_, ?_⟩ <;> (intros; intro r h; simp [spec_SameLine.j0, spec_SameLine.l0] at h)
 | k + 1 => by
  obtain ⟨ih0, ih1⟩ := spec_SameLine.mono_l k
  refine ⟨?_, ?_⟩ <;> (intros; (first | unfold spec_SameLine.j0 | unfold spec_SameLine.l0); repeat' first | (with_reducible first | exact ih0 _ _ _ _ _ | exact ih1 _ _ _ _ _ | exact spec_l00Same.mono _ _ _ | exact LeO.refl _ | exact LeO.none _ | refine LeO.ite ?_ ?_ | refine LeO.bind ?_ (fun _ => ?_)) | refine LeO.ite ?_ ?_ | refine LeO.bind ?_ (fun _ => ?_))
theorem spec_SameLine.mono : ∀ a0 a1 a2 a3 k, LeO (spec_SameLine.f k a0 a1 a2 a3) (spec_SameLine.f (k + 1) a0 a1 a2 a3) := by
 intro a0 a1 a2 a3 k
 obtain ⟨ih0, ih1⟩ := spec_SameLine.mono_l k
 unfold spec_SameLine.f
 repeat' first | (with_reducible first | exact ih0 _ _ _ _ _ | exact ih1 _ _ _ _ _ | exact spec_l00Same.mono _ _ _ | exact LeO.refl _ | exact LeO.none _ | refine LeO.ite ?_ ?_ | refine LeO.bind ?_ (fun _ => ?_)) | refine LeO.ite ?_ ?_ | refine LeO.bind ?_ (fun _ => ?_)
set_option maxHeartbeats 8000000 in
set_option maxRecDepth 100000 in
theorem spec_SameLine.calls (k : Nat) (A0_0 : Option Addr) (c0_0 : Nat) (l0_0 : List (S45)) (A0_1 : Option Addr) (c0_1 : Nat) (l0_1 : List Int) (A1_0 : Option Addr) (c1_0 : Nat) (l1_0 : List (S45)) (A1_1 : Option Addr) (c1_1 : Nat) (l1_1 : List Int) (r : Bool) (w : World) (hr0_0 : Kd.C k45 w A0_0 l0_0.length l0_0) (hc0_0 : l0_0.length ≤ c0_0) (hr0_1 : Kd.C (Kd.int .i64) w A0_1 l0_1.length l0_1) (hc0_1 : l0_1.length ≤ c0_1) (hr1_0 : Kd.C k45 w A1_0 l1_0.length l1_0) (hc1_0 : l1_0.length ≤ c1_0) (hr1_1 : Kd.C (Kd.int .i64) w A1_1 l1_1.length l1_1) (hc1_1 : l1_1.length ≤ c1_1) (h : spec_SameLine.f k l0_0 l0_1 l1_0 l1_1 = some r) :
  Calls Try.prog 28 #[.agg #[.slice A0_0 l0_0.length c0_0, .slice A0_1 l0_1.length c0_1], .agg #[.slice A1_0 l1_0.length c1_0, .slice A1_1 l1_1.length c1_1]] w fun e w' => e = .returned (.bool r) ∧ Below w.heap.size w w' := by
 have hu29 := Try.underlying29
 have hu45 := Try.underlying45
 have HR0_0 := aS hr0_0
 have HC0_0 := aS hc0_0
 clear hr0_0 hc0_0
 have HR0_1 := aS hr0_1
 have HC0_1 := aS hc0_1
 clear hr0_1 hc0_1
 have HR1_0 := aS hr1_0
 have HC1_0 := aS hc1_0
 clear hr1_0 hc1_0
 have HR1_1 := aS hr1_1
 have HC1_1 := aS hc1_1
 clear hr1_1 hc1_1
 have HB := aS (Below.refl w.heap.size w)
 have H := h
 clear h
 unfold spec_SameLine.f at H
 have HC3 := aS H
 clear H
 go_enter Try.func28, Try.ntmps28
 go_upto_region 1 with (first | ((with_reducible refine gate_dst (N := 2) rfl ?_); refine bx 2 #[.slice A0_0 l0_0.length c0_0, .slice A0_1 l0_1.length c0_1] 29 ?_; intro gb669 hg w4 hbox hb; have BK669 := aS (hbox); have GW669 := aS (gW hg (sW HB.out)); have GE669 := aS (gW hg (sW HB.out)); replace HB := aS (below_step (sW HB.out) hb); clear hb hbox hg) | ((with_reducible refine gate_dst (N := 3) rfl ?_); refine bx 3 #[.slice A1_0 l1_0.length c1_0, .slice A1_1 l1_1.length c1_1] 29 ?_; intro gb670 hg w5 hbox hb; have BK670 := aS (hbox); have GW670 := aS (gW hg (sW HB.out)); have GE670 := aS (gW hg (sW HB.out)); replace HB := aS (below_step (sW HB.out) hb); have NB669_670 := aS (nL hg (sB BK669.out)); have NB670_669 := aS (nG hg (sB BK669.out)); replace BK669 := aS (blk_below (sB BK669.out) hb); clear hb hbox hg) | ((with_reducible refine gR ?_); go_quiet (fail)))
 (try simp only [Act.put, List.setIfInBounds_toArray, List.set_cons_zero, List.set_cons_succ])
 go_cut [20] (fun v20 wc => ∃ (kq : Nat) (x20_2 : Bool), v20 = .bool x20_2 ∧ Aside0 (spec_SameLine.j0 kq x20_2 l0_0 l0_1 l1_0 l1_1 = some r) ∧ Aside0 (kq ≤ k) ∧ Aside0 (wc.heap[gb669]? = some (.cells #[(.slice A0_0 l0_0.length c0_0), (.slice A0_1 l0_1.length c0_1)] 29 (0, 0))) ∧ Aside0 (wc.heap[gb670]? = some (.cells #[(.slice A1_0 l1_0.length c1_0), (.slice A1_1 l1_1.length c1_1)] 29 (0, 0))) ∧ Aside0 (Below w.heap.size w wc))
 case first =>
  have H := HC3.out
  clear HC3
  replace H := iE H; rcases H with ⟨c6, H⟩ | ⟨c6, H⟩
  ·
   have c6b0 := beq_iff_eq.mpr c6
   have c6b1 := bne_eq_false_iff_eq.mpr c6
   have c6b2 : (l0_0.length == l1_0.length) = true := by first | simpa using c6 | (simp at c6 ⊢; omega)
   clear c6
   (first | rw [c6b0] | (simp only [i64_w, i32_w]; rw [c6b0]) | (rw [c6b2]; simp only [Bool.not_false, Bool.not_true]) | skip)
   replace H := bE H; obtain ⟨t671, A7, H⟩ := H; try dsimp only at H
   have H' := aS H
   clear H
   have hnb8 := NB669_670.out
   have hnc8 := NB670_669.out
   obtain ⟨hcz9_0, hcz9_1, hfz9_0, hfz9_1⟩ := z2 BK669.out
   obtain ⟨hcz10_0, hcz10_1, hfz10_0, hfz10_1⟩ := z2 BK670.out
   go_wp2_with (first | (go_at_call 77; (with_reducible refine (spec_l00Same.calls k _ _ l0_1 _ _ l1_1 t671 _ ?side1 ?side2 ?side3 ?side4 A7.out).mono ?_); (case side1 => exact sC (Kd.C_below HR0_1.out HB.out)); (case side2 => exact HC0_1.out); (case side3 => exact sC (Kd.C_below HR1_1.out HB.out)); (case side4 => exact HC1_1.out); rintro e w' ⟨rfl, ⟨nd, rfl⟩⟩; (try exact eW)) | ((with_reducible refine gR ?_); go_quiet (first | (go_at_call 77; (with_reducible refine (spec_l00Same.calls k _ _ l0_1 _ _ l1_1 t671 _ ?side1 ?side2 ?side3 ?side4 A7.out).mono ?_); (case side1 => exact sC (Kd.C_below HR0_1.out HB.out)); (case side2 => exact HC0_1.out); (case side3 => exact sC (Kd.C_below HR1_1.out HB.out)); (case side4 => exact HC1_1.out); rintro e w' ⟨rfl, ⟨nd, rfl⟩⟩; (try exact eW)))))
   go_meet
   case rel => exact ⟨_, (!t671), eV, H', ⟨by first | omega | exact Nat.le_refl _⟩, (aS (sB BK669.out)), (aS (sB BK670.out)), (aS (sW HB.out))⟩
  ·
   have c6b0 := beq_eq_false_iff_ne.mpr c6
   have c6b1 := bne_iff_ne.mpr c6
   have c6b2 : (l0_0.length == l1_0.length) = false := by first | simpa using c6 | (simp at c6 ⊢; omega)
   (first | rw [c6b0] | (simp only [i64_w, i32_w]; rw [c6b0]) | (rw [c6b2]; simp only [Bool.not_false, Bool.not_true]) | skip)
   have H' := aS H
   clear H
   have hnb11 := NB669_670.out
   have hnc11 := NB670_669.out
   obtain ⟨hcz12_0, hcz12_1, hfz12_0, hfz12_1⟩ := z2 BK669.out
   obtain ⟨hcz13_0, hcz13_1, hfz13_0, hfz13_1⟩ := z2 BK670.out
   go_wp2
   repeat (go_quiet (fail); try go_wp2)
   go_meet
   case rel => exact ⟨_, (true), eV, H', ⟨by first | omega | exact Nat.le_refl _⟩, (aS (sB BK669.out)), (aS (sB BK670.out)), (aS (sW HB.out))⟩
 case rest =>
  clear HC3
  obtain ⟨kq, x20_2, rfl, HA, HJ2, BK669, BK670, HB⟩ := hcut
  cases kq with
  | zero => exact absurd HA.out (by simp [spec_SameLine.j0])
  | succ kj2 =>
   have H := HA.out
   clear HA
   simp only [spec_SameLine.j0] at H
   replace H := iE H; rcases H with ⟨c14, H⟩ | ⟨c14, H⟩
   ·
    subst c14
    obtain rfl := Option.some.inj H
    go_wp2
    repeat (go_quiet (fail); try go_wp2)
    go_ret
    exact ⟨eE, sW HB.out⟩
   ·
    replace c14 := Bool.eq_false_iff.mpr c14
    subst c14
    have H' := aS H
    clear H
    go_wp2
    repeat (go_quiet (fail); try go_wp2)
    go_loopg [5] kj2 (fun kq v5 w' => ∃ (x5_2 : Int), v5 = .int .i64 x5_2 ∧ Aside0 (spec_SameLine.l0 kq x5_2 l0_0 l0_1 l1_0 l1_1 = some r) ∧ Aside0 (kq ≤ kj2) ∧ Aside0 (w'.heap[gb669]? = some (.cells #[(.slice A0_0 l0_0.length c0_0), (.slice A0_1 l0_1.length c0_1)] 29 (0, 0))) ∧ Aside0 (w'.heap[gb670]? = some (.cells #[(.slice A1_0 l1_0.length c1_0), (.slice A1_1 l1_1.length c1_1)] 29 (0, 0))) ∧ Aside0 (Below w.heap.size w w'))
    case atStart => exact ⟨(0), eV, H', ⟨Nat.le_refl _⟩, (aS (sB BK669.out)), (aS (sB BK670.out)), (aS (sW HB.out))⟩
    case round =>
     clear H'
     obtain ⟨x5_2, rfl, HA, HK2, BK669, BK670, HB⟩ := hrel
     cases gk with
     | zero => exact absurd HA.out (by simp [spec_SameLine.l0])
     | succ k2 =>
      have H := HA.out
      clear HA
      simp only [spec_SameLine.l0] at H
      replace H := iE H; rcases H with ⟨c15, H⟩ | ⟨c15, H⟩
      ·
       have c15b0 := decide_eq_true c15
       clear c15
       replace H := iE H; rcases H with ⟨c16, H⟩ | ⟨c16, H⟩
       ·
        have c16b0 := decide_eq_true c16
        clear c16
        replace H := iE H; rcases H with ⟨c17, H⟩ | ⟨c17, H⟩
        ·
         have c17b0 := decide_eq_true c17
         clear c17
         replace H := iE H; rcases H with ⟨c18, H⟩ | ⟨c18, H⟩
         ·
          have c18b0 : (!(((rd_T45 l0_0 x5_2).f0) == ((rd_T45 l1_0 x5_2).f0)) || (!(((rd_T45 l0_0 x5_2).f1) == ((rd_T45 l1_0 x5_2).f1)))) = true := c18
          clear c18
          obtain rfl := Option.some.inj H
          have hnb19 := NB669_670.out
          have hnc19 := NB670_669.out
          obtain ⟨hcz20_0, hcz20_1, hfz20_0, hfz20_1⟩ := z2 BK669.out
          have p672 : 0 ≤ (x5_2 : Int) := sD
          have q672 : x5_2 < (l0_0.length : Int) := sD
          obtain ⟨ad672, e672, hx672_0, hx672_1⟩ := at_T45 HR0_0.out x5_2 p672 q672
          cases e672
          replace hx672_0 := bC HB.out hx672_0
          replace hx672_1 := bC HB.out hx672_1
          replace p672 := eq_true p672
          replace q672 := eq_true q672
          obtain ⟨hcz21_0, hcz21_1, hfz21_0, hfz21_1⟩ := z2 BK670.out
          have p673 : 0 ≤ (x5_2 : Int) := sD
          have q673 : x5_2 < (l1_0.length : Int) := sD
          obtain ⟨ad673, e673, hx673_0, hx673_1⟩ := at_T45 HR1_0.out x5_2 p673 q673
          cases e673
          replace hx673_0 := bC HB.out hx673_0
          replace hx673_1 := bC HB.out hx673_1
          replace p673 := eq_true p673
          replace q673 := eq_true q673
          go_wp2
          repeat (go_quiet (fail); try go_wp2)
          go_ret
          exact ⟨eE, sW HB.out⟩
         ·
          have c18b0 : (!(((rd_T45 l0_0 x5_2).f0) == ((rd_T45 l1_0 x5_2).f0)) || (!(((rd_T45 l0_0 x5_2).f1) == ((rd_T45 l1_0 x5_2).f1)))) = false := by simpa using c18
          clear c18
          have H' := aS H
          clear H
          have hnb22 := NB669_670.out
          have hnc22 := NB670_669.out
          obtain ⟨hcz23_0, hcz23_1, hfz23_0, hfz23_1⟩ := z2 BK669.out
          have p672 : 0 ≤ (x5_2 : Int) := sD
          have q672 : x5_2 < (l0_0.length : Int) := sD
          obtain ⟨ad672, e672, hx672_0, hx672_1⟩ := at_T45 HR0_0.out x5_2 p672 q672
          cases e672
          replace hx672_0 := bC HB.out hx672_0
          replace hx672_1 := bC HB.out hx672_1
          replace p672 := eq_true p672
          replace q672 := eq_true q672
          obtain ⟨hcz24_0, hcz24_1, hfz24_0, hfz24_1⟩ := z2 BK670.out
          have p673 : 0 ≤ (x5_2 : Int) := sD
          have q673 : x5_2 < (l1_0.length : Int) := sD
          obtain ⟨ad673, e673, hx673_0, hx673_1⟩ := at_T45 HR1_0.out x5_2 p673 q673
          cases e673
          replace hx673_0 := bC HB.out hx673_0
          replace hx673_1 := bC HB.out hx673_1
          replace p673 := eq_true p673
          replace q673 := eq_true q673
          go_wp2
          repeat (go_quiet (fail); try go_wp2)
          go_roundg k2
          case measure => have := HJ2.out; have := HK2.out; omega
          case rel => exact ⟨(wrap64 (x5_2 + 1)), eV, H', ⟨by have := HJ2.out; have := HK2.out; omega⟩, (aS (sB BK669.out)), (aS (sB BK670.out)), (aS (sW HB.out))⟩
        ·
         exact absurd H (by simp)
       ·
        exact absurd H (by simp)
      ·
       have c15b0 := decide_eq_false c15
       clear c15
       obtain rfl := Option.some.inj H
       have hnb25 := NB669_670.out
       have hnc25 := NB670_669.out
       obtain ⟨hcz26_0, hcz26_1, hfz26_0, hfz26_1⟩ := z2 BK669.out
       go_wp2
       repeat (go_quiet (fail); try go_wp2)
       go_ret
       exact ⟨eE, sW HB.out⟩

/-! ### impl_sign: function 117 -/
def impl_sign.f (a0 : Int) : Option (Int) := if a0 > 0 then (some 1) else (if a0 < 0 then (some (-1)) else (some 0))
set_option maxHeartbeats 8000000 in
set_option maxRecDepth 100000 in
theorem impl_sign.calls (a0 : Int) (r : Int) (w : World) (h : impl_sign.f a0 = some r) :
  Calls Try.prog 117 #[.int .i64 a0] w fun e w' => e = .returned (.int .i64 r) ∧ Drawn0 w w' := by
 have H := h
 clear h
 unfold impl_sign.f at H
 replace H := iE H; rcases H with ⟨c2, H⟩ | ⟨c2, H⟩
 ·
  have c2b0 : decide (0 < a0) = true := decide_eq_true c2
  clear c2
  obtain rfl := Option.some.inj H
  go_enter Try.func117, Try.ntmps117
  go_wp2
  go_ret
  exact ⟨eV, eD⟩
 ·
  have c2b0 : decide (0 < a0) = false := decide_eq_false c2
  clear c2
  replace H := iE H; rcases H with ⟨c3, H⟩ | ⟨c3, H⟩
  ·
   have c3b0 := decide_eq_true c3
   clear c3
   obtain rfl := Option.some.inj H
   go_enter Try.func117, Try.ntmps117
   go_wp2
   go_ret
   exact ⟨eV, eD⟩
  ·
   have c3b0 := decide_eq_false c3
   clear c3
   obtain rfl := Option.some.inj H
   go_enter Try.func117, Try.ntmps117
   go_wp2
   go_ret
   exact ⟨eV, eD⟩

/-! ### bits_Mul64: function 128 -/
def bits_Mul64.f (a0 : Int) (a1 : Int) : Option (Int × Int) := some (IntKind.u64.wrap ((IntKind.u64.wrap ((IntKind.u64.wrap ((a0 / 4294967296) * (a1 / 4294967296))) + ((IntKind.u64.wrap ((IntKind.u64.wrap ((a0 / 4294967296) * (Go.bits .and .u64 a1 4294967295))) + ((IntKind.u64.wrap ((Go.bits .and .u64 a0 4294967295) * (Go.bits .and .u64 a1 4294967295))) / 4294967296))) / 4294967296))) + ((IntKind.u64.wrap ((Go.bits .and .u64 (IntKind.u64.wrap ((IntKind.u64.wrap ((a0 / 4294967296) * (Go.bits .and .u64 a1 4294967295))) + ((IntKind.u64.wrap ((Go.bits .and .u64 a0 4294967295) * (Go.bits .and .u64 a1 4294967295))) / 4294967296))) 4294967295) + (IntKind.u64.wrap ((Go.bits .and .u64 a0 4294967295) * (a1 / 4294967296))))) / 4294967296)), IntKind.u64.wrap (a0 * a1))
set_option maxHeartbeats 8000000 in
set_option maxRecDepth 100000 in
theorem bits_Mul64.calls (a0 : Int) (a1 : Int) (r1 : Int) (r2 : Int) (w : World) (h : bits_Mul64.f a0 a1 = some (r1, r2)) :
  Calls Try.prog 128 #[.int .u64 a0, .int .u64 a1] w fun e w' => e = .returned (.tuple #[.int .u64 r1, .int .u64 r2]) ∧ Drawn0 w w' := by
 have H := h
 clear h
 unfold bits_Mul64.f at H
 simp only [Option.some.injEq, Prod.mk.injEq] at H
 obtain ⟨rfl, rfl⟩ := H
 go_enter Try.func128, Try.ntmps128
 go_wp2
 go_ret2
 exact ⟨eV, eD⟩

/-! ### cmp_isNaN_uint64: function 133 -/
def cmp_isNaN_uint64.f (a0 : Int) : Option (Bool) := some (a0 != a0)
set_option maxHeartbeats 8000000 in
set_option maxRecDepth 100000 in
theorem cmp_isNaN_uint64.calls (a0 : Int) (r : Bool) (w : World) (h : cmp_isNaN_uint64.f a0 = some r) :
  Calls Try.prog 133 #[.int .u64 a0] w fun e w' => e = .returned (.bool r) ∧ Drawn0 w w' := by
 have H := h
 clear h
 unfold cmp_isNaN_uint64.f at H
 obtain rfl := Option.some.inj H
 go_enter Try.func133, Try.ntmps133
 go_wp2
 go_ret
 exact ⟨eV, eD⟩

/-! ### cmp_Compare_uint64: function 129 -/
def cmp_Compare_uint64.f (a0 : Int) (a1 : Int) : Option (Int) := (cmp_isNaN_uint64.f a0).bind fun t674 => ((cmp_isNaN_uint64.f a1).bind fun t675 => (if t674 = true then (if t675 = true then (some 0) else (some (-1))) else (if t675 = true then (some 1) else (if a0 < a1 then (some (-1)) else (if a0 > a1 then (some 1) else (some 0))))))
set_option maxHeartbeats 8000000 in
set_option maxRecDepth 100000 in
theorem cmp_Compare_uint64.calls (a0 : Int) (a1 : Int) (r : Int) (w : World) (h : cmp_Compare_uint64.f a0 a1 = some r) :
  Calls Try.prog 129 #[.int .u64 a0, .int .u64 a1] w fun e w' => e = .returned (.int .i64 r) ∧ Drawn0 w w' := by
 have H := h
 clear h
 unfold cmp_Compare_uint64.f at H
 replace H := bE H; obtain ⟨t674, A3, H⟩ := H; try dsimp only at H
 replace H := bE H; obtain ⟨t675, A4, H⟩ := H; try dsimp only at H
 have HC5 := aS H
 clear H
 go_enter Try.func129, Try.ntmps129
 go_upto_if 11 with (first | ((with_reducible refine gate_callee (f := 133) rfl ?_); refine goesL_ (some 8) rfl rfl Try.func133 (by kernel_rfl) rfl #[.int .u64 a0] rfl sG ?_; (with_reducible refine (cmp_isNaN_uint64.calls a0 t674 _ A3.out).mono ?_); rintro e w' ⟨rfl, ⟨nd, rfl⟩⟩; refine ⟨_, rfl, ?_⟩) | ((with_reducible refine gate_callee (f := 133) rfl ?_); refine goesL_ (some 10) rfl rfl Try.func133 (by kernel_rfl) rfl #[.int .u64 a1] rfl sG ?_; (with_reducible refine (cmp_isNaN_uint64.calls a1 t675 _ A4.out).mono ?_); rintro e w' ⟨rfl, ⟨nd, rfl⟩⟩; refine ⟨_, rfl, ?_⟩))
 (try simp only [Act.put, List.setIfInBounds_toArray, List.set_cons_zero, List.set_cons_succ])
 have H := HC5.out
 clear HC5
 replace H := iE H; rcases H with ⟨c6, H⟩ | ⟨c6, H⟩
 ·
  subst c6
  replace H := iE H; rcases H with ⟨c7, H⟩ | ⟨c7, H⟩
  ·
   subst c7
   obtain rfl := Option.some.inj H
   go_wp2
   go_ret
   exact ⟨eV, eD⟩
  ·
   replace c7 := Bool.eq_false_iff.mpr c7
   subst c7
   obtain rfl := Option.some.inj H
   go_wp2
   go_ret
   exact ⟨eV, eD⟩
 ·
  replace c6 := Bool.eq_false_iff.mpr c6
  subst c6
  replace H := iE H; rcases H with ⟨c8, H⟩ | ⟨c8, H⟩
  ·
   subst c8
   obtain rfl := Option.some.inj H
   go_wp2
   go_ret
   exact ⟨eV, eD⟩
  ·
   replace c8 := Bool.eq_false_iff.mpr c8
   subst c8
   replace H := iE H; rcases H with ⟨c9, H⟩ | ⟨c9, H⟩
   ·
    have c9b0 := decide_eq_true c9
    clear c9
    (first | rw [c9b0] | (simp only [i64_w, i32_w]; rw [c9b0]) | (rw [c9b2]; simp only [Bool.not_false, Bool.not_true]) | skip)
    obtain rfl := Option.some.inj H
    go_wp2
    go_ret
    exact ⟨eV, eD⟩
   ·
    have c9b0 := decide_eq_false c9
    clear c9
    (first | rw [c9b0] | (simp only [i64_w, i32_w]; rw [c9b0]) | (rw [c9b2]; simp only [Bool.not_false, Bool.not_true]) | skip)
    replace H := iE H; rcases H with ⟨c10, H⟩ | ⟨c10, H⟩
    ·
     have c10b0 : decide (a1 < a0) = true := decide_eq_true c10
     clear c10
     obtain rfl := Option.some.inj H
     go_wp2
     go_ret
     exact ⟨eV, eD⟩
    ·
     have c10b0 : decide (a1 < a0) = false := decide_eq_false c10
     clear c10
     obtain rfl := Option.some.inj H
     go_wp2
     go_ret
     exact ⟨eV, eD⟩

/-! ### impl_compareProducts: function 118 -/
def impl_compareProducts.f (k : Nat) (a0 : Int) (a1 : Int) (a2 : Int) (a3 : Int) : Option (Int) := (bits_Mul64.f a0 a1).bind fun bt676 => ((bits_Mul64.f a2 a3).bind fun bt678 => ((cmp_Compare_uint64.f bt676.1 bt678.1).bind fun t680 => ((cmp_Compare_uint64.f bt676.2 bt678.2).bind fun t681 => ((cmp_Or_int.f k (([t680, t681] : List Int))).bind fun t685 => (some t685)))))
theorem impl_compareProducts.mono : ∀ a0 a1 a2 a3 k, LeO (impl_compareProducts.f k a0 a1 a2 a3) (impl_compareProducts.f (k + 1) a0 a1 a2 a3) := by
 intro a0 a1 a2 a3 k
 unfold impl_compareProducts.f
 repeat' first | (with_reducible first | exact cmp_Or_int.mono _ _ | exact LeO.refl _ | exact LeO.none _ | refine LeO.ite ?_ ?_ | refine LeO.bind ?_ (fun _ => ?_)) | refine LeO.ite ?_ ?_ | refine LeO.bind ?_ (fun _ => ?_)
set_option maxHeartbeats 8000000 in
set_option maxRecDepth 100000 in
theorem impl_compareProducts.calls (k : Nat) (a0 : Int) (a1 : Int) (a2 : Int) (a3 : Int) (r : Int) (w : World) (h : impl_compareProducts.f k a0 a1 a2 a3 = some r) :
  Calls Try.prog 118 #[.int .u64 a0, .int .u64 a1, .int .u64 a2, .int .u64 a3] w fun e w' => e = .returned (.int .i64 r) ∧ Below w.heap.size w w' := by
 have HB := aS (Below.refl w.heap.size w)
 have H := h
 clear h
 unfold impl_compareProducts.f at H
 replace H := bE H; obtain ⟨⟨t676, t677⟩, A5, H⟩ := H; try dsimp only at H
 replace H := bE H; obtain ⟨⟨t678, t679⟩, A6, H⟩ := H; try dsimp only at H
 replace H := bE H; obtain ⟨t680, A7, H⟩ := H; try dsimp only at H
 replace H := bE H; obtain ⟨t681, A8, H⟩ := H; try dsimp only at H
 obtain ⟨y682, hy682⟩ : ∃ y_ : List Int, y_ = (([t680, t681] : List Int)) := ⟨_, rfl⟩
 replace H : ((cmp_Or_int.f k y682).bind fun t685 => (some t685)) = some r := by first | (rw [hy682]; with_reducible exact H) | (have H2_ := (Option.bind_some _ _).symm.trans H; rw [hy682]; with_reducible exact H2_) | (have H2_ := (Option.bind_some _ _).symm.trans H; with_reducible exact H2_) | with_reducible exact H | (rw [hy682]; exact H) | exact H
 have Ny682 := aS hy682
 clear hy682
 replace H := bE H; obtain ⟨t685, A9, H⟩ := H; try dsimp only at H
 obtain rfl := Option.some.inj H
 go_enter Try.func118, Try.ntmps118
 go_wp2_with (first | ((with_reducible refine gate_callee (f := 128) rfl ?_); refine goesL_ (some 16) rfl rfl Try.func128 (by kernel_rfl) rfl #[.int .u64 a0, .int .u64 a1] rfl sG ?_; (with_reducible refine (bits_Mul64.calls a0 a1 t676 t677 _ A5.out).mono ?_); rintro e w' ⟨rfl, ⟨nd, rfl⟩⟩; refine ⟨_, rfl, ?_⟩) | ((with_reducible refine gate_callee (f := 128) rfl ?_); refine goesL_ (some 22) rfl rfl Try.func128 (by kernel_rfl) rfl #[.int .u64 a2, .int .u64 a3] rfl sG ?_; (with_reducible refine (bits_Mul64.calls a2 a3 t678 t679 _ A6.out).mono ?_); rintro e w' ⟨rfl, ⟨nd, rfl⟩⟩; refine ⟨_, rfl, ?_⟩) | ((with_reducible refine gate_callee (f := 129) rfl ?_); refine goesL_ (some 27) rfl rfl Try.func129 (by kernel_rfl) rfl #[.int .u64 t676, .int .u64 t678] rfl sG ?_; (with_reducible refine (cmp_Compare_uint64.calls t676 t678 t680 _ A7.out).mono ?_); rintro e w' ⟨rfl, ⟨nd, rfl⟩⟩; refine ⟨_, rfl, ?_⟩) | ((with_reducible refine gate_callee (f := 129) rfl ?_); refine goesL_ (some 30) rfl rfl Try.func129 (by kernel_rfl) rfl #[.int .u64 t677, .int .u64 t679] rfl sG ?_; (with_reducible refine (cmp_Compare_uint64.calls t677 t679 t681 _ A8.out).mono ?_); rintro e w' ⟨rfl, ⟨nd, rfl⟩⟩; refine ⟨_, rfl, ?_⟩) | ((with_reducible refine gate_dst (N := 31) rfl ?_); refine Kd.R_lit (Kd.int .i64) _ 3 ?hg (N := 31) ?hd (xs := ([t680, t681] : List Int)) (inner := [.int .i64 t680, .int .i64 t681]) (ok := fun _ => True) (okp := fun _ => True) ?hr ?hp (fun _ hk => hk) trivial (Below.refl _ _) (Nat.le_refl _) (by simp) ?_; (case hd => rfl); (case hg => rfl); (case hr => first | (go_simp; done) | (go_simp; rfl)); (case hp => exact (Reps.one (show Kd.M (Kd.int .i64) _ _ _ t680 [.int .i64 t680] from rfl) (Reps.one (show Kd.M (Kd.int .i64) _ _ _ t681 [.int .i64 t681] from rfl) (Reps.none _ _)))); intro v683 w10 ho11 hb hg_ hnew_; clear hg_ hnew_; (first | rw [← Ny682.out] at ho11 | (simp only [Int.reduceToNat] at ho11; rw [← Ny682.out] at ho11)); have HO684 := aS (Kd.R_lower ho11 (below_size (sW HB.out))); replace HB := aS (below_step (sW HB.out) hb); clear hb ho11; obtain ⟨Ao12, co12, eo12⟩ := Kd.R_slice HO684.out; subst eo12) | ((with_reducible refine gate_callee (f := 53) rfl ?_); refine goesL_ (some 32) rfl rfl Try.func53 (by kernel_rfl) rfl #[.slice Ao12 y682.length co12] rfl sG ?_; (with_reducible refine (cmp_Or_int.calls k _ _ y682 t685 _ ?side1 ?side2 A9.out).mono ?_); (case side1 => exact sC (Kd.R_reads' HO684.out).2.2); (case side2 => exact (Kd.R_reads' HO684.out).2.1); rintro e w' ⟨rfl, ⟨nd, rfl⟩⟩; refine ⟨_, rfl, ?_⟩))
 go_ret
 exact ⟨eE, sW HB.out⟩

/-! ### impl_size: function 119 -/
def impl_size.f (a0 : Int) : Option (Int) := if a0 < 0 then (some (IntKind.u64.wrap (wrap64 (-a0)))) else (some (IntKind.u64.wrap (a0)))
set_option maxHeartbeats 8000000 in
set_option maxRecDepth 100000 in
theorem impl_size.calls (a0 : Int) (r : Int) (w : World) (h : impl_size.f a0 = some r) :
  Calls Try.prog 119 #[.int .i64 a0] w fun e w' => e = .returned (.int .u64 r) ∧ Drawn0 w w' := by
 have H := h
 clear h
 unfold impl_size.f at H
 replace H := iE H; rcases H with ⟨c2, H⟩ | ⟨c2, H⟩
 ·
  have c2b0 := decide_eq_true c2
  clear c2
  obtain rfl := Option.some.inj H
  go_enter Try.func119, Try.ntmps119
  go_wp2
  go_ret
  exact ⟨eV, eD⟩
 ·
  have c2b0 := decide_eq_false c2
  clear c2
  obtain rfl := Option.some.inj H
  go_enter Try.func119, Try.ntmps119
  go_wp2
  go_ret
  exact ⟨eV, eD⟩

end Go.Proofs.Ytginmioklkcgbaa.QFnBestJoins

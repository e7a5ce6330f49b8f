/- What the Go functions of this law compute, each as a Lean function, and that each call comes to that answer; written by a program of this session. No condition. -/
import Derived.Test.YtginmioklkcgbaaVShn
import Derived.Test.YtginmioklkcgbaaVQFnBestJoinsx0
import Derived.Test.YtginmioklkcgbaaVQFnBestJoinsx7
namespace Go.Proofs.Ytginmioklkcgbaa.QFnBestJoins
open Go.RowKit Go.Proofs.YtginmioklkcgbaaW.PrintWords Go.Proofs.YtginmioklkcgbaaW.PrintLast Go.Proofs.YtginmioklkcgbaaW.PrintMore
attribute [local go_sem] max2_int min2_int max_two min_two max_three min_three max_four min_four   -- for this text's walks alone
set_option linter.unusedVariables false
set_option linter.unusedSimpArgs false

/-! ### impl_ValidJoins: function 48 -/
def impl_ValidJoins.l0 : Nat → List (S61) → List (S61) → Int → Int → Option (Bool)
 | 0, _, _, _, _ => none
 | k + 1, x0, x8, x9, x10 => if x10 < x9 then (if 0 ≤ x10 then (if x10 < (x8.length : Int) then ((impl_validJoin.f k ((rd_T61 x8 x10).f0) ((rd_T61 x8 x10).f1) ((rd_T61 x8 x10).f2)).bind fun t207 => (if t207 = true then (if x10 ≤ (x0.length : Int) then ((impl_Join_89.f k (x0.take (x10 : Int).toNat) [(⟨(rd_T61 x8 x10).f0, (rd_T61 x8 x10).f1, (rd_T61 x8 x10).f2⟩ : S61)]).bind fun t212 => (if t212 = true then (some false) else (impl_ValidJoins.l0 k x0 x8 x9 (wrap64 (x10 + 1))))) else (none)) else (some false))) else (none)) else (none)) else (some true)
def impl_ValidJoins.f (k : Nat) (l0 : List (S61)) : Option (Bool) := if (l0.length : Int) > 20 then (some false) else (impl_ValidJoins.l0 k l0 l0 (l0.length : Int) 0)
theorem impl_ValidJoins.mono_l : ∀ k, (∀ y0 y1 y2 y3, LeO (impl_ValidJoins.l0 k y0 y1 y2 y3) (impl_ValidJoins.l0 (k + 1) y0 y1 y2 y3))
 | 0 => fun _ _ _ _ r h => by simp [impl_ValidJoins.l0] at h
 | k + 1 => by
  have ih0 := impl_ValidJoins.mono_l k
  ·
   intro y0 y1 y2 y3
   unfold impl_ValidJoins.l0
   repeat' first | (with_reducible first | exact ih0 _ _ _ _ | exact impl_Join_89.mono _ _ _ | exact impl_validJoin.mono _ _ _ _ | exact LeO.refl _ | exact LeO.none _ | refine LeO.ite ?_ ?_ | refine LeO.bind ?_ (fun _ => ?_)) | refine LeO.ite ?_ ?_ | refine LeO.bind ?_ (fun _ => ?_)
theorem impl_ValidJoins.mono : ∀ a0 k, LeO (impl_ValidJoins.f k a0) (impl_ValidJoins.f (k + 1) a0) := by
 intro a0 k
 have ih0 := impl_ValidJoins.mono_l k
 unfold impl_ValidJoins.f
 repeat' first | (with_reducible first | exact ih0 _ _ _ _ | exact impl_Join_89.mono _ _ _ | exact impl_validJoin.mono _ _ _ _ | exact LeO.refl _ | exact LeO.none _ | refine LeO.ite ?_ ?_ | refine LeO.bind ?_ (fun _ => ?_)) | refine LeO.ite ?_ ?_ | refine LeO.bind ?_ (fun _ => ?_)
set_option maxHeartbeats 8000000 in
set_option maxRecDepth 100000 in
theorem impl_ValidJoins.calls (k : Nat) (A0 : Option Addr) (c0 : Nat) (l0 : List (S61)) (r : Bool) (w : World) (hr0 : Kd.C k61 w A0 l0.length l0) (hc0 : l0.length ≤ c0) (h : impl_ValidJoins.f k l0 = some r) :
  Calls Try.prog 48 #[.slice A0 l0.length c0] w fun e w' => e = .returned (.bool r) ∧ Below w.heap.size w w' := by
 have hu61 := Try.underlying61
 have HR0 := aS hr0
 have HC0 := aS hc0
 clear hr0 hc0
 have HB := aS (Below.refl w.heap.size w)
 have H := h
 clear h
 unfold impl_ValidJoins.f at H
 replace H := iE H; rcases H with ⟨c2, H⟩ | ⟨c2, H⟩
 ·
  have c2b0 : decide (20 < (l0.length : Int)) = true := decide_eq_true c2
  have c2b1 : decide (20 < l0.length) = true := decide_eq_true (by omega)
  clear c2
  obtain rfl := Option.some.inj H
  go_enter Try.func48, Try.ntmps48
  go_wp2
  go_ret
  exact ⟨eE, sW HB.out⟩
 ·
  have c2b0 : decide (20 < (l0.length : Int)) = false := decide_eq_false c2
  have c2b1 : decide (20 < l0.length) = false := decide_eq_false (by omega)
  clear c2
  have H' := aS H
  clear H
  go_enter Try.func48, Try.ntmps48
  go_wp2
  go_loopg [10] k (fun kq v10 w' => ∃ (x10_1 : Int), v10 = .int .i64 x10_1 ∧ Aside0 (impl_ValidJoins.l0 kq l0 l0 (l0.length : Int) x10_1 = some r) ∧ Aside0 (kq ≤ k) ∧ Aside0 (Below w.heap.size w w'))
  case atStart => exact ⟨(0), eV, H', ⟨Nat.le_refl _⟩, (aS (sW HB.out))⟩
  case round =>
   clear H'
   obtain ⟨x10_1, rfl, HA, HK1, HB⟩ := hrel
   cases gk with
   | zero => exact absurd HA.out (by simp [impl_ValidJoins.l0])
   | succ k1 =>
    have H := HA.out
    clear HA
    simp only [impl_ValidJoins.l0] at H
    replace H := iE H; rcases H with ⟨c3, H⟩ | ⟨c3, H⟩
    ·
     have c3b0 := decide_eq_true c3
     clear c3
     replace H := iE H; rcases H with ⟨c4, H⟩ | ⟨c4, H⟩
     ·
      have c4b0 := decide_eq_true c4
      clear c4
      replace H := iE H; rcases H with ⟨c5, H⟩ | ⟨c5, H⟩
      ·
       have c5b0 := decide_eq_true c5
       clear c5
       replace H := bE H; obtain ⟨t207, A6, H⟩ := H; try dsimp only at H
       replace H := iE H; rcases H with ⟨c7, H⟩ | ⟨c7, H⟩
       ·
        subst c7
        have c8b0 := eq_true (sD : 0 ≤ x10_1)
        replace H := iE H; rcases H with ⟨c9, H⟩ | ⟨c9, H⟩
        ·
         have c9b0 := eq_true c9
         have c9b1 := decide_eq_true c9
         clear c9
         obtain ⟨y208, hy208⟩ : ∃ y_ : List (S61), y_ = (l0.take (x10_1 : Int).toNat) := ⟨_, rfl⟩
         replace H : ((impl_Join_89.f k1 y208 [(⟨(rd_T61 l0 x10_1).f0, (rd_T61 l0 x10_1).f1, (rd_T61 l0 x10_1).f2⟩ : S61)]).bind fun t212 => (if t212 = true then (some false) else (impl_ValidJoins.l0 k1 l0 l0 (l0.length : Int) (wrap64 (x10_1 + 1))))) = some r := by first | (rw [hy208]; with_reducible exact H) | (have H2_ := (Option.bind_some _ _).symm.trans H; rw [hy208]; with_reducible exact H2_) | (have H2_ := (Option.bind_some _ _).symm.trans H; with_reducible exact H2_) | with_reducible exact H | (rw [hy208]; exact H) | exact H
         have Ny208 := aS hy208
         clear hy208
         replace H := bE H; obtain ⟨t212, A10, H⟩ := H; try dsimp only at H
         have HC11 := aS H
         clear H
         have p205 : 0 ≤ (x10_1 : Int) := sD
         have q205 : x10_1 < (l0.length : Int) := sD
         obtain ⟨ad205, e205, hx205_0, hx205_1, hx205_2⟩ := at_T61 HR0.out x10_1 p205 q205
         cases e205
         replace hx205_0 := bC HB.out hx205_0
         replace hx205_1 := bC HB.out hx205_1
         replace hx205_2 := bC HB.out hx205_2
         replace p205 := eq_true p205
         replace q205 := eq_true q205
         go_upto_if 24 with (first | ((with_reducible refine gate_dst (N := 4) rfl ?_); refine bx 4 #[.string (⟨#[]⟩ : ByteArray), .int .i64 0, .int .i64 0] 61 ?_; intro gb206 hg w12 hbox hb; have BK206 := aS (hbox); have GW206 := aS (gW hg (sW HB.out)); have GE206 := aS (gW hg (sW HB.out)); replace HB := aS (below_step (sW HB.out) hb); clear hb hbox hg; obtain ⟨hcz13_0, hcz13_1, hcz13_2, hfz13_0, hfz13_1, hfz13_2⟩ := z3 BK206.out) | ((with_reducible refine gate_callee (f := 88) rfl ?_); refine goesL_ (some 16) rfl rfl Try.func88 (by kernel_rfl) rfl #[.agg #[.string ((rd_T61 l0 x10_1).f0), .int .i64 ((rd_T61 l0 x10_1).f1), .int .i64 ((rd_T61 l0 x10_1).f2)]] rfl sG ?_; (with_reducible refine (impl_validJoin.calls k1 ((rd_T61 l0 x10_1).f0) ((rd_T61 l0 x10_1).f1) ((rd_T61 l0 x10_1).f2) true _ A6.out).mono ?_); rintro e w14 ⟨rfl, hb⟩; refine ⟨_, rfl, ?_⟩; replace BK206 := aS (blk_below (g := gb206) (o := .cells #[.string ((rd_T61 l0 x10_1).f0), .int .i64 ((rd_T61 l0 x10_1).f1), .int .i64 ((rd_T61 l0 x10_1).f2)] 61 (0, 0)) (by exact sZ BK206.out) hb); replace HB := aS (below_step (sW HB.out) hb); (try clear hb); (try clear hb2); (try clear hk); (try clear hi); have q15 : (x10_1 : Int) ≤ ((l0.length : Int) : Int) := sD; obtain ⟨i015, hi015, _, hsz15, _⟩ := info_parts info61; have hroom15 : l0.length ≤ c0 := HC0.out; have hC15 : Kd.C k61 _ (some ad205) l0.length l0 := HR0.out; have hcut15 := cut_to (P := Try.prog) 32 61 .i64 Try.underlying32 hi015 (some ad205) l0.length c0 x10_1 (sD) q15 hroom15; have hr15 := Kd.C_take (m := (x10_1 : Int).toNat) hC15 (by omega); have hy15 : y208.length = (x10_1 : Int).toNat := (by rw [Ny208.out, List.length_take]; omega); rw [← Ny208.out] at hr15; rw [← hy15] at hcut15; have HR211 := aS hr15; have HC211 := aS (show y208.length ≤ c0 from by omega); clear hr15 hC15 hroom15 hi015 hsz15; have KY15 := aS hy15; clear hy15; replace q15 := eq_true q15) | (go_at_call 89; (with_reducible refine (impl_Join_89.calls k1 _ _ y208 _ 1 [(⟨(rd_T61 l0 x10_1).f0, (rd_T61 l0 x10_1).f1, (rd_T61 l0 x10_1).f2⟩ : S61)] t212 _ ?side1 ?side2 ?side3 ?side4 A10.out).mono ?_); (case side1 => exact sC (Kd.C_below HR211.out HB.out)); (case side2 => exact HC211.out); (case side3 => exact box_C (show (_ : World).heap[_]? = some (Obj.cells #[.string ((rd_T61 l0 x10_1).f0), .int .i64 ((rd_T61 l0 x10_1).f1), .int .i64 ((rd_T61 l0 x10_1).f2)] 61 (0, 0)) from by (with_reducible repeat (first | refine blk_drewN ?_ _ | refine blk_drew ?_ | refine blk_alloc ?_ _)); exact BK206.out) (k61_mk _ _ )); (case side4 => exact Nat.le_refl _); rintro e w16 ⟨rfl, hb⟩; replace BK206 := aS (blk_below (sB BK206.out) hb); replace HB := aS (below_step (sW HB.out) hb)))
         (try simp only [Act.put, List.setIfInBounds_toArray, List.set_cons_zero, List.set_cons_succ])
         have H := HC11.out
         clear HC11
         replace H := iE H; rcases H with ⟨c17, H⟩ | ⟨c17, H⟩
         ·
          subst c17
          obtain rfl := Option.some.inj H
          go_wp2
          go_ret
          exact ⟨eE, sW HB.out⟩
         ·
          replace c17 := Bool.eq_false_iff.mpr c17
          subst c17
          have H' := aS H
          clear H
          go_wp2
          go_roundg k1
          case measure => have := HK1.out; omega
          case rel => exact ⟨(wrap64 (x10_1 + 1)), eV, H', ⟨by have := HK1.out; omega⟩, (aS (sW HB.out))⟩
        ·
         exact absurd H (by simp)
       ·
        replace c7 := Bool.eq_false_iff.mpr c7
        subst c7
        obtain rfl := Option.some.inj H
        have p205 : 0 ≤ (x10_1 : Int) := sD
        have q205 : x10_1 < (l0.length : Int) := sD
        obtain ⟨ad205, e205, hx205_0, hx205_1, hx205_2⟩ := at_T61 HR0.out x10_1 p205 q205
        cases e205
        replace hx205_0 := bC HB.out hx205_0
        replace hx205_1 := bC HB.out hx205_1
        replace hx205_2 := bC HB.out hx205_2
        replace p205 := eq_true p205
        replace q205 := eq_true q205
        go_wp2_with (first | ((with_reducible refine gate_dst (N := 4) rfl ?_); refine bx 4 #[.string (⟨#[]⟩ : ByteArray), .int .i64 0, .int .i64 0] 61 ?_; intro gb206 hg w18 hbox hb; have BK206 := aS (hbox); have GW206 := aS (gW hg (sW HB.out)); have GE206 := aS (gW hg (sW HB.out)); replace HB := aS (below_step (sW HB.out) hb); clear hb hbox hg; obtain ⟨hcz19_0, hcz19_1, hcz19_2, hfz19_0, hfz19_1, hfz19_2⟩ := z3 BK206.out) | ((with_reducible refine gate_callee (f := 88) rfl ?_); refine goesL_ (some 16) rfl rfl Try.func88 (by kernel_rfl) rfl #[.agg #[.string ((rd_T61 l0 x10_1).f0), .int .i64 ((rd_T61 l0 x10_1).f1), .int .i64 ((rd_T61 l0 x10_1).f2)]] rfl sG ?_; (with_reducible refine (impl_validJoin.calls k1 ((rd_T61 l0 x10_1).f0) ((rd_T61 l0 x10_1).f1) ((rd_T61 l0 x10_1).f2) false _ A6.out).mono ?_); rintro e w20 ⟨rfl, hb⟩; refine ⟨_, rfl, ?_⟩; replace BK206 := aS (blk_below (g := gb206) (o := .cells #[.string ((rd_T61 l0 x10_1).f0), .int .i64 ((rd_T61 l0 x10_1).f1), .int .i64 ((rd_T61 l0 x10_1).f2)] 61 (0, 0)) (by exact sZ BK206.out) hb); replace HB := aS (below_step (sW HB.out) hb)))
        go_ret
        exact ⟨eE, sW HB.out⟩
      ·
       exact absurd H (by simp)
     ·
      exact absurd H (by simp)
    ·
     have c3b0 := decide_eq_false c3
     clear c3
     obtain rfl := Option.some.inj H
     go_wp2
     go_ret
     exact ⟨eE, sW HB.out⟩

/-! ### impl_validPiece: function 49 -/
def impl_validPiece.f (a0_0 : Int) (a0_1 : Int) : Option (Bool) := (impl_within.f a0_0 1 1000000).bind fun t214 => (if t214 = true then ((impl_within.f a0_1 1 100000).bind fun t215 => (some t215)) else (some false))
set_option maxHeartbeats 8000000 in
set_option maxRecDepth 100000 in
theorem impl_validPiece.calls (a0_0 : Int) (a0_1 : Int) (r : Bool) (w : World) (h : impl_validPiece.f a0_0 a0_1 = some r) :
  Calls Try.prog 49 #[.agg #[.int .i64 a0_0, .int .i64 a0_1]] w fun e w' => e = .returned (.bool r) ∧ Below w.heap.size w w' := by
 have hu45 := Try.underlying45
 have HB := aS (Below.refl w.heap.size w)
 have H := h
 clear h
 unfold impl_validPiece.f at H
 replace H := bE H; obtain ⟨t214, A2, H⟩ := H; try dsimp only at H
 replace H := iE H; rcases H with ⟨c3, H⟩ | ⟨c3, H⟩
 ·
  subst c3
  replace H := bE H; obtain ⟨t215, A4, H⟩ := H; try dsimp only at H
  obtain rfl := Option.some.inj H
  go_enter Try.func49, Try.ntmps49
  go_wp2_with (first | ((with_reducible refine gate_dst (N := 1) rfl ?_); refine bx 1 #[.int .i64 a0_0, .int .i64 a0_1] 45 ?_; intro gb213 hg w5 hbox hb; have BK213 := aS (hbox); have GW213 := aS (gW hg (sW HB.out)); have GE213 := aS (gW hg (sW HB.out)); replace HB := aS (below_step (sW HB.out) hb); clear hb hbox hg; obtain ⟨hcz6_0, hcz6_1, hfz6_0, hfz6_1⟩ := z2 BK213.out) | ((with_reducible refine gate_callee (f := 50) rfl ?_); refine goesL_ (some 5) rfl rfl Try.func50 (by kernel_rfl) rfl #[.int .i64 a0_0, .int .i64 1, .int .i64 1000000] rfl sG ?_; (with_reducible refine (impl_within.calls a0_0 1 1000000 true _ A2.out).mono ?_); rintro e w' ⟨rfl, ⟨nd, rfl⟩⟩; refine ⟨_, rfl, ?_⟩) | (go_at_call 50; (with_reducible refine (impl_within.calls a0_1 1 100000 t215 _ A4.out).mono ?_); rintro e w' ⟨rfl, ⟨nd, rfl⟩⟩))
  go_ret
  exact ⟨eE, sW HB.out⟩
 ·
  replace c3 := Bool.eq_false_iff.mpr c3
  subst c3
  obtain rfl := Option.some.inj H
  go_enter Try.func49, Try.ntmps49
  go_wp2_with (first | ((with_reducible refine gate_dst (N := 1) rfl ?_); refine bx 1 #[.int .i64 a0_0, .int .i64 a0_1] 45 ?_; intro gb213 hg w7 hbox hb; have BK213 := aS (hbox); have GW213 := aS (gW hg (sW HB.out)); have GE213 := aS (gW hg (sW HB.out)); replace HB := aS (below_step (sW HB.out) hb); clear hb hbox hg; obtain ⟨hcz8_0, hcz8_1, hfz8_0, hfz8_1⟩ := z2 BK213.out) | ((with_reducible refine gate_callee (f := 50) rfl ?_); refine goesL_ (some 5) rfl rfl Try.func50 (by kernel_rfl) rfl #[.int .i64 a0_0, .int .i64 1, .int .i64 1000000] rfl sG ?_; (with_reducible refine (impl_within.calls a0_0 1 1000000 false _ A2.out).mono ?_); rintro e w' ⟨rfl, ⟨nd, rfl⟩⟩; refine ⟨_, rfl, ?_⟩))
  go_ret
  exact ⟨eE, sW HB.out⟩

/-! ### cmp_Or_int: function 53 -/
def cmp_Or_int.l0 : Nat → Int → List Int → Int → Int → Option (Int)
 | 0, _, _, _, _ => none
 | k + 1, x3, x6, x7, x8 => if x8 < x7 then (if 0 ≤ x8 then (if x8 < (x6.length : Int) then (if (rd x6 x8) = x3 then (cmp_Or_int.l0 k x3 x6 x7 (wrap64 (x8 + 1))) else (some (rd x6 x8))) else (none)) else (none)) else (some x3)
def cmp_Or_int.f (k : Nat) (l0 : List Int) : Option (Int) := cmp_Or_int.l0 k 0 l0 (l0.length : Int) 0
theorem cmp_Or_int.mono_l : ∀ k, (∀ y0 y1 y2 y3, LeO (cmp_Or_int.l0 k y0 y1 y2 y3) (cmp_Or_int.l0 (k + 1) y0 y1 y2 y3))
 | 0 => fun _ _ _ _ r h => by simp [cmp_Or_int.l0] at h
 | k + 1 => by
  have ih0 := cmp_Or_int.mono_l k
  ·
   intro y0 y1 y2 y3
   unfold cmp_Or_int.l0
   repeat' first | (with_reducible first | exact ih0 _ _ _ _ | exact LeO.refl _ | exact LeO.none _ | refine LeO.ite ?_ ?_ | refine LeO.bind ?_ (fun _ => ?_)) | refine LeO.ite ?_ ?_ | refine LeO.bind ?_ (fun _ => ?_)
theorem cmp_Or_int.mono : ∀ a0 k, LeO (cmp_Or_int.f k a0) (cmp_Or_int.f (k + 1) a0) := by
 intro a0 k
 have ih0 := cmp_Or_int.mono_l k
 unfold cmp_Or_int.f
 repeat' first | (with_reducible first | exact ih0 _ _ _ _ | exact LeO.refl _ | exact LeO.none _ | refine LeO.ite ?_ ?_ | refine LeO.bind ?_ (fun _ => ?_)) | refine LeO.ite ?_ ?_ | refine LeO.bind ?_ (fun _ => ?_)
set_option maxHeartbeats 8000000 in
set_option maxRecDepth 100000 in
theorem cmp_Or_int.calls (k : Nat) (A0 : Option Addr) (c0 : Nat) (l0 : List Int) (r : Int) (w : World) (hr0 : Kd.C (Kd.int .i64) w A0 l0.length l0) (hc0 : l0.length ≤ c0) (h : cmp_Or_int.f k l0 = some r) :
  Calls Try.prog 53 #[.slice A0 l0.length c0] w fun e w' => e = .returned (.int .i64 r) ∧ Drawn0 w w' := by
 have HR0 := aS hr0
 have HC0 := aS hc0
 clear hr0 hc0
 have H := h
 clear h
 unfold cmp_Or_int.f at H
 have H' := aS H
 clear H
 go_enter Try.func53, Try.ntmps53
 go_wp2
 go_loopg [8] k (fun kq v8 w' => ∃ (x8_1 : Int), v8 = .int .i64 x8_1 ∧ Aside0 (cmp_Or_int.l0 kq 0 l0 (l0.length : Int) x8_1 = some r) ∧ Aside0 (kq ≤ k) ∧ Drawn0 w w')
 case atStart => exact ⟨(0), eV, H', ⟨Nat.le_refl _⟩, eD⟩
 case round =>
  clear H'
  obtain ⟨x8_1, rfl, HA, HK1, ⟨m1, rfl⟩⟩ := hrel
  cases gk with
  | zero => exact absurd HA.out (by simp [cmp_Or_int.l0])
  | succ k1 =>
   have H := HA.out
   clear HA
   simp only [cmp_Or_int.l0] at H
   replace H := iE H; rcases H with ⟨c2, H⟩ | ⟨c2, H⟩
   ·
    have c2b0 := decide_eq_true c2
    clear c2
    replace H := iE H; rcases H with ⟨c3, H⟩ | ⟨c3, H⟩
    ·
     have c3b0 := decide_eq_true c3
     clear c3
     replace H := iE H; rcases H with ⟨c4, H⟩ | ⟨c4, H⟩
     ·
      have c4b0 := decide_eq_true c4
      clear c4
      replace H := iE H; rcases H with ⟨c5, H⟩ | ⟨c5, H⟩
      ·
       have c5b0 := beq_iff_eq.mpr c5
       have c5b1 := bne_eq_false_iff_eq.mpr c5
       clear c5
       have H' := aS H
       clear H
       have p216 : 0 ≤ (x8_1 : Int) := sD
       have q216 : x8_1 < (l0.length : Int) := sD
       obtain ⟨ad216, e216, hx216_0⟩ := Kd.at_int HR0.out x8_1 p216 q216
       cases e216
       replace p216 := eq_true p216
       replace q216 := eq_true q216
       go_wp2
       go_roundg k1
       case measure => have := HK1.out; omega
       case rel => exact ⟨(wrap64 (x8_1 + 1)), eV, H', ⟨by have := HK1.out; omega⟩, eD⟩
      ·
       have c5b0 := beq_eq_false_iff_ne.mpr c5
       have c5b1 := bne_iff_ne.mpr c5
       obtain rfl := Option.some.inj H
       have p216 : 0 ≤ (x8_1 : Int) := sD
       have q216 : x8_1 < (l0.length : Int) := sD
       obtain ⟨ad216, e216, hx216_0⟩ := Kd.at_int HR0.out x8_1 p216 q216
       cases e216
       replace p216 := eq_true p216
       replace q216 := eq_true q216
       go_wp2
       go_ret
       exact ⟨eV, eD⟩
     ·
      exact absurd H (by simp)
    ·
     exact absurd H (by simp)
   ·
    have c2b0 := decide_eq_false c2
    clear c2
    obtain rfl := Option.some.inj H
    go_wp2
    go_ret
    exact ⟨eV, eD⟩

/-! ### cmp_isNaN_int64: function 92 -/
def cmp_isNaN_int64.f (a0 : Int) : Option (Bool) := some (a0 != a0)
set_option maxHeartbeats 8000000 in
set_option maxRecDepth 100000 in
theorem cmp_isNaN_int64.calls (a0 : Int) (r : Bool) (w : World) (h : cmp_isNaN_int64.f a0 = some r) :
  Calls Try.prog 92 #[.int .i64 a0] w fun e w' => e = .returned (.bool r) ∧ Drawn0 w w' := by
 have H := h
 clear h
 unfold cmp_isNaN_int64.f at H
 obtain rfl := Option.some.inj H
 go_enter Try.func92, Try.ntmps92
 go_wp2
 go_ret
 exact ⟨eV, eD⟩

/-! ### cmp_Compare_int64: function 54 -/
def cmp_Compare_int64.f (a0 : Int) (a1 : Int) : Option (Int) := (cmp_isNaN_int64.f a0).bind fun t217 => ((cmp_isNaN_int64.f a1).bind fun t218 => (if t217 = true then (if t218 = true then (some 0) else (some (-1))) else (if t218 = true then (some 1) else (if a0 < a1 then (some (-1)) else (if a0 > a1 then (some 1) else (some 0))))))
set_option maxHeartbeats 8000000 in
set_option maxRecDepth 100000 in
theorem cmp_Compare_int64.calls (a0 : Int) (a1 : Int) (r : Int) (w : World) (h : cmp_Compare_int64.f a0 a1 = some r) :
  Calls Try.prog 54 #[.int .i64 a0, .int .i64 a1] w fun e w' => e = .returned (.int .i64 r) ∧ Drawn0 w w' := by
 have H := h
 clear h
 unfold cmp_Compare_int64.f at H
 replace H := bE H; obtain ⟨t217, A3, H⟩ := H; try dsimp only at H
 replace H := bE H; obtain ⟨t218, A4, H⟩ := H; try dsimp only at H
 have HC5 := aS H
 clear H
 go_enter Try.func54, Try.ntmps54
 go_upto_if 11 with (first | ((with_reducible refine gate_callee (f := 92) rfl ?_); refine goesL_ (some 8) rfl rfl Try.func92 (by kernel_rfl) rfl #[.int .i64 a0] rfl sG ?_; (with_reducible refine (cmp_isNaN_int64.calls a0 t217 _ A3.out).mono ?_); rintro e w' ⟨rfl, ⟨nd, rfl⟩⟩; refine ⟨_, rfl, ?_⟩) | ((with_reducible refine gate_callee (f := 92) rfl ?_); refine goesL_ (some 10) rfl rfl Try.func92 (by kernel_rfl) rfl #[.int .i64 a1] rfl sG ?_; (with_reducible refine (cmp_isNaN_int64.calls a1 t218 _ A4.out).mono ?_); rintro e w' ⟨rfl, ⟨nd, rfl⟩⟩; refine ⟨_, rfl, ?_⟩))
 (try simp only [Act.put, List.setIfInBounds_toArray, List.set_cons_zero, List.set_cons_succ])
 have H := HC5.out
 clear HC5
 replace H := iE H; rcases H with ⟨c6, H⟩ | ⟨c6, H⟩
 ·
  subst c6
  replace H := iE H; rcases H with ⟨c7, H⟩ | ⟨c7, H⟩
  ·
   subst c7
   obtain rfl := Option.some.inj H
   go_wp2
   go_ret
   exact ⟨eV, eD⟩
  ·
   replace c7 := Bool.eq_false_iff.mpr c7
   subst c7
   obtain rfl := Option.some.inj H
   go_wp2
   go_ret
   exact ⟨eV, eD⟩
 ·
  replace c6 := Bool.eq_false_iff.mpr c6
  subst c6
  replace H := iE H; rcases H with ⟨c8, H⟩ | ⟨c8, H⟩
  ·
   subst c8
   obtain rfl := Option.some.inj H
   go_wp2
   go_ret
   exact ⟨eV, eD⟩
  ·
   replace c8 := Bool.eq_false_iff.mpr c8
   subst c8
   replace H := iE H; rcases H with ⟨c9, H⟩ | ⟨c9, H⟩
   ·
    have c9b0 := decide_eq_true c9
    clear c9
    (first | rw [c9b0] | (simp only [i64_w, i32_w]; rw [c9b0]) | (rw [c9b2]; simp only [Bool.not_false, Bool.not_true]) | skip)
    obtain rfl := Option.some.inj H
    go_wp2
    go_ret
    exact ⟨eV, eD⟩
   ·
    have c9b0 := decide_eq_false c9
    clear c9
    (first | rw [c9b0] | (simp only [i64_w, i32_w]; rw [c9b0]) | (rw [c9b2]; simp only [Bool.not_false, Bool.not_true]) | skip)
    replace H := iE H; rcases H with ⟨c10, H⟩ | ⟨c10, H⟩
    ·
     have c10b0 : decide (a1 < a0) = true := decide_eq_true c10
     clear c10
     obtain rfl := Option.some.inj H
     go_wp2
     go_ret
     exact ⟨eV, eD⟩
    ·
     have c10b0 : decide (a1 < a0) = false := decide_eq_false c10
     clear c10
     obtain rfl := Option.some.inj H
     go_wp2
     go_ret
     exact ⟨eV, eD⟩

/-! ### impl_LongestLine_1: function 52 -/
def impl_LongestLine_1.f (k : Nat) (a0_0 : Int) (a0_1 : Int) (a1_0 : Int) (a1_1 : Int) : Option (Int) := (cmp_Compare_int64.f a1_0 a0_0).bind fun t221 => ((cmp_Compare_int64.f a1_1 a0_1).bind fun t222 => ((cmp_Or_int.f k (([t221, t222] : List Int))).bind fun t226 => (some t226)))
theorem impl_LongestLine_1.mono : ∀ a0 a1 a2 a3 k, LeO (impl_LongestLine_1.f k a0 a1 a2 a3) (impl_LongestLine_1.f (k + 1) a0 a1 a2 a3) := by
 intro a0 a1 a2 a3 k
 unfold impl_LongestLine_1.f
 repeat' first | (with_reducible first | exact cmp_Or_int.mono _ _ | exact LeO.refl _ | exact LeO.none _ | refine LeO.ite ?_ ?_ | refine LeO.bind ?_ (fun _ => ?_)) | refine LeO.ite ?_ ?_ | refine LeO.bind ?_ (fun _ => ?_)
def impl_LongestLine_1.T1 : Bool × List (List Nat × List Nat) := (true, [([], []), ([0], [0]), ([], []), ([2], [2]), ([1, 3], [1, 3]), ([], []), ([5], [5]), ([], []), ([7], [7]), ([6, 8, 4], [6, 8]), ([4, 9], [4, 9]), ([10, 9], [10]), ([11, 11, 0, 1, 2, 3, 4, 5, 6, 7, 8, 9, 10, 11], [11])])
def impl_LongestLine_1.B1 : List Nat := [0, 1, 0, 4, 15, 0, 32, 0, 128, 511, 1023, 2047, 4095]
theorem impl_LongestLine_1.tab1 : rtab .any (opsOf Try.f52 1) = impl_LongestLine_1.T1 := by kernel_rfl
theorem impl_LongestLine_1.bits1 : waitsOk impl_LongestLine_1.T1.2 impl_LongestLine_1.B1 = true := by kernel_rfl
set_option maxHeartbeats 8000000 in
set_option maxRecDepth 100000 in
theorem impl_LongestLine_1.calls (k : Nat) (a0_0 : Int) (a0_1 : Int) (a1_0 : Int) (a1_1 : Int) (r : Int) (w : World) (h : impl_LongestLine_1.f k a0_0 a0_1 a1_0 a1_1 = some r) :
  Calls Try.prog 52 #[.agg #[.int .i64 a0_0, .int .i64 a0_1], .agg #[.int .i64 a1_0, .int .i64 a1_1]] w fun e w' => e = .returned (.int .i64 r) ∧ Below w.heap.size w w' := by
 have hu45 := Try.underlying45
 have HB := aS (Below.refl w.heap.size w)
 have H := h
 clear h
 unfold impl_LongestLine_1.f at H
 replace H := bE H; obtain ⟨t221, A3, H⟩ := H; try dsimp only at H
 replace H := bE H; obtain ⟨t222, A4, H⟩ := H; try dsimp only at H
 obtain ⟨y223, hy223⟩ : ∃ y_ : List Int, y_ = (([t221, t222] : List Int)) := ⟨_, rfl⟩
 replace H : ((cmp_Or_int.f k y223).bind fun t226 => (some t226)) = some r := by first | (rw [hy223]; with_reducible exact H) | (have H2_ := (Option.bind_some _ _).symm.trans H; rw [hy223]; with_reducible exact H2_) | (have H2_ := (Option.bind_some _ _).symm.trans H; with_reducible exact H2_) | with_reducible exact H | (rw [hy223]; exact H) | exact H
 have Ny223 := aS hy223
 clear hy223
 replace H := bE H; obtain ⟨t226, A5, H⟩ := H; try dsimp only at H
 obtain rfl := Option.some.inj H
 go_enter Try.func52, Try.ntmps52
 try go_wp2_with (first | ((with_reducible refine gate_dst (N := 2) rfl ?_); refine bx 2 #[.int .i64 a0_0, .int .i64 a0_1] 45 ?_; intro gb219 hg w6 hbox hb; have BK219 := aS (hbox); have GW219 := aS (gW hg (sW HB.out)); have GE219 := aS (gW hg (sW HB.out)); replace HB := aS (below_step (sW HB.out) hb); clear hb hbox hg) | ((with_reducible refine gate_dst (N := 3) rfl ?_); refine bx 3 #[.int .i64 a1_0, .int .i64 a1_1] 45 ?_; intro gb220 hg w7 hbox hb; have BK220 := aS (hbox); have GW220 := aS (gW hg (sW HB.out)); have GE220 := aS (gW hg (sW HB.out)); replace HB := aS (below_step (sW HB.out) hb); have NB219_220 := aS (nL hg (sB BK219.out)); have NB220_219 := aS (nG hg (sB BK219.out)); replace BK219 := aS (blk_below (sB BK219.out) hb); clear hb hbox hg))
 replace BK219 := aS (blk_drew BK219.out); replace BK220 := aS (blk_drew BK220.out); replace HB := aS (below_drew1 HB.out)
 refine start_ (n := 13) (S := fun w' => w'.cell? ⟨gb220, 0, none⟩ = some (.int .i64 a1_0) ∧ w'.cell? ⟨gb220, 1, none⟩ = some (.int .i64 a1_1) ∧ w'.cell? ⟨gb219, 0, none⟩ = some (.int .i64 a0_0) ∧ w'.cell? ⟨gb219, 1, none⟩ = some (.int .i64 a0_1)) (ds := []) _ (by kernel_rfl) rfl rfl ⟨bq BK220.out 0, bq BK220.out 1, bq BK219.out 0, bq BK219.out 1⟩ (fun hHeld => ?_); refine with_tabW impl_LongestLine_1.tab1 impl_LongestLine_1.bits1 (fun HT_ HW_ => ?_)
 generalize w7.drew = w8 at BK219 BK220 HB hHeld ⊢
 refine pX 0 5 ?_; refine pX 2 7 ?_; refine pX 5 10 ?_; refine pX 7 12 ?_; refine tX 1 6 ?_; refine tX 3 8 ?_; refine tX 6 11 ?_; refine tX 8 13 ?_
 refine oX 4 (some 9) fun K hK => ?_
 refine goes_ Try.func54 (by kernel_rfl) rfl #[.int .i64 a1_0, .int .i64 a0_0] (by rfl) rfl rfl sG ?_
 with_reducible refine (cmp_Compare_int64.calls a1_0 a0_0 t221 _ A3.out).mono ?_
 rintro e w' ⟨rfl, ⟨nd, rfl⟩⟩
 refine ⟨_, rfl, ?_⟩
 refine hK.out _ _ ⟨bq BK220.out 0, bq BK220.out 1, bq BK219.out 0, bq BK219.out 1⟩ (fun hHeld => ?_)
 clear hK K
 refine nX 9 ?_
 refine oX 9 (some 14) fun K hK => ?_
 refine goes_ Try.func54 (by kernel_rfl) rfl #[.int .i64 a1_1, .int .i64 a0_1] (by rfl) rfl rfl sG ?_
 with_reducible refine (cmp_Compare_int64.calls a1_1 a0_1 t222 _ A4.out).mono ?_
 rintro e w' ⟨rfl, ⟨nd, rfl⟩⟩
 refine ⟨_, rfl, ?_⟩
 refine hK.out _ _ ⟨bq BK220.out 0, bq BK220.out 1, bq BK219.out 0, bq BK219.out 1⟩ (fun hHeld => ?_)
 clear hK K
 refine nX 14 ?_
 refine oX 10 (some 15) fun K hK => ?_
 refine Kd.R_lit_step (Kd.int .i64) _ 3 ?hg (N := 15) ?hd (xs := ([t221, t222] : List Int)) (inner := [.int .i64 t221, .int .i64 t222]) (ok := fun _ => True) (okp := fun _ => True) ?hr ?hp (fun _ hk => hk) trivial (Below.refl _ _) (Nat.le_refl _) (by simp) ?_; (case hd => rfl); (case hg => rfl); (case hr => first | (go_simp; done) | (go_simp; rfl)); (case hp => exact (Reps.one (show Kd.M (Kd.int .i64) _ _ _ t221 [.int .i64 t221] from rfl) (Reps.one (show Kd.M (Kd.int .i64) _ _ _ t222 [.int .i64 t222] from rfl) (Reps.none _ _))))
 intro v224 w9 ho10 hb hg_ hnew_
 clear hg_ hnew_
 (first | rw [← Ny223.out] at ho10 | (simp only [Int.reduceToNat] at ho10; rw [← Ny223.out] at ho10))
 have HO225 := aS (Kd.R_lower ho10 (below_size (sW HB.out))); replace BK219 := aS (blk_below (sB BK219.out) hb); replace BK220 := aS (blk_below (sB BK220.out) hb); replace HB := aS (below_step (sW HB.out) hb)
 clear hb ho10
 obtain ⟨Ao11, co11, eo11⟩ := Kd.R_slice HO225.out
 (first | subst eo11 | (injection eo11 with f1_ f2_ f3_; have f4_ := f1_.symm; have f5_ := f3_.symm; clear f1_ f2_ f3_; subst f4_; subst f5_))
 refine hK.out _ _ ⟨bq BK220.out 0, bq BK220.out 1, bq BK219.out 0, bq BK219.out 1⟩ (fun hHeld => ?_)
 clear hK K
 refine nX 15 ?_
 refine oX 11 (some 16) fun K hK => ?_
 refine goes_ Try.func53 (by kernel_rfl) rfl #[.slice Ao11 y223.length co11] (by rfl) rfl rfl sG ?_
 with_reducible refine (cmp_Or_int.calls k _ _ y223 t226 _ ?side1 ?side2 A5.out).mono ?_
 (case side1 => exact sC (Kd.R_reads' HO225.out).2.2)
 (case side2 => exact (Kd.R_reads' HO225.out).2.1)
 rintro e w' ⟨rfl, ⟨nd, rfl⟩⟩
 refine ⟨_, rfl, ?_⟩
 refine hK.out _ _ ⟨bq BK220.out 0, bq BK220.out 1, bq BK219.out 0, bq BK219.out 1⟩ (fun hHeld => ?_)
 clear hK K
 refine nX 16 ?_
 refine pX 12 4 ?_
 refine dX ?_
 try go_wp2
 go_ret
 exact ⟨eE, sW HB.out⟩

end Go.Proofs.Ytginmioklkcgbaa.QFnBestJoins

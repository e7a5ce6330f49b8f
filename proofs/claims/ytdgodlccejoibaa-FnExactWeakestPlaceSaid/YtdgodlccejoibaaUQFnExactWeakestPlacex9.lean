/- What the Go functions of this law compute, each as a Lean function, and that each call comes to that answer; written by a program of this session. No condition. -/
import Derived.Test.YtdgodlccejoibaaUQFnExactWeakestPlacex0
import Derived.Test.YtdgodlccejoibaaUQFnExactWeakestPlacex8
namespace Go.Proofs.Ytdgodlccejoibaa.QFnExactWeakestPlace
open Go.RowKit Go.Proofs.YtdgodlccejoibaaW.PrintWords Go.Proofs.YtdgodlccejoibaaW.PrintLast Go.Proofs.YtdgodlccejoibaaW.PrintMore
attribute [local go_sem] max2_int min2_int max_two min_two max_three min_three max_four min_four   -- for this text's walks alone
set_option linter.unusedVariables false
set_option linter.unusedSimpArgs false

/-! ### spec_l03WeakestAt: function 81 -/
mutual
def spec_l03WeakestAt.l0 : Nat → List (S68) → List (S37) → ByteArray → Int → Int → Int → Option (ByteArray × Int × Int)
 | 0, _, _, _, _, _, _ => none
 | k + 1, x0, x1, x7, x8, x9, x10 => if 0 < (x1.length : Int) then (if x10 < (((rd_T37 x1 0).f0).length : Int) then (if 0 ≤ x10 then (if (wrap64 (1000 * ((rd_T44 ((rd_T37 x1 0).f0) x10).f0))) < x9 then (spec_l03WeakestAt.l0 k x0 x1 x7 x10 (wrap64 (1000 * ((rd_T44 ((rd_T37 x1 0).f0) x10).f0))) (wrap64 (x10 + 1))) else (spec_l03WeakestAt.l0 k x0 x1 x7 x8 x9 (wrap64 (x10 + 1)))) else (none)) else (spec_l03WeakestAt.l1 k x0 x1 x7 x8 x9 0)) else (none)
def spec_l03WeakestAt.l1 : Nat → List (S68) → List (S37) → ByteArray → Int → Int → Int → Option (ByteArray × Int × Int)
 | 0, _, _, _, _, _, _ => none
 | k + 1, x0, x1, x7, x8, x9, x11 => if 0 < (x1.length : Int) then (if x11 < (((rd_T37 x1 0).f1).length : Int) then (if 0 ≤ x11 then (if 0 ≤ (rd ((rd_T37 x1 0).f1) x11) then (if (rd ((rd_T37 x1 0).f1) x11) < (x0.length : Int) then (if x11 < (((rd_T37 x1 0).f0).length : Int) then (if 0 ≤ (wrap64 (x11 + 1)) then (if (wrap64 (x11 + 1)) < (((rd_T37 x1 0).f0).length : Int) then ((spec_l03JoinedAt.f [rd_T68 x0 (rd ((rd_T37 x1 0).f1) x11)] ((rd_T44 ((rd_T37 x1 0).f0) x11).f0) ((rd_T44 ((rd_T37 x1 0).f0) x11).f1) ((rd_T44 ((rd_T37 x1 0).f0) (wrap64 (x11 + 1))).f0) ((rd_T44 ((rd_T37 x1 0).f0) (wrap64 (x11 + 1))).f1)).bind fun t238 => (if t238 < x9 then (spec_l03WeakestAt.l1 k x0 x1 (⟨#[106, 111, 105, 110]⟩ : ByteArray) x11 t238 (wrap64 (x11 + 1))) else (spec_l03WeakestAt.l1 k x0 x1 x7 x8 x9 (wrap64 (x11 + 1))))) else (none)) else (none)) else (none)) else (none)) else (none)) else (none)) else (some (x7, x8, x9))) else (none)
end
def spec_l03WeakestAt.f (k : Nat) (l0 : List (S68)) (l1 : List (S37)) : Option (ByteArray × Int × Int) := if 0 < (l1.length : Int) then (if 0 < (((rd_T37 l1 0).f0).length : Int) then (spec_l03WeakestAt.l0 k l0 l1 (⟨#[112, 105, 101, 99, 101]⟩ : ByteArray) 0 (wrap64 (1000 * ((rd_T44 ((rd_T37 l1 0).f0) 0).f0))) 1) else (none)) else (none)
theorem spec_l03WeakestAt.mono_l : ∀ k, (∀ y0 y1 y2 y3 y4 y5, LeO (spec_l03WeakestAt.l0 k y0 y1 y2 y3 y4 y5) (spec_l03WeakestAt.l0 (k + 1) y0 y1 y2 y3 y4 y5)) ∧ (∀ y0 y1 y2 y3 y4 y5, LeO (spec_l03WeakestAt.l1 k y0 y1 y2 y3 y4 y5) (spec_l03WeakestAt.l1 (k + 1) y0 y1 y2 y3 y4 y5))
 | 0 => ⟨fun _ _ _ _ _ _ r h => by simp [spec_l03WeakestAt.l0] at h, fun _ _ _ _ _ _ r h => by simp [spec_l03WeakestAt.l1] at h⟩
 | k + 1 => by
  obtain ⟨ih0, ih1⟩ := spec_l03WeakestAt.mono_l k
  refine ⟨?_, ?_⟩
  ·
   intro y0 y1 y2 y3 y4 y5
   unfold spec_l03WeakestAt.l0
   repeat' first
   | (with_reducible exact ih0 _ _ _ _ _ _)
   | (with_reducible exact ih1 _ _ _ _ _ _)
   | (with_reducible exact LeO.refl _)
   | (with_reducible exact LeO.none _)
   | (with_reducible refine LeO.ite ?_ ?_)
   | (with_reducible refine LeO.bind ?_ (fun _ => ?_))
   | exact ih0 _ _ _ _ _ _
   | exact ih1 _ _ _ _ _ _
   | exact LeO.none _
   | refine LeO.ite ?_ ?_
   | refine LeO.bind ?_ (fun _ => ?_)
  ·
   intro y0 y1 y2 y3 y4 y5
   unfold spec_l03WeakestAt.l1
   repeat' first
   | (with_reducible exact ih0 _ _ _ _ _ _)
   | (with_reducible exact ih1 _ _ _ _ _ _)
   | (with_reducible exact LeO.refl _)
   | (with_reducible exact LeO.none _)
   | (with_reducible refine LeO.ite ?_ ?_)
   | (with_reducible refine LeO.bind ?_ (fun _ => ?_))
   | exact ih0 _ _ _ _ _ _
   | exact ih1 _ _ _ _ _ _
   | exact LeO.none _
   | refine LeO.ite ?_ ?_
   | refine LeO.bind ?_ (fun _ => ?_)
theorem spec_l03WeakestAt.mono : ∀ a0 a1 k, LeO (spec_l03WeakestAt.f k a0 a1) (spec_l03WeakestAt.f (k + 1) a0 a1) := by
 intro a0 a1 k
 obtain ⟨ih0, ih1⟩ := spec_l03WeakestAt.mono_l k
 unfold spec_l03WeakestAt.f
 repeat' first
   | (with_reducible exact ih0 _ _ _ _ _ _)
   | (with_reducible exact ih1 _ _ _ _ _ _)
   | (with_reducible exact LeO.refl _)
   | (with_reducible exact LeO.none _)
   | (with_reducible refine LeO.ite ?_ ?_)
   | (with_reducible refine LeO.bind ?_ (fun _ => ?_))
   | exact ih0 _ _ _ _ _ _
   | exact ih1 _ _ _ _ _ _
   | exact LeO.none _
   | refine LeO.ite ?_ ?_
   | refine LeO.bind ?_ (fun _ => ?_)
def spec_l03WeakestAt.T13 : Bool × List (List Nat × List Nat) := (true, [([], []), ([], []), ([1], [1]), ([2], [2]), ([3], [3]), ([], []), ([4, 5], [4, 5]), ([6], [6]), ([0, 7], [0, 7]), ([], []), ([9], [9]), ([10], [10]), ([11], [11]), ([], []), ([12, 13], [12, 13]), ([14], [14]), ([], []), ([16], [16]), ([17], [17]), ([18], [18]), ([], []), ([20], [20]), ([19, 21], [19, 21]), ([22], [22]), ([8, 15, 23], [8, 15, 23]), ([24, 24, 0, 1, 2, 3, 4, 5, 6, 7, 8, 9, 10, 11, 12, 13, 14, 15, 16, 17, 18, 19, 20, 21, 22, 23, 24], [24])])
def spec_l03WeakestAt.B13 : List Nat := [0, 0, 2, 6, 14, 0, 62, 126, 255, 0, 512, 1536, 3584, 0, 15872, 32256, 0, 65536, 196608, 458752, 0, 1048576, 4128768, 8323072, 16777215, 33554431]
theorem spec_l03WeakestAt.tab13 : rtab .any (opsOf Try.f81 13) = spec_l03WeakestAt.T13 := by kernel_rfl
theorem spec_l03WeakestAt.bits13 : waitsOk spec_l03WeakestAt.T13.2 spec_l03WeakestAt.B13 = true := by kernel_rfl
set_option maxHeartbeats 8000000 in
set_option maxRecDepth 100000 in
theorem spec_l03WeakestAt.calls (k : Nat) (A0 : Option Addr) (c0 : Nat) (l0 : List (S68)) (A1 : Option Addr) (c1 : Nat) (l1 : List (S37)) (r1 : ByteArray) (r2 : Int) (r3 : Int) (w : World) (hr0 : Kd.C k68 w A0 l0.length l0) (hc0 : l0.length ≤ c0) (hr1 : Kd.C k37 w A1 l1.length l1) (hc1 : l1.length ≤ c1) (h : spec_l03WeakestAt.f k l0 l1 = some (r1, r2, r3)) :
  Calls Try.prog 81 #[.slice A0 l0.length c0, .pointer A1] w fun e w' => e = .returned (.tuple #[.string r1, .int .i64 r2, .int .i64 r3]) ∧ Below w.heap.size w w' := by
 have hu44 := Try.underlying44
 have HR0 := aS hr0
 have HC0 := aS hc0
 clear hr0 hc0
 have HR1 := aS hr1
 have HC1 := aS hc1
 clear hr1 hc1
 have HB := aS (Below.refl w.heap.size w)
 have H : (if 0 < (l1.length : Int) then (if 0 < (((rd_T37 l1 0).f0).length : Int) then (spec_l03WeakestAt.l0 k l0 l1 (⟨#[112, 105, 101, 99, 101]⟩ : ByteArray) 0 (wrap64 (1000 * ((rd_T44 ((rd_T37 l1 0).f0) 0).f0))) 1) else (none)) else (none)) = some (r1, r2, r3) := h
 clear h
 by_cases c3 : 0 < (l1.length : Int)
 ·
  rw [if_pos c3] at H
  have c3b0 : decide (0 < (l1.length : Int)) = true := decide_eq_true c3
  have c3b1 : decide (0 < l1.length) = true := decide_eq_true (by omega)
  clear c3
  by_cases c4 : 0 < (((rd_T37 l1 0).f0).length : Int)
  ·
   rw [if_pos c4] at H
   have c4b0 : decide (0 < (((rd_T37 l1 0).f0).length : Int)) = true := decide_eq_true c4
   have c4b1 : decide (0 < ((rd_T37 l1 0).f0).length) = true := decide_eq_true (by omega)
   clear c4
   have H' := aS H
   clear H
   have p223 : 0 ≤ (0 : Int) := (by omega)
   have q223 : 0 < (l1.length : Int) := of_decide_eq_true (by first | (with_reducible assumption) | assumption)
   obtain ⟨ad223, A223_0, c223_0, A223_1, c223_1, e223, hx223_0, hx223_1, hl223_0, hi223_0, hl223_1, hi223_1⟩ := at_T37 HR1.out 0 p223 q223
   cases e223
   have qi223 : (0 < l1.length) = True := eq_true (by omega)
   (try rw [show ((0 : Int)).toNat = 0 from rfl] at hx223_0)
   (try rw [show 0 * 2 = 0 from rfl] at hx223_0)
   (try rw [Addr.add_zero'] at hx223_0)
   (try rw [show ((0 : Int)).toNat = 0 from rfl] at hx223_1)
   (try rw [show 0 * 2 = 0 from rfl] at hx223_1)
   (try rw [Addr.add_zero'] at hx223_1)
   have HR223_0 := aS hi223_0
   have HC223_0 := aS hl223_0
   clear hi223_0 hl223_0
   have HR223_1 := aS hi223_1
   have HC223_1 := aS hl223_1
   clear hi223_1 hl223_1
   replace p223 := eq_true p223
   replace q223 := eq_true q223
   have p224 : 0 ≤ (0 : Int) := (by omega)
   have q224 : 0 < (((rd_T37 l1 0).f0).length : Int) := of_decide_eq_true (by first | (with_reducible assumption) | assumption)
   obtain ⟨ad224, e224, hx224_0, hx224_1⟩ := at_T44 HR223_0.out 0 p224 q224
   cases e224
   have qi224 : (0 < ((rd_T37 l1 0).f0).length) = True := eq_true (by omega)
   (try rw [show ((0 : Int)).toNat = 0 from rfl] at hx224_0)
   (try rw [show 0 * 2 = 0 from rfl] at hx224_0)
   (try rw [Addr.add_zero'] at hx224_0)
   (try rw [show ((0 : Int)).toNat = 0 from rfl] at hx224_1)
   (try rw [show 0 * 2 = 0 from rfl] at hx224_1)
   (try rw [Addr.add_zero'] at hx224_1)
   replace p224 := eq_true p224
   replace q224 := eq_true q224
   go_enter Try.func81, Try.ntmps81
   go_wp2
   go_loopg [8, 9, 10] k (fun kq v8 v9 v10 w' => ∃ (x8_1 : Int) (x9_1 : Int) (x10_1 : Int), v8 = .int .i64 x8_1 ∧ v9 = .int .i64 x9_1 ∧ v10 = .int .i64 x10_1 ∧ Aside0 (spec_l03WeakestAt.l0 kq l0 l1 (⟨#[112, 105, 101, 99, 101]⟩ : ByteArray) x8_1 x9_1 x10_1 = some (r1, r2, r3)) ∧ Aside0 (kq ≤ k) ∧ Aside0 (Below w.heap.size w w'))
   case atStart => exact ⟨(0), (wrap64 (1000 * ((rd_T44 ((rd_T37 l1 0).f0) 0).f0))), (1), (by first | rfl | (simp; done) | (simp [*]; done) | (simp only [i64_w]; done) | (simp [i64_w]; done)), (by first | rfl | (simp; done) | (simp [*]; done) | (simp only [i64_w]; done) | (simp [i64_w]; done)), (by first | rfl | (simp; done) | (simp [*]; done) | (simp only [i64_w]; done) | (simp [i64_w]; done)), H', ⟨Nat.le_refl _⟩, ⟨by repeat (first | (with_reducible first | exact HB.out | apply below_alloc | apply pw_below_drewN | apply below_drew1) | exact HB.out)⟩⟩
   case round =>
    clear H'
    (try clear c1); (try clear c2); (try clear p2); (try clear q2); (try clear hx2); (try clear qi2); (try clear c3); (try clear c3b0); (try clear c3b1); (try clear c4); (try clear c4b0); (try clear c4b1); (try clear hx223_0); (try clear hx223_1); (try clear hx224_0); (try clear hx224_1); (try clear p223); (try clear p224); (try clear q223); (try clear q224)
    obtain ⟨x8_1, x9_1, x10_1, rfl, rfl, rfl, HA, HK1, HB⟩ := hrel
    cases gk with
    | zero => exact absurd HA.out (by simp [spec_l03WeakestAt.l0])
    | succ k1 =>
     have H := HA.out
     clear HA
     simp only [spec_l03WeakestAt.l0] at H
     by_cases c5 : 0 < (l1.length : Int)
     ·
      rw [if_pos c5] at H
      have c5b0 : decide (0 < (l1.length : Int)) = true := decide_eq_true c5
      have c5b1 : decide (0 < l1.length) = true := decide_eq_true (by omega)
      clear c5
      by_cases c6 : x10_1 < (((rd_T37 l1 0).f0).length : Int)
      ·
       rw [if_pos c6] at H
       have c6b0 : decide (x10_1 < (((rd_T37 l1 0).f0).length : Int)) = true := decide_eq_true c6
       clear c6
       by_cases c7 : 0 ≤ x10_1
       ·
        rw [if_pos c7] at H
        have c7b0 : decide (0 ≤ x10_1) = true := decide_eq_true c7
        clear c7
        by_cases c8 : (wrap64 (1000 * ((rd_T44 ((rd_T37 l1 0).f0) x10_1).f0))) < x9_1
        ·
         rw [if_pos c8] at H
         have c8b0 : decide ((wrap64 (1000 * ((rd_T44 ((rd_T37 l1 0).f0) x10_1).f0))) < x9_1) = true := decide_eq_true c8
         clear c8
         have H' := aS H
         clear H
         have p225 : 0 ≤ (0 : Int) := (by omega)
         have q225 : 0 < (l1.length : Int) := of_decide_eq_true (by first | (with_reducible assumption) | assumption)
         obtain ⟨ad225, A225_0, c225_0, A225_1, c225_1, e225, hx225_0, hx225_1, hl225_0, hi225_0, hl225_1, hi225_1⟩ := at_T37 HR1.out 0 p225 q225
         obtain rfl : ad223 = ad225 := (by injection e225)
         have qi225 : (0 < l1.length) = True := eq_true (by omega)
         (try rw [show ((0 : Int)).toNat = 0 from rfl] at hx225_0)
         (try rw [show 0 * 2 = 0 from rfl] at hx225_0)
         (try rw [Addr.add_zero'] at hx225_0)
         (try rw [show ((0 : Int)).toNat = 0 from rfl] at hx225_1)
         (try rw [show 0 * 2 = 0 from rfl] at hx225_1)
         (try rw [Addr.add_zero'] at hx225_1)
         replace hx225_0 := (HB.out.cell (World.block_lt_of_cell? w _ hx225_0)).trans hx225_0
         replace hx225_1 := (HB.out.cell (World.block_lt_of_cell? w _ hx225_1)).trans hx225_1
         have HR225_0 := aS hi225_0
         have HC225_0 := aS hl225_0
         clear hi225_0 hl225_0
         have HR225_1 := aS hi225_1
         have HC225_1 := aS hl225_1
         clear hi225_1 hl225_1
         replace p225 := eq_true p225
         replace q225 := eq_true q225
         have p226 : 0 ≤ (0 : Int) := (by omega)
         have q226 : 0 < (l1.length : Int) := of_decide_eq_true (by first | (with_reducible assumption) | assumption)
         obtain ⟨ad226, A226_0, c226_0, A226_1, c226_1, e226, hx226_0, hx226_1, hl226_0, hi226_0, hl226_1, hi226_1⟩ := at_T37 HR1.out 0 p226 q226
         obtain rfl : ad223 = ad226 := (by injection e226)
         have qi226 : (0 < l1.length) = True := eq_true (by omega)
         (try rw [show ((0 : Int)).toNat = 0 from rfl] at hx226_0)
         (try rw [show 0 * 2 = 0 from rfl] at hx226_0)
         (try rw [Addr.add_zero'] at hx226_0)
         (try rw [show ((0 : Int)).toNat = 0 from rfl] at hx226_1)
         (try rw [show 0 * 2 = 0 from rfl] at hx226_1)
         (try rw [Addr.add_zero'] at hx226_1)
         replace hx226_0 := (HB.out.cell (World.block_lt_of_cell? w _ hx226_0)).trans hx226_0
         replace hx226_1 := (HB.out.cell (World.block_lt_of_cell? w _ hx226_1)).trans hx226_1
         have HR226_0 := aS hi226_0
         have HC226_0 := aS hl226_0
         clear hi226_0 hl226_0
         have HR226_1 := aS hi226_1
         have HC226_1 := aS hl226_1
         clear hi226_1 hl226_1
         replace p226 := eq_true p226
         replace q226 := eq_true q226
         have ea_ := Option.some.inj (hx225_0.symm.trans hx226_0)
         injection ea_ with ea_ en_ ec_
         subst ea_
         subst ec_
         clear en_
         have ea_ := Option.some.inj (hx225_1.symm.trans hx226_1)
         injection ea_ with ea_ en_ ec_
         subst ea_
         subst ec_
         clear en_
         have p227 : 0 ≤ (x10_1 : Int) := of_decide_eq_true (by first | (with_reducible assumption) | assumption)
         have q227 : x10_1 < (((rd_T37 l1 0).f0).length : Int) := of_decide_eq_true (by first | (with_reducible assumption) | assumption)
         obtain ⟨ad227, e227, hx227_0, hx227_1⟩ := at_T44 HR226_0.out x10_1 p227 q227
         cases e227
         replace hx227_0 := (HB.out.cell (World.block_lt_of_cell? w _ hx227_0)).trans hx227_0
         replace hx227_1 := (HB.out.cell (World.block_lt_of_cell? w _ hx227_1)).trans hx227_1
         replace p227 := eq_true p227
         replace q227 := eq_true q227
         have p228 : 0 ≤ (0 : Int) := (by omega)
         have q228 : 0 < (l1.length : Int) := of_decide_eq_true (by first | (with_reducible assumption) | assumption)
         obtain ⟨ad228, A228_0, c228_0, A228_1, c228_1, e228, hx228_0, hx228_1, hl228_0, hi228_0, hl228_1, hi228_1⟩ := at_T37 HR1.out 0 p228 q228
         obtain rfl : ad223 = ad228 := (by injection e228)
         have qi228 : (0 < l1.length) = True := eq_true (by omega)
         (try rw [show ((0 : Int)).toNat = 0 from rfl] at hx228_0)
         (try rw [show 0 * 2 = 0 from rfl] at hx228_0)
         (try rw [Addr.add_zero'] at hx228_0)
         (try rw [show ((0 : Int)).toNat = 0 from rfl] at hx228_1)
         (try rw [show 0 * 2 = 0 from rfl] at hx228_1)
         (try rw [Addr.add_zero'] at hx228_1)
         replace hx228_0 := (HB.out.cell (World.block_lt_of_cell? w _ hx228_0)).trans hx228_0
         replace hx228_1 := (HB.out.cell (World.block_lt_of_cell? w _ hx228_1)).trans hx228_1
         have HR228_0 := aS hi228_0
         have HC228_0 := aS hl228_0
         clear hi228_0 hl228_0
         have HR228_1 := aS hi228_1
         have HC228_1 := aS hl228_1
         clear hi228_1 hl228_1
         replace p228 := eq_true p228
         replace q228 := eq_true q228
         have ea_ := Option.some.inj (hx225_0.symm.trans hx228_0)
         injection ea_ with ea_ en_ ec_
         subst ea_
         subst ec_
         clear en_
         have ea_ := Option.some.inj (hx225_1.symm.trans hx228_1)
         injection ea_ with ea_ en_ ec_
         subst ea_
         subst ec_
         clear en_
         have p229 : 0 ≤ (x10_1 : Int) := of_decide_eq_true (by first | (with_reducible assumption) | assumption)
         have q229 : x10_1 < (((rd_T37 l1 0).f0).length : Int) := of_decide_eq_true (by first | (with_reducible assumption) | assumption)
         obtain ⟨ad229, e229, hx229_0, hx229_1⟩ := at_T44 HR228_0.out x10_1 p229 q229
         cases e229
         replace hx229_0 := (HB.out.cell (World.block_lt_of_cell? w _ hx229_0)).trans hx229_0
         replace hx229_1 := (HB.out.cell (World.block_lt_of_cell? w _ hx229_1)).trans hx229_1
         replace p229 := eq_true p229
         replace q229 := eq_true q229
         go_wp2
         go_roundg k1
         case measure => have := HK1.out; omega
         case rel => exact ⟨(x10_1), (wrap64 (1000 * ((rd_T44 ((rd_T37 l1 0).f0) x10_1).f0))), (wrap64 (x10_1 + 1)), (by first | rfl | (simp; done) | (simp [*]; done) | (simp only [i64_w]; done) | (simp [i64_w]; done)), (by first | rfl | (simp; done) | (simp [*]; done) | (simp only [i64_w]; done) | (simp [i64_w]; done)), (by first | rfl | (simp; done) | (simp [*]; done) | (simp only [i64_w]; done) | (simp [i64_w]; done)), H', ⟨by have := HK1.out; omega⟩, ⟨by repeat (first | (with_reducible first | exact HB.out | apply below_alloc | apply pw_below_drewN | apply below_drew1) | exact HB.out)⟩⟩
        ·
         rw [if_neg c8] at H
         have c8b0 : decide ((wrap64 (1000 * ((rd_T44 ((rd_T37 l1 0).f0) x10_1).f0))) < x9_1) = false := decide_eq_false c8
         clear c8
         have H' := aS H
         clear H
         have p225 : 0 ≤ (0 : Int) := (by omega)
         have q225 : 0 < (l1.length : Int) := of_decide_eq_true (by first | (with_reducible assumption) | assumption)
         obtain ⟨ad225, A225_0, c225_0, A225_1, c225_1, e225, hx225_0, hx225_1, hl225_0, hi225_0, hl225_1, hi225_1⟩ := at_T37 HR1.out 0 p225 q225
         obtain rfl : ad223 = ad225 := (by injection e225)
         have qi225 : (0 < l1.length) = True := eq_true (by omega)
         (try rw [show ((0 : Int)).toNat = 0 from rfl] at hx225_0)
         (try rw [show 0 * 2 = 0 from rfl] at hx225_0)
         (try rw [Addr.add_zero'] at hx225_0)
         (try rw [show ((0 : Int)).toNat = 0 from rfl] at hx225_1)
         (try rw [show 0 * 2 = 0 from rfl] at hx225_1)
         (try rw [Addr.add_zero'] at hx225_1)
         replace hx225_0 := (HB.out.cell (World.block_lt_of_cell? w _ hx225_0)).trans hx225_0
         replace hx225_1 := (HB.out.cell (World.block_lt_of_cell? w _ hx225_1)).trans hx225_1
         have HR225_0 := aS hi225_0
         have HC225_0 := aS hl225_0
         clear hi225_0 hl225_0
         have HR225_1 := aS hi225_1
         have HC225_1 := aS hl225_1
         clear hi225_1 hl225_1
         replace p225 := eq_true p225
         replace q225 := eq_true q225
         have p226 : 0 ≤ (0 : Int) := (by omega)
         have q226 : 0 < (l1.length : Int) := of_decide_eq_true (by first | (with_reducible assumption) | assumption)
         obtain ⟨ad226, A226_0, c226_0, A226_1, c226_1, e226, hx226_0, hx226_1, hl226_0, hi226_0, hl226_1, hi226_1⟩ := at_T37 HR1.out 0 p226 q226
         obtain rfl : ad223 = ad226 := (by injection e226)
         have qi226 : (0 < l1.length) = True := eq_true (by omega)
         (try rw [show ((0 : Int)).toNat = 0 from rfl] at hx226_0)
         (try rw [show 0 * 2 = 0 from rfl] at hx226_0)
         (try rw [Addr.add_zero'] at hx226_0)
         (try rw [show ((0 : Int)).toNat = 0 from rfl] at hx226_1)
         (try rw [show 0 * 2 = 0 from rfl] at hx226_1)
         (try rw [Addr.add_zero'] at hx226_1)
         replace hx226_0 := (HB.out.cell (World.block_lt_of_cell? w _ hx226_0)).trans hx226_0
         replace hx226_1 := (HB.out.cell (World.block_lt_of_cell? w _ hx226_1)).trans hx226_1
         have HR226_0 := aS hi226_0
         have HC226_0 := aS hl226_0
         clear hi226_0 hl226_0
         have HR226_1 := aS hi226_1
         have HC226_1 := aS hl226_1
         clear hi226_1 hl226_1
         replace p226 := eq_true p226
         replace q226 := eq_true q226
         have ea_ := Option.some.inj (hx225_0.symm.trans hx226_0)
         injection ea_ with ea_ en_ ec_
         subst ea_
         subst ec_
         clear en_
         have ea_ := Option.some.inj (hx225_1.symm.trans hx226_1)
         injection ea_ with ea_ en_ ec_
         subst ea_
         subst ec_
         clear en_
         have p227 : 0 ≤ (x10_1 : Int) := of_decide_eq_true (by first | (with_reducible assumption) | assumption)
         have q227 : x10_1 < (((rd_T37 l1 0).f0).length : Int) := of_decide_eq_true (by first | (with_reducible assumption) | assumption)
         obtain ⟨ad227, e227, hx227_0, hx227_1⟩ := at_T44 HR226_0.out x10_1 p227 q227
         cases e227
         replace hx227_0 := (HB.out.cell (World.block_lt_of_cell? w _ hx227_0)).trans hx227_0
         replace hx227_1 := (HB.out.cell (World.block_lt_of_cell? w _ hx227_1)).trans hx227_1
         replace p227 := eq_true p227
         replace q227 := eq_true q227
         go_wp2
         go_roundg k1
         case measure => have := HK1.out; omega
         case rel => exact ⟨(x8_1), (x9_1), (wrap64 (x10_1 + 1)), (by first | rfl | (simp; done) | (simp [*]; done) | (simp only [i64_w]; done) | (simp [i64_w]; done)), (by first | rfl | (simp; done) | (simp [*]; done) | (simp only [i64_w]; done) | (simp [i64_w]; done)), (by first | rfl | (simp; done) | (simp [*]; done) | (simp only [i64_w]; done) | (simp [i64_w]; done)), H', ⟨by have := HK1.out; omega⟩, ⟨by repeat (first | (with_reducible first | exact HB.out | apply below_alloc | apply pw_below_drewN | apply below_drew1) | exact HB.out)⟩⟩
       ·
        rw [if_neg c7] at H
        exact absurd H (by simp)
      ·
       rw [if_neg c6] at H
       have c6b0 : decide (x10_1 < (((rd_T37 l1 0).f0).length : Int)) = false := decide_eq_false c6
       clear c6
       have H' := aS H
       clear H
       have p225 : 0 ≤ (0 : Int) := (by omega)
       have q225 : 0 < (l1.length : Int) := of_decide_eq_true (by first | (with_reducible assumption) | assumption)
       obtain ⟨ad225, A225_0, c225_0, A225_1, c225_1, e225, hx225_0, hx225_1, hl225_0, hi225_0, hl225_1, hi225_1⟩ := at_T37 HR1.out 0 p225 q225
       obtain rfl : ad223 = ad225 := (by injection e225)
       have qi225 : (0 < l1.length) = True := eq_true (by omega)
       (try rw [show ((0 : Int)).toNat = 0 from rfl] at hx225_0)
       (try rw [show 0 * 2 = 0 from rfl] at hx225_0)
       (try rw [Addr.add_zero'] at hx225_0)
       (try rw [show ((0 : Int)).toNat = 0 from rfl] at hx225_1)
       (try rw [show 0 * 2 = 0 from rfl] at hx225_1)
       (try rw [Addr.add_zero'] at hx225_1)
       replace hx225_0 := (HB.out.cell (World.block_lt_of_cell? w _ hx225_0)).trans hx225_0
       replace hx225_1 := (HB.out.cell (World.block_lt_of_cell? w _ hx225_1)).trans hx225_1
       have HR225_0 := aS hi225_0
       have HC225_0 := aS hl225_0
       clear hi225_0 hl225_0
       have HR225_1 := aS hi225_1
       have HC225_1 := aS hl225_1
       clear hi225_1 hl225_1
       replace p225 := eq_true p225
       replace q225 := eq_true q225
       go_wp2
       go_loopg [7, 8, 9, 11] k1 (fun kq v7 v8 v9 v11 w' => ∃ (x7_2 : ByteArray) (x8_2 : Int) (x9_2 : Int) (x11_2 : Int), v7 = .string x7_2 ∧ v8 = .int .i64 x8_2 ∧ v9 = .int .i64 x9_2 ∧ v11 = .int .i64 x11_2 ∧ Aside0 (spec_l03WeakestAt.l1 kq l0 l1 x7_2 x8_2 x9_2 x11_2 = some (r1, r2, r3)) ∧ Aside0 (kq ≤ k1) ∧ Aside0 (Below w.heap.size w w'))
       case atStart => exact ⟨((⟨#[112, 105, 101, 99, 101]⟩ : ByteArray)), (x8_1), (x9_1), (0), (by first | rfl | (simp; done) | (simp [*]; done) | (simp only [i64_w]; done) | (simp [i64_w]; done)), (by first | rfl | (simp; done) | (simp [*]; done) | (simp only [i64_w]; done) | (simp [i64_w]; done)), (by first | rfl | (simp; done) | (simp [*]; done) | (simp only [i64_w]; done) | (simp [i64_w]; done)), (by first | rfl | (simp; done) | (simp [*]; done) | (simp only [i64_w]; done) | (simp [i64_w]; done)), H', ⟨Nat.le_refl _⟩, ⟨by repeat (first | (with_reducible first | exact HB.out | apply below_alloc | apply pw_below_drewN | apply below_drew1) | exact HB.out)⟩⟩
       case round =>
        clear H'
        (try clear c1); (try clear c2); (try clear p2); (try clear q2); (try clear hx2); (try clear qi2); (try clear c3); (try clear c3b0); (try clear c3b1); (try clear c4); (try clear c4b0); (try clear c4b1); (try clear c5); (try clear c5b0); (try clear c5b1); (try clear c6); (try clear c6b0); (try clear p6); (try clear c7); (try clear c7b0); (try clear c8); (try clear c8b0); (try clear hx223_0); (try clear hx223_1); (try clear hx224_0); (try clear hx224_1); (try clear hx225_0); (try clear hx225_1); (try clear hx226_0); (try clear hx226_1); (try clear hx227_0); (try clear hx227_1); (try clear hx228_0); (try clear hx228_1); (try clear hx229_0); (try clear hx229_1); (try clear p2); (try clear p223); (try clear p224); (try clear p225); (try clear p226); (try clear p227); (try clear p228); (try clear p229); (try clear q2); (try clear q223); (try clear q224); (try clear q225); (try clear q226); (try clear q227); (try clear q228); (try clear q229)
        obtain ⟨x7_2, x8_2, x9_2, x11_2, rfl, rfl, rfl, rfl, HA, HK2, HB⟩ := hrel
        cases gk with
        | zero => exact absurd HA.out (by simp [spec_l03WeakestAt.l1])
        | succ k2 =>
         have H := HA.out
         clear HA
         simp only [spec_l03WeakestAt.l1] at H
         by_cases c9 : 0 < (l1.length : Int)
         ·
          rw [if_pos c9] at H
          have c9b0 : decide (0 < (l1.length : Int)) = true := decide_eq_true c9
          have c9b1 : decide (0 < l1.length) = true := decide_eq_true (by omega)
          clear c9
          by_cases c10 : x11_2 < (((rd_T37 l1 0).f1).length : Int)
          ·
           rw [if_pos c10] at H
           have c10b0 : decide (x11_2 < (((rd_T37 l1 0).f1).length : Int)) = true := decide_eq_true c10
           clear c10
           by_cases c11 : 0 ≤ x11_2
           ·
            rw [if_pos c11] at H
            have c11b0 : decide (0 ≤ x11_2) = true := decide_eq_true c11
            clear c11
            by_cases c12 : 0 ≤ (rd ((rd_T37 l1 0).f1) x11_2)
            ·
             rw [if_pos c12] at H
             have c12b0 : decide (0 ≤ (rd ((rd_T37 l1 0).f1) x11_2)) = true := decide_eq_true c12
             clear c12
             by_cases c13 : (rd ((rd_T37 l1 0).f1) x11_2) < (l0.length : Int)
             ·
              rw [if_pos c13] at H
              have c13b0 : decide ((rd ((rd_T37 l1 0).f1) x11_2) < (l0.length : Int)) = true := decide_eq_true c13
              clear c13
              by_cases c14 : x11_2 < (((rd_T37 l1 0).f0).length : Int)
              ·
               rw [if_pos c14] at H
               have c14b0 : decide (x11_2 < (((rd_T37 l1 0).f0).length : Int)) = true := decide_eq_true c14
               clear c14
               obtain ⟨ji15, hji15⟩ : ∃ j_ : Int, (wrap64 (x11_2 + 1)) = j_ := ⟨_, rfl⟩
               replace H : (if 0 ≤ (ji15) then (if (ji15) < (((rd_T37 l1 0).f0).length : Int) then ((spec_l03JoinedAt.f [rd_T68 l0 (rd ((rd_T37 l1 0).f1) x11_2)] ((rd_T44 ((rd_T37 l1 0).f0) x11_2).f0) ((rd_T44 ((rd_T37 l1 0).f0) x11_2).f1) ((rd_T44 ((rd_T37 l1 0).f0) (ji15)).f0) ((rd_T44 ((rd_T37 l1 0).f0) (ji15)).f1)).bind fun t238 => (if t238 < x9_2 then (spec_l03WeakestAt.l1 k2 l0 l1 (⟨#[106, 111, 105, 110]⟩ : ByteArray) x11_2 t238 ji15) else (spec_l03WeakestAt.l1 k2 l0 l1 x7_2 x8_2 x9_2 ji15))) else (none)) else (none)) = some (r1, r2, r3) := by first | (rw [hji15] at H; exact H) | (simp only [hji15] at H ⊢; exact H)
               have hji15w : (IntKind.i64.wrap (x11_2 + 1)) = ji15 := (i64_w _).trans hji15
               by_cases c16 : 0 ≤ (ji15)
               ·
                rw [if_pos c16] at H
                have c16b0 : decide (0 ≤ (ji15)) = true := decide_eq_true c16
                clear c16
                by_cases c17 : (ji15) < (((rd_T37 l1 0).f0).length : Int)
                ·
                 rw [if_pos c17] at H
                 have c17b0 : decide ((ji15) < (((rd_T37 l1 0).f0).length : Int)) = true := decide_eq_true c17
                 clear c17
                 replace H := Option.bind_eq_some_iff.mp H
                 obtain ⟨t238, A180, H⟩ := H
                 replace H : (if t238 < x9_2 then (spec_l03WeakestAt.l1 k2 l0 l1 (⟨#[106, 111, 105, 110]⟩ : ByteArray) x11_2 t238 ji15) else (spec_l03WeakestAt.l1 k2 l0 l1 x7_2 x8_2 x9_2 ji15)) = some (r1, r2, r3) := H
                 have A18 := aS A180
                 clear A180
                 by_cases c19 : t238 < x9_2
                 ·
                  rw [if_pos c19] at H
                  have c19b0 : decide (t238 < x9_2) = true := decide_eq_true c19
                  clear c19
                  have H' := aS H
                  clear H
                  have p230 : 0 ≤ (0 : Int) := (by omega)
                  have q230 : 0 < (l1.length : Int) := of_decide_eq_true (by first | (with_reducible assumption) | assumption)
                  obtain ⟨ad230, A230_0, c230_0, A230_1, c230_1, e230, hx230_0, hx230_1, hl230_0, hi230_0, hl230_1, hi230_1⟩ := at_T37 HR1.out 0 p230 q230
                  obtain rfl : ad223 = ad230 := (by injection e230)
                  have qi230 : (0 < l1.length) = True := eq_true (by omega)
                  (try rw [show ((0 : Int)).toNat = 0 from rfl] at hx230_0)
                  (try rw [show 0 * 2 = 0 from rfl] at hx230_0)
                  (try rw [Addr.add_zero'] at hx230_0)
                  (try rw [show ((0 : Int)).toNat = 0 from rfl] at hx230_1)
                  (try rw [show 0 * 2 = 0 from rfl] at hx230_1)
                  (try rw [Addr.add_zero'] at hx230_1)
                  replace hx230_0 := (HB.out.cell (World.block_lt_of_cell? w _ hx230_0)).trans hx230_0
                  replace hx230_1 := (HB.out.cell (World.block_lt_of_cell? w _ hx230_1)).trans hx230_1
                  have HR230_0 := aS hi230_0
                  have HC230_0 := aS hl230_0
                  clear hi230_0 hl230_0
                  have HR230_1 := aS hi230_1
                  have HC230_1 := aS hl230_1
                  clear hi230_1 hl230_1
                  replace p230 := eq_true p230
                  replace q230 := eq_true q230
                  try go_wp2
                  have n0_ := aS (below_drew1 HB.out)
                  clear HB
                  have HB := n0_
                  clear n0_
                  have p231 : 0 ≤ (0 : Int) := (by omega)
                  have q231 : 0 < (l1.length : Int) := of_decide_eq_true (by first | (with_reducible assumption) | assumption)
                  obtain ⟨ad231, A231_0, c231_0, A231_1, c231_1, e231, hx231_0, hx231_1, hl231_0, hi231_0, hl231_1, hi231_1⟩ := at_T37 HR1.out 0 p231 q231
                  have hw231_1 := hx231_1
                  (try rw [show ((0 : Int)).toNat = 0 from rfl] at hw231_1)
                  (try rw [show 0 * 2 = 0 from rfl] at hw231_1)
                  (try rw [Addr.add_zero'] at hw231_1)
                  have hw231_0 := hx231_0
                  (try rw [show ((0 : Int)).toNat = 0 from rfl] at hw231_0)
                  (try rw [show 0 * 2 = 0 from rfl] at hw231_0)
                  (try rw [Addr.add_zero'] at hw231_0)
                  obtain rfl : ad223 = ad231 := (by injection e231)
                  have qi231 : (0 < l1.length) = True := eq_true (by omega)
                  (try rw [show ((0 : Int)).toNat = 0 from rfl] at hx231_0)
                  (try rw [show 0 * 2 = 0 from rfl] at hx231_0)
                  (try rw [Addr.add_zero'] at hx231_0)
                  (try rw [show ((0 : Int)).toNat = 0 from rfl] at hx231_1)
                  (try rw [show 0 * 2 = 0 from rfl] at hx231_1)
                  (try rw [Addr.add_zero'] at hx231_1)
                  replace hx231_0 := (HB.out.cell (World.block_lt_of_cell? w _ hx231_0)).trans hx231_0
                  replace hx231_1 := (HB.out.cell (World.block_lt_of_cell? w _ hx231_1)).trans hx231_1
                  have HR231_0 := aS hi231_0
                  have HC231_0 := aS hl231_0
                  clear hi231_0 hl231_0
                  have HR231_1 := aS hi231_1
                  have HC231_1 := aS hl231_1
                  clear hi231_1 hl231_1
                  replace p231 := eq_true p231
                  replace q231 := eq_true q231
                  have p232 : 0 ≤ (x11_2 : Int) := of_decide_eq_true (by first | (with_reducible assumption) | assumption)
                  have q232 : x11_2 < (((rd_T37 l1 0).f1).length : Int) := of_decide_eq_true (by first | (with_reducible assumption) | assumption)
                  obtain ⟨ad232, e232, hx232_0⟩ := Kd.at_int HR231_1.out x11_2 p232 q232
                  have hw232_0 := hx232_0
                  cases e232
                  replace hx232_0 := (HB.out.cell (World.block_lt_of_cell? w _ hx232_0)).trans hx232_0
                  replace p232 := eq_true p232
                  replace q232 := eq_true q232
                  have p233 : 0 ≤ ((rd ((rd_T37 l1 0).f1) x11_2) : Int) := of_decide_eq_true (by first | (with_reducible assumption) | assumption)
                  have q233 : (rd ((rd_T37 l1 0).f1) x11_2) < (l0.length : Int) := of_decide_eq_true (by first | (with_reducible assumption) | assumption)
                  obtain ⟨ad233, e233, hx233_0, hx233_1, hx233_2⟩ := at_T68 HR0.out (rd ((rd_T37 l1 0).f1) x11_2) p233 q233
                  have hw233_2 := hx233_2
                  have hw233_1 := hx233_1
                  have hw233_0 := hx233_0
                  cases e233
                  replace hx233_0 := (HB.out.cell (World.block_lt_of_cell? w _ hx233_0)).trans hx233_0
                  replace hx233_1 := (HB.out.cell (World.block_lt_of_cell? w _ hx233_1)).trans hx233_1
                  replace hx233_2 := (HB.out.cell (World.block_lt_of_cell? w _ hx233_2)).trans hx233_2
                  replace p233 := eq_true p233
                  replace q233 := eq_true q233
                  have p234 : 0 ≤ (0 : Int) := (by omega)
                  have q234 : 0 < (l1.length : Int) := of_decide_eq_true (by first | (with_reducible assumption) | assumption)
                  obtain ⟨ad234, A234_0, c234_0, A234_1, c234_1, e234, hx234_0, hx234_1, hl234_0, hi234_0, hl234_1, hi234_1⟩ := at_T37 HR1.out 0 p234 q234
                  have hw234_1 := hx234_1
                  (try rw [show ((0 : Int)).toNat = 0 from rfl] at hw234_1)
                  (try rw [show 0 * 2 = 0 from rfl] at hw234_1)
                  (try rw [Addr.add_zero'] at hw234_1)
                  have hw234_0 := hx234_0
                  (try rw [show ((0 : Int)).toNat = 0 from rfl] at hw234_0)
                  (try rw [show 0 * 2 = 0 from rfl] at hw234_0)
                  (try rw [Addr.add_zero'] at hw234_0)
                  obtain rfl : ad223 = ad234 := (by injection e234)
                  have qi234 : (0 < l1.length) = True := eq_true (by omega)
                  (try rw [show ((0 : Int)).toNat = 0 from rfl] at hx234_0)
                  (try rw [show 0 * 2 = 0 from rfl] at hx234_0)
                  (try rw [Addr.add_zero'] at hx234_0)
                  (try rw [show ((0 : Int)).toNat = 0 from rfl] at hx234_1)
                  (try rw [show 0 * 2 = 0 from rfl] at hx234_1)
                  (try rw [Addr.add_zero'] at hx234_1)
                  replace hx234_0 := (HB.out.cell (World.block_lt_of_cell? w _ hx234_0)).trans hx234_0
                  replace hx234_1 := (HB.out.cell (World.block_lt_of_cell? w _ hx234_1)).trans hx234_1
                  have HR234_0 := aS hi234_0
                  have HC234_0 := aS hl234_0
                  clear hi234_0 hl234_0
                  have HR234_1 := aS hi234_1
                  have HC234_1 := aS hl234_1
                  clear hi234_1 hl234_1
                  replace p234 := eq_true p234
                  replace q234 := eq_true q234
                  have ea_ := Option.some.inj (hx231_0.symm.trans hx234_0)
                  injection ea_ with ea_ en_ ec_
                  subst ea_
                  subst ec_
                  clear en_
                  have ea_ := Option.some.inj (hx231_1.symm.trans hx234_1)
                  injection ea_ with ea_ en_ ec_
                  subst ea_
                  subst ec_
                  clear en_
                  have p235 : 0 ≤ (x11_2 : Int) := of_decide_eq_true (by first | (with_reducible assumption) | assumption)
                  have q235 : x11_2 < (((rd_T37 l1 0).f0).length : Int) := of_decide_eq_true (by first | (with_reducible assumption) | assumption)
                  obtain ⟨ad235, e235, hx235_0, hx235_1⟩ := at_T44 HR234_0.out x11_2 p235 q235
                  have hw235_1 := hx235_1
                  have hw235_0 := hx235_0
                  cases e235
                  replace hx235_0 := (HB.out.cell (World.block_lt_of_cell? w _ hx235_0)).trans hx235_0
                  replace hx235_1 := (HB.out.cell (World.block_lt_of_cell? w _ hx235_1)).trans hx235_1
                  replace p235 := eq_true p235
                  replace q235 := eq_true q235
                  have p236 : 0 ≤ (0 : Int) := (by omega)
                  have q236 : 0 < (l1.length : Int) := of_decide_eq_true (by first | (with_reducible assumption) | assumption)
                  obtain ⟨ad236, A236_0, c236_0, A236_1, c236_1, e236, hx236_0, hx236_1, hl236_0, hi236_0, hl236_1, hi236_1⟩ := at_T37 HR1.out 0 p236 q236
                  have hw236_1 := hx236_1
                  (try rw [show ((0 : Int)).toNat = 0 from rfl] at hw236_1)
                  (try rw [show 0 * 2 = 0 from rfl] at hw236_1)
                  (try rw [Addr.add_zero'] at hw236_1)
                  have hw236_0 := hx236_0
                  (try rw [show ((0 : Int)).toNat = 0 from rfl] at hw236_0)
                  (try rw [show 0 * 2 = 0 from rfl] at hw236_0)
                  (try rw [Addr.add_zero'] at hw236_0)
                  obtain rfl : ad223 = ad236 := (by injection e236)
                  have qi236 : (0 < l1.length) = True := eq_true (by omega)
                  (try rw [show ((0 : Int)).toNat = 0 from rfl] at hx236_0)
                  (try rw [show 0 * 2 = 0 from rfl] at hx236_0)
                  (try rw [Addr.add_zero'] at hx236_0)
                  (try rw [show ((0 : Int)).toNat = 0 from rfl] at hx236_1)
                  (try rw [show 0 * 2 = 0 from rfl] at hx236_1)
                  (try rw [Addr.add_zero'] at hx236_1)
                  replace hx236_0 := (HB.out.cell (World.block_lt_of_cell? w _ hx236_0)).trans hx236_0
                  replace hx236_1 := (HB.out.cell (World.block_lt_of_cell? w _ hx236_1)).trans hx236_1
                  have HR236_0 := aS hi236_0
                  have HC236_0 := aS hl236_0
                  clear hi236_0 hl236_0
                  have HR236_1 := aS hi236_1
                  have HC236_1 := aS hl236_1
                  clear hi236_1 hl236_1
                  replace p236 := eq_true p236
                  replace q236 := eq_true q236
                  have ea_ := Option.some.inj (hx231_0.symm.trans hx236_0)
                  injection ea_ with ea_ en_ ec_
                  subst ea_
                  subst ec_
                  clear en_
                  have ea_ := Option.some.inj (hx231_1.symm.trans hx236_1)
                  injection ea_ with ea_ en_ ec_
                  subst ea_
                  subst ec_
                  clear en_
                  have p237 : 0 ≤ ((ji15) : Int) := of_decide_eq_true (by first | (with_reducible assumption) | assumption)
                  have q237 : (ji15) < (((rd_T37 l1 0).f0).length : Int) := of_decide_eq_true (by first | (with_reducible assumption) | assumption)
                  obtain ⟨ad237, e237, hx237_0, hx237_1⟩ := at_T44 HR236_0.out (ji15) p237 q237
                  have hw237_1 := hx237_1
                  have hw237_0 := hx237_0
                  cases e237
                  replace hx237_0 := (HB.out.cell (World.block_lt_of_cell? w _ hx237_0)).trans hx237_0
                  replace hx237_1 := (HB.out.cell (World.block_lt_of_cell? w _ hx237_1)).trans hx237_1
                  replace p237 := eq_true p237
                  replace q237 := eq_true q237
                  refine start_ (n := 26) (S := fun w' => w'.cell? ad223 = some (.slice (some ad235) ((rd_T37 l1 0).f0).length c231_0) ∧ w'.cell? ⟨ad223.block, ad223.off + 1, none⟩ = some (.slice (some ad232) ((rd_T37 l1 0).f1).length c231_1) ∧ w'.cell? (ad232.add (x11_2).toNat) = some (.int .i64 (rd ((rd_T37 l1 0).f1) x11_2)) ∧ w'.cell? (ad233.add (((rd ((rd_T37 l1 0).f1) x11_2)).toNat * 3)) = some (.string ((rd_T68 l0 (rd ((rd_T37 l1 0).f1) x11_2)).f0)) ∧ w'.cell? ⟨(ad233.add (((rd ((rd_T37 l1 0).f1) x11_2)).toNat * 3)).block, (ad233.add (((rd ((rd_T37 l1 0).f1) x11_2)).toNat * 3)).off + 1, none⟩ = some (.int .i64 ((rd_T68 l0 (rd ((rd_T37 l1 0).f1) x11_2)).f1)) ∧ w'.cell? ⟨(ad233.add (((rd ((rd_T37 l1 0).f1) x11_2)).toNat * 3)).block, (ad233.add (((rd ((rd_T37 l1 0).f1) x11_2)).toNat * 3)).off + 2, none⟩ = some (.int .i64 ((rd_T68 l0 (rd ((rd_T37 l1 0).f1) x11_2)).f2)) ∧ w'.cell? ad223 = some (.slice (some ad235) ((rd_T37 l1 0).f0).length c231_0) ∧ w'.cell? ⟨ad223.block, ad223.off + 1, none⟩ = some (.slice (some ad232) ((rd_T37 l1 0).f1).length c231_1) ∧ w'.cell? (ad235.add ((x11_2).toNat * 2)) = some (.int .i64 ((rd_T44 ((rd_T37 l1 0).f0) x11_2).f0)) ∧ w'.cell? ⟨(ad235.add ((x11_2).toNat * 2)).block, (ad235.add ((x11_2).toNat * 2)).off + 1, none⟩ = some (.int .i64 ((rd_T44 ((rd_T37 l1 0).f0) x11_2).f1)) ∧ w'.cell? ad223 = some (.slice (some ad235) ((rd_T37 l1 0).f0).length c231_0) ∧ w'.cell? ⟨ad223.block, ad223.off + 1, none⟩ = some (.slice (some ad232) ((rd_T37 l1 0).f1).length c231_1) ∧ w'.cell? (ad235.add (((ji15)).toNat * 2)) = some (.int .i64 ((rd_T44 ((rd_T37 l1 0).f0) (ji15)).f0)) ∧ w'.cell? ⟨(ad235.add (((ji15)).toNat * 2)).block, (ad235.add (((ji15)).toNat * 2)).off + 1, none⟩ = some (.int .i64 ((rd_T44 ((rd_T37 l1 0).f0) (ji15)).f1))) (ds := []) #[false, false, false, false, false, false, false, false, false, false, false, false, false, false, false, false, false, false, false, false, false, false, false, false, false, false] (by kernel_rfl) rfl rfl ⟨((HB.out.cell (World.block_lt_of_cell? w _ hw231_0)).trans hw231_0), ((HB.out.cell (World.block_lt_of_cell? w _ hw231_1)).trans hw231_1), ((HB.out.cell (World.block_lt_of_cell? w _ hw232_0)).trans hw232_0), ((HB.out.cell (World.block_lt_of_cell? w _ hw233_0)).trans hw233_0), ((HB.out.cell (World.block_lt_of_cell? w _ hw233_1)).trans hw233_1), ((HB.out.cell (World.block_lt_of_cell? w _ hw233_2)).trans hw233_2), ((HB.out.cell (World.block_lt_of_cell? w _ hw234_0)).trans hw234_0), ((HB.out.cell (World.block_lt_of_cell? w _ hw234_1)).trans hw234_1), ((HB.out.cell (World.block_lt_of_cell? w _ hw235_0)).trans hw235_0), ((HB.out.cell (World.block_lt_of_cell? w _ hw235_1)).trans hw235_1), ((HB.out.cell (World.block_lt_of_cell? w _ hw236_0)).trans hw236_0), ((HB.out.cell (World.block_lt_of_cell? w _ hw236_1)).trans hw236_1), ((HB.out.cell (World.block_lt_of_cell? w _ hw237_0)).trans hw237_0), ((HB.out.cell (World.block_lt_of_cell? w _ hw237_1)).trans hw237_1)⟩ (fun hHeld => ?_); refine with_tabW spec_l03WeakestAt.tab13 spec_l03WeakestAt.bits13 (fun HT_ HW_ => ?_)
                  generalize wr.drew = w20 at HB HR231_0 HR231_1 HR234_0 HR234_1 HR236_0 HR236_1 hx231_0 hx231_1 hx232_0 hx233_0 hx233_1 hx233_2 hx234_0 hx234_1 hx235_0 hx235_1 hx236_0 hx236_1 hx237_0 hx237_1 hHeld ⊢
                  refine pure_ (i := 0) (N := some 60) (v := ?_) (a' := ?_) #[true, false, false, false, false, false, false, false, false, false, false, false, false, false, false, false, false, false, false, false, false, false, false, false, false, false] rfl rfl (any_of HT_.out (by kernel_rfl)) (fun _ _ _ h => h) (Or.inl ⟨by rfl, ?_⟩) ?_ ?_
                  rotate_left
                  ·
                   intro w'
                   go_simp
                   with_reducible rfl
                  rotate_left
                  ·
                   simp only [Act.put, List.setIfInBounds_toArray, List.set_cons_zero, List.set_cons_succ, i64_w, i32_w]
                   rfl
                  refine pure_ (i := 1) (N := some 61) (v := ?_) (a' := ?_) #[true, true, false, false, false, false, false, false, false, false, false, false, false, false, false, false, false, false, false, false, false, false, false, false, false, false] rfl rfl (any_of HT_.out (by kernel_rfl)) (fun _ _ _ h => h) (Or.inl ⟨by rfl, ?_⟩) ?_ ?_
                  rotate_left
                  ·
                   intro w'
                   go_simp
                   with_reducible rfl
                  rotate_left
                  ·
                   simp only [Act.put, List.setIfInBounds_toArray, List.set_cons_zero, List.set_cons_succ, i64_w, i32_w]
                   rfl
                  refine pure_ (i := 2) (N := some 62) (v := ?_) (a' := ?_) #[true, true, true, false, false, false, false, false, false, false, false, false, false, false, false, false, false, false, false, false, false, false, false, false, false, false] rfl rfl (any_of HT_.out (by kernel_rfl)) (fun _ _ _ h => h) (Or.inl ⟨by rfl, ?_⟩) ?_ ?_
                  rotate_left
                  ·
                   intro w'
                   go_simp
                   with_reducible rfl
                  rotate_left
                  ·
                   simp only [Act.put, List.setIfInBounds_toArray, List.set_cons_zero, List.set_cons_succ, i64_w, i32_w]
                   rfl
                  refine pure_ (i := 3) (N := some 63) (v := ?_) (a' := ?_) #[true, true, true, true, false, false, false, false, false, false, false, false, false, false, false, false, false, false, false, false, false, false, false, false, false, false] rfl rfl (any_of HT_.out (by kernel_rfl)) (fun _ _ _ h => h) (Or.inl ⟨by rfl, ?_⟩) ?_ ?_
                  rotate_left
                  ·
                   intro w'
                   go_simp
                   with_reducible rfl
                  rotate_left
                  ·
                   simp only [Act.put, List.setIfInBounds_toArray, List.set_cons_zero, List.set_cons_succ, i64_w, i32_w]
                   rfl
                  refine pure_ (i := 5) (N := some 65) (v := ?_) (a' := ?_) #[true, true, true, true, false, true, false, false, false, false, false, false, false, false, false, false, false, false, false, false, false, false, false, false, false, false] rfl rfl (any_of HT_.out (by kernel_rfl)) (fun _ _ _ h => h) (Or.inl ⟨by rfl, ?_⟩) ?_ ?_
                  rotate_left
                  ·
                   intro w'
                   go_simp
                   with_reducible rfl
                  rotate_left
                  ·
                   simp only [Act.put, List.setIfInBounds_toArray, List.set_cons_zero, List.set_cons_succ, i64_w, i32_w]
                   rfl
                  refine pure_ (i := 9) (N := some 69) (v := ?_) (a' := ?_) #[true, true, true, true, false, true, false, false, false, true, false, false, false, false, false, false, false, false, false, false, false, false, false, false, false, false] rfl rfl (any_of HT_.out (by kernel_rfl)) (fun _ _ _ h => h) (Or.inl ⟨by rfl, ?_⟩) ?_ ?_
                  rotate_left
                  ·
                   intro w'
                   go_simp
                   with_reducible rfl
                  rotate_left
                  ·
                   simp only [Act.put, List.setIfInBounds_toArray, List.set_cons_zero, List.set_cons_succ, i64_w, i32_w]
                   rfl
                  refine pure_ (i := 10) (N := some 70) (v := ?_) (a' := ?_) #[true, true, true, true, false, true, false, false, false, true, true, false, false, false, false, false, false, false, false, false, false, false, false, false, false, false] rfl rfl (any_of HT_.out (by kernel_rfl)) (fun _ _ _ h => h) (Or.inl ⟨by rfl, ?_⟩) ?_ ?_
                  rotate_left
                  ·
                   intro w'
                   go_simp
                   with_reducible rfl
                  rotate_left
                  ·
                   simp only [Act.put, List.setIfInBounds_toArray, List.set_cons_zero, List.set_cons_succ, i64_w, i32_w]
                   rfl
                  refine pure_ (i := 11) (N := some 71) (v := ?_) (a' := ?_) #[true, true, true, true, false, true, false, false, false, true, true, true, false, false, false, false, false, false, false, false, false, false, false, false, false, false] rfl rfl (any_of HT_.out (by kernel_rfl)) (fun _ _ _ h => h) (Or.inl ⟨by rfl, ?_⟩) ?_ ?_
                  rotate_left
                  ·
                   intro w'
                   go_simp
                   with_reducible rfl
                  rotate_left
                  ·
                   simp only [Act.put, List.setIfInBounds_toArray, List.set_cons_zero, List.set_cons_succ, i64_w, i32_w]
                   rfl
                  refine pure_ (i := 13) (N := some 73) (v := ?_) (a' := ?_) #[true, true, true, true, false, true, false, false, false, true, true, true, false, true, false, false, false, false, false, false, false, false, false, false, false, false] rfl rfl (any_of HT_.out (by kernel_rfl)) (fun _ _ _ h => h) (Or.inl ⟨by rfl, ?_⟩) ?_ ?_
                  rotate_left
                  ·
                   intro w'
                   go_simp
                   with_reducible rfl
                  rotate_left
                  ·
                   simp only [Act.put, List.setIfInBounds_toArray, List.set_cons_zero, List.set_cons_succ, i64_w, i32_w]
                   rfl
                  refine pure_ (i := 16) (N := some 76) (v := ?_) (a' := ?_) #[true, true, true, true, false, true, false, false, false, true, true, true, false, true, false, false, true, false, false, false, false, false, false, false, false, false] rfl rfl (any_of HT_.out (by kernel_rfl)) (fun _ _ _ h => h) (Or.inl ⟨by rfl, ?_⟩) ?_ ?_
                  rotate_left
                  ·
                   intro w'
                   go_simp
                   with_reducible rfl
                  rotate_left
                  ·
                   simp only [Act.put, List.setIfInBounds_toArray, List.set_cons_zero, List.set_cons_succ, i64_w, i32_w]
                   rfl
                  refine pure_ (i := 17) (N := some 77) (v := ?_) (a' := ?_) #[true, true, true, true, false, true, false, false, false, true, true, true, false, true, false, false, true, true, false, false, false, false, false, false, false, false] rfl rfl (any_of HT_.out (by kernel_rfl)) (fun _ _ _ h => h) (Or.inl ⟨by rfl, ?_⟩) ?_ ?_
                  rotate_left
                  ·
                   intro w'
                   go_simp
                   with_reducible rfl
                  rotate_left
                  ·
                   simp only [Act.put, List.setIfInBounds_toArray, List.set_cons_zero, List.set_cons_succ, i64_w, i32_w]
                   rfl
                  refine pure_ (i := 18) (N := some 78) (v := ?_) (a' := ?_) #[true, true, true, true, false, true, false, false, false, true, true, true, false, true, false, false, true, true, true, false, false, false, false, false, false, false] rfl rfl (any_of HT_.out (by kernel_rfl)) (fun _ _ _ h => h) (Or.inl ⟨by rfl, ?_⟩) ?_ ?_
                  rotate_left
                  ·
                   intro w'
                   go_simp
                   with_reducible rfl
                  rotate_left
                  ·
                   simp only [Act.put, List.setIfInBounds_toArray, List.set_cons_zero, List.set_cons_succ, i64_w, i32_w]
                   rfl
                  refine pure_ (i := 20) (N := some 80) (v := ?_) (a' := ?_) #[true, true, true, true, false, true, false, false, false, true, true, true, false, true, false, false, true, true, true, false, true, false, false, false, false, false] rfl rfl (any_of HT_.out (by kernel_rfl)) (fun _ _ _ h => h) (Or.inl ⟨by rfl, ?_⟩) ?_ ?_
                  rotate_left
                  ·
                   intro w'
                   go_simp
                   with_reducible rfl
                  rotate_left
                  ·
                   simp only [Act.put, List.setIfInBounds_toArray, List.set_cons_zero, List.set_cons_succ, i64_w, i32_w]
                   rfl
                  refine pure_ (i := 21) (N := some 81) (v := ?_) (a' := ?_) #[true, true, true, true, false, true, false, false, false, true, true, true, false, true, false, false, true, true, true, false, true, true, false, false, false, false] rfl rfl (any_of HT_.out (by kernel_rfl)) (fun _ _ _ h => h) (Or.inl ⟨by rfl, ?_⟩) ?_ ?_
                  rotate_left
                  ·
                   intro w'
                   go_simp
                   with_reducible rfl
                  rotate_left
                  ·
                   simp only [Act.put, List.setIfInBounds_toArray, List.set_cons_zero, List.set_cons_succ, i64_w, i32_w]
                   rfl
                  refine take_ (i := 4) (N := some 64) (v := ?_) (a' := ?_) #[true, true, true, true, true, true, false, false, false, true, true, true, false, true, false, false, true, true, true, false, true, true, false, false, false, false] rfl rfl (take_ofW HT_.out HW_.out (by kernel_rfl)) (fun _ _ _ h => h) (Or.inl ⟨by rfl, ?_⟩) hHeld ?_ ?_
                  rotate_left
                  ·
                   rintro w' ⟨s0, s1, s2, s3, s4, s5, s6, s7, s8, s9, s10, s11, s12, s13⟩
                   go_simp
                   with_reducible rfl
                  rotate_left
                  ·
                   simp only [Act.put, List.setIfInBounds_toArray, List.set_cons_zero, List.set_cons_succ, i64_w, i32_w]
                   rfl
                  refine pure_ (i := 6) (N := some 66) (v := ?_) (a' := ?_) #[true, true, true, true, true, true, true, false, false, true, true, true, false, true, false, false, true, true, true, false, true, true, false, false, false, false] rfl rfl (any_of HT_.out (by kernel_rfl)) (fun _ _ _ h => h) (Or.inl ⟨by rfl, ?_⟩) ?_ ?_
                  rotate_left
                  ·
                   intro w'
                   go_simp
                   with_reducible rfl
                  rotate_left
                  ·
                   simp only [Act.put, List.setIfInBounds_toArray, List.set_cons_zero, List.set_cons_succ, i64_w, i32_w]
                   rfl
                  refine take_ (i := 7) (N := some 67) (v := ?_) (a' := ?_) #[true, true, true, true, true, true, true, true, false, true, true, true, false, true, false, false, true, true, true, false, true, true, false, false, false, false] rfl rfl (take_ofW HT_.out HW_.out (by kernel_rfl)) (fun _ _ _ h => h) (Or.inl ⟨by rfl, ?_⟩) hHeld ?_ ?_
                  rotate_left
                  ·
                   rintro w' ⟨s0, s1, s2, s3, s4, s5, s6, s7, s8, s9, s10, s11, s12, s13⟩
                   go_simp
                   with_reducible rfl
                  rotate_left
                  ·
                   simp only [Act.put, List.setIfInBounds_toArray, List.set_cons_zero, List.set_cons_succ, i64_w, i32_w]
                   rfl
                  refine pure_ (i := 8) (N := some 68) (v := ?_) (a' := ?_) #[true, true, true, true, true, true, true, true, true, true, true, true, false, true, false, false, true, true, true, false, true, true, false, false, false, false] rfl rfl (any_of HT_.out (by kernel_rfl)) (fun _ _ _ h => h) (Or.inl ⟨by rfl, ?_⟩) ?_ ?_
                  rotate_left
                  ·
                   intro w'
                   go_simp
                   with_reducible rfl
                  rotate_left
                  ·
                   simp only [Act.put, List.setIfInBounds_toArray, List.set_cons_zero, List.set_cons_succ, i64_w, i32_w]
                   rfl
                  refine take_ (i := 12) (N := some 72) (v := ?_) (a' := ?_) #[true, true, true, true, true, true, true, true, true, true, true, true, true, true, false, false, true, true, true, false, true, true, false, false, false, false] rfl rfl (take_ofW HT_.out HW_.out (by kernel_rfl)) (fun _ _ _ h => h) (Or.inl ⟨by rfl, ?_⟩) hHeld ?_ ?_
                  rotate_left
                  ·
                   rintro w' ⟨s0, s1, s2, s3, s4, s5, s6, s7, s8, s9, s10, s11, s12, s13⟩
                   go_simp
                   with_reducible rfl
                  rotate_left
                  ·
                   simp only [Act.put, List.setIfInBounds_toArray, List.set_cons_zero, List.set_cons_succ, i64_w, i32_w]
                   rfl
                  refine pure_ (i := 14) (N := some 74) (v := ?_) (a' := ?_) #[true, true, true, true, true, true, true, true, true, true, true, true, true, true, true, false, true, true, true, false, true, true, false, false, false, false] rfl rfl (any_of HT_.out (by kernel_rfl)) (fun _ _ _ h => h) (Or.inl ⟨by rfl, ?_⟩) ?_ ?_
                  rotate_left
                  ·
                   intro w'
                   go_simp
                   with_reducible rfl
                  rotate_left
                  ·
                   simp only [Act.put, List.setIfInBounds_toArray, List.set_cons_zero, List.set_cons_succ, i64_w, i32_w]
                   rfl
                  refine take_ (i := 15) (N := some 75) (v := ?_) (a' := ?_) #[true, true, true, true, true, true, true, true, true, true, true, true, true, true, true, true, true, true, true, false, true, true, false, false, false, false] rfl rfl (take_ofW HT_.out HW_.out (by kernel_rfl)) (fun _ _ _ h => h) (Or.inl ⟨by rfl, ?_⟩) hHeld ?_ ?_
                  rotate_left
                  ·
                   rintro w' ⟨s0, s1, s2, s3, s4, s5, s6, s7, s8, s9, s10, s11, s12, s13⟩
                   go_simp
                   with_reducible rfl
                  rotate_left
                  ·
                   simp only [Act.put, List.setIfInBounds_toArray, List.set_cons_zero, List.set_cons_succ, i64_w, i32_w]
                   rfl
                  refine take_ (i := 19) (N := some 79) (v := ?_) (a' := ?_) #[true, true, true, true, true, true, true, true, true, true, true, true, true, true, true, true, true, true, true, true, true, true, false, false, false, false] rfl rfl (take_ofW HT_.out HW_.out (by kernel_rfl)) (fun _ _ _ h => h) (Or.inl ⟨by rfl, ?_⟩) hHeld ?_ ?_
                  rotate_left
                  ·
                   rintro w' ⟨s0, s1, s2, s3, s4, s5, s6, s7, s8, s9, s10, s11, s12, s13⟩
                   go_simp
                   with_reducible rfl
                  rotate_left
                  ·
                   simp only [Act.put, List.setIfInBounds_toArray, List.set_cons_zero, List.set_cons_succ, i64_w, i32_w]
                   rfl
                  refine pure_ (i := 22) (N := some 82) (v := ?_) (a' := ?_) #[true, true, true, true, true, true, true, true, true, true, true, true, true, true, true, true, true, true, true, true, true, true, true, false, false, false] rfl rfl (any_of HT_.out (by kernel_rfl)) (fun _ _ _ h => h) (Or.inl ⟨by rfl, ?_⟩) ?_ ?_
                  rotate_left
                  ·
                   intro w'
                   go_simp
                   with_reducible rfl
                  rotate_left
                  ·
                   simp only [Act.put, List.setIfInBounds_toArray, List.set_cons_zero, List.set_cons_succ, i64_w, i32_w]
                   rfl
                  refine take_ (i := 23) (N := some 83) (v := ?_) (a' := ?_) #[true, true, true, true, true, true, true, true, true, true, true, true, true, true, true, true, true, true, true, true, true, true, true, true, false, false] rfl rfl (take_ofW HT_.out HW_.out (by kernel_rfl)) (fun _ _ _ h => h) (Or.inl ⟨by rfl, ?_⟩) hHeld ?_ ?_
                  rotate_left
                  ·
                   rintro w' ⟨s0, s1, s2, s3, s4, s5, s6, s7, s8, s9, s10, s11, s12, s13⟩
                   go_simp
                   with_reducible rfl
                  rotate_left
                  ·
                   simp only [Act.put, List.setIfInBounds_toArray, List.set_cons_zero, List.set_cons_succ, i64_w, i32_w]
                   rfl
                  refine one_ (i := 24) (N := some 84) #[true, true, true, true, true, true, true, true, true, true, true, true, true, true, true, true, true, true, true, true, true, true, true, true, true, false] rfl rfl (one_of HT_.out (by kernel_rfl)) (by decide) (fun K hK => ?_)
                  refine goes_ Try.func62 (by kernel_rfl) rfl #[.pointer (some (ad233.add (((rd ((rd_T37 l1 0).f1) x11_2)).toNat * 3))), .agg #[.int .i64 ((rd_T44 ((rd_T37 l1 0).f0) x11_2).f0), .int .i64 ((rd_T44 ((rd_T37 l1 0).f0) x11_2).f1)], .agg #[.int .i64 ((rd_T44 ((rd_T37 l1 0).f0) (ji15)).f0), .int .i64 ((rd_T44 ((rd_T37 l1 0).f0) (ji15)).f1)]] (by rfl) rfl rfl (by (try simp only [List.map_toArray, List.map_cons, List.map_nil]); first | done | (simp only [hji15]; rfl) | rfl | (simp only [List.length_drop, List.length_take]; rfl)) ?_
                  with_reducible refine (spec_l03JoinedAt.calls _ 1 [rd_T68 l0 (rd ((rd_T37 l1 0).f1) x11_2)] ((rd_T44 ((rd_T37 l1 0).f0) x11_2).f0) ((rd_T44 ((rd_T37 l1 0).f0) x11_2).f1) ((rd_T44 ((rd_T37 l1 0).f0) (ji15)).f0) ((rd_T44 ((rd_T37 l1 0).f0) (ji15)).f1) t238 _ ?side1 ?side2 A18.out).mono ?_
                  (case side1 => refine elem_C ?_ z68 (rd ((rd_T37 l1 0).f1) x11_2) (of_decide_eq_true (by first | (with_reducible assumption) | assumption)) (of_decide_eq_true (by first | (with_reducible assumption) | assumption)); repeat (first | exact (Kd.C_below HR0.out HB.out) | (with_reducible refine Kd.C_alloc ?_ _) | (with_reducible refine Kd.C_drewN ?_ _) | (with_reducible refine Kd.C_drew ?_)))
                  (case side2 => exact Nat.le_refl _)
                  rintro e w21 ⟨rfl, hb⟩
                  refine ⟨_, rfl, ?_⟩
                  have n0_ := aS (below_step (sW HB.out) hb)
                  clear HB
                  have HB := n0_
                  clear n0_
                  (try clear hb); (try clear hb2); (try clear hk); (try clear hi)
                  refine hK.out _ _ ⟨((HB.out.cell (World.block_lt_of_cell? w _ hw231_0)).trans hw231_0), ((HB.out.cell (World.block_lt_of_cell? w _ hw231_1)).trans hw231_1), ((HB.out.cell (World.block_lt_of_cell? w _ hw232_0)).trans hw232_0), ((HB.out.cell (World.block_lt_of_cell? w _ hw233_0)).trans hw233_0), ((HB.out.cell (World.block_lt_of_cell? w _ hw233_1)).trans hw233_1), ((HB.out.cell (World.block_lt_of_cell? w _ hw233_2)).trans hw233_2), ((HB.out.cell (World.block_lt_of_cell? w _ hw234_0)).trans hw234_0), ((HB.out.cell (World.block_lt_of_cell? w _ hw234_1)).trans hw234_1), ((HB.out.cell (World.block_lt_of_cell? w _ hw235_0)).trans hw235_0), ((HB.out.cell (World.block_lt_of_cell? w _ hw235_1)).trans hw235_1), ((HB.out.cell (World.block_lt_of_cell? w _ hw236_0)).trans hw236_0), ((HB.out.cell (World.block_lt_of_cell? w _ hw236_1)).trans hw236_1), ((HB.out.cell (World.block_lt_of_cell? w _ hw237_0)).trans hw237_0), ((HB.out.cell (World.block_lt_of_cell? w _ hw237_1)).trans hw237_1)⟩ (fun hHeld => ?_)
                  clear hK K
                  refine norm_ (a' := ?_) ?_ ?_
                  rotate_left
                  ·
                   show Act.put _ (some 84) _ = _
                   simp only [Act.put, List.setIfInBounds_toArray, List.set_cons_zero, List.set_cons_succ, i64_w, i32_w]
                   rfl
                  refine pure_ (i := 25) (N := some 12) (v := ?_) (a' := ?_) #[true, true, true, true, true, true, true, true, true, true, true, true, true, true, true, true, true, true, true, true, true, true, true, true, true, true] rfl rfl (any_of HT_.out (by kernel_rfl)) (fun _ _ _ h => h) (Or.inl ⟨by rfl, ?_⟩) ?_ ?_
                  rotate_left
                  ·
                   intro w'
                   go_simp
                   with_reducible rfl
                  rotate_left
                  ·
                   simp only [Act.put, List.setIfInBounds_toArray, List.set_cons_zero, List.set_cons_succ, i64_w, i32_w]
                   rfl
                  refine done_ (done_of HT_.out (by kernel_rfl)) ?_
                  try go_wp2
                  go_roundg k2
                  case measure => have := HK1.out; have := HK2.out; omega
                  case rel => exact ⟨((⟨#[106, 111, 105, 110]⟩ : ByteArray)), (x11_2), (t238), (ji15), (by first | rfl | (simp; done) | (simp [*]; done) | (simp only [i64_w]; done) | (simp [i64_w]; done)), (by first | rfl | (simp; done) | (simp [*]; done) | (simp only [i64_w]; done) | (simp [i64_w]; done)), (by first | rfl | (simp; done) | (simp [*]; done) | (simp only [i64_w]; done) | (simp [i64_w]; done)), (by first | rfl | (simp; done) | (simp only [← hji15] <;> (first | rfl | simp)) | (simp [*]; done) | (simp only [i64_w]; done) | (simp [i64_w]; done)), H', ⟨by have := HK1.out; have := HK2.out; omega⟩, ⟨by repeat (first | (with_reducible first | exact HB.out | apply below_alloc | apply pw_below_drewN | apply below_drew1) | exact HB.out)⟩⟩
                 ·
                  rw [if_neg c19] at H
                  have c19b0 : decide (t238 < x9_2) = false := decide_eq_false c19
                  clear c19
                  have H' := aS H
                  clear H
                  have p230 : 0 ≤ (0 : Int) := (by omega)
                  have q230 : 0 < (l1.length : Int) := of_decide_eq_true (by first | (with_reducible assumption) | assumption)
                  obtain ⟨ad230, A230_0, c230_0, A230_1, c230_1, e230, hx230_0, hx230_1, hl230_0, hi230_0, hl230_1, hi230_1⟩ := at_T37 HR1.out 0 p230 q230
                  obtain rfl : ad223 = ad230 := (by injection e230)
                  have qi230 : (0 < l1.length) = True := eq_true (by omega)
                  (try rw [show ((0 : Int)).toNat = 0 from rfl] at hx230_0)
                  (try rw [show 0 * 2 = 0 from rfl] at hx230_0)
                  (try rw [Addr.add_zero'] at hx230_0)
                  (try rw [show ((0 : Int)).toNat = 0 from rfl] at hx230_1)
                  (try rw [show 0 * 2 = 0 from rfl] at hx230_1)
                  (try rw [Addr.add_zero'] at hx230_1)
                  replace hx230_0 := (HB.out.cell (World.block_lt_of_cell? w _ hx230_0)).trans hx230_0
                  replace hx230_1 := (HB.out.cell (World.block_lt_of_cell? w _ hx230_1)).trans hx230_1
                  have HR230_0 := aS hi230_0
                  have HC230_0 := aS hl230_0
                  clear hi230_0 hl230_0
                  have HR230_1 := aS hi230_1
                  have HC230_1 := aS hl230_1
                  clear hi230_1 hl230_1
                  replace p230 := eq_true p230
                  replace q230 := eq_true q230
                  try go_wp2
                  have n0_ := aS (below_drew1 HB.out)
                  clear HB
                  have HB := n0_
                  clear n0_
                  have p231 : 0 ≤ (0 : Int) := (by omega)
                  have q231 : 0 < (l1.length : Int) := of_decide_eq_true (by first | (with_reducible assumption) | assumption)
                  obtain ⟨ad231, A231_0, c231_0, A231_1, c231_1, e231, hx231_0, hx231_1, hl231_0, hi231_0, hl231_1, hi231_1⟩ := at_T37 HR1.out 0 p231 q231
                  have hw231_1 := hx231_1
                  (try rw [show ((0 : Int)).toNat = 0 from rfl] at hw231_1)
                  (try rw [show 0 * 2 = 0 from rfl] at hw231_1)
                  (try rw [Addr.add_zero'] at hw231_1)
                  have hw231_0 := hx231_0
                  (try rw [show ((0 : Int)).toNat = 0 from rfl] at hw231_0)
                  (try rw [show 0 * 2 = 0 from rfl] at hw231_0)
                  (try rw [Addr.add_zero'] at hw231_0)
                  obtain rfl : ad223 = ad231 := (by injection e231)
                  have qi231 : (0 < l1.length) = True := eq_true (by omega)
                  (try rw [show ((0 : Int)).toNat = 0 from rfl] at hx231_0)
                  (try rw [show 0 * 2 = 0 from rfl] at hx231_0)
                  (try rw [Addr.add_zero'] at hx231_0)
                  (try rw [show ((0 : Int)).toNat = 0 from rfl] at hx231_1)
                  (try rw [show 0 * 2 = 0 from rfl] at hx231_1)
                  (try rw [Addr.add_zero'] at hx231_1)
                  replace hx231_0 := (HB.out.cell (World.block_lt_of_cell? w _ hx231_0)).trans hx231_0
                  replace hx231_1 := (HB.out.cell (World.block_lt_of_cell? w _ hx231_1)).trans hx231_1
                  have HR231_0 := aS hi231_0
                  have HC231_0 := aS hl231_0
                  clear hi231_0 hl231_0
                  have HR231_1 := aS hi231_1
                  have HC231_1 := aS hl231_1
                  clear hi231_1 hl231_1
                  replace p231 := eq_true p231
                  replace q231 := eq_true q231
                  have p232 : 0 ≤ (x11_2 : Int) := of_decide_eq_true (by first | (with_reducible assumption) | assumption)
                  have q232 : x11_2 < (((rd_T37 l1 0).f1).length : Int) := of_decide_eq_true (by first | (with_reducible assumption) | assumption)
                  obtain ⟨ad232, e232, hx232_0⟩ := Kd.at_int HR231_1.out x11_2 p232 q232
                  have hw232_0 := hx232_0
                  cases e232
                  replace hx232_0 := (HB.out.cell (World.block_lt_of_cell? w _ hx232_0)).trans hx232_0
                  replace p232 := eq_true p232
                  replace q232 := eq_true q232
                  have p233 : 0 ≤ ((rd ((rd_T37 l1 0).f1) x11_2) : Int) := of_decide_eq_true (by first | (with_reducible assumption) | assumption)
                  have q233 : (rd ((rd_T37 l1 0).f1) x11_2) < (l0.length : Int) := of_decide_eq_true (by first | (with_reducible assumption) | assumption)
                  obtain ⟨ad233, e233, hx233_0, hx233_1, hx233_2⟩ := at_T68 HR0.out (rd ((rd_T37 l1 0).f1) x11_2) p233 q233
                  have hw233_2 := hx233_2
                  have hw233_1 := hx233_1
                  have hw233_0 := hx233_0
                  cases e233
                  replace hx233_0 := (HB.out.cell (World.block_lt_of_cell? w _ hx233_0)).trans hx233_0
                  replace hx233_1 := (HB.out.cell (World.block_lt_of_cell? w _ hx233_1)).trans hx233_1
                  replace hx233_2 := (HB.out.cell (World.block_lt_of_cell? w _ hx233_2)).trans hx233_2
                  replace p233 := eq_true p233
                  replace q233 := eq_true q233
                  have p234 : 0 ≤ (0 : Int) := (by omega)
                  have q234 : 0 < (l1.length : Int) := of_decide_eq_true (by first | (with_reducible assumption) | assumption)
                  obtain ⟨ad234, A234_0, c234_0, A234_1, c234_1, e234, hx234_0, hx234_1, hl234_0, hi234_0, hl234_1, hi234_1⟩ := at_T37 HR1.out 0 p234 q234
                  have hw234_1 := hx234_1
                  (try rw [show ((0 : Int)).toNat = 0 from rfl] at hw234_1)
                  (try rw [show 0 * 2 = 0 from rfl] at hw234_1)
                  (try rw [Addr.add_zero'] at hw234_1)
                  have hw234_0 := hx234_0
                  (try rw [show ((0 : Int)).toNat = 0 from rfl] at hw234_0)
                  (try rw [show 0 * 2 = 0 from rfl] at hw234_0)
                  (try rw [Addr.add_zero'] at hw234_0)
                  obtain rfl : ad223 = ad234 := (by injection e234)
                  have qi234 : (0 < l1.length) = True := eq_true (by omega)
                  (try rw [show ((0 : Int)).toNat = 0 from rfl] at hx234_0)
                  (try rw [show 0 * 2 = 0 from rfl] at hx234_0)
                  (try rw [Addr.add_zero'] at hx234_0)
                  (try rw [show ((0 : Int)).toNat = 0 from rfl] at hx234_1)
                  (try rw [show 0 * 2 = 0 from rfl] at hx234_1)
                  (try rw [Addr.add_zero'] at hx234_1)
                  replace hx234_0 := (HB.out.cell (World.block_lt_of_cell? w _ hx234_0)).trans hx234_0
                  replace hx234_1 := (HB.out.cell (World.block_lt_of_cell? w _ hx234_1)).trans hx234_1
                  have HR234_0 := aS hi234_0
                  have HC234_0 := aS hl234_0
                  clear hi234_0 hl234_0
                  have HR234_1 := aS hi234_1
                  have HC234_1 := aS hl234_1
                  clear hi234_1 hl234_1
                  replace p234 := eq_true p234
                  replace q234 := eq_true q234
                  have ea_ := Option.some.inj (hx231_0.symm.trans hx234_0)
                  injection ea_ with ea_ en_ ec_
                  subst ea_
                  subst ec_
                  clear en_
                  have ea_ := Option.some.inj (hx231_1.symm.trans hx234_1)
                  injection ea_ with ea_ en_ ec_
                  subst ea_
                  subst ec_
                  clear en_
                  have p235 : 0 ≤ (x11_2 : Int) := of_decide_eq_true (by first | (with_reducible assumption) | assumption)
                  have q235 : x11_2 < (((rd_T37 l1 0).f0).length : Int) := of_decide_eq_true (by first | (with_reducible assumption) | assumption)
                  obtain ⟨ad235, e235, hx235_0, hx235_1⟩ := at_T44 HR234_0.out x11_2 p235 q235
                  have hw235_1 := hx235_1
                  have hw235_0 := hx235_0
                  cases e235
                  replace hx235_0 := (HB.out.cell (World.block_lt_of_cell? w _ hx235_0)).trans hx235_0
                  replace hx235_1 := (HB.out.cell (World.block_lt_of_cell? w _ hx235_1)).trans hx235_1
                  replace p235 := eq_true p235
                  replace q235 := eq_true q235
                  have p236 : 0 ≤ (0 : Int) := (by omega)
                  have q236 : 0 < (l1.length : Int) := of_decide_eq_true (by first | (with_reducible assumption) | assumption)
                  obtain ⟨ad236, A236_0, c236_0, A236_1, c236_1, e236, hx236_0, hx236_1, hl236_0, hi236_0, hl236_1, hi236_1⟩ := at_T37 HR1.out 0 p236 q236
                  have hw236_1 := hx236_1
                  (try rw [show ((0 : Int)).toNat = 0 from rfl] at hw236_1)
                  (try rw [show 0 * 2 = 0 from rfl] at hw236_1)
                  (try rw [Addr.add_zero'] at hw236_1)
                  have hw236_0 := hx236_0
                  (try rw [show ((0 : Int)).toNat = 0 from rfl] at hw236_0)
                  (try rw [show 0 * 2 = 0 from rfl] at hw236_0)
                  (try rw [Addr.add_zero'] at hw236_0)
                  obtain rfl : ad223 = ad236 := (by injection e236)
                  have qi236 : (0 < l1.length) = True := eq_true (by omega)
                  (try rw [show ((0 : Int)).toNat = 0 from rfl] at hx236_0)
                  (try rw [show 0 * 2 = 0 from rfl] at hx236_0)
                  (try rw [Addr.add_zero'] at hx236_0)
                  (try rw [show ((0 : Int)).toNat = 0 from rfl] at hx236_1)
                  (try rw [show 0 * 2 = 0 from rfl] at hx236_1)
                  (try rw [Addr.add_zero'] at hx236_1)
                  replace hx236_0 := (HB.out.cell (World.block_lt_of_cell? w _ hx236_0)).trans hx236_0
                  replace hx236_1 := (HB.out.cell (World.block_lt_of_cell? w _ hx236_1)).trans hx236_1
                  have HR236_0 := aS hi236_0
                  have HC236_0 := aS hl236_0
                  clear hi236_0 hl236_0
                  have HR236_1 := aS hi236_1
                  have HC236_1 := aS hl236_1
                  clear hi236_1 hl236_1
                  replace p236 := eq_true p236
                  replace q236 := eq_true q236
                  have ea_ := Option.some.inj (hx231_0.symm.trans hx236_0)
                  injection ea_ with ea_ en_ ec_
                  subst ea_
                  subst ec_
                  clear en_
                  have ea_ := Option.some.inj (hx231_1.symm.trans hx236_1)
                  injection ea_ with ea_ en_ ec_
                  subst ea_
                  subst ec_
                  clear en_
                  have p237 : 0 ≤ ((ji15) : Int) := of_decide_eq_true (by first | (with_reducible assumption) | assumption)
                  have q237 : (ji15) < (((rd_T37 l1 0).f0).length : Int) := of_decide_eq_true (by first | (with_reducible assumption) | assumption)
                  obtain ⟨ad237, e237, hx237_0, hx237_1⟩ := at_T44 HR236_0.out (ji15) p237 q237
                  have hw237_1 := hx237_1
                  have hw237_0 := hx237_0
                  cases e237
                  replace hx237_0 := (HB.out.cell (World.block_lt_of_cell? w _ hx237_0)).trans hx237_0
                  replace hx237_1 := (HB.out.cell (World.block_lt_of_cell? w _ hx237_1)).trans hx237_1
                  replace p237 := eq_true p237
                  replace q237 := eq_true q237
                  refine start_ (n := 26) (S := fun w' => w'.cell? ad223 = some (.slice (some ad235) ((rd_T37 l1 0).f0).length c231_0) ∧ w'.cell? ⟨ad223.block, ad223.off + 1, none⟩ = some (.slice (some ad232) ((rd_T37 l1 0).f1).length c231_1) ∧ w'.cell? (ad232.add (x11_2).toNat) = some (.int .i64 (rd ((rd_T37 l1 0).f1) x11_2)) ∧ w'.cell? (ad233.add (((rd ((rd_T37 l1 0).f1) x11_2)).toNat * 3)) = some (.string ((rd_T68 l0 (rd ((rd_T37 l1 0).f1) x11_2)).f0)) ∧ w'.cell? ⟨(ad233.add (((rd ((rd_T37 l1 0).f1) x11_2)).toNat * 3)).block, (ad233.add (((rd ((rd_T37 l1 0).f1) x11_2)).toNat * 3)).off + 1, none⟩ = some (.int .i64 ((rd_T68 l0 (rd ((rd_T37 l1 0).f1) x11_2)).f1)) ∧ w'.cell? ⟨(ad233.add (((rd ((rd_T37 l1 0).f1) x11_2)).toNat * 3)).block, (ad233.add (((rd ((rd_T37 l1 0).f1) x11_2)).toNat * 3)).off + 2, none⟩ = some (.int .i64 ((rd_T68 l0 (rd ((rd_T37 l1 0).f1) x11_2)).f2)) ∧ w'.cell? ad223 = some (.slice (some ad235) ((rd_T37 l1 0).f0).length c231_0) ∧ w'.cell? ⟨ad223.block, ad223.off + 1, none⟩ = some (.slice (some ad232) ((rd_T37 l1 0).f1).length c231_1) ∧ w'.cell? (ad235.add ((x11_2).toNat * 2)) = some (.int .i64 ((rd_T44 ((rd_T37 l1 0).f0) x11_2).f0)) ∧ w'.cell? ⟨(ad235.add ((x11_2).toNat * 2)).block, (ad235.add ((x11_2).toNat * 2)).off + 1, none⟩ = some (.int .i64 ((rd_T44 ((rd_T37 l1 0).f0) x11_2).f1)) ∧ w'.cell? ad223 = some (.slice (some ad235) ((rd_T37 l1 0).f0).length c231_0) ∧ w'.cell? ⟨ad223.block, ad223.off + 1, none⟩ = some (.slice (some ad232) ((rd_T37 l1 0).f1).length c231_1) ∧ w'.cell? (ad235.add (((ji15)).toNat * 2)) = some (.int .i64 ((rd_T44 ((rd_T37 l1 0).f0) (ji15)).f0)) ∧ w'.cell? ⟨(ad235.add (((ji15)).toNat * 2)).block, (ad235.add (((ji15)).toNat * 2)).off + 1, none⟩ = some (.int .i64 ((rd_T44 ((rd_T37 l1 0).f0) (ji15)).f1))) (ds := []) #[false, false, false, false, false, false, false, false, false, false, false, false, false, false, false, false, false, false, false, false, false, false, false, false, false, false] (by kernel_rfl) rfl rfl ⟨((HB.out.cell (World.block_lt_of_cell? w _ hw231_0)).trans hw231_0), ((HB.out.cell (World.block_lt_of_cell? w _ hw231_1)).trans hw231_1), ((HB.out.cell (World.block_lt_of_cell? w _ hw232_0)).trans hw232_0), ((HB.out.cell (World.block_lt_of_cell? w _ hw233_0)).trans hw233_0), ((HB.out.cell (World.block_lt_of_cell? w _ hw233_1)).trans hw233_1), ((HB.out.cell (World.block_lt_of_cell? w _ hw233_2)).trans hw233_2), ((HB.out.cell (World.block_lt_of_cell? w _ hw234_0)).trans hw234_0), ((HB.out.cell (World.block_lt_of_cell? w _ hw234_1)).trans hw234_1), ((HB.out.cell (World.block_lt_of_cell? w _ hw235_0)).trans hw235_0), ((HB.out.cell (World.block_lt_of_cell? w _ hw235_1)).trans hw235_1), ((HB.out.cell (World.block_lt_of_cell? w _ hw236_0)).trans hw236_0), ((HB.out.cell (World.block_lt_of_cell? w _ hw236_1)).trans hw236_1), ((HB.out.cell (World.block_lt_of_cell? w _ hw237_0)).trans hw237_0), ((HB.out.cell (World.block_lt_of_cell? w _ hw237_1)).trans hw237_1)⟩ (fun hHeld => ?_); refine with_tabW spec_l03WeakestAt.tab13 spec_l03WeakestAt.bits13 (fun HT_ HW_ => ?_)
                  generalize wr.drew = w22 at HB HR231_0 HR231_1 HR234_0 HR234_1 HR236_0 HR236_1 hx231_0 hx231_1 hx232_0 hx233_0 hx233_1 hx233_2 hx234_0 hx234_1 hx235_0 hx235_1 hx236_0 hx236_1 hx237_0 hx237_1 hHeld ⊢
                  refine pure_ (i := 0) (N := some 60) (v := ?_) (a' := ?_) #[true, false, false, false, false, false, false, false, false, false, false, false, false, false, false, false, false, false, false, false, false, false, false, false, false, false] rfl rfl (any_of HT_.out (by kernel_rfl)) (fun _ _ _ h => h) (Or.inl ⟨by rfl, ?_⟩) ?_ ?_
                  rotate_left
                  ·
                   intro w'
                   go_simp
                   with_reducible rfl
                  rotate_left
                  ·
                   simp only [Act.put, List.setIfInBounds_toArray, List.set_cons_zero, List.set_cons_succ, i64_w, i32_w]
                   rfl
                  refine pure_ (i := 1) (N := some 61) (v := ?_) (a' := ?_) #[true, true, false, false, false, false, false, false, false, false, false, false, false, false, false, false, false, false, false, false, false, false, false, false, false, false] rfl rfl (any_of HT_.out (by kernel_rfl)) (fun _ _ _ h => h) (Or.inl ⟨by rfl, ?_⟩) ?_ ?_
                  rotate_left
                  ·
                   intro w'
                   go_simp
                   with_reducible rfl
                  rotate_left
                  ·
                   simp only [Act.put, List.setIfInBounds_toArray, List.set_cons_zero, List.set_cons_succ, i64_w, i32_w]
                   rfl
                  refine pure_ (i := 2) (N := some 62) (v := ?_) (a' := ?_) #[true, true, true, false, false, false, false, false, false, false, false, false, false, false, false, false, false, false, false, false, false, false, false, false, false, false] rfl rfl (any_of HT_.out (by kernel_rfl)) (fun _ _ _ h => h) (Or.inl ⟨by rfl, ?_⟩) ?_ ?_
                  rotate_left
                  ·
                   intro w'
                   go_simp
                   with_reducible rfl
                  rotate_left
                  ·
                   simp only [Act.put, List.setIfInBounds_toArray, List.set_cons_zero, List.set_cons_succ, i64_w, i32_w]
                   rfl
                  refine pure_ (i := 3) (N := some 63) (v := ?_) (a' := ?_) #[true, true, true, true, false, false, false, false, false, false, false, false, false, false, false, false, false, false, false, false, false, false, false, false, false, false] rfl rfl (any_of HT_.out (by kernel_rfl)) (fun _ _ _ h => h) (Or.inl ⟨by rfl, ?_⟩) ?_ ?_
                  rotate_left
                  ·
                   intro w'
                   go_simp
                   with_reducible rfl
                  rotate_left
                  ·
                   simp only [Act.put, List.setIfInBounds_toArray, List.set_cons_zero, List.set_cons_succ, i64_w, i32_w]
                   rfl
                  refine pure_ (i := 5) (N := some 65) (v := ?_) (a' := ?_) #[true, true, true, true, false, true, false, false, false, false, false, false, false, false, false, false, false, false, false, false, false, false, false, false, false, false] rfl rfl (any_of HT_.out (by kernel_rfl)) (fun _ _ _ h => h) (Or.inl ⟨by rfl, ?_⟩) ?_ ?_
                  rotate_left
                  ·
                   intro w'
                   go_simp
                   with_reducible rfl
                  rotate_left
                  ·
                   simp only [Act.put, List.setIfInBounds_toArray, List.set_cons_zero, List.set_cons_succ, i64_w, i32_w]
                   rfl
                  refine pure_ (i := 9) (N := some 69) (v := ?_) (a' := ?_) #[true, true, true, true, false, true, false, false, false, true, false, false, false, false, false, false, false, false, false, false, false, false, false, false, false, false] rfl rfl (any_of HT_.out (by kernel_rfl)) (fun _ _ _ h => h) (Or.inl ⟨by rfl, ?_⟩) ?_ ?_
                  rotate_left
                  ·
                   intro w'
                   go_simp
                   with_reducible rfl
                  rotate_left
                  ·
                   simp only [Act.put, List.setIfInBounds_toArray, List.set_cons_zero, List.set_cons_succ, i64_w, i32_w]
                   rfl
                  refine pure_ (i := 10) (N := some 70) (v := ?_) (a' := ?_) #[true, true, true, true, false, true, false, false, false, true, true, false, false, false, false, false, false, false, false, false, false, false, false, false, false, false] rfl rfl (any_of HT_.out (by kernel_rfl)) (fun _ _ _ h => h) (Or.inl ⟨by rfl, ?_⟩) ?_ ?_
                  rotate_left
                  ·
                   intro w'
                   go_simp
                   with_reducible rfl
                  rotate_left
                  ·
                   simp only [Act.put, List.setIfInBounds_toArray, List.set_cons_zero, List.set_cons_succ, i64_w, i32_w]
                   rfl
                  refine pure_ (i := 11) (N := some 71) (v := ?_) (a' := ?_) #[true, true, true, true, false, true, false, false, false, true, true, true, false, false, false, false, false, false, false, false, false, false, false, false, false, false] rfl rfl (any_of HT_.out (by kernel_rfl)) (fun _ _ _ h => h) (Or.inl ⟨by rfl, ?_⟩) ?_ ?_
                  rotate_left
                  ·
                   intro w'
                   go_simp
                   with_reducible rfl
                  rotate_left
                  ·
                   simp only [Act.put, List.setIfInBounds_toArray, List.set_cons_zero, List.set_cons_succ, i64_w, i32_w]
                   rfl
                  refine pure_ (i := 13) (N := some 73) (v := ?_) (a' := ?_) #[true, true, true, true, false, true, false, false, false, true, true, true, false, true, false, false, false, false, false, false, false, false, false, false, false, false] rfl rfl (any_of HT_.out (by kernel_rfl)) (fun _ _ _ h => h) (Or.inl ⟨by rfl, ?_⟩) ?_ ?_
                  rotate_left
                  ·
                   intro w'
                   go_simp
                   with_reducible rfl
                  rotate_left
                  ·
                   simp only [Act.put, List.setIfInBounds_toArray, List.set_cons_zero, List.set_cons_succ, i64_w, i32_w]
                   rfl
                  refine pure_ (i := 16) (N := some 76) (v := ?_) (a' := ?_) #[true, true, true, true, false, true, false, false, false, true, true, true, false, true, false, false, true, false, false, false, false, false, false, false, false, false] rfl rfl (any_of HT_.out (by kernel_rfl)) (fun _ _ _ h => h) (Or.inl ⟨by rfl, ?_⟩) ?_ ?_
                  rotate_left
                  ·
                   intro w'
                   go_simp
                   with_reducible rfl
                  rotate_left
                  ·
                   simp only [Act.put, List.setIfInBounds_toArray, List.set_cons_zero, List.set_cons_succ, i64_w, i32_w]
                   rfl
                  refine pure_ (i := 17) (N := some 77) (v := ?_) (a' := ?_) #[true, true, true, true, false, true, false, false, false, true, true, true, false, true, false, false, true, true, false, false, false, false, false, false, false, false] rfl rfl (any_of HT_.out (by kernel_rfl)) (fun _ _ _ h => h) (Or.inl ⟨by rfl, ?_⟩) ?_ ?_
                  rotate_left
                  ·
                   intro w'
                   go_simp
                   with_reducible rfl
                  rotate_left
                  ·
                   simp only [Act.put, List.setIfInBounds_toArray, List.set_cons_zero, List.set_cons_succ, i64_w, i32_w]
                   rfl
                  refine pure_ (i := 18) (N := some 78) (v := ?_) (a' := ?_) #[true, true, true, true, false, true, false, false, false, true, true, true, false, true, false, false, true, true, true, false, false, false, false, false, false, false] rfl rfl (any_of HT_.out (by kernel_rfl)) (fun _ _ _ h => h) (Or.inl ⟨by rfl, ?_⟩) ?_ ?_
                  rotate_left
                  ·
                   intro w'
                   go_simp
                   with_reducible rfl
                  rotate_left
                  ·
                   simp only [Act.put, List.setIfInBounds_toArray, List.set_cons_zero, List.set_cons_succ, i64_w, i32_w]
                   rfl
                  refine pure_ (i := 20) (N := some 80) (v := ?_) (a' := ?_) #[true, true, true, true, false, true, false, false, false, true, true, true, false, true, false, false, true, true, true, false, true, false, false, false, false, false] rfl rfl (any_of HT_.out (by kernel_rfl)) (fun _ _ _ h => h) (Or.inl ⟨by rfl, ?_⟩) ?_ ?_
                  rotate_left
                  ·
                   intro w'
                   go_simp
                   with_reducible rfl
                  rotate_left
                  ·
                   simp only [Act.put, List.setIfInBounds_toArray, List.set_cons_zero, List.set_cons_succ, i64_w, i32_w]
                   rfl
                  refine pure_ (i := 21) (N := some 81) (v := ?_) (a' := ?_) #[true, true, true, true, false, true, false, false, false, true, true, true, false, true, false, false, true, true, true, false, true, true, false, false, false, false] rfl rfl (any_of HT_.out (by kernel_rfl)) (fun _ _ _ h => h) (Or.inl ⟨by rfl, ?_⟩) ?_ ?_
                  rotate_left
                  ·
                   intro w'
                   go_simp
                   with_reducible rfl
                  rotate_left
                  ·
                   simp only [Act.put, List.setIfInBounds_toArray, List.set_cons_zero, List.set_cons_succ, i64_w, i32_w]
                   rfl
                  refine take_ (i := 4) (N := some 64) (v := ?_) (a' := ?_) #[true, true, true, true, true, true, false, false, false, true, true, true, false, true, false, false, true, true, true, false, true, true, false, false, false, false] rfl rfl (take_ofW HT_.out HW_.out (by kernel_rfl)) (fun _ _ _ h => h) (Or.inl ⟨by rfl, ?_⟩) hHeld ?_ ?_
                  rotate_left
                  ·
                   rintro w' ⟨s0, s1, s2, s3, s4, s5, s6, s7, s8, s9, s10, s11, s12, s13⟩
                   go_simp
                   with_reducible rfl
                  rotate_left
                  ·
                   simp only [Act.put, List.setIfInBounds_toArray, List.set_cons_zero, List.set_cons_succ, i64_w, i32_w]
                   rfl
                  refine pure_ (i := 6) (N := some 66) (v := ?_) (a' := ?_) #[true, true, true, true, true, true, true, false, false, true, true, true, false, true, false, false, true, true, true, false, true, true, false, false, false, false] rfl rfl (any_of HT_.out (by kernel_rfl)) (fun _ _ _ h => h) (Or.inl ⟨by rfl, ?_⟩) ?_ ?_
                  rotate_left
                  ·
                   intro w'
                   go_simp
                   with_reducible rfl
                  rotate_left
                  ·
                   simp only [Act.put, List.setIfInBounds_toArray, List.set_cons_zero, List.set_cons_succ, i64_w, i32_w]
                   rfl
                  refine take_ (i := 7) (N := some 67) (v := ?_) (a' := ?_) #[true, true, true, true, true, true, true, true, false, true, true, true, false, true, false, false, true, true, true, false, true, true, false, false, false, false] rfl rfl (take_ofW HT_.out HW_.out (by kernel_rfl)) (fun _ _ _ h => h) (Or.inl ⟨by rfl, ?_⟩) hHeld ?_ ?_
                  rotate_left
                  ·
                   rintro w' ⟨s0, s1, s2, s3, s4, s5, s6, s7, s8, s9, s10, s11, s12, s13⟩
                   go_simp
                   with_reducible rfl
                  rotate_left
                  ·
                   simp only [Act.put, List.setIfInBounds_toArray, List.set_cons_zero, List.set_cons_succ, i64_w, i32_w]
                   rfl
                  refine pure_ (i := 8) (N := some 68) (v := ?_) (a' := ?_) #[true, true, true, true, true, true, true, true, true, true, true, true, false, true, false, false, true, true, true, false, true, true, false, false, false, false] rfl rfl (any_of HT_.out (by kernel_rfl)) (fun _ _ _ h => h) (Or.inl ⟨by rfl, ?_⟩) ?_ ?_
                  rotate_left
                  ·
                   intro w'
                   go_simp
                   with_reducible rfl
                  rotate_left
                  ·
                   simp only [Act.put, List.setIfInBounds_toArray, List.set_cons_zero, List.set_cons_succ, i64_w, i32_w]
                   rfl
                  refine take_ (i := 12) (N := some 72) (v := ?_) (a' := ?_) #[true, true, true, true, true, true, true, true, true, true, true, true, true, true, false, false, true, true, true, false, true, true, false, false, false, false] rfl rfl (take_ofW HT_.out HW_.out (by kernel_rfl)) (fun _ _ _ h => h) (Or.inl ⟨by rfl, ?_⟩) hHeld ?_ ?_
                  rotate_left
                  ·
                   rintro w' ⟨s0, s1, s2, s3, s4, s5, s6, s7, s8, s9, s10, s11, s12, s13⟩
                   go_simp
                   with_reducible rfl
                  rotate_left
                  ·
                   simp only [Act.put, List.setIfInBounds_toArray, List.set_cons_zero, List.set_cons_succ, i64_w, i32_w]
                   rfl
                  refine pure_ (i := 14) (N := some 74) (v := ?_) (a' := ?_) #[true, true, true, true, true, true, true, true, true, true, true, true, true, true, true, false, true, true, true, false, true, true, false, false, false, false] rfl rfl (any_of HT_.out (by kernel_rfl)) (fun _ _ _ h => h) (Or.inl ⟨by rfl, ?_⟩) ?_ ?_
                  rotate_left
                  ·
                   intro w'
                   go_simp
                   with_reducible rfl
                  rotate_left
                  ·
                   simp only [Act.put, List.setIfInBounds_toArray, List.set_cons_zero, List.set_cons_succ, i64_w, i32_w]
                   rfl
                  refine take_ (i := 15) (N := some 75) (v := ?_) (a' := ?_) #[true, true, true, true, true, true, true, true, true, true, true, true, true, true, true, true, true, true, true, false, true, true, false, false, false, false] rfl rfl (take_ofW HT_.out HW_.out (by kernel_rfl)) (fun _ _ _ h => h) (Or.inl ⟨by rfl, ?_⟩) hHeld ?_ ?_
                  rotate_left
                  ·
                   rintro w' ⟨s0, s1, s2, s3, s4, s5, s6, s7, s8, s9, s10, s11, s12, s13⟩
                   go_simp
                   with_reducible rfl
                  rotate_left
                  ·
                   simp only [Act.put, List.setIfInBounds_toArray, List.set_cons_zero, List.set_cons_succ, i64_w, i32_w]
                   rfl
                  refine take_ (i := 19) (N := some 79) (v := ?_) (a' := ?_) #[true, true, true, true, true, true, true, true, true, true, true, true, true, true, true, true, true, true, true, true, true, true, false, false, false, false] rfl rfl (take_ofW HT_.out HW_.out (by kernel_rfl)) (fun _ _ _ h => h) (Or.inl ⟨by rfl, ?_⟩) hHeld ?_ ?_
                  rotate_left
                  ·
                   rintro w' ⟨s0, s1, s2, s3, s4, s5, s6, s7, s8, s9, s10, s11, s12, s13⟩
                   go_simp
                   with_reducible rfl
                  rotate_left
                  ·
                   simp only [Act.put, List.setIfInBounds_toArray, List.set_cons_zero, List.set_cons_succ, i64_w, i32_w]
                   rfl
                  refine pure_ (i := 22) (N := some 82) (v := ?_) (a' := ?_) #[true, true, true, true, true, true, true, true, true, true, true, true, true, true, true, true, true, true, true, true, true, true, true, false, false, false] rfl rfl (any_of HT_.out (by kernel_rfl)) (fun _ _ _ h => h) (Or.inl ⟨by rfl, ?_⟩) ?_ ?_
                  rotate_left
                  ·
                   intro w'
                   go_simp
                   with_reducible rfl
                  rotate_left
                  ·
                   simp only [Act.put, List.setIfInBounds_toArray, List.set_cons_zero, List.set_cons_succ, i64_w, i32_w]
                   rfl
                  refine take_ (i := 23) (N := some 83) (v := ?_) (a' := ?_) #[true, true, true, true, true, true, true, true, true, true, true, true, true, true, true, true, true, true, true, true, true, true, true, true, false, false] rfl rfl (take_ofW HT_.out HW_.out (by kernel_rfl)) (fun _ _ _ h => h) (Or.inl ⟨by rfl, ?_⟩) hHeld ?_ ?_
                  rotate_left
                  ·
                   rintro w' ⟨s0, s1, s2, s3, s4, s5, s6, s7, s8, s9, s10, s11, s12, s13⟩
                   go_simp
                   with_reducible rfl
                  rotate_left
                  ·
                   simp only [Act.put, List.setIfInBounds_toArray, List.set_cons_zero, List.set_cons_succ, i64_w, i32_w]
                   rfl
                  refine one_ (i := 24) (N := some 84) #[true, true, true, true, true, true, true, true, true, true, true, true, true, true, true, true, true, true, true, true, true, true, true, true, true, false] rfl rfl (one_of HT_.out (by kernel_rfl)) (by decide) (fun K hK => ?_)
                  refine goes_ Try.func62 (by kernel_rfl) rfl #[.pointer (some (ad233.add (((rd ((rd_T37 l1 0).f1) x11_2)).toNat * 3))), .agg #[.int .i64 ((rd_T44 ((rd_T37 l1 0).f0) x11_2).f0), .int .i64 ((rd_T44 ((rd_T37 l1 0).f0) x11_2).f1)], .agg #[.int .i64 ((rd_T44 ((rd_T37 l1 0).f0) (ji15)).f0), .int .i64 ((rd_T44 ((rd_T37 l1 0).f0) (ji15)).f1)]] (by rfl) rfl rfl (by (try simp only [List.map_toArray, List.map_cons, List.map_nil]); first | done | (simp only [hji15]; rfl) | rfl | (simp only [List.length_drop, List.length_take]; rfl)) ?_
                  with_reducible refine (spec_l03JoinedAt.calls _ 1 [rd_T68 l0 (rd ((rd_T37 l1 0).f1) x11_2)] ((rd_T44 ((rd_T37 l1 0).f0) x11_2).f0) ((rd_T44 ((rd_T37 l1 0).f0) x11_2).f1) ((rd_T44 ((rd_T37 l1 0).f0) (ji15)).f0) ((rd_T44 ((rd_T37 l1 0).f0) (ji15)).f1) t238 _ ?side1 ?side2 A18.out).mono ?_
                  (case side1 => refine elem_C ?_ z68 (rd ((rd_T37 l1 0).f1) x11_2) (of_decide_eq_true (by first | (with_reducible assumption) | assumption)) (of_decide_eq_true (by first | (with_reducible assumption) | assumption)); repeat (first | exact (Kd.C_below HR0.out HB.out) | (with_reducible refine Kd.C_alloc ?_ _) | (with_reducible refine Kd.C_drewN ?_ _) | (with_reducible refine Kd.C_drew ?_)))
                  (case side2 => exact Nat.le_refl _)
                  rintro e w23 ⟨rfl, hb⟩
                  refine ⟨_, rfl, ?_⟩
                  have n0_ := aS (below_step (sW HB.out) hb)
                  clear HB
                  have HB := n0_
                  clear n0_
                  (try clear hb); (try clear hb2); (try clear hk); (try clear hi)
                  refine hK.out _ _ ⟨((HB.out.cell (World.block_lt_of_cell? w _ hw231_0)).trans hw231_0), ((HB.out.cell (World.block_lt_of_cell? w _ hw231_1)).trans hw231_1), ((HB.out.cell (World.block_lt_of_cell? w _ hw232_0)).trans hw232_0), ((HB.out.cell (World.block_lt_of_cell? w _ hw233_0)).trans hw233_0), ((HB.out.cell (World.block_lt_of_cell? w _ hw233_1)).trans hw233_1), ((HB.out.cell (World.block_lt_of_cell? w _ hw233_2)).trans hw233_2), ((HB.out.cell (World.block_lt_of_cell? w _ hw234_0)).trans hw234_0), ((HB.out.cell (World.block_lt_of_cell? w _ hw234_1)).trans hw234_1), ((HB.out.cell (World.block_lt_of_cell? w _ hw235_0)).trans hw235_0), ((HB.out.cell (World.block_lt_of_cell? w _ hw235_1)).trans hw235_1), ((HB.out.cell (World.block_lt_of_cell? w _ hw236_0)).trans hw236_0), ((HB.out.cell (World.block_lt_of_cell? w _ hw236_1)).trans hw236_1), ((HB.out.cell (World.block_lt_of_cell? w _ hw237_0)).trans hw237_0), ((HB.out.cell (World.block_lt_of_cell? w _ hw237_1)).trans hw237_1)⟩ (fun hHeld => ?_)
                  clear hK K
                  refine norm_ (a' := ?_) ?_ ?_
                  rotate_left
                  ·
                   show Act.put _ (some 84) _ = _
                   simp only [Act.put, List.setIfInBounds_toArray, List.set_cons_zero, List.set_cons_succ, i64_w, i32_w]
                   rfl
                  refine pure_ (i := 25) (N := some 12) (v := ?_) (a' := ?_) #[true, true, true, true, true, true, true, true, true, true, true, true, true, true, true, true, true, true, true, true, true, true, true, true, true, true] rfl rfl (any_of HT_.out (by kernel_rfl)) (fun _ _ _ h => h) (Or.inl ⟨by rfl, ?_⟩) ?_ ?_
                  rotate_left
                  ·
                   intro w'
                   go_simp
                   with_reducible rfl
                  rotate_left
                  ·
                   simp only [Act.put, List.setIfInBounds_toArray, List.set_cons_zero, List.set_cons_succ, i64_w, i32_w]
                   rfl
                  refine done_ (done_of HT_.out (by kernel_rfl)) ?_
                  try go_wp2
                  go_roundg k2
                  case measure => have := HK1.out; have := HK2.out; omega
                  case rel => exact ⟨(x7_2), (x8_2), (x9_2), (ji15), (by first | rfl | (simp; done) | (simp [*]; done) | (simp only [i64_w]; done) | (simp [i64_w]; done)), (by first | rfl | (simp; done) | (simp [*]; done) | (simp only [i64_w]; done) | (simp [i64_w]; done)), (by first | rfl | (simp; done) | (simp [*]; done) | (simp only [i64_w]; done) | (simp [i64_w]; done)), (by first | rfl | (simp; done) | (simp only [← hji15] <;> (first | rfl | simp)) | (simp [*]; done) | (simp only [i64_w]; done) | (simp [i64_w]; done)), H', ⟨by have := HK1.out; have := HK2.out; omega⟩, ⟨by repeat (first | (with_reducible first | exact HB.out | apply below_alloc | apply pw_below_drewN | apply below_drew1) | exact HB.out)⟩⟩
                ·
                 rw [if_neg c17] at H
                 exact absurd H (by simp)
               ·
                rw [if_neg c16] at H
                exact absurd H (by simp)
              ·
               rw [if_neg c14] at H
               exact absurd H (by simp)
             ·
              rw [if_neg c13] at H
              exact absurd H (by simp)
            ·
             rw [if_neg c12] at H
             exact absurd H (by simp)
           ·
            rw [if_neg c11] at H
            exact absurd H (by simp)
          ·
           rw [if_neg c10] at H
           have c10b0 : decide (x11_2 < (((rd_T37 l1 0).f1).length : Int)) = false := decide_eq_false c10
           clear c10
           simp only [Option.some.injEq, Prod.mk.injEq] at H
           obtain ⟨rfl, rfl, rfl⟩ := H
           have p230 : 0 ≤ (0 : Int) := (by omega)
           have q230 : 0 < (l1.length : Int) := of_decide_eq_true (by first | (with_reducible assumption) | assumption)
           obtain ⟨ad230, A230_0, c230_0, A230_1, c230_1, e230, hx230_0, hx230_1, hl230_0, hi230_0, hl230_1, hi230_1⟩ := at_T37 HR1.out 0 p230 q230
           obtain rfl : ad223 = ad230 := (by injection e230)
           have qi230 : (0 < l1.length) = True := eq_true (by omega)
           (try rw [show ((0 : Int)).toNat = 0 from rfl] at hx230_0)
           (try rw [show 0 * 2 = 0 from rfl] at hx230_0)
           (try rw [Addr.add_zero'] at hx230_0)
           (try rw [show ((0 : Int)).toNat = 0 from rfl] at hx230_1)
           (try rw [show 0 * 2 = 0 from rfl] at hx230_1)
           (try rw [Addr.add_zero'] at hx230_1)
           replace hx230_0 := (HB.out.cell (World.block_lt_of_cell? w _ hx230_0)).trans hx230_0
           replace hx230_1 := (HB.out.cell (World.block_lt_of_cell? w _ hx230_1)).trans hx230_1
           have HR230_0 := aS hi230_0
           have HC230_0 := aS hl230_0
           clear hi230_0 hl230_0
           have HR230_1 := aS hi230_1
           have HC230_1 := aS hl230_1
           clear hi230_1 hl230_1
           replace p230 := eq_true p230
           replace q230 := eq_true q230
           go_wp2
           go_ret3
           exact ⟨by first | rfl | (simp [errW_none, errW_some, i64_w]; done) | (simp [errW_none, errW_some] <;> rfl) | (simp [*, errW_none, errW_some] <;> rfl), by repeat (first | (with_reducible first | exact HB.out | apply below_alloc | apply pw_below_drewN | apply below_drew1) | exact HB.out)⟩
         ·
          rw [if_neg c9] at H
          exact absurd H (by simp)
     ·
      rw [if_neg c5] at H
      exact absurd H (by simp)
  ·
   rw [if_neg c4] at H
   exact absurd H (by simp)
 ·
  rw [if_neg c3] at H
  exact absurd H (by simp)

end Go.Proofs.Ytdgodlccejoibaa.QFnExactWeakestPlace

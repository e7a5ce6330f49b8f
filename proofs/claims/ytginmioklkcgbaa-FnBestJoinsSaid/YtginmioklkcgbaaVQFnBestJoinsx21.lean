/- What the Go functions of this law compute, each as a Lean function, and that each call comes to that answer; written by a program of this session. No condition. -/
import Derived.Test.YtginmioklkcgbaaVShn
import Derived.Test.YtginmioklkcgbaaVQFnBestJoinsx0
import Derived.Test.YtginmioklkcgbaaVQFnBestJoinsx3
import Derived.Test.YtginmioklkcgbaaVQFnBestJoinsx4
import Derived.Test.YtginmioklkcgbaaVQFnBestJoinsx20
namespace Go.Proofs.Ytginmioklkcgbaa.QFnBestJoins
open Go.RowKit Go.Proofs.YtginmioklkcgbaaW.PrintWords Go.Proofs.YtginmioklkcgbaaW.PrintLast Go.Proofs.YtginmioklkcgbaaW.PrintMore
attribute [local go_sem] max2_int min2_int max_two min_two max_three min_three max_four min_four   -- for this text's walks alone
set_option linter.unusedVariables false
set_option linter.unusedSimpArgs false

/-! ### spec_l00Gcd: function 102 -/
def spec_l00Gcd.l0 : Nat → Int → Int → Option (Int)
 | 0, _, _ => none
 | k + 1, x0, x1 => if x1 = 0 then (some x0) else (spec_l00Gcd.l0 k x1 (Int.tmod x0 x1))
def spec_l00Gcd.f (k : Nat) (a0 : Int) (a1 : Int) : Option (Int) := spec_l00Gcd.l0 k a0 a1
theorem spec_l00Gcd.mono_l : ∀ k, (∀ y0 y1, LeO (spec_l00Gcd.l0 k y0 y1) (spec_l00Gcd.l0 (k + 1) y0 y1))
 | 0 => fun _ _ r h => by simp [spec_l00Gcd.l0] at h
 | k + 1 => by
  have ih0 := spec_l00Gcd.mono_l k
  ·
   intro y0 y1
   unfold spec_l00Gcd.l0
   repeat' first | (with_reducible first | exact ih0 _ _ | exact LeO.refl _ | exact LeO.none _ | refine LeO.ite ?_ ?_ | refine LeO.bind ?_ (fun _ => ?_)) | refine LeO.ite ?_ ?_ | refine LeO.bind ?_ (fun _ => ?_)
theorem spec_l00Gcd.mono : ∀ a0 a1 k, LeO (spec_l00Gcd.f k a0 a1) (spec_l00Gcd.f (k + 1) a0 a1) := by
 intro a0 a1 k
 have ih0 := spec_l00Gcd.mono_l k
 unfold spec_l00Gcd.f
 repeat' first | (with_reducible first | exact ih0 _ _ | exact LeO.refl _ | exact LeO.none _ | refine LeO.ite ?_ ?_ | refine LeO.bind ?_ (fun _ => ?_)) | refine LeO.ite ?_ ?_ | refine LeO.bind ?_ (fun _ => ?_)
set_option maxHeartbeats 8000000 in
set_option maxRecDepth 100000 in
theorem spec_l00Gcd.calls (k : Nat) (a0 : Int) (a1 : Int) (r : Int) (w : World) (h : spec_l00Gcd.f k a0 a1 = some r) :
  Calls Try.prog 102 #[.int .i64 a0, .int .i64 a1] w fun e w' => e = .returned (.int .i64 r) ∧ Drawn0 w w' := by
 have H := h
 clear h
 unfold spec_l00Gcd.f at H
 have H' := aS H
 clear H
 go_enter Try.func102, Try.ntmps102
 go_wp2
 go_loopg [0, 1] k (fun kq v0 v1 w' => ∃ (x0_1 : Int) (x1_1 : Int), v0 = .int .i64 x0_1 ∧ v1 = .int .i64 x1_1 ∧ Aside0 (spec_l00Gcd.l0 kq x0_1 x1_1 = some r) ∧ Aside0 (kq ≤ k) ∧ Drawn0 w w')
 case atStart => exact ⟨(a0), (a1), eV, eV, H', ⟨Nat.le_refl _⟩, eD⟩
 case round =>
  clear H'
  obtain ⟨x0_1, x1_1, rfl, rfl, HA, HK1, ⟨m1, rfl⟩⟩ := hrel
  cases gk with
  | zero => exact absurd HA.out (by simp [spec_l00Gcd.l0])
  | succ k1 =>
   have H := HA.out
   clear HA
   simp only [spec_l00Gcd.l0] at H
   replace H := iE H; rcases H with ⟨c3, H⟩ | ⟨c3, H⟩
   ·
    have c3b0 := beq_iff_eq.mpr c3
    have c3b1 := bne_eq_false_iff_eq.mpr c3
    clear c3
    obtain rfl := Option.some.inj H
    go_wp2
    go_ret
    exact ⟨eV, eD⟩
   ·
    have c3b0 := beq_eq_false_iff_ne.mpr c3
    have c3b1 := bne_iff_ne.mpr c3
    have H' := aS H
    clear H
    go_wp2
    go_roundg k1
    case measure => have := HK1.out; omega
    case rel => exact ⟨(x1_1), (Int.tmod x0_1 x1_1), eV, eV, H', ⟨by have := HK1.out; omega⟩, eD⟩

/-! ### spec_l00Size: function 103 -/
def spec_l00Size.f (a0 : Int) : Option (Int) := if a0 < 0 then (some (wrap64 (-a0))) else (some a0)
set_option maxHeartbeats 8000000 in
set_option maxRecDepth 100000 in
theorem spec_l00Size.calls (a0 : Int) (r : Int) (w : World) (h : spec_l00Size.f a0 = some r) :
  Calls Try.prog 103 #[.int .i64 a0] w fun e w' => e = .returned (.int .i64 r) ∧ Drawn0 w w' := by
 have H := h
 clear h
 unfold spec_l00Size.f at H
 replace H := iE H; rcases H with ⟨c2, H⟩ | ⟨c2, H⟩
 ·
  have c2b0 := decide_eq_true c2
  clear c2
  obtain rfl := Option.some.inj H
  go_enter Try.func103, Try.ntmps103
  go_wp2
  go_ret
  exact ⟨eV, eD⟩
 ·
  have c2b0 := decide_eq_false c2
  clear c2
  obtain rfl := Option.some.inj H
  go_enter Try.func103, Try.ntmps103
  go_wp2
  go_ret
  exact ⟨eV, eD⟩

/-! ### spec_l01Make: function 76 -/
def spec_l01Make.f (k : Nat) (a0 : Int) (a1 : Int) : Option (Int × Int) := (spec_l00Size.f a0).bind fun t654 => ((spec_l00Gcd.f k t654 a1).bind fun t655 => (if t655 = 0 then (none) else (some (wrap64 (Int.tdiv a0 t655), wrap64 (Int.tdiv a1 t655)))))
theorem spec_l01Make.mono : ∀ a0 a1 k, LeO (spec_l01Make.f k a0 a1) (spec_l01Make.f (k + 1) a0 a1) := by
 intro a0 a1 k
 unfold spec_l01Make.f
 repeat' first | (with_reducible first | exact spec_l00Gcd.mono _ _ _ | exact LeO.refl _ | exact LeO.none _ | refine LeO.ite ?_ ?_ | refine LeO.bind ?_ (fun _ => ?_)) | refine LeO.ite ?_ ?_ | refine LeO.bind ?_ (fun _ => ?_)
def spec_l01Make.T2 : Bool × List (List Nat × List Nat) := (true, [([], []), ([], []), ([0, 1], [0, 1]), ([], []), ([], []), ([3, 4], [3, 4]), ([2, 5], [2, 5]), ([6, 0, 1, 2, 3, 4, 5, 6], [6])])
def spec_l01Make.B2 : List Nat := [0, 0, 3, 0, 0, 24, 63, 127]
theorem spec_l01Make.tab2 : rtab .any (opsOf Try.f76 2) = spec_l01Make.T2 := by kernel_rfl
theorem spec_l01Make.bits2 : waitsOk spec_l01Make.T2.2 spec_l01Make.B2 = true := by kernel_rfl
set_option maxHeartbeats 8000000 in
set_option maxRecDepth 100000 in
theorem spec_l01Make.calls (k : Nat) (a0 : Int) (a1 : Int) (r1 : Int) (r2 : Int) (w : World) (h : spec_l01Make.f k a0 a1 = some (r1, r2)) :
  Calls Try.prog 76 #[.int .i64 a0, .int .i64 a1] w fun e w' => e = .returned (.agg #[.int .i64 r1, .int .i64 r2]) ∧ Below w.heap.size w w' := by
 have hu55 := Try.underlying55
 have HB := aS (Below.refl w.heap.size w)
 have H := h
 clear h
 unfold spec_l01Make.f at H
 replace H := Option.bind_eq_some_iff.mp H
 obtain ⟨t654, A30, H⟩ := H
 replace H : ((spec_l00Gcd.f k t654 a1).bind fun t655 => (if t655 = 0 then (none) else (some (wrap64 (Int.tdiv a0 t655), wrap64 (Int.tdiv a1 t655))))) = some (r1, r2) := H
 have A3 := aS A30
 clear A30
 replace H := Option.bind_eq_some_iff.mp H
 obtain ⟨t655, A40, H⟩ := H
 replace H : (if t655 = 0 then (none) else (some (wrap64 (Int.tdiv a0 t655), wrap64 (Int.tdiv a1 t655)))) = some (r1, r2) := H
 have A4 := aS A40
 clear A40
 replace H := iE H; rcases H with ⟨c5, H⟩ | ⟨c5, H⟩
 ·
  exact absurd H (by simp)
 ·
  have c5b0 := beq_eq_false_iff_ne.mpr c5
  have c5b1 := bne_iff_ne.mpr c5
  simp only [Option.some.injEq, Prod.mk.injEq] at H
  obtain ⟨rfl, rfl⟩ := H
  go_enter Try.func76, Try.ntmps76
  try go_wp2_with (first | ((with_reducible refine gate_dst (N := 4) rfl ?_); refine bx 4 #[.int .i64 0, .int .i64 0] 55 ?_; intro gb653 hg w6 hbox hb; have BK653 := aS (hbox); have GW653 := aS (gW hg (sW HB.out)); have GE653 := aS (gW hg (sW HB.out)); replace HB := aS (below_step (sW HB.out) hb); clear hb hbox hg) | ((with_reducible refine gate_callee (f := 103) rfl ?_); refine goesL_ (some 7) rfl rfl Try.func103 (by kernel_rfl) rfl #[.int .i64 a0] rfl sG ?_; (with_reducible refine (spec_l00Size.calls a0 t654 _ A3.out).mono ?_); rintro e w' ⟨rfl, ⟨nd, rfl⟩⟩; refine ⟨_, rfl, ?_⟩; (try (rw [drewN_self w6]; generalize hq_ : World.drewN w6 _ = w6; have n0_ : Aside0 (w6.heap[gb653]? = some (.cells #[.int .i64 0, .int .i64 0] 55 (0, 0))) := ⟨by rw [← hq_]; exact (sB BK653.out)⟩; have n1_ : Aside0 (Below w.heap.size w w6) := ⟨by rw [← hq_]; exact (sW HB.out)⟩; clear BK653 HB hq_; have BK653 := n0_; have HB := n1_; clear n0_ n1_)); (try (have hcu7_0 : w6.cell? ⟨gb653, 0, none⟩ = some (.int .i64 0) := bq BK653.out 0; have hfu7_0 := blk_frozen BK653.out 0; have hcu7_1 : w6.cell? ⟨gb653, 1, none⟩ = some (.int .i64 0) := bq BK653.out 1; have hfu7_1 := blk_frozen BK653.out 1))) | ((with_reducible refine gate_callee (f := 102) rfl ?_); refine goesL_ (some 9) rfl rfl Try.func102 (by kernel_rfl) rfl #[.int .i64 t654, .int .i64 a1] rfl sG ?_; (with_reducible refine (spec_l00Gcd.calls k t654 a1 t655 _ A4.out).mono ?_); rintro e w' ⟨rfl, ⟨nd, rfl⟩⟩; refine ⟨_, rfl, ?_⟩; (try (rw [drewN_self w6]; generalize hq_ : World.drewN w6 _ = w6; have n0_ : Aside0 (w6.heap[gb653]? = some (.cells #[.int .i64 0, .int .i64 0] 55 (0, 0))) := ⟨by rw [← hq_]; exact (sB BK653.out)⟩; have n1_ : Aside0 (Below w.heap.size w w6) := ⟨by rw [← hq_]; exact (sW HB.out)⟩; clear BK653 HB hq_; have BK653 := n0_; have HB := n1_; clear n0_ n1_)); (try (have hcu8_0 : w6.cell? ⟨gb653, 0, none⟩ = some (.int .i64 0) := bq BK653.out 0; have hfu8_0 := blk_frozen BK653.out 0; have hcu8_1 : w6.cell? ⟨gb653, 1, none⟩ = some (.int .i64 0) := bq BK653.out 1; have hfu8_1 := blk_frozen BK653.out 1))))
  replace BK653 := aS (blk_drew BK653.out); replace HB := aS (below_drew1 HB.out)
  refine start_ (n := 8) (S := fun w' => True) (ds := []) _ (by kernel_rfl) rfl rfl trivial (fun hHeld => ?_); refine with_tabW spec_l01Make.tab2 spec_l01Make.bits2 (fun HT_ HW_ => ?_)
  generalize w6.drew = w9 at BK653 HB hHeld ⊢
  refine pX 0 10 ?_; refine pX 1 11 ?_; refine pX 2 12 ?_; refine pX 3 13 ?_; refine pX 4 14 ?_; refine pX 5 15 ?_; refine pX 6 16 ?_
  refine oX 7 none fun K hK => ?_
  have hs10 : w9.cell? ⟨gb653, 0, none⟩ = some (.int .i64 0) := bq BK653.out 0
  have hfs10 := blk_frozen BK653.out 0
  have hs11 : w9.cell? ⟨gb653, 1, none⟩ = some (.int .i64 0) := bq BK653.out 1
  have hfs11 := blk_frozen BK653.out 1
  refine skip_ (w1 := ?_) (by rfl) rfl ?_ ?_
  rotate_left
  ·
   go_simp
   rfl
  refine hK.out _ _ trivial (fun hHeld => ?_)
  clear hK K
  refine dX ?_
  try go_wp2
  refine bodyPost_ret (results_cell_row rfl _ _ gb653 55 #[.int .i64 (wrap64 (Int.tdiv a0 t655)), .int .i64 (wrap64 (Int.tdiv a1 t655))] (0, 0) _ rfl (sB (put2 BK653.out)) Try.underlying55 rfl (by kernel_rfl)) rfl ?_
  exact ⟨eE, sW HB.out⟩

/-! ### spec_StrengthAt: function 27 -/
def spec_StrengthAt.f (k : Nat) (l0 : List (S61)) (l1_0 : List (S45)) (l1_1 : List Int) (a2 : Int) : Option (Int × Int × Int) := (spec_l03LineAt.f k l0 [(⟨l1_0, l1_1⟩ : S29)]).bind fun t658 => (if t658 = true then ((spec_l00In.f a2 0 (wrap64 ((l1_1.length : Int) - 1))).bind fun t659 => (if t659 = true then (if 0 ≤ a2 then (if a2 < (l1_1.length : Int) then (if 0 ≤ (rd l1_1 a2) then (if (rd l1_1 a2) < (l0.length : Int) then (if a2 < (l1_0.length : Int) then (if 0 ≤ (wrap64 (a2 + 1)) then (if (wrap64 (a2 + 1)) < (l1_0.length : Int) then ((spec_l03JoinedAt.f [rd_T61 l0 (rd l1_1 a2)] ((rd_T45 l1_0 a2).f0) ((rd_T45 l1_0 a2).f1) ((rd_T45 l1_0 (wrap64 (a2 + 1))).f0) ((rd_T45 l1_0 (wrap64 (a2 + 1))).f1)).bind fun t664 => ((spec_l01Make.f k t664 1000).bind fun bt665 => (some (bt665.1, bt665.2, 0)))) else (none)) else (none)) else (none)) else (none)) else (none)) else (none)) else (none)) else (some (0, 0, 2)))) else (some (0, 0, 1)))
theorem spec_StrengthAt.mono : ∀ a0 a1 a2 a3 k, LeO (spec_StrengthAt.f k a0 a1 a2 a3) (spec_StrengthAt.f (k + 1) a0 a1 a2 a3) := by
 intro a0 a1 a2 a3 k
 unfold spec_StrengthAt.f
 repeat' first | (with_reducible first | exact spec_l01Make.mono _ _ _ | exact spec_l03LineAt.mono _ _ _ | exact LeO.refl _ | exact LeO.none _ | refine LeO.ite ?_ ?_ | refine LeO.bind ?_ (fun _ => ?_)) | refine LeO.ite ?_ ?_ | refine LeO.bind ?_ (fun _ => ?_)
def spec_StrengthAt.T5 : Bool × List (List Nat × List Nat) := (true, [([], []), ([], []), ([1], [1]), ([], []), ([2, 3], [2, 3]), ([4], [4]), ([0, 5], [0, 5]), ([], []), ([7], [7]), ([], []), ([8, 9], [8, 9]), ([10], [10]), ([], []), ([12], [12]), ([], []), ([14], [14]), ([13, 15], [13, 15]), ([16], [16]), ([6, 11, 17], [6, 11, 17]), ([18, 18], [18]), ([19, 19, 0, 1, 2, 3, 4, 5, 6, 7, 8, 9, 10, 11, 12, 13, 14, 15, 16, 17, 18, 19], [19]), ([20, 0, 1, 2, 3, 4, 5, 6, 7, 8, 9, 10, 11, 12, 13, 14, 15, 16, 17, 18, 19, 20], [])])
def spec_StrengthAt.B5 : List Nat := [0, 0, 2, 0, 14, 30, 63, 0, 128, 0, 896, 1920, 0, 4096, 0, 16384, 61440, 126976, 262143, 524287, 1048575, 2097151]
theorem spec_StrengthAt.tab5 : rtab .any (opsOf Try.f27 5) = spec_StrengthAt.T5 := by kernel_rfl
theorem spec_StrengthAt.bits5 : waitsOk spec_StrengthAt.T5.2 spec_StrengthAt.B5 = true := by kernel_rfl
def spec_StrengthAt.bF (n k : Nat) : Array Bool := ((List.range n).map fun i => k.testBit i).toArray
set_option maxHeartbeats 8000000 in
set_option maxRecDepth 100000 in
theorem spec_StrengthAt.calls (k : Nat) (A0 : Option Addr) (c0 : Nat) (l0 : List (S61)) (A1_0 : Option Addr) (c1_0 : Nat) (l1_0 : List (S45)) (A1_1 : Option Addr) (c1_1 : Nat) (l1_1 : List Int) (a2 : Int) (r1 : Int) (r2 : Int) (r3 : Int) (w : World) (hr0 : Kd.C k61 w A0 l0.length l0) (hc0 : l0.length ≤ c0) (hr1_0 : Kd.C k45 w A1_0 l1_0.length l1_0) (hc1_0 : l1_0.length ≤ c1_0) (hr1_1 : Kd.C (Kd.int .i64) w A1_1 l1_1.length l1_1) (hc1_1 : l1_1.length ≤ c1_1) (h : spec_StrengthAt.f k l0 l1_0 l1_1 a2 = some (r1, r2, r3)) :
  Calls Try.prog 27 #[.slice A0 l0.length c0, .agg #[.slice A1_0 l1_0.length c1_0, .slice A1_1 l1_1.length c1_1], .int .i64 a2] w fun e w' => e = .returned (.tuple #[.agg #[.int .i64 r1, .int .i64 r2], .int .i64 r3]) ∧ Below w.heap.size w w' := by
 have hu29 := Try.underlying29
 have hu55 := Try.underlying55
 have hu45 := Try.underlying45
 have HR0 := aS hr0
 have HC0 := aS hc0
 clear hr0 hc0
 have HR1_0 := aS hr1_0
 have HC1_0 := aS hc1_0
 clear hr1_0 hc1_0
 have HR1_1 := aS hr1_1
 have HC1_1 := aS hc1_1
 clear hr1_1 hc1_1
 have HB := aS (Below.refl w.heap.size w)
 have H := h
 clear h
 unfold spec_StrengthAt.f at H
 replace H := Option.bind_eq_some_iff.mp H
 obtain ⟨t658, A40, H⟩ := H
 replace H : (if t658 = true then ((spec_l00In.f a2 0 (wrap64 ((l1_1.length : Int) - 1))).bind fun t659 => (if t659 = true then (if 0 ≤ a2 then (if a2 < (l1_1.length : Int) then (if 0 ≤ (rd l1_1 a2) then (if (rd l1_1 a2) < (l0.length : Int) then (if a2 < (l1_0.length : Int) then (if 0 ≤ (wrap64 (a2 + 1)) then (if (wrap64 (a2 + 1)) < (l1_0.length : Int) then ((spec_l03JoinedAt.f [rd_T61 l0 (rd l1_1 a2)] ((rd_T45 l1_0 a2).f0) ((rd_T45 l1_0 a2).f1) ((rd_T45 l1_0 (wrap64 (a2 + 1))).f0) ((rd_T45 l1_0 (wrap64 (a2 + 1))).f1)).bind fun t664 => ((spec_l01Make.f k t664 1000).bind fun bt665 => (some (bt665.1, bt665.2, 0)))) else (none)) else (none)) else (none)) else (none)) else (none)) else (none)) else (none)) else (some (0, 0, 2)))) else (some (0, 0, 1))) = some (r1, r2, r3) := H
 have A4 := aS A40
 clear A40
 by_cases c5 : t658 = true
 ·
  subst c5
  have H1 : ((spec_l00In.f a2 0 (wrap64 ((l1_1.length : Int) - 1))).bind fun t659 => (if t659 = true then (if 0 ≤ a2 then (if a2 < (l1_1.length : Int) then (if 0 ≤ (rd l1_1 a2) then (if (rd l1_1 a2) < (l0.length : Int) then (if a2 < (l1_0.length : Int) then (if 0 ≤ (wrap64 (a2 + 1)) then (if (wrap64 (a2 + 1)) < (l1_0.length : Int) then ((spec_l03JoinedAt.f [rd_T61 l0 (rd l1_1 a2)] ((rd_T45 l1_0 a2).f0) ((rd_T45 l1_0 a2).f1) ((rd_T45 l1_0 (wrap64 (a2 + 1))).f0) ((rd_T45 l1_0 (wrap64 (a2 + 1))).f1)).bind fun t664 => ((spec_l01Make.f k t664 1000).bind fun bt665 => (some (bt665.1, bt665.2, 0)))) else (none)) else (none)) else (none)) else (none)) else (none)) else (none)) else (none)) else (some (0, 0, 2)))) = some (r1, r2, r3) := by rw [if_pos rfl] at H; exact H
  clear H
  have H := H1
  clear H1
  replace H := Option.bind_eq_some_iff.mp H
  obtain ⟨t659, A60, H⟩ := H
  replace H : (if t659 = true then (if 0 ≤ a2 then (if a2 < (l1_1.length : Int) then (if 0 ≤ (rd l1_1 a2) then (if (rd l1_1 a2) < (l0.length : Int) then (if a2 < (l1_0.length : Int) then (if 0 ≤ (wrap64 (a2 + 1)) then (if (wrap64 (a2 + 1)) < (l1_0.length : Int) then ((spec_l03JoinedAt.f [rd_T61 l0 (rd l1_1 a2)] ((rd_T45 l1_0 a2).f0) ((rd_T45 l1_0 a2).f1) ((rd_T45 l1_0 (wrap64 (a2 + 1))).f0) ((rd_T45 l1_0 (wrap64 (a2 + 1))).f1)).bind fun t664 => ((spec_l01Make.f k t664 1000).bind fun bt665 => (some (bt665.1, bt665.2, 0)))) else (none)) else (none)) else (none)) else (none)) else (none)) else (none)) else (none)) else (some (0, 0, 2))) = some (r1, r2, r3) := H
  have A6 := aS A60
  clear A60
  by_cases c7 : t659 = true
  ·
   subst c7
   have H1 : (if 0 ≤ a2 then (if a2 < (l1_1.length : Int) then (if 0 ≤ (rd l1_1 a2) then (if (rd l1_1 a2) < (l0.length : Int) then (if a2 < (l1_0.length : Int) then (if 0 ≤ (wrap64 (a2 + 1)) then (if (wrap64 (a2 + 1)) < (l1_0.length : Int) then ((spec_l03JoinedAt.f [rd_T61 l0 (rd l1_1 a2)] ((rd_T45 l1_0 a2).f0) ((rd_T45 l1_0 a2).f1) ((rd_T45 l1_0 (wrap64 (a2 + 1))).f0) ((rd_T45 l1_0 (wrap64 (a2 + 1))).f1)).bind fun t664 => ((spec_l01Make.f k t664 1000).bind fun bt665 => (some (bt665.1, bt665.2, 0)))) else (none)) else (none)) else (none)) else (none)) else (none)) else (none)) else (none)) = some (r1, r2, r3) := by rw [if_pos rfl] at H; exact H
   clear H
   have H := H1
   clear H1
   replace H := iE H; rcases H with ⟨c8, H⟩ | ⟨c8, H⟩
   ·
    have c8b0 := decide_eq_true c8
    clear c8
    replace H := iE H; rcases H with ⟨c9, H⟩ | ⟨c9, H⟩
    ·
     have c9b0 := decide_eq_true c9
     clear c9
     replace H := iE H; rcases H with ⟨c10, H⟩ | ⟨c10, H⟩
     ·
      have c10b0 := decide_eq_true c10
      clear c10
      replace H := iE H; rcases H with ⟨c11, H⟩ | ⟨c11, H⟩
      ·
       have c11b0 := decide_eq_true c11
       clear c11
       replace H := iE H; rcases H with ⟨c12, H⟩ | ⟨c12, H⟩
       ·
        have c12b0 := decide_eq_true c12
        clear c12
        obtain ⟨ji13, hji13⟩ : ∃ j_ : Int, (wrap64 (a2 + 1)) = j_ := ⟨_, rfl⟩
        replace H : (if 0 ≤ (ji13) then (if (ji13) < (l1_0.length : Int) then ((spec_l03JoinedAt.f [rd_T61 l0 (rd l1_1 a2)] ((rd_T45 l1_0 a2).f0) ((rd_T45 l1_0 a2).f1) ((rd_T45 l1_0 (ji13)).f0) ((rd_T45 l1_0 (ji13)).f1)).bind fun t664 => ((spec_l01Make.f k t664 1000).bind fun bt665 => (some (bt665.1, bt665.2, 0)))) else (none)) else (none)) = some (r1, r2, r3) := by first | (rw [hji13] at H; exact H) | (simp only [hji13] at H ⊢; exact H)
        (try rw [hji13] at A4)
        (try rw [hji13] at A6)
        have hji13w : (IntKind.i64.wrap (a2 + 1)) = ji13 := (i64_w _).trans hji13
        replace H := iE H; rcases H with ⟨c14, H⟩ | ⟨c14, H⟩
        ·
         have c14b0 := decide_eq_true c14
         clear c14
         replace H := iE H; rcases H with ⟨c15, H⟩ | ⟨c15, H⟩
         ·
          have c15b0 := decide_eq_true c15
          clear c15
          replace H := Option.bind_eq_some_iff.mp H
          obtain ⟨t664, A160, H⟩ := H
          replace H : ((spec_l01Make.f k t664 1000).bind fun bt665 => (some (bt665.1, bt665.2, 0))) = some (r1, r2, r3) := H
          have A16 := aS A160
          clear A160
          replace H := Option.bind_eq_some_iff.mp H
          obtain ⟨⟨t665, t666⟩, A170, H⟩ := H
          replace H : (some (t665, t666, 0)) = some (r1, r2, r3) := H
          have A17 := aS A170
          clear A170
          simp only [Option.some.injEq, Prod.mk.injEq] at H
          obtain ⟨rfl, rfl, rfl⟩ := H
          go_enter Try.func27, Try.ntmps27
          try go_wp2_with (first | ((with_reducible refine gate_dst (N := 4) rfl ?_); refine bx 4 #[.slice A1_0 l1_0.length c1_0, .slice A1_1 l1_1.length c1_1] 29 ?_; intro gb656 hg w18 hbox hb; have BK656 := aS (hbox); have GW656 := aS (gW hg (sW HB.out)); have GE656 := aS (gW hg (sW HB.out)); replace HB := aS (below_step (sW HB.out) hb); clear hb hbox hg) | ((with_reducible refine gate_dst (N := 6) rfl ?_); refine bx 6 #[.int .i64 0, .int .i64 0] 55 ?_; intro gb657 hg w19 hbox hb; have BK657 := aS (hbox); have GW657 := aS (gW hg (sW HB.out)); have GE657 := aS (gW hg (sW HB.out)); replace HB := aS (below_step (sW HB.out) hb); have NB656_657 := aS (nL hg (sB BK656.out)); have NB657_656 := aS (nG hg (sB BK656.out)); replace BK656 := aS (blk_below (sB BK656.out) hb); clear hb hbox hg) | ((with_reducible refine gate_callee (f := 74) rfl ?_); refine goesL_ (some 9) rfl rfl Try.func74 (by kernel_rfl) rfl #[.slice A0 l0.length c0, .pointer (some ⟨gb656, 0, none⟩)] rfl sG ?_; (with_reducible refine (spec_l03LineAt.calls k _ _ l0 _ 1 [(⟨l1_0, l1_1⟩ : S29)] true _ ?side1 ?side2 ?side3 ?side4 A4.out).mono ?_); (case side1 => exact sC (Kd.C_below HR0.out HB.out)); (case side2 => exact HC0.out); (case side3 => exact box_C (show (_ : World).heap[_]? = some (Obj.cells #[.slice A1_0 l1_0.length c1_0, .slice A1_1 l1_1.length c1_1] 29 (0, 0)) from by (with_reducible repeat (first | refine blk_drewN ?_ _ | refine blk_drew ?_ | refine blk_alloc ?_ _)); exact BK656.out) (k29_mk _ _ (by exact HC1_0.out) (by repeat (first | exact (Kd.C_below HR1_0.out HB.out) | (with_reducible refine Kd.C_alloc ?_ _) | (with_reducible refine Kd.C_drewN ?_ _) | (with_reducible refine Kd.C_drew ?_))) (by exact HC1_1.out) (by repeat (first | exact (Kd.C_below HR1_1.out HB.out) | (with_reducible refine Kd.C_alloc ?_ _) | (with_reducible refine Kd.C_drewN ?_ _) | (with_reducible refine Kd.C_drew ?_))))); (case side4 => exact Nat.le_refl _); rintro e w20 ⟨rfl, hb⟩; refine ⟨_, rfl, ?_⟩; replace BK656 := aS (blk_below (sB BK656.out) hb); replace BK657 := aS (blk_below (sB BK657.out) hb); replace HB := aS (below_step (sW HB.out) hb); (try clear hb); (try clear hb2); (try clear hk); (try clear hi); have hnb21 := NB656_657.out; have hnc21 := NB657_656.out; obtain ⟨hcz22_0, hcz22_1, hfz22_0, hfz22_1⟩ := z2 BK656.out) | ((with_reducible refine gate_callee (f := 75) rfl ?_); refine goesL_ (some 17) rfl rfl Try.func75 (by kernel_rfl) rfl #[.int .i64 a2, .int .i64 0, .int .i64 (wrap64 ((l1_1.length : Int) - 1))] rfl sG ?_; (with_reducible refine (spec_l00In.calls a2 0 (wrap64 ((l1_1.length : Int) - 1)) true _ A6.out).mono ?_); rintro e w' ⟨rfl, ⟨nd, rfl⟩⟩; refine ⟨_, rfl, ?_⟩; (try (rw [drewN_self w20]; generalize hq_ : World.drewN w20 _ = w20; have n0_ : Aside0 (w20.heap[gb656]? = some (.cells #[.slice A1_0 l1_0.length c1_0, .slice A1_1 l1_1.length c1_1] 29 (0, 0))) := ⟨by rw [← hq_]; exact (sB BK656.out)⟩; have n1_ : Aside0 (w20.heap[gb657]? = some (.cells #[.int .i64 0, .int .i64 0] 55 (0, 0))) := ⟨by rw [← hq_]; exact (sB BK657.out)⟩; have n2_ : Aside0 (Below w.heap.size w w20) := ⟨by rw [← hq_]; exact (sW HB.out)⟩; clear BK656 BK657 HB hq_; have BK656 := n0_; have BK657 := n1_; have HB := n2_; clear n0_ n1_ n2_)); (try (have hcu23_0 : w20.cell? ⟨gb656, 0, none⟩ = some (.slice A1_0 l1_0.length c1_0) := bq BK656.out 0; have hfu23_0 := blk_frozen BK656.out 0; have hcu23_1 : w20.cell? ⟨gb656, 1, none⟩ = some (.slice A1_1 l1_1.length c1_1) := bq BK656.out 1; have hfu23_1 := blk_frozen BK656.out 1)); (try (have hcu24_0 : w20.cell? ⟨gb657, 0, none⟩ = some (.int .i64 0) := bq BK657.out 0; have hfu24_0 := blk_frozen BK657.out 0; have hcu24_1 : w20.cell? ⟨gb657, 1, none⟩ = some (.int .i64 0) := bq BK657.out 1; have hfu24_1 := blk_frozen BK657.out 1))))
          replace BK656 := aS (blk_drew BK656.out); replace BK657 := aS (blk_drew BK657.out); replace HB := aS (below_drew1 HB.out)
          have p660 : 0 ≤ (a2 : Int) := sD
          have q660 : a2 < (l1_1.length : Int) := sD
          obtain ⟨ad660, e660, hx660_0⟩ := Kd.at_int HR1_1.out a2 p660 q660
          have hw660_0 := hx660_0
          cases e660
          replace hx660_0 := bC HB.out hx660_0
          replace p660 := eq_true p660
          replace q660 := eq_true q660
          have p661 : 0 ≤ ((rd l1_1 a2) : Int) := sD
          have q661 : (rd l1_1 a2) < (l0.length : Int) := sD
          obtain ⟨ad661, e661, hx661_0, hx661_1, hx661_2⟩ := at_T61 HR0.out (rd l1_1 a2) p661 q661
          have hw661_2 := hx661_2
          have hw661_1 := hx661_1
          have hw661_0 := hx661_0
          cases e661
          replace hx661_0 := bC HB.out hx661_0
          replace hx661_1 := bC HB.out hx661_1
          replace hx661_2 := bC HB.out hx661_2
          replace p661 := eq_true p661
          replace q661 := eq_true q661
          have p662 : 0 ≤ (a2 : Int) := sD
          have q662 : a2 < (l1_0.length : Int) := sD
          obtain ⟨ad662, e662, hx662_0, hx662_1⟩ := at_T45 HR1_0.out a2 p662 q662
          have hw662_1 := hx662_1
          have hw662_0 := hx662_0
          cases e662
          replace hx662_0 := bC HB.out hx662_0
          replace hx662_1 := bC HB.out hx662_1
          replace p662 := eq_true p662
          replace q662 := eq_true q662
          have p663 : 0 ≤ ((ji13) : Int) := sD
          have q663 : (ji13) < (l1_0.length : Int) := sD
          obtain ⟨ad663, e663, hx663_0, hx663_1⟩ := at_T45 HR1_0.out (ji13) p663 q663
          have hw663_1 := hx663_1
          have hw663_0 := hx663_0
          obtain rfl : ad662 = ad663 := (by injection e663)
          replace hx663_0 := bC HB.out hx663_0
          replace hx663_1 := bC HB.out hx663_1
          replace p663 := eq_true p663
          replace q663 := eq_true q663
          refine start_ (n := 22) (S := fun w' => w'.cell? ⟨gb656, 0, none⟩ = some (.slice (some ad662) l1_0.length c1_0) ∧ w'.cell? ⟨gb656, 1, none⟩ = some (.slice (some ad660) l1_1.length c1_1) ∧ w'.cell? (ad660.add (a2).toNat) = some (.int .i64 (rd l1_1 a2)) ∧ w'.cell? (ad661.add (((rd l1_1 a2)).toNat * 3)) = some (.string ((rd_T61 l0 (rd l1_1 a2)).f0)) ∧ w'.cell? ⟨(ad661.add (((rd l1_1 a2)).toNat * 3)).block, (ad661.add (((rd l1_1 a2)).toNat * 3)).off + 1, none⟩ = some (.int .i64 ((rd_T61 l0 (rd l1_1 a2)).f1)) ∧ w'.cell? ⟨(ad661.add (((rd l1_1 a2)).toNat * 3)).block, (ad661.add (((rd l1_1 a2)).toNat * 3)).off + 2, none⟩ = some (.int .i64 ((rd_T61 l0 (rd l1_1 a2)).f2)) ∧ w'.cell? (ad662.add ((a2).toNat * 2)) = some (.int .i64 ((rd_T45 l1_0 a2).f0)) ∧ w'.cell? ⟨(ad662.add ((a2).toNat * 2)).block, (ad662.add ((a2).toNat * 2)).off + 1, none⟩ = some (.int .i64 ((rd_T45 l1_0 a2).f1)) ∧ w'.cell? (ad662.add (((ji13)).toNat * 2)) = some (.int .i64 ((rd_T45 l1_0 (ji13)).f0)) ∧ w'.cell? ⟨(ad662.add (((ji13)).toNat * 2)).block, (ad662.add (((ji13)).toNat * 2)).off + 1, none⟩ = some (.int .i64 ((rd_T45 l1_0 (ji13)).f1))) (ds := []) _ (by kernel_rfl) rfl rfl ⟨bq BK656.out 0, bq BK656.out 1, ((HB.out.cell (World.block_lt_of_cell? w _ hw660_0)).trans hw660_0), ((HB.out.cell (World.block_lt_of_cell? w _ hw661_0)).trans hw661_0), ((HB.out.cell (World.block_lt_of_cell? w _ hw661_1)).trans hw661_1), ((HB.out.cell (World.block_lt_of_cell? w _ hw661_2)).trans hw661_2), ((HB.out.cell (World.block_lt_of_cell? w _ hw662_0)).trans hw662_0), ((HB.out.cell (World.block_lt_of_cell? w _ hw662_1)).trans hw662_1), ((HB.out.cell (World.block_lt_of_cell? w _ hw663_0)).trans hw663_0), ((HB.out.cell (World.block_lt_of_cell? w _ hw663_1)).trans hw663_1)⟩ (fun hHeld => ?_); refine with_tabW spec_StrengthAt.tab5 spec_StrengthAt.bits5 (fun HT_ HW_ => ?_)
          generalize w20.drew = w25 at BK656 BK657 HB hx660_0 hx661_0 hx661_1 hx661_2 hx662_0 hx662_1 hx663_0 hx663_1 hHeld ⊢
          refine pX 0 20 ?_; refine pX 1 21 ?_; refine pX 3 23 ?_; refine pX 7 27 ?_; refine pX 9 29 ?_; refine pX 12 32 ?_; refine pX 14 34 ?_; refine pX 15 35 ?_; refine tX 2 22 ?_; refine pX 4 24 ?_; refine tX 5 25 ?_; refine pX 6 26 ?_; refine tX 8 28 ?_; refine pX 10 30 ?_; refine tX 11 31 ?_; refine tX 13 33 ?_; refine pX 16 36 ?_; refine tX 17 37 ?_
          refine oX 18 (some 38) fun K hK => ?_
          refine goes_ Try.func69 (by kernel_rfl) rfl #[.pointer (some (ad661.add (((rd l1_1 a2)).toNat * 3))), .agg #[.int .i64 ((rd_T45 l1_0 a2).f0), .int .i64 ((rd_T45 l1_0 a2).f1)], .agg #[.int .i64 ((rd_T45 l1_0 (ji13)).f0), .int .i64 ((rd_T45 l1_0 (ji13)).f1)]] (by rfl) rfl rfl (by (try simp only [List.map_toArray, List.map_cons, List.map_nil]); first | done | (simp only [hji13]; rfl) | rfl | (simp only [List.length_drop, List.length_take]; rfl)) ?_
          with_reducible refine (spec_l03JoinedAt.calls _ 1 [rd_T61 l0 (rd l1_1 a2)] ((rd_T45 l1_0 a2).f0) ((rd_T45 l1_0 a2).f1) ((rd_T45 l1_0 (ji13)).f0) ((rd_T45 l1_0 (ji13)).f1) t664 _ ?side1 ?side2 A16.out).mono ?_
          (case side1 => refine elem_C ?_ z61 (rd l1_1 a2) (sD) (sD); repeat (first | exact (Kd.C_below HR0.out HB.out) | (with_reducible refine Kd.C_alloc ?_ _) | (with_reducible refine Kd.C_drewN ?_ _) | (with_reducible refine Kd.C_drew ?_)))
          (case side2 => exact Nat.le_refl _)
          rintro e w26 ⟨rfl, hb⟩
          refine ⟨_, rfl, ?_⟩
          replace BK656 := aS (blk_below (sB BK656.out) hb); replace BK657 := aS (blk_below (sB BK657.out) hb); replace HB := aS (below_step (sW HB.out) hb)
          refine hK.out _ _ ⟨bq BK656.out 0, bq BK656.out 1, ((HB.out.cell (World.block_lt_of_cell? w _ hw660_0)).trans hw660_0), ((HB.out.cell (World.block_lt_of_cell? w _ hw661_0)).trans hw661_0), ((HB.out.cell (World.block_lt_of_cell? w _ hw661_1)).trans hw661_1), ((HB.out.cell (World.block_lt_of_cell? w _ hw661_2)).trans hw661_2), ((HB.out.cell (World.block_lt_of_cell? w _ hw662_0)).trans hw662_0), ((HB.out.cell (World.block_lt_of_cell? w _ hw662_1)).trans hw662_1), ((HB.out.cell (World.block_lt_of_cell? w _ hw663_0)).trans hw663_0), ((HB.out.cell (World.block_lt_of_cell? w _ hw663_1)).trans hw663_1)⟩ (fun hHeld => ?_)
          clear hK K
          refine nX 38 ?_
          refine oX 19 (some 39) fun K hK => ?_
          refine goes_ Try.func76 (by kernel_rfl) rfl #[.int .i64 t664, .int .i64 1000] (by rfl) rfl rfl sG ?_
          with_reducible refine (spec_l01Make.calls k t664 1000 t665 t666 _ A17.out).mono ?_
          rintro e w27 ⟨rfl, hb⟩
          refine ⟨_, rfl, ?_⟩
          replace BK656 := aS (blk_below (sB BK656.out) hb); replace BK657 := aS (blk_below (sB BK657.out) hb); replace HB := aS (below_step (sW HB.out) hb)
          refine hK.out _ _ ⟨bq BK656.out 0, bq BK656.out 1, ((HB.out.cell (World.block_lt_of_cell? w _ hw660_0)).trans hw660_0), ((HB.out.cell (World.block_lt_of_cell? w _ hw661_0)).trans hw661_0), ((HB.out.cell (World.block_lt_of_cell? w _ hw661_1)).trans hw661_1), ((HB.out.cell (World.block_lt_of_cell? w _ hw661_2)).trans hw661_2), ((HB.out.cell (World.block_lt_of_cell? w _ hw662_0)).trans hw662_0), ((HB.out.cell (World.block_lt_of_cell? w _ hw662_1)).trans hw662_1), ((HB.out.cell (World.block_lt_of_cell? w _ hw663_0)).trans hw663_0), ((HB.out.cell (World.block_lt_of_cell? w _ hw663_1)).trans hw663_1)⟩ (fun hHeld => ?_)
          clear hK K
          refine nX 39 ?_
          refine oX 20 none fun K hK => ?_
          have hs28 : w27.cell? ⟨gb657, 0, none⟩ = some (.int .i64 0) := bq BK657.out 0
          have hfs28 := blk_frozen BK657.out 0
          have hns28_0 := NB656_657.out
          have hms28_0 := NB657_656.out
          have hs29 : w27.cell? ⟨gb657, 1, none⟩ = some (.int .i64 0) := bq BK657.out 1
          have hfs29 := blk_frozen BK657.out 1
          have hns29_0 := NB656_657.out
          have hms29_0 := NB657_656.out
          refine skip_ (w1 := ?_) (by rfl) rfl ?_ ?_
          rotate_left
          ·
           go_simp
           rfl
          refine hK.out _ _ ⟨((cell_far (p := ⟨gb657, _, none⟩) NB656_657.out _).trans (((cell_far (p := ⟨gb657, _, none⟩) NB656_657.out _).trans (hHeld.1)))), ((cell_far (p := ⟨gb657, _, none⟩) NB656_657.out _).trans (((cell_far (p := ⟨gb657, _, none⟩) NB656_657.out _).trans (hHeld.2.1)))), ((cell_far (p := ⟨gb657, _, none⟩) (nF hw660_0 GW657.out) _).trans (((cell_far (p := ⟨gb657, _, none⟩) (nF hw660_0 GW657.out) _).trans (hHeld.2.2.1)))), ((cell_far (p := ⟨gb657, _, none⟩) (nF hw661_0 GW657.out) _).trans (((cell_far (p := ⟨gb657, _, none⟩) (nF hw661_0 GW657.out) _).trans (hHeld.2.2.2.1)))), ((cell_far (p := ⟨gb657, _, none⟩) (nF hw661_1 GW657.out) _).trans (((cell_far (p := ⟨gb657, _, none⟩) (nF hw661_1 GW657.out) _).trans (hHeld.2.2.2.2.1)))), ((cell_far (p := ⟨gb657, _, none⟩) (nF hw661_2 GW657.out) _).trans (((cell_far (p := ⟨gb657, _, none⟩) (nF hw661_2 GW657.out) _).trans (hHeld.2.2.2.2.2.1)))), ((cell_far (p := ⟨gb657, _, none⟩) (nF hw662_0 GW657.out) _).trans (((cell_far (p := ⟨gb657, _, none⟩) (nF hw662_0 GW657.out) _).trans (hHeld.2.2.2.2.2.2.1)))), ((cell_far (p := ⟨gb657, _, none⟩) (nF hw662_1 GW657.out) _).trans (((cell_far (p := ⟨gb657, _, none⟩) (nF hw662_1 GW657.out) _).trans (hHeld.2.2.2.2.2.2.2.1)))), ((cell_far (p := ⟨gb657, _, none⟩) (nF hw663_0 GW657.out) _).trans (((cell_far (p := ⟨gb657, _, none⟩) (nF hw663_0 GW657.out) _).trans (hHeld.2.2.2.2.2.2.2.2.1)))), ((cell_far (p := ⟨gb657, _, none⟩) (nF hw663_1 GW657.out) _).trans (((cell_far (p := ⟨gb657, _, none⟩) (nF hw663_1 GW657.out) _).trans (hHeld.2.2.2.2.2.2.2.2.2))))⟩ (fun hHeld => ?_)
          clear hK K
          refine pX 21 7 ?_
          refine dX ?_
          try go_wp2
          refine bodyPost_ret (results_ct rfl _ _ gb657 55 #[.int .i64 t665, .int .i64 t666] (0, 0) _ rfl (sB (put2 BK657.out)) Try.underlying55 rfl (by kernel_rfl)) rfl ?_
          exact ⟨by first | rfl | (simp [errW_none, errW_some, i64_w]; done) | (simp [errW_none, errW_some] <;> rfl) | (simp only [← hji13]; first | rfl | (simp [errW_none, errW_some] <;> rfl)) | (simp [*, errW_none, errW_some] <;> rfl), sW HB.out⟩
         ·
          exact absurd H (by simp)
        ·
         exact absurd H (by simp)
       ·
        exact absurd H (by simp)
      ·
       exact absurd H (by simp)
     ·
      exact absurd H (by simp)
    ·
     exact absurd H (by simp)
   ·
    exact absurd H (by simp)
  ·
   replace c7 := Bool.eq_false_iff.mpr c7
   subst c7
   have H1 : (some (0, 0, 2)) = some (r1, r2, r3) := by rw [if_neg (show ¬ (false = true) by decide)] at H; exact H
   clear H
   have H := H1
   clear H1
   simp only [Option.some.injEq, Prod.mk.injEq] at H
   obtain ⟨rfl, rfl, rfl⟩ := H
   go_enter Try.func27, Try.ntmps27
   go_wp2_with (first | ((with_reducible refine gate_dst (N := 4) rfl ?_); refine bx 4 #[.slice A1_0 l1_0.length c1_0, .slice A1_1 l1_1.length c1_1] 29 ?_; intro gb656 hg w30 hbox hb; have BK656 := aS (hbox); have GW656 := aS (gW hg (sW HB.out)); have GE656 := aS (gW hg (sW HB.out)); replace HB := aS (below_step (sW HB.out) hb); clear hb hbox hg) | ((with_reducible refine gate_dst (N := 6) rfl ?_); refine bx 6 #[.int .i64 0, .int .i64 0] 55 ?_; intro gb657 hg w31 hbox hb; have BK657 := aS (hbox); have GW657 := aS (gW hg (sW HB.out)); have GE657 := aS (gW hg (sW HB.out)); replace HB := aS (below_step (sW HB.out) hb); have NB656_657 := aS (nL hg (sB BK656.out)); have NB657_656 := aS (nG hg (sB BK656.out)); replace BK656 := aS (blk_below (sB BK656.out) hb); clear hb hbox hg) | ((with_reducible refine gate_callee (f := 74) rfl ?_); refine goesL_ (some 9) rfl rfl Try.func74 (by kernel_rfl) rfl #[.slice A0 l0.length c0, .pointer (some ⟨gb656, 0, none⟩)] rfl sG ?_; (with_reducible refine (spec_l03LineAt.calls k _ _ l0 _ 1 [(⟨l1_0, l1_1⟩ : S29)] true _ ?side1 ?side2 ?side3 ?side4 A4.out).mono ?_); (case side1 => exact sC (Kd.C_below HR0.out HB.out)); (case side2 => exact HC0.out); (case side3 => exact box_C (show (_ : World).heap[_]? = some (Obj.cells #[.slice A1_0 l1_0.length c1_0, .slice A1_1 l1_1.length c1_1] 29 (0, 0)) from by (with_reducible repeat (first | refine blk_drewN ?_ _ | refine blk_drew ?_ | refine blk_alloc ?_ _)); exact BK656.out) (k29_mk _ _ (by exact HC1_0.out) (by repeat (first | exact (Kd.C_below HR1_0.out HB.out) | (with_reducible refine Kd.C_alloc ?_ _) | (with_reducible refine Kd.C_drewN ?_ _) | (with_reducible refine Kd.C_drew ?_))) (by exact HC1_1.out) (by repeat (first | exact (Kd.C_below HR1_1.out HB.out) | (with_reducible refine Kd.C_alloc ?_ _) | (with_reducible refine Kd.C_drewN ?_ _) | (with_reducible refine Kd.C_drew ?_))))); (case side4 => exact Nat.le_refl _); rintro e w32 ⟨rfl, hb⟩; refine ⟨_, rfl, ?_⟩; replace BK656 := aS (blk_below (sB BK656.out) hb); replace BK657 := aS (blk_below (sB BK657.out) hb); replace HB := aS (below_step (sW HB.out) hb); (try clear hb); (try clear hb2); (try clear hk); (try clear hi); have hnb33 := NB656_657.out; have hnc33 := NB657_656.out; obtain ⟨hcz34_0, hcz34_1, hfz34_0, hfz34_1⟩ := z2 BK656.out) | ((with_reducible refine gate_callee (f := 75) rfl ?_); refine goesL_ (some 17) rfl rfl Try.func75 (by kernel_rfl) rfl #[.int .i64 a2, .int .i64 0, .int .i64 (wrap64 ((l1_1.length : Int) - 1))] rfl sG ?_; (with_reducible refine (spec_l00In.calls a2 0 (wrap64 ((l1_1.length : Int) - 1)) false _ A6.out).mono ?_); rintro e w' ⟨rfl, ⟨nd, rfl⟩⟩; refine ⟨_, rfl, ?_⟩; (try (rw [drewN_self w32]; generalize hq_ : World.drewN w32 _ = w32; have n0_ : Aside0 (w32.heap[gb656]? = some (.cells #[.slice A1_0 l1_0.length c1_0, .slice A1_1 l1_1.length c1_1] 29 (0, 0))) := ⟨by rw [← hq_]; exact (sB BK656.out)⟩; have n1_ : Aside0 (w32.heap[gb657]? = some (.cells #[.int .i64 0, .int .i64 0] 55 (0, 0))) := ⟨by rw [← hq_]; exact (sB BK657.out)⟩; have n2_ : Aside0 (Below w.heap.size w w32) := ⟨by rw [← hq_]; exact (sW HB.out)⟩; clear BK656 BK657 HB hq_; have BK656 := n0_; have BK657 := n1_; have HB := n2_; clear n0_ n1_ n2_)); (try (have hcu35_0 : w32.cell? ⟨gb656, 0, none⟩ = some (.slice A1_0 l1_0.length c1_0) := bq BK656.out 0; have hfu35_0 := blk_frozen BK656.out 0; have hcu35_1 : w32.cell? ⟨gb656, 1, none⟩ = some (.slice A1_1 l1_1.length c1_1) := bq BK656.out 1; have hfu35_1 := blk_frozen BK656.out 1)); (try (have hcu36_0 : w32.cell? ⟨gb657, 0, none⟩ = some (.int .i64 0) := bq BK657.out 0; have hfu36_0 := blk_frozen BK657.out 0; have hcu36_1 : w32.cell? ⟨gb657, 1, none⟩ = some (.int .i64 0) := bq BK657.out 1; have hfu36_1 := blk_frozen BK657.out 1)); obtain ⟨hcz37_0, hcz37_1, hfz37_0, hfz37_1⟩ := z2 BK657.out))
   refine bodyPost_ret (results_ct rfl _ _ gb657 55 #[.int .i64 0, .int .i64 0] (0, 0) _ rfl (sB (put2 BK657.out)) Try.underlying55 rfl (by kernel_rfl)) rfl ?_
   exact ⟨eE, sW HB.out⟩
 ·
  replace c5 := Bool.eq_false_iff.mpr c5
  subst c5
  have H1 : (some (0, 0, 1)) = some (r1, r2, r3) := by rw [if_neg (show ¬ (false = true) by decide)] at H; exact H
  clear H
  have H := H1
  clear H1
  simp only [Option.some.injEq, Prod.mk.injEq] at H
  obtain ⟨rfl, rfl, rfl⟩ := H
  go_enter Try.func27, Try.ntmps27
  go_wp2_with (first | ((with_reducible refine gate_dst (N := 4) rfl ?_); refine bx 4 #[.slice A1_0 l1_0.length c1_0, .slice A1_1 l1_1.length c1_1] 29 ?_; intro gb656 hg w38 hbox hb; have BK656 := aS (hbox); have GW656 := aS (gW hg (sW HB.out)); have GE656 := aS (gW hg (sW HB.out)); replace HB := aS (below_step (sW HB.out) hb); clear hb hbox hg) | ((with_reducible refine gate_dst (N := 6) rfl ?_); refine bx 6 #[.int .i64 0, .int .i64 0] 55 ?_; intro gb657 hg w39 hbox hb; have BK657 := aS (hbox); have GW657 := aS (gW hg (sW HB.out)); have GE657 := aS (gW hg (sW HB.out)); replace HB := aS (below_step (sW HB.out) hb); have NB656_657 := aS (nL hg (sB BK656.out)); have NB657_656 := aS (nG hg (sB BK656.out)); replace BK656 := aS (blk_below (sB BK656.out) hb); clear hb hbox hg) | ((with_reducible refine gate_callee (f := 74) rfl ?_); refine goesL_ (some 9) rfl rfl Try.func74 (by kernel_rfl) rfl #[.slice A0 l0.length c0, .pointer (some ⟨gb656, 0, none⟩)] rfl sG ?_; (with_reducible refine (spec_l03LineAt.calls k _ _ l0 _ 1 [(⟨l1_0, l1_1⟩ : S29)] false _ ?side1 ?side2 ?side3 ?side4 A4.out).mono ?_); (case side1 => exact sC (Kd.C_below HR0.out HB.out)); (case side2 => exact HC0.out); (case side3 => exact box_C (show (_ : World).heap[_]? = some (Obj.cells #[.slice A1_0 l1_0.length c1_0, .slice A1_1 l1_1.length c1_1] 29 (0, 0)) from by (with_reducible repeat (first | refine blk_drewN ?_ _ | refine blk_drew ?_ | refine blk_alloc ?_ _)); exact BK656.out) (k29_mk _ _ (by exact HC1_0.out) (by repeat (first | exact (Kd.C_below HR1_0.out HB.out) | (with_reducible refine Kd.C_alloc ?_ _) | (with_reducible refine Kd.C_drewN ?_ _) | (with_reducible refine Kd.C_drew ?_))) (by exact HC1_1.out) (by repeat (first | exact (Kd.C_below HR1_1.out HB.out) | (with_reducible refine Kd.C_alloc ?_ _) | (with_reducible refine Kd.C_drewN ?_ _) | (with_reducible refine Kd.C_drew ?_))))); (case side4 => exact Nat.le_refl _); rintro e w40 ⟨rfl, hb⟩; refine ⟨_, rfl, ?_⟩; replace BK656 := aS (blk_below (sB BK656.out) hb); replace BK657 := aS (blk_below (sB BK657.out) hb); replace HB := aS (below_step (sW HB.out) hb); (try clear hb); (try clear hb2); (try clear hk); (try clear hi); have hnb41 := NB657_656.out; have hnc41 := NB656_657.out; obtain ⟨hcz42_0, hcz42_1, hfz42_0, hfz42_1⟩ := z2 BK657.out))
  refine bodyPost_ret (results_ct rfl _ _ gb657 55 #[.int .i64 0, .int .i64 0] (0, 0) _ rfl (sB (put2 BK657.out)) Try.underlying55 rfl (by kernel_rfl)) rfl ?_
  exact ⟨eE, sW HB.out⟩

/-! ### spec_l00Same: function 77 -/
def spec_l00Same.l0 : Nat → List Int → List Int → Int → Option (Bool)
 | 0, _, _, _ => none
 | k + 1, x0, x1, x5 => if x5 < (x0.length : Int) then (if 0 ≤ x5 then (if x5 < (x1.length : Int) then (if (rd x0 x5) = (rd x1 x5) then (spec_l00Same.l0 k x0 x1 (wrap64 (x5 + 1))) else (some false)) else (none)) else (none)) else (some true)
def spec_l00Same.f (k : Nat) (l0 : List Int) (l1 : List Int) : Option (Bool) := if (l0.length : Int) = (l1.length : Int) then (spec_l00Same.l0 k l0 l1 0) else (some false)
theorem spec_l00Same.mono_l : ∀ k, (∀ y0 y1 y2, LeO (spec_l00Same.l0 k y0 y1 y2) (spec_l00Same.l0 (k + 1) y0 y1 y2))
 | 0 => fun _ _ _ r h => by simp [spec_l00Same.l0] at h
 | k + 1 => by
  have ih0 := spec_l00Same.mono_l k
  ·
   intro y0 y1 y2
   unfold spec_l00Same.l0
   repeat' first | (with_reducible first | exact ih0 _ _ _ | exact LeO.refl _ | exact LeO.none _ | refine LeO.ite ?_ ?_ | refine LeO.bind ?_ (fun _ => ?_)) | refine LeO.ite ?_ ?_ | refine LeO.bind ?_ (fun _ => ?_)
theorem spec_l00Same.mono : ∀ a0 a1 k, LeO (spec_l00Same.f k a0 a1) (spec_l00Same.f (k + 1) a0 a1) := by
 intro a0 a1 k
 have ih0 := spec_l00Same.mono_l k
 unfold spec_l00Same.f
 repeat' first | (with_reducible first | exact ih0 _ _ _ | exact LeO.refl _ | exact LeO.none _ | refine LeO.ite ?_ ?_ | refine LeO.bind ?_ (fun _ => ?_)) | refine LeO.ite ?_ ?_ | refine LeO.bind ?_ (fun _ => ?_)
set_option maxHeartbeats 8000000 in
set_option maxRecDepth 100000 in
theorem spec_l00Same.calls (k : Nat) (A0 : Option Addr) (c0 : Nat) (l0 : List Int) (A1 : Option Addr) (c1 : Nat) (l1 : List Int) (r : Bool) (w : World) (hr0 : Kd.C (Kd.int .i64) w A0 l0.length l0) (hc0 : l0.length ≤ c0) (hr1 : Kd.C (Kd.int .i64) w A1 l1.length l1) (hc1 : l1.length ≤ c1) (h : spec_l00Same.f k l0 l1 = some r) :
  Calls Try.prog 77 #[.slice A0 l0.length c0, .slice A1 l1.length c1] w fun e w' => e = .returned (.bool r) ∧ Drawn0 w w' := by
 have HR0 := aS hr0
 have HC0 := aS hc0
 clear hr0 hc0
 have HR1 := aS hr1
 have HC1 := aS hc1
 clear hr1 hc1
 have H := h
 clear h
 unfold spec_l00Same.f at H
 replace H := iE H; rcases H with ⟨c3, H⟩ | ⟨c3, H⟩
 ·
  have c3b0 := beq_iff_eq.mpr c3
  have c3b1 := bne_eq_false_iff_eq.mpr c3
  have c3b2 : (l0.length == l1.length) = true := by first | simpa using c3 | (simp at c3 ⊢; omega)
  clear c3
  have H' := aS H
  clear H
  go_enter Try.func77, Try.ntmps77
  go_wp2
  repeat (go_quiet (fail); try go_wp2)
  go_loopg [5] k (fun kq v5 w' => ∃ (x5_1 : Int), v5 = .int .i64 x5_1 ∧ Aside0 (spec_l00Same.l0 kq l0 l1 x5_1 = some r) ∧ Aside0 (kq ≤ k) ∧ Drawn0 w w')
  case atStart => exact ⟨(0), eV, H', ⟨Nat.le_refl _⟩, eD⟩
  case round =>
   clear H'
   obtain ⟨x5_1, rfl, HA, HK1, ⟨m1, rfl⟩⟩ := hrel
   cases gk with
   | zero => exact absurd HA.out (by simp [spec_l00Same.l0])
   | succ k1 =>
    have H := HA.out
    clear HA
    simp only [spec_l00Same.l0] at H
    replace H := iE H; rcases H with ⟨c4, H⟩ | ⟨c4, H⟩
    ·
     have c4b0 := decide_eq_true c4
     clear c4
     replace H := iE H; rcases H with ⟨c5, H⟩ | ⟨c5, H⟩
     ·
      have c5b0 := decide_eq_true c5
      clear c5
      replace H := iE H; rcases H with ⟨c6, H⟩ | ⟨c6, H⟩
      ·
       have c6b0 := decide_eq_true c6
       clear c6
       replace H := iE H; rcases H with ⟨c7, H⟩ | ⟨c7, H⟩
       ·
        have c7b0 := beq_iff_eq.mpr c7
        have c7b1 := bne_eq_false_iff_eq.mpr c7
        clear c7
        have H' := aS H
        clear H
        have p667 : 0 ≤ (x5_1 : Int) := sD
        have q667 : x5_1 < (l0.length : Int) := sD
        obtain ⟨ad667, e667, hx667_0⟩ := Kd.at_int HR0.out x5_1 p667 q667
        cases e667
        replace p667 := eq_true p667
        replace q667 := eq_true q667
        have p668 : 0 ≤ (x5_1 : Int) := sD
        have q668 : x5_1 < (l1.length : Int) := sD
        obtain ⟨ad668, e668, hx668_0⟩ := Kd.at_int HR1.out x5_1 p668 q668
        cases e668
        replace p668 := eq_true p668
        replace q668 := eq_true q668
        go_wp2
        repeat (go_quiet (fail); try go_wp2)
        go_roundg k1
        case measure => have := HK1.out; omega
        case rel => exact ⟨(wrap64 (x5_1 + 1)), eV, H', ⟨by have := HK1.out; omega⟩, eD⟩
       ·
        have c7b0 := beq_eq_false_iff_ne.mpr c7
        have c7b1 := bne_iff_ne.mpr c7
        obtain rfl := Option.some.inj H
        have p667 : 0 ≤ (x5_1 : Int) := sD
        have q667 : x5_1 < (l0.length : Int) := sD
        obtain ⟨ad667, e667, hx667_0⟩ := Kd.at_int HR0.out x5_1 p667 q667
        cases e667
        replace p667 := eq_true p667
        replace q667 := eq_true q667
        have p668 : 0 ≤ (x5_1 : Int) := sD
        have q668 : x5_1 < (l1.length : Int) := sD
        obtain ⟨ad668, e668, hx668_0⟩ := Kd.at_int HR1.out x5_1 p668 q668
        cases e668
        replace p668 := eq_true p668
        replace q668 := eq_true q668
        go_wp2
        repeat (go_quiet (fail); try go_wp2)
        go_ret
        exact ⟨eV, eD⟩
      ·
       exact absurd H (by simp)
     ·
      exact absurd H (by simp)
    ·
     have c4b0 := decide_eq_false c4
     clear c4
     obtain rfl := Option.some.inj H
     go_wp2
     repeat (go_quiet (fail); try go_wp2)
     go_ret
     exact ⟨eV, eD⟩
 ·
  have c3b0 := beq_eq_false_iff_ne.mpr c3
  have c3b1 := bne_iff_ne.mpr c3
  have c3b2 : (l0.length == l1.length) = false := by first | simpa using c3 | (simp at c3 ⊢; omega)
  obtain rfl := Option.some.inj H
  go_enter Try.func77, Try.ntmps77
  go_wp2
  repeat (go_quiet (fail); try go_wp2)
  go_ret
  exact ⟨eV, eD⟩

end Go.Proofs.Ytginmioklkcgbaa.QFnBestJoins

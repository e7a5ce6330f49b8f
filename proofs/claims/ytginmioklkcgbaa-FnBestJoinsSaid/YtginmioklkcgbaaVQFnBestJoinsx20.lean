/- What the Go functions of this law compute, each as a Lean function, and that each call comes to that answer; written by a program of this session. No condition. -/
import Derived.Test.YtginmioklkcgbaaVShn
import Derived.Test.YtginmioklkcgbaaVQFnBestJoinsx0
import Derived.Test.YtginmioklkcgbaaVQFnBestJoinsx3
import Derived.Test.YtginmioklkcgbaaVQFnBestJoinsx4
import Derived.Test.YtginmioklkcgbaaVQFnBestJoinsx19
namespace Go.Proofs.Ytginmioklkcgbaa.QFnBestJoins
open Go.RowKit Go.Proofs.YtginmioklkcgbaaW.PrintWords Go.Proofs.YtginmioklkcgbaaW.PrintLast Go.Proofs.YtginmioklkcgbaaW.PrintMore
attribute [local go_sem] max2_int min2_int max_two min_two max_three min_three max_four min_four   -- for this text's walks alone
set_option linter.unusedVariables false
set_option linter.unusedSimpArgs false

/-! ### spec_l03LineAt: function 74 -/
mutual
def spec_l03LineAt.j0 : Nat → List (S61) → List (S29) → Bool → Option (Bool)
 | 0, _, _, _ => none
 | k + 1, x0, x1, x32 => if x32 = true then (some false) else (spec_l03LineAt.l0 k x0 x1 0)
def spec_l03LineAt.l0 : Nat → List (S61) → List (S29) → Int → Option (Bool)
 | 0, _, _, _ => none
 | k + 1, x0, x1, x5 => if 0 < (x1.length : Int) then (if x5 < (((rd_T29 x1 0).f0).length : Int) then (if 0 ≤ x5 then ((spec_l03Piece.f ((rd_T45 ((rd_T29 x1 0).f0) x5).f0) ((rd_T45 ((rd_T29 x1 0).f0) x5).f1)).bind fun t647 => (if t647 = true then (spec_l03LineAt.l0 k x0 x1 (wrap64 (x5 + 1))) else (some false))) else (none)) else (spec_l03LineAt.l1 k x0 x1 0)) else (none)
def spec_l03LineAt.l1 : Nat → List (S61) → List (S29) → Int → Option (Bool)
 | 0, _, _, _ => none
 | k + 1, x0, x1, x6 => if 0 < (x1.length : Int) then (if x6 < (((rd_T29 x1 0).f1).length : Int) then (if 0 ≤ x6 then ((spec_l00In.f (rd ((rd_T29 x1 0).f1) x6) 0 (wrap64 ((x0.length : Int) - 1))).bind fun t651 => (if t651 = true then (spec_l03LineAt.l1 k x0 x1 (wrap64 (x6 + 1))) else (some false))) else (none)) else ((spec_l03LengthAt.f k x0 x1).bind fun t652 => (some (decide (t652 ≥ 1))))) else (none)
end
def spec_l03LineAt.f (k : Nat) (l0 : List (S61)) (l1 : List (S29)) : Option (Bool) := (spec_l03Ok.f k l0).bind fun t639 => (if t639 = true then (if 0 < (l1.length : Int) then ((spec_l00In.f (((rd_T29 l1 0).f0).length : Int) 1 12).bind fun t641 => (if t641 = true then (spec_l03LineAt.j0 k l0 l1 ((((rd_T29 l1 0).f1).length : Int) != (wrap64 ((((rd_T29 l1 0).f0).length : Int) - 1)))) else (spec_l03LineAt.j0 k l0 l1 true))) else (none)) else (spec_l03LineAt.j0 k l0 l1 true))
theorem spec_l03LineAt.mono_l : ∀ k, (∀ y0 y1 y2, LeO (spec_l03LineAt.j0 k y0 y1 y2) (spec_l03LineAt.j0 (k + 1) y0 y1 y2)) ∧ (∀ y0 y1 y2, LeO (spec_l03LineAt.l0 k y0 y1 y2) (spec_l03LineAt.l0 (k + 1) y0 y1 y2)) ∧ (∀ y0 y1 y2, LeO (spec_l03LineAt.l1 k y0 y1 y2) (spec_l03LineAt.l1 (k + 1) y0 y1 y2))
 | 0 => by refine ⟨?_, ?_, ?_⟩ <;> (intros; intro r h; simp [spec_l03LineAt.j0, spec_l03LineAt.l0, spec_l03LineAt.l1] at h)
 | k + 1 => by
  obtain ⟨ih0, ih1, ih2⟩ := spec_l03LineAt.mono_l k
  refine ⟨?_, ?_, ?_⟩ <;> (intros; (first | unfold spec_l03LineAt.j0 | unfold spec_l03LineAt.l0 | unfold spec_l03LineAt.l1); repeat' first | (with_reducible first | exact ih0 _ _ _ | exact ih1 _ _ _ | exact ih2 _ _ _ | exact spec_l03LengthAt.mono _ _ _ | exact spec_l03Ok.mono _ _ | exact LeO.refl _ | exact LeO.none _ | refine LeO.ite ?_ ?_ | refine LeO.bind ?_ (fun _ => ?_)) | refine LeO.ite ?_ ?_ | refine LeO.bind ?_ (fun _ => ?_))
theorem spec_l03LineAt.mono : ∀ a0 a1 k, LeO (spec_l03LineAt.f k a0 a1) (spec_l03LineAt.f (k + 1) a0 a1) := by
 intro a0 a1 k
 obtain ⟨ih0, ih1, ih2⟩ := spec_l03LineAt.mono_l k
 unfold spec_l03LineAt.f
 repeat' first | (with_reducible first | exact ih0 _ _ _ | exact ih1 _ _ _ | exact ih2 _ _ _ | exact spec_l03LengthAt.mono _ _ _ | exact spec_l03Ok.mono _ _ | exact LeO.refl _ | exact LeO.none _ | refine LeO.ite ?_ ?_ | refine LeO.bind ?_ (fun _ => ?_)) | refine LeO.ite ?_ ?_ | refine LeO.bind ?_ (fun _ => ?_)
def spec_l03LineAt.T1 : Bool × List (List Nat × List Nat) := (true, [([], []), ([0], [0]), ([1], [1]), ([2, 1], [2]), ([3], [3]), ([4, 3], [3, 4]), ([5, 3], [3, 5]), ([6, 3], [3, 6]), ([7, 3], [3, 7]), ([8, 3, 3], [3, 8]), ([9, 3], [3, 9]), ([3, 10], [3, 10]), ([11, 9], [11]), ([12], [12]), ([13, 12], [12, 13]), ([14, 12], [12, 14]), ([15, 12], [12, 15]), ([16, 12], [12, 16]), ([12], [12]), ([18, 12], [12, 18]), ([19, 12], [12, 19]), ([20, 12], [12, 20]), ([21, 12], [12, 21]), ([22, 12], [12, 22]), ([17, 23, 12], [12, 17, 23]), ([12, 24], [12, 24])])
def spec_l03LineAt.B1 : List Nat := [0, 1, 3, 7, 15, 31, 63, 127, 255, 511, 1023, 2047, 4095, 8191, 16383, 32767, 65535, 131071, 8191, 270335, 794623, 1843199, 3940351, 8134655, 16777215, 33554431]
theorem spec_l03LineAt.tab1 : rtab .any (opsOf Try.f74 1) = spec_l03LineAt.T1 := by kernel_rfl
theorem spec_l03LineAt.bits1 : waitsOk spec_l03LineAt.T1.2 spec_l03LineAt.B1 = true := by kernel_rfl
def spec_l03LineAt.bF (n k : Nat) : Array Bool := ((List.range n).map fun i => k.testBit i).toArray
set_option maxHeartbeats 8000000 in
set_option maxRecDepth 100000 in
theorem spec_l03LineAt.calls (k : Nat) (A0 : Option Addr) (c0 : Nat) (l0 : List (S61)) (A1 : Option Addr) (c1 : Nat) (l1 : List (S29)) (r : Bool) (w : World) (hr0 : Kd.C k61 w A0 l0.length l0) (hc0 : l0.length ≤ c0) (hr1 : Kd.C k29 w A1 l1.length l1) (hc1 : l1.length ≤ c1) (h : spec_l03LineAt.f k l0 l1 = some r) :
  Calls Try.prog 74 #[.slice A0 l0.length c0, .pointer A1] w fun e w' => e = .returned (.bool r) ∧ Below w.heap.size w w' := by
 have hu45 := Try.underlying45
 have HR0 := aS hr0
 have HC0 := aS hc0
 clear hr0 hc0
 have HR1 := aS hr1
 have HC1 := aS hc1
 clear hr1 hc1
 have HB := aS (Below.refl w.heap.size w)
 have H := h
 clear h
 unfold spec_l03LineAt.f at H
 have HC3 := aS H
 clear H
 go_enter Try.func74, Try.ntmps74
 go_upto_region 1 with (fail)
 go_cut [32] (fun v32 wc => ∃ (kq : Nat) (x32_2 : Bool), v32 = .bool x32_2 ∧ Aside0 (spec_l03LineAt.j0 kq l0 l1 x32_2 = some r) ∧ Aside0 (kq ≤ k) ∧ Aside0 (Below w.heap.size w wc))
 case first =>
  have H := HC3.out
  clear HC3
  replace H := bE H; obtain ⟨t639, A4, H⟩ := H; try dsimp only at H
  replace H := iE H; rcases H with ⟨c5, H⟩ | ⟨c5, H⟩
  rotate_left
  ·
   replace c5 := Bool.eq_false_iff.mpr c5
   subst c5
   have H' := aS H
   clear H
   try go_wp2
   replace HB := aS (below_drew1 HB.out)
   refine start_ (n := 26) (S := fun w' => True) (ds := []) _ (by kernel_rfl) rfl rfl trivial (fun hHeld => ?_); refine with_tabW spec_l03LineAt.tab1 spec_l03LineAt.bits1 (fun HT_ HW_ => ?_)
   generalize w.drew = w13 at HB hHeld ⊢
   refine pX 0 7 ?_
   refine oX 1 (some 8) fun K hK => ?_
   refine goes_ Try.func43 (by kernel_rfl) rfl #[.slice A0 l0.length c0] (by rfl) rfl rfl sG ?_
   with_reducible refine (spec_l03Ok.calls k _ _ l0 false _ ?side1 ?side2 A4.out).mono ?_
   (case side1 => exact sC (Kd.C_below HR0.out HB.out))
   (case side2 => exact HC0.out)
   rintro e w14 ⟨rfl, hb⟩
   refine ⟨_, rfl, ?_⟩
   replace HB := aS (below_step (sW HB.out) hb)
   refine hK.out _ _ trivial (fun hHeld => ?_)
   clear hK K
   refine nX 8 ?_
   refine pX 2 9 ?_; refine pX 3 10 ?_; refine pU 4 11 ?_; refine pU 5 12 ?_; refine pU 6 13 ?_; refine pU 7 14 ?_; refine pU 8 15 ?_; refine pU 9 16 ?_; refine pU 10 17 ?_; refine pX 11 18 ?_; refine pX 12 19 ?_; refine pU 13 20 ?_; refine pU 14 21 ?_; refine pU 15 22 ?_; refine pU 16 23 ?_; refine pU 17 24 ?_; refine pU 18 25 ?_; refine pU 19 26 ?_; refine pU 20 27 ?_; refine pU 21 28 ?_; refine pU 22 29 ?_; refine pU 23 30 ?_; refine pU 24 31 ?_; refine pX 25 32 ?_
   refine dX ?_
   try go_wp2
   go_meet
   case rel => exact ⟨_, (true), eV, H', ⟨by first | omega | exact Nat.le_refl _⟩, (aS (sW HB.out))⟩
  subst c5
  replace H := iN H
  obtain ⟨c6, H⟩ := H
  have c6b0 := decide_eq_true c6
  have c6b1 : decide (0 < l1.length) = true := decide_eq_true (by omega)
  clear c6
  (first | rw [c6b0] | (simp only [i64_w, i32_w]; rw [c6b0]) | (rw [c6b2]; simp only [Bool.not_false, Bool.not_true]) | skip)
  replace H := bE H; obtain ⟨t641, A7, H⟩ := H; try dsimp only at H
  replace H := iE H; rcases H with ⟨c8, H⟩ | ⟨c8, H⟩
  rotate_left
  ·
   replace c8 := Bool.eq_false_iff.mpr c8
   subst c8
   have H' := aS H
   clear H
   try go_wp2
   replace HB := aS (below_drew1 HB.out)
   have p640 : 0 ≤ (0 : Int) := (by omega)
   have q640 : 0 < (l1.length : Int) := sD
   obtain ⟨ad640, A640_0, c640_0, A640_1, c640_1, e640, hx640_0, hx640_1, hl640_0, hi640_0, hl640_1, hi640_1⟩ := at_T29 HR1.out 0 p640 q640
   have hw640_1 := hx640_1
   (try rw [show ((0 : Int)).toNat = 0 from rfl] at hw640_1)
   (try rw [show 0 * 2 = 0 from rfl] at hw640_1)
   (try rw [Addr.add_zero'] at hw640_1)
   have hw640_0 := hx640_0
   (try rw [show ((0 : Int)).toNat = 0 from rfl] at hw640_0)
   (try rw [show 0 * 2 = 0 from rfl] at hw640_0)
   (try rw [Addr.add_zero'] at hw640_0)
   cases e640
   have qi640 : (0 < l1.length) = True := eq_true (by omega)
   (try rw [show ((0 : Int)).toNat = 0 from rfl] at hx640_0)
   (try rw [show 0 * 2 = 0 from rfl] at hx640_0)
   (try rw [Addr.add_zero'] at hx640_0)
   (try rw [show ((0 : Int)).toNat = 0 from rfl] at hx640_1)
   (try rw [show 0 * 2 = 0 from rfl] at hx640_1)
   (try rw [Addr.add_zero'] at hx640_1)
   replace hx640_0 := bC HB.out hx640_0
   replace hx640_1 := bC HB.out hx640_1
   have HR640_0 := aS hi640_0
   have HC640_0 := aS hl640_0
   clear hi640_0 hl640_0
   have HR640_1 := aS hi640_1
   have HC640_1 := aS hl640_1
   clear hi640_1 hl640_1
   replace p640 := eq_true p640
   replace q640 := eq_true q640
   refine start_ (n := 26) (S := fun w' => w'.cell? ad640 = some (.slice A640_0 ((rd_T29 l1 0).f0).length c640_0) ∧ w'.cell? ⟨ad640.block, ad640.off + 1, none⟩ = some (.slice A640_1 ((rd_T29 l1 0).f1).length c640_1)) (ds := []) _ (by kernel_rfl) rfl rfl ⟨((HB.out.cell (World.block_lt_of_cell? w _ hw640_0)).trans hw640_0), ((HB.out.cell (World.block_lt_of_cell? w _ hw640_1)).trans hw640_1)⟩ (fun hHeld => ?_); refine with_tabW spec_l03LineAt.tab1 spec_l03LineAt.bits1 (fun HT_ HW_ => ?_)
   generalize w.drew = w11 at HB HR640_0 HR640_1 hx640_0 hx640_1 hHeld ⊢
   refine pX 0 7 ?_
   refine oX 1 (some 8) fun K hK => ?_
   refine goes_ Try.func43 (by kernel_rfl) rfl #[.slice A0 l0.length c0] (by rfl) rfl rfl sG ?_
   with_reducible refine (spec_l03Ok.calls k _ _ l0 true _ ?side1 ?side2 A4.out).mono ?_
   (case side1 => exact sC (Kd.C_below HR0.out HB.out))
   (case side2 => exact HC0.out)
   rintro e w12 ⟨rfl, hb⟩
   refine ⟨_, rfl, ?_⟩
   replace HB := aS (below_step (sW HB.out) hb)
   refine hK.out _ _ ⟨((HB.out.cell (World.block_lt_of_cell? w _ hw640_0)).trans hw640_0), ((HB.out.cell (World.block_lt_of_cell? w _ hw640_1)).trans hw640_1)⟩ (fun hHeld => ?_)
   clear hK K
   refine nX 8 ?_
   refine pX 2 9 ?_; refine pX 3 10 ?_; refine pX 4 11 ?_; refine pX 5 12 ?_; refine pX 6 13 ?_; refine tX 7 14 ?_; refine pX 8 15 ?_
   refine oX 9 (some 16) fun K hK => ?_
   refine goes_ Try.func75 (by kernel_rfl) rfl #[.int .i64 (((rd_T29 l1 0).f0).length : Int), .int .i64 1, .int .i64 12] (by rfl) rfl rfl sG ?_
   with_reducible refine (spec_l00In.calls (((rd_T29 l1 0).f0).length : Int) 1 12 false _ A7.out).mono ?_
   rintro e w' ⟨rfl, ⟨nd, rfl⟩⟩
   refine ⟨_, rfl, ?_⟩
   refine hK.out _ _ ⟨((HB.out.cell (World.block_lt_of_cell? w _ hw640_0)).trans hw640_0), ((HB.out.cell (World.block_lt_of_cell? w _ hw640_1)).trans hw640_1)⟩ (fun hHeld => ?_)
   clear hK K
   refine nX 16 ?_
   refine pX 10 17 ?_; refine pX 11 18 ?_; refine pX 12 19 ?_; refine pU 13 20 ?_; refine pU 14 21 ?_; refine pU 15 22 ?_; refine pU 16 23 ?_; refine pU 17 24 ?_; refine pU 18 25 ?_; refine pU 19 26 ?_; refine pU 20 27 ?_; refine pU 21 28 ?_; refine pU 22 29 ?_; refine pU 23 30 ?_; refine pU 24 31 ?_; refine pX 25 32 ?_
   refine dX ?_
   try go_wp2
   go_meet
   case rel => exact ⟨_, (true), eV, H', ⟨by first | omega | exact Nat.le_refl _⟩, (aS (sW HB.out))⟩
  subst c8
  have H' := aS H
  clear H
  try go_wp2
  replace HB := aS (below_drew1 HB.out)
  have p640 : 0 ≤ (0 : Int) := (by omega)
  have q640 : 0 < (l1.length : Int) := sD
  obtain ⟨ad640, A640_0, c640_0, A640_1, c640_1, e640, hx640_0, hx640_1, hl640_0, hi640_0, hl640_1, hi640_1⟩ := at_T29 HR1.out 0 p640 q640
  have hw640_1 := hx640_1
  (try rw [show ((0 : Int)).toNat = 0 from rfl] at hw640_1)
  (try rw [show 0 * 2 = 0 from rfl] at hw640_1)
  (try rw [Addr.add_zero'] at hw640_1)
  have hw640_0 := hx640_0
  (try rw [show ((0 : Int)).toNat = 0 from rfl] at hw640_0)
  (try rw [show 0 * 2 = 0 from rfl] at hw640_0)
  (try rw [Addr.add_zero'] at hw640_0)
  cases e640
  have qi640 : (0 < l1.length) = True := eq_true (by omega)
  (try rw [show ((0 : Int)).toNat = 0 from rfl] at hx640_0)
  (try rw [show 0 * 2 = 0 from rfl] at hx640_0)
  (try rw [Addr.add_zero'] at hx640_0)
  (try rw [show ((0 : Int)).toNat = 0 from rfl] at hx640_1)
  (try rw [show 0 * 2 = 0 from rfl] at hx640_1)
  (try rw [Addr.add_zero'] at hx640_1)
  replace hx640_0 := bC HB.out hx640_0
  replace hx640_1 := bC HB.out hx640_1
  have HR640_0 := aS hi640_0
  have HC640_0 := aS hl640_0
  clear hi640_0 hl640_0
  have HR640_1 := aS hi640_1
  have HC640_1 := aS hl640_1
  clear hi640_1 hl640_1
  replace p640 := eq_true p640
  replace q640 := eq_true q640
  have p642 : 0 ≤ (0 : Int) := (by omega)
  have q642 : 0 < (l1.length : Int) := sD
  obtain ⟨ad642, A642_0, c642_0, A642_1, c642_1, e642, hx642_0, hx642_1, hl642_0, hi642_0, hl642_1, hi642_1⟩ := at_T29 HR1.out 0 p642 q642
  have hw642_1 := hx642_1
  (try rw [show ((0 : Int)).toNat = 0 from rfl] at hw642_1)
  (try rw [show 0 * 2 = 0 from rfl] at hw642_1)
  (try rw [Addr.add_zero'] at hw642_1)
  have hw642_0 := hx642_0
  (try rw [show ((0 : Int)).toNat = 0 from rfl] at hw642_0)
  (try rw [show 0 * 2 = 0 from rfl] at hw642_0)
  (try rw [Addr.add_zero'] at hw642_0)
  obtain rfl : ad640 = ad642 := (by injection e642)
  have qi642 : (0 < l1.length) = True := eq_true (by omega)
  (try rw [show ((0 : Int)).toNat = 0 from rfl] at hx642_0)
  (try rw [show 0 * 2 = 0 from rfl] at hx642_0)
  (try rw [Addr.add_zero'] at hx642_0)
  (try rw [show ((0 : Int)).toNat = 0 from rfl] at hx642_1)
  (try rw [show 0 * 2 = 0 from rfl] at hx642_1)
  (try rw [Addr.add_zero'] at hx642_1)
  replace hx642_0 := bC HB.out hx642_0
  replace hx642_1 := bC HB.out hx642_1
  have HR642_0 := aS hi642_0
  have HC642_0 := aS hl642_0
  clear hi642_0 hl642_0
  have HR642_1 := aS hi642_1
  have HC642_1 := aS hl642_1
  clear hi642_1 hl642_1
  replace p642 := eq_true p642
  replace q642 := eq_true q642
  have ea_ := Option.some.inj (hx640_0.symm.trans hx642_0)
  injection ea_ with ea_ en_ ec_
  subst ea_
  subst ec_
  clear en_
  have ea_ := Option.some.inj (hx640_1.symm.trans hx642_1)
  injection ea_ with ea_ en_ ec_
  subst ea_
  subst ec_
  clear en_
  have p643 : 0 ≤ (0 : Int) := (by omega)
  have q643 : 0 < (l1.length : Int) := sD
  obtain ⟨ad643, A643_0, c643_0, A643_1, c643_1, e643, hx643_0, hx643_1, hl643_0, hi643_0, hl643_1, hi643_1⟩ := at_T29 HR1.out 0 p643 q643
  have hw643_1 := hx643_1
  (try rw [show ((0 : Int)).toNat = 0 from rfl] at hw643_1)
  (try rw [show 0 * 2 = 0 from rfl] at hw643_1)
  (try rw [Addr.add_zero'] at hw643_1)
  have hw643_0 := hx643_0
  (try rw [show ((0 : Int)).toNat = 0 from rfl] at hw643_0)
  (try rw [show 0 * 2 = 0 from rfl] at hw643_0)
  (try rw [Addr.add_zero'] at hw643_0)
  obtain rfl : ad640 = ad643 := (by injection e643)
  have qi643 : (0 < l1.length) = True := eq_true (by omega)
  (try rw [show ((0 : Int)).toNat = 0 from rfl] at hx643_0)
  (try rw [show 0 * 2 = 0 from rfl] at hx643_0)
  (try rw [Addr.add_zero'] at hx643_0)
  (try rw [show ((0 : Int)).toNat = 0 from rfl] at hx643_1)
  (try rw [show 0 * 2 = 0 from rfl] at hx643_1)
  (try rw [Addr.add_zero'] at hx643_1)
  replace hx643_0 := bC HB.out hx643_0
  replace hx643_1 := bC HB.out hx643_1
  have HR643_0 := aS hi643_0
  have HC643_0 := aS hl643_0
  clear hi643_0 hl643_0
  have HR643_1 := aS hi643_1
  have HC643_1 := aS hl643_1
  clear hi643_1 hl643_1
  replace p643 := eq_true p643
  replace q643 := eq_true q643
  have ea_ := Option.some.inj (hx640_0.symm.trans hx643_0)
  injection ea_ with ea_ en_ ec_
  subst ea_
  subst ec_
  clear en_
  have ea_ := Option.some.inj (hx640_1.symm.trans hx643_1)
  injection ea_ with ea_ en_ ec_
  subst ea_
  subst ec_
  clear en_
  refine start_ (n := 26) (S := fun w' => w'.cell? ad640 = some (.slice A640_0 ((rd_T29 l1 0).f0).length c640_0) ∧ w'.cell? ⟨ad640.block, ad640.off + 1, none⟩ = some (.slice A640_1 ((rd_T29 l1 0).f1).length c640_1) ∧ w'.cell? ad640 = some (.slice A640_0 ((rd_T29 l1 0).f0).length c640_0) ∧ w'.cell? ⟨ad640.block, ad640.off + 1, none⟩ = some (.slice A640_1 ((rd_T29 l1 0).f1).length c640_1) ∧ w'.cell? ad640 = some (.slice A640_0 ((rd_T29 l1 0).f0).length c640_0) ∧ w'.cell? ⟨ad640.block, ad640.off + 1, none⟩ = some (.slice A640_1 ((rd_T29 l1 0).f1).length c640_1)) (ds := []) _ (by kernel_rfl) rfl rfl ⟨((HB.out.cell (World.block_lt_of_cell? w _ hw640_0)).trans hw640_0), ((HB.out.cell (World.block_lt_of_cell? w _ hw640_1)).trans hw640_1), ((HB.out.cell (World.block_lt_of_cell? w _ hw642_0)).trans hw642_0), ((HB.out.cell (World.block_lt_of_cell? w _ hw642_1)).trans hw642_1), ((HB.out.cell (World.block_lt_of_cell? w _ hw643_0)).trans hw643_0), ((HB.out.cell (World.block_lt_of_cell? w _ hw643_1)).trans hw643_1)⟩ (fun hHeld => ?_); refine with_tabW spec_l03LineAt.tab1 spec_l03LineAt.bits1 (fun HT_ HW_ => ?_)
  generalize w.drew = w9 at HB HR640_0 HR640_1 HR642_0 HR642_1 HR643_0 HR643_1 hx640_0 hx640_1 hx642_0 hx642_1 hx643_0 hx643_1 hHeld ⊢
  refine pX 0 7 ?_
  refine oX 1 (some 8) fun K hK => ?_
  refine goes_ Try.func43 (by kernel_rfl) rfl #[.slice A0 l0.length c0] (by rfl) rfl rfl sG ?_
  with_reducible refine (spec_l03Ok.calls k _ _ l0 true _ ?side1 ?side2 A4.out).mono ?_
  (case side1 => exact sC (Kd.C_below HR0.out HB.out))
  (case side2 => exact HC0.out)
  rintro e w10 ⟨rfl, hb⟩
  refine ⟨_, rfl, ?_⟩
  replace HB := aS (below_step (sW HB.out) hb)
  refine hK.out _ _ ⟨((HB.out.cell (World.block_lt_of_cell? w _ hw640_0)).trans hw640_0), ((HB.out.cell (World.block_lt_of_cell? w _ hw640_1)).trans hw640_1), ((HB.out.cell (World.block_lt_of_cell? w _ hw642_0)).trans hw642_0), ((HB.out.cell (World.block_lt_of_cell? w _ hw642_1)).trans hw642_1), ((HB.out.cell (World.block_lt_of_cell? w _ hw643_0)).trans hw643_0), ((HB.out.cell (World.block_lt_of_cell? w _ hw643_1)).trans hw643_1)⟩ (fun hHeld => ?_)
  clear hK K
  refine nX 8 ?_
  refine pX 2 9 ?_; refine pX 3 10 ?_; refine pX 4 11 ?_; refine pX 5 12 ?_; refine pX 6 13 ?_; refine tX 7 14 ?_; refine pX 8 15 ?_
  refine oX 9 (some 16) fun K hK => ?_
  refine goes_ Try.func75 (by kernel_rfl) rfl #[.int .i64 (((rd_T29 l1 0).f0).length : Int), .int .i64 1, .int .i64 12] (by rfl) rfl rfl sG ?_
  with_reducible refine (spec_l00In.calls (((rd_T29 l1 0).f0).length : Int) 1 12 true _ A7.out).mono ?_
  rintro e w' ⟨rfl, ⟨nd, rfl⟩⟩
  refine ⟨_, rfl, ?_⟩
  refine hK.out _ _ ⟨((HB.out.cell (World.block_lt_of_cell? w _ hw640_0)).trans hw640_0), ((HB.out.cell (World.block_lt_of_cell? w _ hw640_1)).trans hw640_1), ((HB.out.cell (World.block_lt_of_cell? w _ hw642_0)).trans hw642_0), ((HB.out.cell (World.block_lt_of_cell? w _ hw642_1)).trans hw642_1), ((HB.out.cell (World.block_lt_of_cell? w _ hw643_0)).trans hw643_0), ((HB.out.cell (World.block_lt_of_cell? w _ hw643_1)).trans hw643_1)⟩ (fun hHeld => ?_)
  clear hK K
  refine nX 16 ?_
  refine pX 10 17 ?_; refine pX 11 18 ?_; refine pX 12 19 ?_; refine pX 13 20 ?_; refine pX 14 21 ?_; refine pX 15 22 ?_; refine pX 18 25 ?_; refine pX 19 26 ?_; refine pX 20 27 ?_; refine tX 16 23 ?_; refine pX 17 24 ?_; refine tX 21 28 ?_; refine pX 22 29 ?_; refine pX 23 30 ?_; refine pX 24 31 ?_; refine pX 25 32 ?_
  refine dX ?_
  try go_wp2
  go_meet
  case rel => exact ⟨_, (((((rd_T29 l1 0).f1).length : Int) != (wrap64 ((((rd_T29 l1 0).f0).length : Int) - 1)))), eV, H', ⟨by first | omega | exact Nat.le_refl _⟩, (aS (sW HB.out))⟩
 case rest =>
  clear HC3
  (try clear hx6); (try clear hx640_0); (try clear hx640_1)
  obtain ⟨kq, x32_2, rfl, HA, HJ2, HB⟩ := hcut
  cases kq with
  | zero => exact absurd HA.out (by simp [spec_l03LineAt.j0])
  | succ kj2 =>
   have H := HA.out
   clear HA
   simp only [spec_l03LineAt.j0] at H
   replace H := iE H; rcases H with ⟨c15, H⟩ | ⟨c15, H⟩
   ·
    subst c15
    obtain rfl := Option.some.inj H
    go_wp2
    go_ret
    exact ⟨eE, sW HB.out⟩
   ·
    replace c15 := Bool.eq_false_iff.mpr c15
    subst c15
    have H' := aS H
    clear H
    go_wp2
    go_loopg [5] kj2 (fun kq v5 w' => ∃ (x5_2 : Int), v5 = .int .i64 x5_2 ∧ Aside0 (spec_l03LineAt.l0 kq l0 l1 x5_2 = some r) ∧ Aside0 (kq ≤ kj2) ∧ Aside0 (Below w.heap.size w w'))
    case atStart => exact ⟨(0), eV, H', ⟨Nat.le_refl _⟩, (aS (sW HB.out))⟩
    case round =>
     clear H'
     (try clear hx6); (try clear hx640_0); (try clear hx640_1)
     obtain ⟨x5_2, rfl, HA, HK2, HB⟩ := hrel
     cases gk with
     | zero => exact absurd HA.out (by simp [spec_l03LineAt.l0])
     | succ k2 =>
      have H := HA.out
      clear HA
      simp only [spec_l03LineAt.l0] at H
      replace H := iE H; rcases H with ⟨c16, H⟩ | ⟨c16, H⟩
      ·
       have c16b0 := decide_eq_true c16
       have c16b1 : decide (0 < l1.length) = true := decide_eq_true (by omega)
       clear c16
       replace H := iE H; rcases H with ⟨c17, H⟩ | ⟨c17, H⟩
       ·
        have c17b0 := decide_eq_true c17
        clear c17
        replace H := iN H
        obtain ⟨c18, H⟩ := H
        have c18b0 := decide_eq_true c18
        clear c18
        replace H := bE H; obtain ⟨t647, A19, H⟩ := H; try dsimp only at H
        have HC20 := aS H
        clear H
        have p644 : 0 ≤ (0 : Int) := (by omega)
        have q644 : 0 < (l1.length : Int) := sD
        obtain ⟨ad644, A644_0, c644_0, A644_1, c644_1, e644, hx644_0, hx644_1, hl644_0, hi644_0, hl644_1, hi644_1⟩ := at_T29 HR1.out 0 p644 q644
        cases e644
        have qi644 : (0 < l1.length) = True := eq_true (by omega)
        (try rw [show ((0 : Int)).toNat = 0 from rfl] at hx644_0)
        (try rw [show 0 * 2 = 0 from rfl] at hx644_0)
        (try rw [Addr.add_zero'] at hx644_0)
        (try rw [show ((0 : Int)).toNat = 0 from rfl] at hx644_1)
        (try rw [show 0 * 2 = 0 from rfl] at hx644_1)
        (try rw [Addr.add_zero'] at hx644_1)
        replace hx644_0 := bC HB.out hx644_0
        replace hx644_1 := bC HB.out hx644_1
        have HR644_0 := aS hi644_0
        have HC644_0 := aS hl644_0
        clear hi644_0 hl644_0
        have HR644_1 := aS hi644_1
        have HC644_1 := aS hl644_1
        clear hi644_1 hl644_1
        replace p644 := eq_true p644
        replace q644 := eq_true q644
        have p645 : 0 ≤ (0 : Int) := (by omega)
        have q645 : 0 < (l1.length : Int) := sD
        obtain ⟨ad645, A645_0, c645_0, A645_1, c645_1, e645, hx645_0, hx645_1, hl645_0, hi645_0, hl645_1, hi645_1⟩ := at_T29 HR1.out 0 p645 q645
        obtain rfl : ad644 = ad645 := (by injection e645)
        have qi645 : (0 < l1.length) = True := eq_true (by omega)
        (try rw [show ((0 : Int)).toNat = 0 from rfl] at hx645_0)
        (try rw [show 0 * 2 = 0 from rfl] at hx645_0)
        (try rw [Addr.add_zero'] at hx645_0)
        (try rw [show ((0 : Int)).toNat = 0 from rfl] at hx645_1)
        (try rw [show 0 * 2 = 0 from rfl] at hx645_1)
        (try rw [Addr.add_zero'] at hx645_1)
        replace hx645_0 := bC HB.out hx645_0
        replace hx645_1 := bC HB.out hx645_1
        have HR645_0 := aS hi645_0
        have HC645_0 := aS hl645_0
        clear hi645_0 hl645_0
        have HR645_1 := aS hi645_1
        have HC645_1 := aS hl645_1
        clear hi645_1 hl645_1
        replace p645 := eq_true p645
        replace q645 := eq_true q645
        have ea_ := Option.some.inj (hx644_0.symm.trans hx645_0)
        injection ea_ with ea_ en_ ec_
        subst ea_
        subst ec_
        clear en_
        have ea_ := Option.some.inj (hx644_1.symm.trans hx645_1)
        injection ea_ with ea_ en_ ec_
        subst ea_
        subst ec_
        clear en_
        have p646 : 0 ≤ (x5_2 : Int) := sD
        have q646 : x5_2 < (((rd_T29 l1 0).f0).length : Int) := sD
        obtain ⟨ad646, e646, hx646_0, hx646_1⟩ := at_T45 HR645_0.out x5_2 p646 q646
        cases e646
        replace hx646_0 := bC HB.out hx646_0
        replace hx646_1 := bC HB.out hx646_1
        replace p646 := eq_true p646
        replace q646 := eq_true q646
        go_upto_if 50 with (first | ((with_reducible refine gate_callee (f := 44) rfl ?_); refine goesL_ (some 49) rfl rfl Try.func44 (by kernel_rfl) rfl #[.agg #[.int .i64 ((rd_T45 ((rd_T29 l1 0).f0) x5_2).f0), .int .i64 ((rd_T45 ((rd_T29 l1 0).f0) x5_2).f1)]] rfl sG ?_; (with_reducible refine (spec_l03Piece.calls ((rd_T45 ((rd_T29 l1 0).f0) x5_2).f0) ((rd_T45 ((rd_T29 l1 0).f0) x5_2).f1) t647 _ A19.out).mono ?_); rintro e w21 ⟨rfl, hb⟩; refine ⟨_, rfl, ?_⟩; replace HB := aS (below_step (sW HB.out) hb)))
        (try simp only [Act.put, List.setIfInBounds_toArray, List.set_cons_zero, List.set_cons_succ])
        have H := HC20.out
        clear HC20
        replace H := iE H; rcases H with ⟨c22, H⟩ | ⟨c22, H⟩
        rotate_left
        ·
         replace c22 := Bool.eq_false_iff.mpr c22
         subst c22
         obtain rfl := Option.some.inj H
         go_wp2
         go_ret
         exact ⟨eE, sW HB.out⟩
        subst c22
        have H' := aS H
        clear H
        go_wp2
        go_roundg k2
        case measure => have := HJ2.out; have := HK2.out; omega
        case rel => exact ⟨(wrap64 (x5_2 + 1)), eV, H', ⟨by have := HJ2.out; have := HK2.out; omega⟩, (aS (sW HB.out))⟩
       have c17b0 := decide_eq_false c17
       clear c17
       have H' := aS H
       clear H
       have p644 : 0 ≤ (0 : Int) := (by omega)
       have q644 : 0 < (l1.length : Int) := sD
       obtain ⟨ad644, A644_0, c644_0, A644_1, c644_1, e644, hx644_0, hx644_1, hl644_0, hi644_0, hl644_1, hi644_1⟩ := at_T29 HR1.out 0 p644 q644
       cases e644
       have qi644 : (0 < l1.length) = True := eq_true (by omega)
       (try rw [show ((0 : Int)).toNat = 0 from rfl] at hx644_0)
       (try rw [show 0 * 2 = 0 from rfl] at hx644_0)
       (try rw [Addr.add_zero'] at hx644_0)
       (try rw [show ((0 : Int)).toNat = 0 from rfl] at hx644_1)
       (try rw [show 0 * 2 = 0 from rfl] at hx644_1)
       (try rw [Addr.add_zero'] at hx644_1)
       replace hx644_0 := bC HB.out hx644_0
       replace hx644_1 := bC HB.out hx644_1
       have HR644_0 := aS hi644_0
       have HC644_0 := aS hl644_0
       clear hi644_0 hl644_0
       have HR644_1 := aS hi644_1
       have HC644_1 := aS hl644_1
       clear hi644_1 hl644_1
       replace p644 := eq_true p644
       replace q644 := eq_true q644
       go_wp2
       go_loopg [6] k2 (fun kq v6 w' => ∃ (x6_3 : Int), v6 = .int .i64 x6_3 ∧ Aside0 (spec_l03LineAt.l1 kq l0 l1 x6_3 = some r) ∧ Aside0 (kq ≤ k2) ∧ Aside0 (Below w.heap.size w w'))
       case atStart => exact ⟨(0), eV, H', ⟨Nat.le_refl _⟩, (aS (sW HB.out))⟩
       case round =>
        clear H'
        (try clear hx6); (try clear hx640_0); (try clear hx640_1); (try clear hx644_0); (try clear hx644_1); (try clear hx645_0); (try clear hx645_1); (try clear hx646_0); (try clear hx646_1)
        obtain ⟨x6_3, rfl, HA, HK3, HB⟩ := hrel
        cases gk with
        | zero => exact absurd HA.out (by simp [spec_l03LineAt.l1])
        | succ k3 =>
         have H := HA.out
         clear HA
         simp only [spec_l03LineAt.l1] at H
         replace H := iN H
         obtain ⟨c23, H⟩ := H
         have c23b0 := decide_eq_true c23
         have c23b1 : decide (0 < l1.length) = true := decide_eq_true (by omega)
         clear c23
         replace H := iE H; rcases H with ⟨c24, H⟩ | ⟨c24, H⟩
         rotate_left
         ·
          have c24b0 := decide_eq_false c24
          clear c24
          replace H := bE H; obtain ⟨t652, A29, H⟩ := H; try dsimp only at H
          obtain rfl := Option.some.inj H
          have p648 : 0 ≤ (0 : Int) := (by omega)
          have q648 : 0 < (l1.length : Int) := sD
          obtain ⟨ad648, A648_0, c648_0, A648_1, c648_1, e648, hx648_0, hx648_1, hl648_0, hi648_0, hl648_1, hi648_1⟩ := at_T29 HR1.out 0 p648 q648
          obtain rfl : ad644 = ad648 := (by injection e648)
          have qi648 : (0 < l1.length) = True := eq_true (by omega)
          (try rw [show ((0 : Int)).toNat = 0 from rfl] at hx648_0)
          (try rw [show 0 * 2 = 0 from rfl] at hx648_0)
          (try rw [Addr.add_zero'] at hx648_0)
          (try rw [show ((0 : Int)).toNat = 0 from rfl] at hx648_1)
          (try rw [show 0 * 2 = 0 from rfl] at hx648_1)
          (try rw [Addr.add_zero'] at hx648_1)
          replace hx648_0 := bC HB.out hx648_0
          replace hx648_1 := bC HB.out hx648_1
          have HR648_0 := aS hi648_0
          have HC648_0 := aS hl648_0
          clear hi648_0 hl648_0
          have HR648_1 := aS hi648_1
          have HC648_1 := aS hl648_1
          clear hi648_1 hl648_1
          replace p648 := eq_true p648
          replace q648 := eq_true q648
          go_wp2_with (first | ((with_reducible refine gate_callee (f := 101) rfl ?_); refine goesL_ (some 74) rfl rfl Try.func101 (by kernel_rfl) rfl #[.slice A0 l0.length c0, .pointer (some ad644)] rfl sG ?_; (with_reducible refine (spec_l03LengthAt.calls k3 _ _ l0 _ l1.length l1 t652 _ ?side1 ?side2 ?side3 ?side4 A29.out).mono ?_); (case side1 => exact sC (Kd.C_below HR0.out HB.out)); (case side2 => exact HC0.out); (case side3 => exact sC (Kd.C_below HR1.out HB.out)); (case side4 => exact Nat.le_refl _); rintro e w' ⟨rfl, ⟨nd, rfl⟩⟩; refine ⟨_, rfl, ?_⟩))
          go_ret
          exact ⟨eE, sW HB.out⟩
         have c24b0 := decide_eq_true c24
         clear c24
         replace H := iN H
         obtain ⟨c25, H⟩ := H
         have c25b0 := decide_eq_true c25
         clear c25
         replace H := bE H; obtain ⟨t651, A26, H⟩ := H; try dsimp only at H
         have HC27 := aS H
         clear H
         have p648 : 0 ≤ (0 : Int) := (by omega)
         have q648 : 0 < (l1.length : Int) := sD
         obtain ⟨ad648, A648_0, c648_0, A648_1, c648_1, e648, hx648_0, hx648_1, hl648_0, hi648_0, hl648_1, hi648_1⟩ := at_T29 HR1.out 0 p648 q648
         obtain rfl : ad644 = ad648 := (by injection e648)
         have qi648 : (0 < l1.length) = True := eq_true (by omega)
         (try rw [show ((0 : Int)).toNat = 0 from rfl] at hx648_0)
         (try rw [show 0 * 2 = 0 from rfl] at hx648_0)
         (try rw [Addr.add_zero'] at hx648_0)
         (try rw [show ((0 : Int)).toNat = 0 from rfl] at hx648_1)
         (try rw [show 0 * 2 = 0 from rfl] at hx648_1)
         (try rw [Addr.add_zero'] at hx648_1)
         replace hx648_0 := bC HB.out hx648_0
         replace hx648_1 := bC HB.out hx648_1
         have HR648_0 := aS hi648_0
         have HC648_0 := aS hl648_0
         clear hi648_0 hl648_0
         have HR648_1 := aS hi648_1
         have HC648_1 := aS hl648_1
         clear hi648_1 hl648_1
         replace p648 := eq_true p648
         replace q648 := eq_true q648
         have p649 : 0 ≤ (0 : Int) := (by omega)
         have q649 : 0 < (l1.length : Int) := sD
         obtain ⟨ad649, A649_0, c649_0, A649_1, c649_1, e649, hx649_0, hx649_1, hl649_0, hi649_0, hl649_1, hi649_1⟩ := at_T29 HR1.out 0 p649 q649
         obtain rfl : ad644 = ad649 := (by injection e649)
         have qi649 : (0 < l1.length) = True := eq_true (by omega)
         (try rw [show ((0 : Int)).toNat = 0 from rfl] at hx649_0)
         (try rw [show 0 * 2 = 0 from rfl] at hx649_0)
         (try rw [Addr.add_zero'] at hx649_0)
         (try rw [show ((0 : Int)).toNat = 0 from rfl] at hx649_1)
         (try rw [show 0 * 2 = 0 from rfl] at hx649_1)
         (try rw [Addr.add_zero'] at hx649_1)
         replace hx649_0 := bC HB.out hx649_0
         replace hx649_1 := bC HB.out hx649_1
         have HR649_0 := aS hi649_0
         have HC649_0 := aS hl649_0
         clear hi649_0 hl649_0
         have HR649_1 := aS hi649_1
         have HC649_1 := aS hl649_1
         clear hi649_1 hl649_1
         replace p649 := eq_true p649
         replace q649 := eq_true q649
         have ea_ := Option.some.inj (hx648_0.symm.trans hx649_0)
         injection ea_ with ea_ en_ ec_
         subst ea_
         subst ec_
         clear en_
         have ea_ := Option.some.inj (hx648_1.symm.trans hx649_1)
         injection ea_ with ea_ en_ ec_
         subst ea_
         subst ec_
         clear en_
         have p650 : 0 ≤ (x6_3 : Int) := sD
         have q650 : x6_3 < (((rd_T29 l1 0).f1).length : Int) := sD
         obtain ⟨ad650, e650, hx650_0⟩ := Kd.at_int HR649_1.out x6_3 p650 q650
         cases e650
         replace hx650_0 := bC HB.out hx650_0
         replace p650 := eq_true p650
         replace q650 := eq_true q650
         go_upto_if 71 with (first | ((with_reducible refine gate_callee (f := 75) rfl ?_); refine goesL_ (some 70) rfl rfl Try.func75 (by kernel_rfl) rfl #[.int .i64 (rd ((rd_T29 l1 0).f1) x6_3), .int .i64 0, .int .i64 (wrap64 ((l0.length : Int) - 1))] rfl sG ?_; (with_reducible refine (spec_l00In.calls (rd ((rd_T29 l1 0).f1) x6_3) 0 (wrap64 ((l0.length : Int) - 1)) t651 _ A26.out).mono ?_); rintro e w' ⟨rfl, ⟨nd, rfl⟩⟩; refine ⟨_, rfl, ?_⟩))
         (try simp only [Act.put, List.setIfInBounds_toArray, List.set_cons_zero, List.set_cons_succ])
         have H := HC27.out
         clear HC27
         replace H := iE H; rcases H with ⟨c28, H⟩ | ⟨c28, H⟩
         rotate_left
         ·
          replace c28 := Bool.eq_false_iff.mpr c28
          subst c28
          obtain rfl := Option.some.inj H
          go_wp2
          go_ret
          exact ⟨eE, sW HB.out⟩
         subst c28
         have H' := aS H
         clear H
         go_wp2
         go_roundg k3
         case measure => have := HJ2.out; have := HK2.out; have := HK3.out; omega
         case rel => exact ⟨(wrap64 (x6_3 + 1)), eV, H', ⟨by have := HJ2.out; have := HK2.out; have := HK3.out; omega⟩, (aS (sW HB.out))⟩
      ·
       exact absurd H (by simp)

end Go.Proofs.Ytginmioklkcgbaa.QFnBestJoins

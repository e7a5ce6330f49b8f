/- What the Go functions of this law compute, each as a Lean function, and that each call comes to that answer; written by a program of this session. No condition. -/
import Derived.Test.YtginmioklkcgbaaVShn
import Derived.Test.YtginmioklkcgbaaVQFnBestJoinsx0
import Derived.Test.YtginmioklkcgbaaVQFnBestJoinsx12
import Derived.Test.YtginmioklkcgbaaVQFnBestJoinsx13
namespace Go.Proofs.Ytginmioklkcgbaa.QFnBestJoins
open Go.RowKit Go.Proofs.YtginmioklkcgbaaW.PrintWords Go.Proofs.YtginmioklkcgbaaW.PrintLast Go.Proofs.YtginmioklkcgbaaW.PrintMore
attribute [local go_sem] max2_int min2_int max_two min_two max_three min_three max_four min_four   -- for this text's walks alone
set_option linter.unusedVariables false
set_option linter.unusedSimpArgs false

/-! ### spec_l03DrawLine: function 71 -/
mutual
def spec_l03DrawLine.j0 : Nat → List (S61) → Int → List Int → Int → Int → List (S45) → List Int → Option ((List (S45)) × List Int × Int × Int)
 | 0, _, _, _, _, _, _, _ => none
 | k + 1, x1, x6, x1000, x1001, x1002, x508000, x508001 => spec_l03DrawLine.l0 k x1 x6 x1000 x1001 x1002 x508000 x508001
def spec_l03DrawLine.l0 : Nat → List (S61) → Int → List Int → Int → Int → List (S45) → List Int → Option ((List (S45)) × List Int × Int × Int)
 | 0, _, _, _, _, _, _, _ => none
 | k + 1, x1, x7, x1000, x1001, x1002, x508000, x508001 => if x7 > 0 then (spec_l03DrawLine.j2 k x1 x7 (decide ((x1.length : Int) > 0)) x1000 x1001 x1002 x508000 x508001) else (spec_l03DrawLine.j2 k x1 x7 false x1000 x1001 x1002 x508000 x508001)
def spec_l03DrawLine.j2 : Nat → List (S61) → Int → Bool → List Int → Int → Int → List (S45) → List Int → Option ((List (S45)) × List Int × Int × Int)
 | 0, _, _, _, _, _, _, _, _ => none
 | k + 1, x1, x7, x27, x1000, x1001, x1002, x508000, x508001 => if x27 = true then ((spec_l03DrawPiece.f x1000 x1001 x1002).bind fun bt517 => (if x508000.length < 8796093022208 then ((spec_l00Src_pick.f x1000 bt517.2.2.1 bt517.2.2.2 (x1.length : Int)).bind fun bt524 => (if x508001.length < 17592186044416 then (spec_l03DrawLine.l0 k x1 (wrap64 (x7 - 1)) x1000 bt524.2.1 bt524.2.2 (x508000 ++ [(⟨bt517.1, bt517.2.1⟩ : S45)]) (x508001 ++ [bt524.1])) else (none))) else (none))) else ((spec_l00Src_pick.f x1000 x1001 x1002 24).bind fun bt530 => (if bt530.1 = 0 then ((spec_l00Src_pick.f x1000 bt530.2.1 bt530.2.2 (x508000.length : Int)).bind fun bt533 => (if 0 ≤ bt533.1 then (if bt533.1 < (x508000.length : Int) then ((spec_l03SpoilPiece.f x1000 bt533.2.1 bt533.2.2 ((rd_T45 x508000 bt533.1).f0) ((rd_T45 x508000 bt533.1).f1)).bind fun bt536 => (some ((x508000.set (bt533.1 : Int).toNat (⟨bt536.1, bt536.2.1⟩ : S45)), x508001, bt536.2.2.1, bt536.2.2.2))) else (none)) else (none))) else (if bt530.1 = 1 then ((spec_l00Src_among.f x1000 bt530.2.1 bt530.2.2 (([(-1), 0, (x1.length : Int)] : List Int))).bind fun bt544 => (if x508001.length < 17592186044416 then (some (x508000, (x508001 ++ [bt544.1]), bt544.2.1, bt544.2.2)) else (none))) else (if bt530.1 = 2 then ((spec_l03DrawPiece.f x1000 bt530.2.1 bt530.2.2).bind fun bt550 => (if x508000.length < 8796093022208 then ((spec_l00Src_among.f x1000 bt550.2.2.1 bt550.2.2.2 (([(-1), 0, (x1.length : Int)] : List Int))).bind fun bt560 => (if x508001.length < 17592186044416 then (some ((x508000 ++ [(⟨bt550.1, bt550.2.1⟩ : S45)]), (x508001 ++ [bt560.1]), bt560.2.1, bt560.2.2)) else (none))) else (none))) else (some (x508000, x508001, bt530.2.1, bt530.2.2))))))
end
def spec_l03DrawLine.f (k : Nat) (s0_0 : List Int) (s0_1 : Int) (s0_2 : Int) (l1 : List (S61)) : Option ((List (S45)) × List Int × Int × Int) := (spec_l03DrawPiece.f s0_0 s0_1 s0_2).bind fun bt497 => ((some (([(⟨bt497.1, bt497.2.1⟩ : S45)] : List (S45)) : List (S45))).bind fun y501 => ((some (([] : List Int) : List Int)).bind fun y504 => ((spec_l00Src_pick.f s0_0 bt497.2.2.1 bt497.2.2.2 5).bind fun bt508 => ((spec_l00Src_one.f s0_0 bt508.2.1 bt508.2.2 20).bind fun bt511 => (if bt511.1 = true then ((spec_l00Src_pick.f s0_0 bt511.2.1 bt511.2.2 2).bind fun bt514 => (spec_l03DrawLine.j0 k l1 (wrap64 (11 + bt514.1)) s0_0 bt514.2.1 bt514.2.2 y501 y504)) else (spec_l03DrawLine.j0 k l1 bt508.1 s0_0 bt511.2.1 bt511.2.2 y501 y504))))))
theorem spec_l03DrawLine.mono_l : ∀ k, (∀ y0 y1 y2 y3 y4 y5 y6, LeO (spec_l03DrawLine.j0 k y0 y1 y2 y3 y4 y5 y6) (spec_l03DrawLine.j0 (k + 1) y0 y1 y2 y3 y4 y5 y6)) ∧ (∀ y0 y1 y2 y3 y4 y5 y6, LeO (spec_l03DrawLine.l0 k y0 y1 y2 y3 y4 y5 y6) (spec_l03DrawLine.l0 (k + 1) y0 y1 y2 y3 y4 y5 y6)) ∧ (∀ y0 y1 y2 y3 y4 y5 y6 y7, LeO (spec_l03DrawLine.j2 k y0 y1 y2 y3 y4 y5 y6 y7) (spec_l03DrawLine.j2 (k + 1) y0 y1 y2 y3 y4 y5 y6 y7))
 | 0 => by refine ⟨?_, ?_, ?_⟩ <;> (intros; intro r h; simp [spec_l03DrawLine.j0, spec_l03DrawLine.l0, spec_l03DrawLine.j2] at h)
 | k + 1 => by
  obtain ⟨ih0, ih1, ih2⟩ := spec_l03DrawLine.mono_l k
  refine ⟨?_, ?_, ?_⟩ <;> (intros; (first | unfold spec_l03DrawLine.j0 | unfold spec_l03DrawLine.l0 | unfold spec_l03DrawLine.j2); repeat' first | (with_reducible first | exact ih0 _ _ _ _ _ _ _ | exact ih1 _ _ _ _ _ _ _ | exact ih2 _ _ _ _ _ _ _ _ | exact LeO.refl _ | exact LeO.none _ | refine LeO.ite ?_ ?_ | refine LeO.bind ?_ (fun _ => ?_)) | refine LeO.ite ?_ ?_ | refine LeO.bind ?_ (fun _ => ?_))
theorem spec_l03DrawLine.mono : ∀ a0 a1 a2 a3 k, LeO (spec_l03DrawLine.f k a0 a1 a2 a3) (spec_l03DrawLine.f (k + 1) a0 a1 a2 a3) := by
 intro a0 a1 a2 a3 k
 obtain ⟨ih0, ih1, ih2⟩ := spec_l03DrawLine.mono_l k
 unfold spec_l03DrawLine.f
 repeat' first | (with_reducible first | exact ih0 _ _ _ _ _ _ _ | exact ih1 _ _ _ _ _ _ _ | exact ih2 _ _ _ _ _ _ _ _ | exact LeO.refl _ | exact LeO.none _ | refine LeO.ite ?_ ?_ | refine LeO.bind ?_ (fun _ => ?_)) | refine LeO.ite ?_ ?_ | refine LeO.bind ?_ (fun _ => ?_)
def spec_l03DrawLine.T8 : Bool × List (List Nat × List Nat) := (true, [([], []), ([0], [0]), ([], []), ([2], [2]), ([3], [3]), ([1, 4, 3], [1, 4]), ([0, 1, 2, 3, 4, 5], []), ([6, 5, 5, 0, 1, 2, 3, 4, 5], [5, 6])])
def spec_l03DrawLine.B8 : List Nat := [0, 1, 0, 4, 12, 31, 63, 127]
theorem spec_l03DrawLine.tab8 : rtab .any (opsOf Try.f71 8) = spec_l03DrawLine.T8 := by kernel_rfl
theorem spec_l03DrawLine.bits8 : waitsOk spec_l03DrawLine.T8.2 spec_l03DrawLine.B8 = true := by kernel_rfl
def spec_l03DrawLine.T9 : Bool × List (List Nat × List Nat) := (true, [([], []), ([0], [0]), ([], []), ([], []), ([3], [3]), ([2, 4], [2, 4]), ([5], [5]), ([1, 6, 5], [1, 6]), ([0, 1, 2, 3, 4, 5, 6, 7], []), ([8, 7, 7, 0, 1, 2, 3, 4, 5, 6, 7], [7, 8])])
def spec_l03DrawLine.B9 : List Nat := [0, 1, 0, 0, 8, 28, 60, 127, 255, 511]
theorem spec_l03DrawLine.tab9 : rtab .any (opsOf Try.f71 9) = spec_l03DrawLine.T9 := by kernel_rfl
theorem spec_l03DrawLine.bits9 : waitsOk spec_l03DrawLine.T9.2 spec_l03DrawLine.B9 = true := by kernel_rfl
def spec_l03DrawLine.T12 : Bool × List (List Nat × List Nat) := (true, [([], []), ([], []), ([1], [1]), ([], []), ([], []), ([4], [4]), ([5], [5]), ([3, 6], [3, 6]), ([2, 7], [2, 7]), ([0, 8, 7], [0, 8])])
def spec_l03DrawLine.B12 : List Nat := [0, 0, 2, 0, 0, 16, 48, 120, 254, 511]
theorem spec_l03DrawLine.tab12 : rtab .any (opsOf Try.f71 12) = spec_l03DrawLine.T12 := by kernel_rfl
theorem spec_l03DrawLine.bits12 : waitsOk spec_l03DrawLine.T12.2 spec_l03DrawLine.B12 = true := by kernel_rfl
def spec_l03DrawLine.T14 : Bool × List (List Nat × List Nat) := (true, [([], []), ([0], [0]), ([], []), ([], []), ([3], [3]), ([4], [4]), ([2, 5], [2, 5]), ([6], [6]), ([1, 7, 6], [1, 7]), ([0, 1, 2, 3, 4, 5, 6, 7, 8], []), ([9, 8, 8, 0, 1, 2, 3, 4, 5, 6, 7, 8], [8, 9])])
def spec_l03DrawLine.B14 : List Nat := [0, 1, 0, 0, 8, 24, 60, 124, 255, 511, 1023]
theorem spec_l03DrawLine.tab14 : rtab .any (opsOf Try.f71 14) = spec_l03DrawLine.T14 := by kernel_rfl
theorem spec_l03DrawLine.bits14 : waitsOk spec_l03DrawLine.T14.2 spec_l03DrawLine.B14 = true := by kernel_rfl
def spec_l03DrawLine.T16 : Bool × List (List Nat × List Nat) := (true, [([], []), ([0], [0]), ([], []), ([2], [2]), ([3], [3]), ([1, 4, 3], [1, 4]), ([0, 1, 2, 3, 4, 5], []), ([6, 5, 5, 0, 1, 2, 3, 4, 5], [5, 6])])
def spec_l03DrawLine.B16 : List Nat := [0, 1, 0, 4, 12, 31, 63, 127]
theorem spec_l03DrawLine.tab16 : rtab .any (opsOf Try.f71 16) = spec_l03DrawLine.T16 := by kernel_rfl
theorem spec_l03DrawLine.bits16 : waitsOk spec_l03DrawLine.T16.2 spec_l03DrawLine.B16 = true := by kernel_rfl
def spec_l03DrawLine.T17 : Bool × List (List Nat × List Nat) := (true, [([], []), ([0], [0]), ([], []), ([], []), ([3], [3]), ([4], [4]), ([2, 5], [2, 5]), ([6], [6]), ([1, 7, 6], [1, 7]), ([0, 1, 2, 3, 4, 5, 6, 7, 8], []), ([9, 8, 8, 0, 1, 2, 3, 4, 5, 6, 7, 8], [8, 9])])
def spec_l03DrawLine.B17 : List Nat := [0, 1, 0, 0, 8, 24, 60, 124, 255, 511, 1023]
theorem spec_l03DrawLine.tab17 : rtab .any (opsOf Try.f71 17) = spec_l03DrawLine.T17 := by kernel_rfl
theorem spec_l03DrawLine.bits17 : waitsOk spec_l03DrawLine.T17.2 spec_l03DrawLine.B17 = true := by kernel_rfl
def spec_l03DrawLine.bF (n k : Nat) : Array Bool := ((List.range n).map fun i => k.testBit i).toArray
set_option maxHeartbeats 8000000 in
set_option maxRecDepth 100000 in
theorem spec_l03DrawLine.calls (k : Nat) (g : Nat) (s0_0 : List Int) (s0_1 : Int) (s0_2 : Int) (A1 : Option Addr) (c1 : Nat) (l1 : List (S61)) (r1 : List (S45)) (r2 : List Int) (r3 : Int) (r4 : Int) (w0 w : World) (hI : IsS127 w0 w g s0_0 s0_1 s0_2) (hB : Below w0.heap.size w0 w) (hr1 : ∀ W_, KeepBut w W_ g none → Kd.C k61 W_ A1 l1.length l1) (hc1 : l1.length ≤ c1) (h : spec_l03DrawLine.f k s0_0 s0_1 s0_2 l1 = some (r1, r2, r3, r4)) :
  Calls Try.prog 71 #[.pointer (some ⟨g, 0, none⟩), .slice A1 l1.length c1] w fun e w' => ∃ v0_ v1_ : Value, e = .returned (.agg #[v0_, v1_]) ∧ Kd.R k45 45 w' w.heap.size (fun _ => True) v0_ r1 ∧ Kd.R (Kd.int .i64) 2 w' w.heap.size (fun _ => True) v1_ r2 ∧ IsS127 w0 w' g s0_0 r3 r4 ∧ Below w0.heap.size w0 w' ∧ KeepBut w w' g none := by
 have hu29 := Try.underlying29
 have HR1 := aS hr1
 have HC1 := aS hc1
 clear hr1 hc1
 have HI0 := aS hI
 have HK := aS (KeepBut.refl w g none)
 have HL := aS hB.size
 clear hI
 have HW0 := aS hB.size
 have HB := aS hB
 clear hB
 have H := h
 clear h
 unfold spec_l03DrawLine.f at H
 replace H := Option.bind_eq_some_iff.mp H
 obtain ⟨⟨t497, t498, t499, t500⟩, A30, H⟩ := H
 replace H : ((some (([(⟨t497, t498⟩ : S45)] : List (S45)) : List (S45))).bind fun y501 => ((some (([] : List Int) : List Int)).bind fun y504 => ((spec_l00Src_pick.f s0_0 t499 t500 5).bind fun bt508 => ((spec_l00Src_one.f s0_0 bt508.2.1 bt508.2.2 20).bind fun bt511 => (if bt511.1 = true then ((spec_l00Src_pick.f s0_0 bt511.2.1 bt511.2.2 2).bind fun bt514 => (spec_l03DrawLine.j0 k l1 (wrap64 (11 + bt514.1)) s0_0 bt514.2.1 bt514.2.2 y501 y504)) else (spec_l03DrawLine.j0 k l1 bt508.1 s0_0 bt511.2.1 bt511.2.2 y501 y504)))))) = some (r1, r2, r3, r4) := H
 have A3 := aS A30
 clear A30
 obtain ⟨y501, hy501⟩ : ∃ y_ : List (S45), y_ = (([(⟨t497, t498⟩ : S45)] : List (S45))) := ⟨_, rfl⟩
 replace H : ((some (([] : List Int) : List Int)).bind fun y504 => ((spec_l00Src_pick.f s0_0 t499 t500 5).bind fun bt508 => ((spec_l00Src_one.f s0_0 bt508.2.1 bt508.2.2 20).bind fun bt511 => (if bt511.1 = true then ((spec_l00Src_pick.f s0_0 bt511.2.1 bt511.2.2 2).bind fun bt514 => (spec_l03DrawLine.j0 k l1 (wrap64 (11 + bt514.1)) s0_0 bt514.2.1 bt514.2.2 y501 y504)) else (spec_l03DrawLine.j0 k l1 bt508.1 s0_0 bt511.2.1 bt511.2.2 y501 y504))))) = some (r1, r2, r3, r4) := by first | (rw [hy501]; with_reducible exact H) | (have H2_ := (Option.bind_some _ _).symm.trans H; rw [hy501]; with_reducible exact H2_) | (have H2_ := (Option.bind_some _ _).symm.trans H; with_reducible exact H2_) | with_reducible exact H | (rw [hy501]; exact H) | exact H
 have Ny501 := aS hy501
 clear hy501
 obtain ⟨y504, hy504⟩ : ∃ y_ : List Int, y_ = (([] : List Int)) := ⟨_, rfl⟩
 replace H : ((spec_l00Src_pick.f s0_0 t499 t500 5).bind fun bt508 => ((spec_l00Src_one.f s0_0 bt508.2.1 bt508.2.2 20).bind fun bt511 => (if bt511.1 = true then ((spec_l00Src_pick.f s0_0 bt511.2.1 bt511.2.2 2).bind fun bt514 => (spec_l03DrawLine.j0 k l1 (wrap64 (11 + bt514.1)) s0_0 bt514.2.1 bt514.2.2 y501 y504)) else (spec_l03DrawLine.j0 k l1 bt508.1 s0_0 bt511.2.1 bt511.2.2 y501 y504)))) = some (r1, r2, r3, r4) := by first | (rw [hy504]; with_reducible exact H) | (have H2_ := (Option.bind_some _ _).symm.trans H; rw [hy504]; with_reducible exact H2_) | (have H2_ := (Option.bind_some _ _).symm.trans H; with_reducible exact H2_) | with_reducible exact H | (rw [hy504]; exact H) | exact H
 have Ny504 := aS hy504
 clear hy504
 replace H := Option.bind_eq_some_iff.mp H
 obtain ⟨⟨t508, t509, t510⟩, A40, H⟩ := H
 replace H : ((spec_l00Src_one.f s0_0 t509 t510 20).bind fun bt511 => (if bt511.1 = true then ((spec_l00Src_pick.f s0_0 bt511.2.1 bt511.2.2 2).bind fun bt514 => (spec_l03DrawLine.j0 k l1 (wrap64 (11 + bt514.1)) s0_0 bt514.2.1 bt514.2.2 y501 y504)) else (spec_l03DrawLine.j0 k l1 t508 s0_0 bt511.2.1 bt511.2.2 y501 y504))) = some (r1, r2, r3, r4) := H
 have A4 := aS A40
 clear A40
 replace H := Option.bind_eq_some_iff.mp H
 obtain ⟨⟨t511, t512, t513⟩, A50, H⟩ := H
 replace H : (if t511 = true then ((spec_l00Src_pick.f s0_0 t512 t513 2).bind fun bt514 => (spec_l03DrawLine.j0 k l1 (wrap64 (11 + bt514.1)) s0_0 bt514.2.1 bt514.2.2 y501 y504)) else (spec_l03DrawLine.j0 k l1 t508 s0_0 t512 t513 y501 y504)) = some (r1, r2, r3, r4) := H
 have A5 := aS A50
 clear A50
 have HC6 := aS H
 clear H
 go_enter Try.func71, Try.ntmps71
 go_upto_if 16 with (first | ((with_reducible refine gate_dst (N := 4) rfl ?_); (try (refine gate_guard (by rfl) ?_; dsimp only)); refine bx 4 #[.slice none 0 0, .slice none 0 0] 29 ?_; intro gb496 hg w7 hbox hb; replace HB := aS (below_step (sWg HB.out (IsS127.ge HI0.out)) hb); have BK496 := aS (hbox); have GW496 := aS ((by rw [hg]; exact (keep_size (w := w) (g := g) (row := none) (sK HK.out)) : w.heap.size ≤ gb496)); have GE496 := aS ((Nat.le_trans HW0.out (by rw [hg]; exact (keep_size (w := w) (g := g) (row := none) (sK HK.out)) : w.heap.size ≤ gb496) : w0.heap.size ≤ gb496)); replace HK := aS (KeepBut.trans (sK HK.out) (KeepBut.of_below hb g none) (.inl rfl)); have NB0_496 := aS ((by rw [hg]; exact Nat.ne_of_lt (IsS127.lt (show IsS127 w0 _ g s0_0 s0_1 s0_2 from IsS127.s HI0.out)) : g ≠ gb496)); have NB496_0 := aS ((by rw [hg]; exact Nat.ne_of_gt (IsS127.lt (show IsS127 w0 _ g s0_0 s0_1 s0_2 from IsS127.s HI0.out)) : gb496 ≠ g)); replace HI0 := aS (IsS127.below (IsS127.s HI0.out) hb); clear hb hbox hg) | ((with_reducible refine gate_callee (f := 65) rfl ?_); refine goesL_ (some 9) rfl rfl Try.func65 (by kernel_rfl) rfl #[.pointer (some ⟨g, 0, none⟩)] rfl sG ?_; (with_reducible refine (spec_l03DrawPiece.calls g s0_0 s0_1 s0_2 t497 t498 t499 t500 w0 _ ?side1 ?side2 A3.out).mono ?_); (case side1 => exact IsS127.s HI0.out); (case side2 => exact sWg HB.out (IsS127.ge HI0.out)); rintro e w8 ⟨rfl, hi, hb, hk⟩; refine ⟨_, rfl, ?_⟩; replace BK496 := aS (kB hk (sB BK496.out) NB496_0.out); replace HK := aS (kT (sK2 HK.out) hk); replace HB := aS (hb); replace HI0 := aS (hi)) | ((with_reducible refine gate_dst (N := 10) rfl ?_); (try (refine gate_guard (by rfl) ?_; dsimp only)); refine Kd.R_lit k45 _ 45 ?hg (N := 10) ?hd (xs := ([(⟨t497, t498⟩ : S45)] : List (S45))) (inner := [.int .i64 t497, .int .i64 t498]) (ok := fun _ => True) (okp := fun _ => True) ?hr ?hp (fun _ hk => hk) trivial (Below.refl _ _) (Nat.le_refl _) (by simp) ?_; (case hd => rfl); (case hg => rfl); (case hr => first | (go_simp; done) | (go_simp; rfl)); (case hp => exact (Reps.c2 (show Kd.M k45 _ _ _ (⟨t497, t498⟩ : S45) [.int .i64 t497, .int .i64 t498] from (k45_mkM _ _ _ (⟨t497, t498⟩ : S45) )) (Reps.none _ _))); intro v502 w9 ho10 hb hg_ hnew_; clear hg_ hnew_; (first | rw [← Ny501.out] at ho10 | (simp only [Int.reduceToNat] at ho10; rw [← Ny501.out] at ho10)); have HO503 := aS (Kd.R_lower ho10 (keep_size (w := w) (g := g) (row := none) (sK2 HK.out))); replace BK496 := aS (blk_below (sB BK496.out) hb); replace HK := aS (KeepBut.trans (sK2 HK.out) (KeepBut.of_below hb g none) (.inl rfl)); replace HB := aS (below_step (sWg HB.out (IsS127.ge HI0.out)) hb); replace HI0 := aS (IsS127.below (IsS127.s HI0.out) hb); clear hb ho10) | ((with_reducible refine gate_dst (N := 11) rfl ?_); (try (refine gate_guard (by rfl) ?_; dsimp only)); refine Kd.R_lit (Kd.int .i64) _ 2 ?hg (N := 11) ?hd (xs := ([] : List Int)) (inner := []) (ok := fun _ => True) (okp := fun _ => True) ?hr ?hp (fun _ hk => hk) trivial (Below.refl _ _) (Nat.le_refl _) (by simp) ?_; (case hd => rfl); (case hg => rfl); (case hr => first | (go_simp; done) | (go_simp; rfl)); (case hp => exact (Reps.none _ _)); intro v505 w11 ho12 hb hg_ hnew_; clear hg_ hnew_; (first | rw [← Ny504.out] at ho12 | (simp only [Int.reduceToNat] at ho12; rw [← Ny504.out] at ho12)); replace HO503 := aS (Kd.R_below (sR HO503.out) hb); have HO506 := aS (Kd.R_lower ho12 (keep_size (w := w) (g := g) (row := none) (sK2 HK.out))); replace BK496 := aS (blk_below (sB BK496.out) hb); replace HK := aS (KeepBut.trans (sK2 HK.out) (KeepBut.of_below hb g none) (.inl rfl)); replace HB := aS (below_step (sWg HB.out (IsS127.ge HI0.out)) hb); replace HI0 := aS (IsS127.below (IsS127.s HI0.out) hb); clear hb ho12; obtain ⟨Ao13, co13, eo13⟩ := Kd.R_slice HO506.out; subst eo13; obtain ⟨Ao14, co14, eo14⟩ := Kd.R_slice HO503.out; subst eo14) | ((with_reducible refine gate_dst (N := 5) rfl ?_); (try (refine gate_guard (by rfl) ?_; dsimp only)); refine bx 5 #[.slice none 0 0, .slice none 0 0] 29 ?_; intro gb507 hg w15 hbox hb; replace HO503 := aS (Kd.R_below (sR HO503.out) hb); replace HO506 := aS (Kd.R_below (sR HO506.out) hb); replace HB := aS (below_step (sWg HB.out (IsS127.ge HI0.out)) hb); have BK507 := aS (hbox); have GW507 := aS ((by rw [hg]; exact (keep_size (w := w) (g := g) (row := none) (sK2 HK.out)) : w.heap.size ≤ gb507)); have GE507 := aS ((Nat.le_trans HW0.out (by rw [hg]; exact (keep_size (w := w) (g := g) (row := none) (sK2 HK.out)) : w.heap.size ≤ gb507) : w0.heap.size ≤ gb507)); replace HK := aS (KeepBut.trans (sK2 HK.out) (KeepBut.of_below hb g none) (.inl rfl)); have NB496_507 := aS (nL hg (sB BK496.out)); have NB507_496 := aS (nG hg (sB BK496.out)); replace BK496 := aS (blk_below (sB BK496.out) hb); have NB0_507 := aS ((by rw [hg]; exact Nat.ne_of_lt (IsS127.lt (show IsS127 w0 _ g s0_0 t499 t500 from IsS127.s HI0.out)) : g ≠ gb507)); have NB507_0 := aS ((by rw [hg]; exact Nat.ne_of_gt (IsS127.lt (show IsS127 w0 _ g s0_0 t499 t500 from IsS127.s HI0.out)) : gb507 ≠ g)); replace HI0 := aS (IsS127.below (IsS127.s HI0.out) hb); clear hb hbox hg; have hnb16 := NB507_496.out; have hnc16 := NB496_507.out; have hnb17 := NB507_0.out; have hnc17 := NB0_507.out; obtain ⟨hcz18_0, hcz18_1, hfz18_0, hfz18_1⟩ := z2 BK507.out) | ((with_reducible refine gate_callee (f := 70) rfl ?_); refine goesL_ (some 14) rfl rfl Try.func70 (by kernel_rfl) rfl #[.pointer (some ⟨g, 0, none⟩), .int .i64 5] rfl sG ?_; (with_reducible refine (spec_l00Src_pick.calls g s0_0 t499 t500 5 t508 t509 t510 w0 _ ?side1 ?side2 A4.out).mono ?_); (case side1 => exact IsS127.s HI0.out); (case side2 => exact sWg HB.out (IsS127.ge HI0.out)); rintro e w19 ⟨rfl, hi, hb, hk⟩; refine ⟨_, rfl, ?_⟩; replace BK496 := aS (kB hk (sF BK496.out NB496_507.out) NB496_0.out); replace HO503 := aS (Kd.R_mono (Kd.R_keep (IsS127.apart (show IsS127 w0 _ g s0_0 t499 t500 from IsS127.s HI0.out) (sR (rF HO503.out BK507.out)) (by decide)) hk (fun _ h => h.2)) (fun _ h => h.1)); replace HO506 := aS (Kd.R_mono (Kd.R_keep (IsS127.apart (show IsS127 w0 _ g s0_0 t499 t500 from IsS127.s HI0.out) (sR (rF HO506.out BK507.out)) (by decide)) hk (fun _ h => h.2)) (fun _ h => h.1)); replace BK507 := aS (kB hk (sB (put2 BK507.out)) NB507_0.out); replace HK := aS (kT (sK2 HK.out) hk); replace HB := aS (hb); replace HI0 := aS (hi)) | ((with_reducible refine gate_callee (f := 66) rfl ?_); refine goesL_ (some 16) rfl rfl Try.func66 (by kernel_rfl) rfl #[.pointer (some ⟨g, 0, none⟩), .int .i64 20] rfl sG ?_; (with_reducible refine (spec_l00Src_one.calls g s0_0 t509 t510 20 t511 t512 t513 w0 _ ?side1 ?side2 A5.out).mono ?_); (case side1 => exact IsS127.s HI0.out); (case side2 => exact sWg HB.out (IsS127.ge HI0.out)); rintro e w20 ⟨rfl, hi, hb, hk⟩; refine ⟨_, rfl, ?_⟩; replace BK496 := aS (kB hk (sB BK496.out) NB496_0.out); replace HO503 := aS (Kd.R_mono (Kd.R_keep (IsS127.apart (show IsS127 w0 _ g s0_0 t509 t510 from IsS127.s HI0.out) (sR HO503.out) (by decide)) hk (fun _ h => h.2)) (fun _ h => h.1)); replace HO506 := aS (Kd.R_mono (Kd.R_keep (IsS127.apart (show IsS127 w0 _ g s0_0 t509 t510 from IsS127.s HI0.out) (sR HO506.out) (by decide)) hk (fun _ h => h.2)) (fun _ h => h.1)); replace BK507 := aS (kB hk (sB BK507.out) NB507_0.out); replace HK := aS (kT (sK2 HK.out) hk); replace HB := aS (hb); replace HI0 := aS (hi)))
 (try simp only [Act.put, List.setIfInBounds_toArray, List.set_cons_zero, List.set_cons_succ])
 go_cut [6] (fun v6 wc => ∃ (kq : Nat) (x6_5 : Int) (x1001_5 : Int) (x1002_5 : Int), v6 = .int .i64 x6_5 ∧ Aside0 (spec_l03DrawLine.j0 kq l1 x6_5 s0_0 x1001_5 x1002_5 y501 y504 = some (r1, r2, r3, r4)) ∧ Aside0 (kq ≤ k) ∧ Aside0 (Kd.R k45 45 wc w.heap.size (fun _ => True) (.slice Ao14 y501.length co14) y501) ∧ Aside0 (Kd.R (Kd.int .i64) 2 wc w.heap.size (fun _ => True) (.slice Ao13 y504.length co13) y504) ∧ Aside0 (wc.heap[gb496]? = some (.cells #[(.slice none 0 0), (.slice none 0 0)] 29 (0, 0))) ∧ Aside0 (wc.heap[gb507]? = some (.cells #[(.slice Ao14 y501.length co14), (.slice Ao13 y504.length co13)] 29 (0, 0))) ∧ Aside0 (IsS127 w0 wc g s0_0 x1001_5 x1002_5) ∧ Aside0 (KeepBut w wc g none) ∧ Aside0 (Below w0.heap.size w0 wc))
 case first =>
  have H := HC6.out
  clear HC6
  by_cases c21 : t511 = true
  rotate_left
  ·
   replace c21 := Bool.eq_false_iff.mpr c21
   subst c21
   have H1 : (spec_l03DrawLine.j0 k l1 t508 s0_0 t512 t513 y501 y504) = some (r1, r2, r3, r4) := by rw [if_neg (show ¬ (false = true) by decide)] at H; exact H
   clear H
   have H := H1
   clear H1
   have H' := aS H
   clear H
   go_wp2
   go_meet
   case rel => exact ⟨_, (t508), (t512), (t513), eV, H', ⟨by first | omega | exact Nat.le_refl _⟩, (aS (sR HO503.out)), (aS (sR HO506.out)), (aS (sB BK496.out)), (aS (sB BK507.out)), (aS (IsS127.s HI0.out)), (aS (sK2 HK.out)), (aS (sWg HB.out (IsS127.ge HI0.out)))⟩
  subst c21
  have H1 : ((spec_l00Src_pick.f s0_0 t512 t513 2).bind fun bt514 => (spec_l03DrawLine.j0 k l1 (wrap64 (11 + bt514.1)) s0_0 bt514.2.1 bt514.2.2 y501 y504)) = some (r1, r2, r3, r4) := by rw [if_pos rfl] at H; exact H
  clear H
  have H := H1
  clear H1
  replace H := Option.bind_eq_some_iff.mp H
  obtain ⟨⟨t514, t515, t516⟩, A220, H⟩ := H
  replace H : (spec_l03DrawLine.j0 k l1 (wrap64 (11 + t514)) s0_0 t515 t516 y501 y504) = some (r1, r2, r3, r4) := H
  have A22 := aS A220
  clear A220
  have H' := aS H
  clear H
  go_wp2_with (first | ((with_reducible refine gate_callee (f := 70) rfl ?_); refine goesL_ (some 18) rfl rfl Try.func70 (by kernel_rfl) rfl #[.pointer (some ⟨g, 0, none⟩), .int .i64 2] rfl sG ?_; (with_reducible refine (spec_l00Src_pick.calls g s0_0 t512 t513 2 t514 t515 t516 w0 _ ?side1 ?side2 A22.out).mono ?_); (case side1 => exact IsS127.s HI0.out); (case side2 => exact sWg HB.out (IsS127.ge HI0.out)); rintro e w23 ⟨rfl, hi, hb, hk⟩; refine ⟨_, rfl, ?_⟩; replace BK496 := aS (kB hk (sB BK496.out) NB496_0.out); replace HO503 := aS (Kd.R_mono (Kd.R_keep (IsS127.apart (show IsS127 w0 _ g s0_0 t512 t513 from IsS127.s HI0.out) (sR HO503.out) (by decide)) hk (fun _ h => h.2)) (fun _ h => h.1)); replace HO506 := aS (Kd.R_mono (Kd.R_keep (IsS127.apart (show IsS127 w0 _ g s0_0 t512 t513 from IsS127.s HI0.out) (sR HO506.out) (by decide)) hk (fun _ h => h.2)) (fun _ h => h.1)); replace BK507 := aS (kB hk (sB BK507.out) NB507_0.out); replace HK := aS (kT (sK2 HK.out) hk); replace HB := aS (hb); replace HI0 := aS (hi)))
  go_meet
  case rel => exact ⟨_, (wrap64 (11 + t514)), (t515), (t516), eV, H', ⟨by first | omega | exact Nat.le_refl _⟩, (aS (sR HO503.out)), (aS (sR HO506.out)), (aS (sB BK496.out)), (aS (sB BK507.out)), (aS (IsS127.s HI0.out)), (aS (sK2 HK.out)), (aS (sWg HB.out (IsS127.ge HI0.out)))⟩
 case rest =>
  clear HC6
  obtain ⟨kq, x6_5, x1001_5, x1002_5, rfl, HA, HJ5, HO_508000, HO_508001, BK496, BK507, HI0, HK, HB⟩ := hcut
  cases kq with
  | zero => exact absurd HA.out (by simp [spec_l03DrawLine.j0])
  | succ kj5 =>
   have H := HA.out
   clear HA
   simp only [spec_l03DrawLine.j0] at H
   have H' := aS H
   clear H
   go_wp2
   go_loopg [7] kj5 (fun kq v7 w' => ∃ (x7_2 : Int) (x1001_2 : Int) (x1002_2 : Int) (x508000_2 : List (S45)) (x508001_2 : List Int) (u508000 : Value) (u508001 : Value), v7 = .int .i64 x7_2 ∧ Aside0 (spec_l03DrawLine.l0 kq l1 x7_2 s0_0 x1001_2 x1002_2 x508000_2 x508001_2 = some (r1, r2, r3, r4)) ∧ Aside0 (kq ≤ kj5) ∧ Aside0 (Kd.R k45 45 w' w.heap.size (fun _ => True) u508000 x508000_2) ∧ Aside0 (Kd.R (Kd.int .i64) 2 w' w.heap.size (fun _ => True) u508001 x508001_2) ∧ Aside0 (w'.heap[gb496]? = some (.cells #[(.slice none 0 0), (.slice none 0 0)] 29 (0, 0))) ∧ Aside0 (w'.heap[gb507]? = some (.cells #[u508000, u508001] 29 (0, 0))) ∧ Aside0 (IsS127 w0 w' g s0_0 x1001_2 x1002_2) ∧ Aside0 (KeepBut w w' g none) ∧ Aside0 (Below w0.heap.size w0 w'))
   case atStart => exact ⟨(x6_5), (x1001_5), (x1002_5), (y501), (y504), (.slice Ao14 y501.length co14), (.slice Ao13 y504.length co13), eV, H', ⟨Nat.le_refl _⟩, (aS (sR HO_508000.out)), (aS (sR HO_508001.out)), (aS (sB BK496.out)), (aS (sB BK507.out)), (aS (IsS127.s HI0.out)), (aS (sK2 HK.out)), (aS (sWg HB.out (IsS127.ge HI0.out)))⟩
   case round =>
    clear H'
    obtain ⟨x7_2, x1001_2, x1002_2, x508000_2, x508001_2, u508000, u508001, rfl, HA, HK2, HO_508000, HO_508001, BK496, BK507, HI0, HK, HB⟩ := hrel
    cases gk with
    | zero => exact absurd HA.out (by simp [spec_l03DrawLine.l0])
    | succ k2 =>
     have H := HA.out
     clear HA
     simp only [spec_l03DrawLine.l0] at H
     have HC24 := aS H
     clear H
     go_upto_region 6 with (fail)
     go_cut [27] (fun v27 wc => ∃ (kq : Nat) (x27_23 : Bool), v27 = .bool x27_23 ∧ Aside0 (spec_l03DrawLine.j2 kq l1 x7_2 x27_23 s0_0 x1001_2 x1002_2 x508000_2 x508001_2 = some (r1, r2, r3, r4)) ∧ Aside0 (kq ≤ k2) ∧ Aside0 (Kd.R k45 45 wc w.heap.size (fun _ => True) u508000 x508000_2) ∧ Aside0 (Kd.R (Kd.int .i64) 2 wc w.heap.size (fun _ => True) u508001 x508001_2) ∧ Aside0 (wc.heap[gb496]? = some (.cells #[(.slice none 0 0), (.slice none 0 0)] 29 (0, 0))) ∧ Aside0 (wc.heap[gb507]? = some (.cells #[u508000, u508001] 29 (0, 0))) ∧ Aside0 (IsS127 w0 wc g s0_0 x1001_2 x1002_2) ∧ Aside0 (KeepBut w wc g none) ∧ Aside0 (Below w0.heap.size w0 wc))
     case first =>
      have H := HC24.out
      clear HC24
      replace H := iE H; rcases H with ⟨c25, H⟩ | ⟨c25, H⟩
      rotate_left
      ·
       have c25b0 : decide (0 < x7_2) = false := decide_eq_false c25
       clear c25
       (first | rw [c25b0] | (simp only [i64_w, i32_w]; rw [c25b0]) | (rw [c25b2]; simp only [Bool.not_false, Bool.not_true]) | skip)
       have H' := aS H
       clear H
       go_wp2
       go_meet
       case rel => exact ⟨_, (false), eV, H', ⟨by have := HJ5.out; have := HK2.out; first | omega | exact Nat.le_refl _⟩, (aS (sR HO_508000.out)), (aS (sR HO_508001.out)), (aS (sB BK496.out)), (aS (sB BK507.out)), (aS (IsS127.s HI0.out)), (aS (sK2 HK.out)), (aS (sWg HB.out (IsS127.ge HI0.out)))⟩
      have c25b0 : decide (0 < x7_2) = true := decide_eq_true c25
      clear c25
      (first | rw [c25b0] | (simp only [i64_w, i32_w]; rw [c25b0]) | (rw [c25b2]; simp only [Bool.not_false, Bool.not_true]) | skip)
      have H' := aS H
      clear H
      go_wp2
      go_meet
      case rel => exact ⟨_, (decide ((l1.length : Int) > 0)), eV, H', ⟨by have := HJ5.out; have := HK2.out; first | omega | exact Nat.le_refl _⟩, (aS (sR HO_508000.out)), (aS (sR HO_508001.out)), (aS (sB BK496.out)), (aS (sB BK507.out)), (aS (IsS127.s HI0.out)), (aS (sK2 HK.out)), (aS (sWg HB.out (IsS127.ge HI0.out)))⟩
     case rest =>
      clear HC24
      obtain ⟨kq, x27_23, rfl, HA, HJ23, HO_508000, HO_508001, BK496, BK507, HI0, HK, HB⟩ := hcut
      cases kq with
      | zero => exact absurd HA.out (by simp [spec_l03DrawLine.j2])
      | succ kj23 =>
       have H := HA.out
       clear HA
       simp only [spec_l03DrawLine.j2] at H
       by_cases c26 : x27_23 = true
       ·
        subst c26
        have H1 : ((spec_l03DrawPiece.f s0_0 x1001_2 x1002_2).bind fun bt517 => (if x508000_2.length < 8796093022208 then ((spec_l00Src_pick.f s0_0 bt517.2.2.1 bt517.2.2.2 (l1.length : Int)).bind fun bt524 => (if x508001_2.length < 17592186044416 then (spec_l03DrawLine.l0 kj23 l1 (wrap64 (x7_2 - 1)) s0_0 bt524.2.1 bt524.2.2 (x508000_2 ++ [(⟨bt517.1, bt517.2.1⟩ : S45)]) (x508001_2 ++ [bt524.1])) else (none))) else (none))) = some (r1, r2, r3, r4) := by rw [if_pos rfl] at H; exact H
        clear H
        have H := H1
        clear H1
        replace H := Option.bind_eq_some_iff.mp H
        obtain ⟨⟨t517, t518, t519, t520⟩, A270, H⟩ := H
        replace H : (if x508000_2.length < 8796093022208 then ((spec_l00Src_pick.f s0_0 t519 t520 (l1.length : Int)).bind fun bt524 => (if x508001_2.length < 17592186044416 then (spec_l03DrawLine.l0 kj23 l1 (wrap64 (x7_2 - 1)) s0_0 bt524.2.1 bt524.2.2 (x508000_2 ++ [(⟨t517, t518⟩ : S45)]) (x508001_2 ++ [bt524.1])) else (none))) else (none)) = some (r1, r2, r3, r4) := H
        have A27 := aS A270
        clear A270
        replace H := iN H
        obtain ⟨c28, H⟩ := H
        have LMc28 := aS c28
        clear c28
        obtain ⟨y521, hy521⟩ : ∃ y_ : List (S45), y_ = (x508000_2 ++ [(⟨t517, t518⟩ : S45)]) := ⟨_, rfl⟩
        replace H : ((spec_l00Src_pick.f s0_0 t519 t520 (l1.length : Int)).bind fun bt524 => (if x508001_2.length < 17592186044416 then (spec_l03DrawLine.l0 kj23 l1 (wrap64 (x7_2 - 1)) s0_0 bt524.2.1 bt524.2.2 y521 (x508001_2 ++ [bt524.1])) else (none))) = some (r1, r2, r3, r4) := by first | (rw [hy521]; with_reducible exact H) | (have H2_ := (Option.bind_some _ _).symm.trans H; rw [hy521]; with_reducible exact H2_) | (have H2_ := (Option.bind_some _ _).symm.trans H; with_reducible exact H2_) | with_reducible exact H | (rw [hy521]; exact H) | exact H
        have Ny521 := aS hy521
        clear hy521
        replace H := Option.bind_eq_some_iff.mp H
        obtain ⟨⟨t524, t525, t526⟩, A290, H⟩ := H
        replace H : (if x508001_2.length < 17592186044416 then (spec_l03DrawLine.l0 kj23 l1 (wrap64 (x7_2 - 1)) s0_0 t525 t526 y521 (x508001_2 ++ [t524])) else (none)) = some (r1, r2, r3, r4) := H
        have A29 := aS A290
        clear A290
        replace H := iN H
        obtain ⟨c30, H⟩ := H
        have LMc30 := aS c30
        clear c30
        obtain ⟨y527, hy527⟩ : ∃ y_ : List Int, y_ = (x508001_2 ++ [t524]) := ⟨_, rfl⟩
        replace H : (spec_l03DrawLine.l0 kj23 l1 (wrap64 (x7_2 - 1)) s0_0 t525 t526 y521 y527) = some (r1, r2, r3, r4) := by first | (rw [hy527]; with_reducible exact H) | (have H2_ := (Option.bind_some _ _).symm.trans H; rw [hy527]; with_reducible exact H2_) | (have H2_ := (Option.bind_some _ _).symm.trans H; with_reducible exact H2_) | with_reducible exact H | (rw [hy527]; exact H) | exact H
        have Ny527 := aS hy527
        clear hy527
        have H' := aS H
        clear H
        try go_wp2
        replace HO_508000 := aS (Kd.R_drew HO_508000.out); replace HO_508001 := aS (Kd.R_drew HO_508001.out); replace BK496 := aS (blk_drew BK496.out); replace BK507 := aS (blk_drew BK507.out); replace HI0 := aS (IsS127.drew HI0.out); replace HK := aS (keep_drew HK.out); replace HB := aS (below_drew1 HB.out)
        refine start_ (n := 8) (S := fun w' => w'.cell? ⟨gb507, 0, none⟩ = some (u508000) ∧ w'.cell? ⟨gb507, 1, none⟩ = some (u508001)) (ds := [7]) _ (by kernel_rfl) rfl rfl ⟨bq BK507.out 0, bq BK507.out 1⟩ (fun hHeld => ?_); refine with_tabW spec_l03DrawLine.tab8 spec_l03DrawLine.bits8 (fun HT_ HW_ => ?_)
        generalize wc.drew = w31 at HO_508000 HO_508001 BK496 BK507 HI0 HK HB hHeld ⊢
        refine pX 0 30 ?_; refine pX 2 32 ?_; refine tX 1 31 ?_
        refine oX 3 (some 33) fun K hK => ?_
        refine goes_ Try.func65 (by kernel_rfl) rfl #[.pointer (some ⟨g, 0, none⟩)] (by rfl) rfl rfl sG ?_
        with_reducible refine (spec_l03DrawPiece.calls g s0_0 x1001_2 x1002_2 t517 t518 t519 t520 w0 _ ?side1 ?side2 A27.out).mono ?_
        (case side1 => exact IsS127.s HI0.out)
        (case side2 => exact sWg HB.out (IsS127.ge HI0.out))
        rintro e w32 ⟨rfl, hi, hb, hk⟩
        refine ⟨_, rfl, ?_⟩
        replace HO_508000 := aS (Kd.R_mono (Kd.R_keep (IsS127.apart (show IsS127 w0 _ g s0_0 x1001_2 x1002_2 from IsS127.s HI0.out) (sR HO_508000.out) (by decide)) hk (fun _ h => h.2)) (fun _ h => h.1)); replace HO_508001 := aS (Kd.R_mono (Kd.R_keep (IsS127.apart (show IsS127 w0 _ g s0_0 x1001_2 x1002_2 from IsS127.s HI0.out) (sR HO_508001.out) (by decide)) hk (fun _ h => h.2)) (fun _ h => h.1)); replace BK496 := aS (kB hk (sB BK496.out) NB496_0.out); replace BK507 := aS (kB hk (sB BK507.out) NB507_0.out); replace HK := aS (kT (sK2 HK.out) hk); replace HB := aS (hb); replace HI0 := aS (hi)
        refine hK.out _ _ ⟨bq BK507.out 0, bq BK507.out 1⟩ (fun hHeld => ?_)
        clear hK K
        refine nX 33 ?_
        refine oX 4 (some 34) fun K hK => ?_
        refine value_ (w1 := ?_) (v := ?_) (by rfl) rfl ?_ ?_
        rotate_left 2
        ·
         go_simp
         constructor
         ·
          rfl
         ·
          rfl
        refine hK.out _ _ ⟨bq (blk_alloc BK507.out _) 0, bq (blk_alloc BK507.out _) 1⟩ (fun hHeld => ?_)
        clear hK K
        refine nX 34 ?_
        refine oX 5 (some 35) fun K hK => ?_
        refine Kd.R_append_step k45 w.heap.size (by rfl) (.tmp 31) (.tmp 34) 26 45 (.agg #[(.int .i64 0), (.int .i64 0)]) 16 rfl Try.underlying26 info45 rfl (by decide) (by omega) u508000 x508000_2 (⟨t517, t518⟩ : S45) [.int .i64 t517, .int .i64 t518] (fun _ => True) (fun _ => False) rfl rfl ?aP (fun _ hk => hk.elim) ?aF ?aO (Below.refl _ _) ?aS ?aL ?_
        (case aP => exact k45_mkM _ _ _ (⟨t517, t518⟩ : S45))
        (case aF => exact (fun _ _ => trivial))
        (case aO => exact (sR HO_508000.out))
        (case aS => exact (keep_size (w := w) (g := g) (row := none) (sK2 HK.out)))
        (case aL => have := LMc28.out; omega)
        intro v522 w33 ho hb hg hat
        rw [← Ny521.out] at ho
        replace HO_508001 := aS (Kd.R_over' (sR HO_508001.out) (Kd.R_typed (sR HO_508000.out)) (by decide) hg); replace BK496 := aS (blk_grown (sB BK496.out) hg (Kd.R_ne HO_508000.out BK496.out (by decide))); replace BK507 := aS (blk_grown (sB BK507.out) hg (Kd.R_ne HO_508000.out BK507.out (by decide))); replace HB := aS (below_weaken (sWg HB.out (IsS127.ge HI0.out)) HL.out hb); replace HI0 := aS (IsS127.grown (show IsS127 w0 _ g s0_0 t519 t520 from IsS127.s HI0.out) hg (IsS127.own_ne HI0.out HO_508000.out (by decide))); replace HK := aS (KeepBut.trans (sK2 HK.out) (KeepBut.of_grown hg g) (Kd.R_base2 HO_508000.out)); have HO523 := aS (ho); clear HO_508000
        clear ho hb hg hat
        obtain ⟨Ao34, co34, eo34⟩ := Kd.R_slice HO523.out
        (first | subst eo34 | (injection eo34 with f1_ f2_ f3_; have f4_ := f1_.symm; have f5_ := f3_.symm; clear f1_ f2_ f3_; subst f4_; subst f5_))
        refine hK.out _ _ ⟨bq BK507.out 0, bq BK507.out 1⟩ (fun hHeld => ?_)
        clear hK K
        refine nX 35 ?_
        refine pX 6 36 ?_
        refine lX 7 none fun K hK => ?_
        have hs35 : w33.cell? ⟨gb507, 0, none⟩ = some (u508000) := bq BK507.out 0
        have hfs35 := blk_frozen BK507.out 0
        have hns35_0 := NB496_507.out
        have hms35_0 := NB507_496.out
        refine skip_ (w1 := ?_) (by rfl) rfl ?_ ?_
        rotate_left
        ·
         go_simp
         rfl
        refine hK.out _ _ ?_
        clear hK K
        refine dX ?_
        try go_wp2
        have n0_ : Aside0 (Kd.R (Kd.int .i64) 2 (w33.setCell ⟨gb507, 0, none⟩ (.slice Ao34 y521.length co34)) w.heap.size (fun _ => True) u508001 x508001_2) := (aS (sR (Kd.R_mono (Kd.R_far (p := ⟨gb507, 0, none⟩) (Kd.R_types HO_508001.out BK507.out (by decide)) (fun _ hk => hk.2) (.slice Ao34 y521.length co34)) (fun _ hk => trivial))))
        have n1_ : Aside0 (Kd.R k45 45 (w33.setCell ⟨gb507, 0, none⟩ (.slice Ao34 y521.length co34)) w.heap.size (fun _ => True) (.slice Ao34 y521.length co34) y521) := (aS (sR (Kd.R_mono (Kd.R_far (p := ⟨gb507, 0, none⟩) (Kd.R_types HO523.out BK507.out (by decide)) (fun _ hk => hk.2) (.slice Ao34 y521.length co34)) (fun _ hk => trivial))))
        have n2_ : Aside0 ((w33.setCell ⟨gb507, 0, none⟩ (.slice Ao34 y521.length co34)).heap[gb496]? = some (.cells #[.slice none 0 0, .slice none 0 0] 29 (0, 0))) := (aS (sF BK496.out NB496_507.out))
        have n3_ : Aside0 ((w33.setCell ⟨gb507, 0, none⟩ (.slice Ao34 y521.length co34)).heap[gb507]? = some (.cells #[.slice Ao34 y521.length co34, u508001] 29 (0, 0))) := (aS (sZ BK507.out))
        have n4_ : Aside0 (IsS127 w0 (w33.setCell ⟨gb507, 0, none⟩ (.slice Ao34 y521.length co34)) g s0_0 t519 t520) := (aS (IsS127.s HI0.out))
        have n5_ : Aside0 (KeepBut w (w33.setCell ⟨gb507, 0, none⟩ (.slice Ao34 y521.length co34)) g none) := (aS (sK2 HK.out))
        have n6_ : Aside0 (Below w0.heap.size w0 (w33.setCell ⟨gb507, 0, none⟩ (.slice Ao34 y521.length co34))) := (aS (sWg HB.out (IsS127.ge HI0.out)))
        generalize (w33.setCell ⟨gb507, 0, none⟩ (.slice Ao34 y521.length co34)) = w36 at n0_ n1_ n2_ n3_ n4_ n5_ n6_ ⊢
        have HO_508001 := n0_; have HO523 := n1_; have BK496 := n2_; have BK507 := n3_; have HI0 := n4_; have HK := n5_; have HB := n6_
        clear n0_ n1_ n2_ n3_ n4_ n5_ n6_
        replace HO_508001 := aS (Kd.R_drew HO_508001.out); replace HO523 := aS (Kd.R_drew HO523.out); replace BK496 := aS (blk_drew BK496.out); replace BK507 := aS (blk_drew BK507.out); replace HI0 := aS (IsS127.drew HI0.out); replace HK := aS (keep_drew HK.out); replace HB := aS (below_drew1 HB.out)
        refine start_ (n := 10) (S := fun w' => w'.cell? ⟨gb507, 0, none⟩ = some (.slice Ao34 y521.length co34) ∧ w'.cell? ⟨gb507, 1, none⟩ = some (u508001)) (ds := [9]) _ (by kernel_rfl) rfl rfl ⟨bq BK507.out 0, bq BK507.out 1⟩ (fun hHeld => ?_); refine with_tabW spec_l03DrawLine.tab9 spec_l03DrawLine.bits9 (fun HT_ HW_ => ?_)
        generalize w36.drew = w37 at HO_508001 HO523 BK496 BK507 HI0 HK HB hHeld ⊢
        refine pX 0 37 ?_; refine pX 2 39 ?_; refine pX 3 40 ?_; refine pX 4 41 ?_; refine tX 1 38 ?_
        refine oX 5 (some 42) fun K hK => ?_
        refine goes_ Try.func70 (by kernel_rfl) rfl #[.pointer (some ⟨g, 0, none⟩), .int .i64 (l1.length : Int)] (by rfl) rfl rfl sG ?_
        with_reducible refine (spec_l00Src_pick.calls g s0_0 t519 t520 (l1.length : Int) t524 t525 t526 w0 _ ?side1 ?side2 A29.out).mono ?_
        (case side1 => exact IsS127.s HI0.out)
        (case side2 => exact sWg HB.out (IsS127.ge HI0.out))
        rintro e w38 ⟨rfl, hi, hb, hk⟩
        refine ⟨_, rfl, ?_⟩
        replace HO_508001 := aS (Kd.R_mono (Kd.R_keep (IsS127.apart (show IsS127 w0 _ g s0_0 t519 t520 from IsS127.s HI0.out) (sR HO_508001.out) (by decide)) hk (fun _ h => h.2)) (fun _ h => h.1)); replace BK496 := aS (kB hk (sB BK496.out) NB496_0.out); replace BK507 := aS (kB hk (sB BK507.out) NB507_0.out); replace HO523 := aS (Kd.R_mono (Kd.R_keep (IsS127.apart (show IsS127 w0 _ g s0_0 t519 t520 from IsS127.s HI0.out) (sR HO523.out) (by decide)) hk (fun _ h => h.2)) (fun _ h => h.1)); replace HK := aS (kT (sK2 HK.out) hk); replace HB := aS (hb); replace HI0 := aS (hi)
        refine hK.out _ _ ⟨bq BK507.out 0, bq BK507.out 1⟩ (fun hHeld => ?_)
        clear hK K
        refine nX 42 ?_
        refine oX 6 (some 43) fun K hK => ?_
        refine value_ (w1 := ?_) (v := ?_) (by rfl) rfl ?_ ?_
        rotate_left 2
        ·
         go_simp
         constructor
         ·
          rfl
         ·
          rfl
        refine hK.out _ _ ⟨bq (blk_alloc BK507.out _) 0, bq (blk_alloc BK507.out _) 1⟩ (fun hHeld => ?_)
        clear hK K
        refine nX 43 ?_
        refine oX 7 (some 44) fun K hK => ?_
        refine Kd.R_append_step (Kd.int .i64) w.heap.size (by rfl) (.tmp 38) (.tmp 43) 27 2 (.int .i64 0) 8 rfl Try.underlying27 info2 rfl (by decide) (by omega) u508001 x508001_2 t524 [.int .i64 t524] (fun _ => True) (fun _ => False) rfl rfl ?aP (fun _ hk => hk.elim) ?aF ?aO (Below.refl _ _) ?aS ?aL ?_
        (case aP => exact rfl)
        (case aF => exact (fun _ _ => trivial))
        (case aO => exact (sR HO_508001.out))
        (case aS => exact (keep_size (w := w) (g := g) (row := none) (sK2 HK.out)))
        (case aL => have := LMc30.out; omega)
        intro v528 w39 ho hb hg hat
        rw [← Ny527.out] at ho
        replace BK496 := aS (blk_grown (sB BK496.out) hg (Kd.R_ne HO_508001.out BK496.out (by decide))); replace BK507 := aS (blk_grown (sB BK507.out) hg (Kd.R_ne HO_508001.out BK507.out (by decide))); replace HO523 := aS (Kd.R_over' (sR HO523.out) (Kd.R_typed (sR HO_508001.out)) (by decide) hg); replace HB := aS (below_weaken (sWg HB.out (IsS127.ge HI0.out)) HL.out hb); replace HI0 := aS (IsS127.grown (show IsS127 w0 _ g s0_0 t525 t526 from IsS127.s HI0.out) hg (IsS127.own_ne HI0.out HO_508001.out (by decide))); replace HK := aS (KeepBut.trans (sK2 HK.out) (KeepBut.of_grown hg g) (Kd.R_base2 HO_508001.out)); have HO529 := aS (ho); clear HO_508001
        clear ho hb hg hat
        obtain ⟨Ao40, co40, eo40⟩ := Kd.R_slice HO529.out
        (first | subst eo40 | (injection eo40 with f1_ f2_ f3_; have f4_ := f1_.symm; have f5_ := f3_.symm; clear f1_ f2_ f3_; subst f4_; subst f5_))
        refine hK.out _ _ ⟨bq BK507.out 0, bq BK507.out 1⟩ (fun hHeld => ?_)
        clear hK K
        refine nX 44 ?_
        refine pX 8 45 ?_
        refine lX 9 none fun K hK => ?_
        have hs41 : w39.cell? ⟨gb507, 1, none⟩ = some (u508001) := bq BK507.out 1
        have hfs41 := blk_frozen BK507.out 1
        have hns41_0 := NB496_507.out
        have hms41_0 := NB507_496.out
        refine skip_ (w1 := ?_) (by rfl) rfl ?_ ?_
        rotate_left
        ·
         go_simp
         rfl
        refine hK.out _ _ ?_
        clear hK K
        refine dX ?_
        try go_wp2
        go_roundg kj23
        case measure => have := HJ5.out; have := HK2.out; have := HJ23.out; omega
        case rel => exact ⟨(wrap64 (x7_2 - 1)), (t525), (t526), (y521), (y527), (.slice Ao34 y521.length co34), (.slice Ao40 y527.length co40), eV, H', ⟨by have := HJ5.out; have := HK2.out; have := HJ23.out; omega⟩, (aS (sR (Kd.R_mono (Kd.R_far (p := ⟨gb507, 1, none⟩) (Kd.R_types HO523.out BK507.out (by decide)) (fun _ hk => hk.2) (.slice Ao40 y527.length co40)) (fun _ hk => trivial)))), (aS (sR (Kd.R_mono (Kd.R_far (p := ⟨gb507, 1, none⟩) (Kd.R_types HO529.out BK507.out (by decide)) (fun _ hk => hk.2) (.slice Ao40 y527.length co40)) (fun _ hk => trivial)))), (aS (sF BK496.out NB496_507.out)), (aS (sZ BK507.out)), (aS (IsS127.s HI0.out)), (aS (sK2 HK.out)), (aS (sWg HB.out (IsS127.ge HI0.out)))⟩
       ·
        replace c26 := Bool.eq_false_iff.mpr c26
        subst c26
        have H1 : ((spec_l00Src_pick.f s0_0 x1001_2 x1002_2 24).bind fun bt530 => (if bt530.1 = 0 then ((spec_l00Src_pick.f s0_0 bt530.2.1 bt530.2.2 (x508000_2.length : Int)).bind fun bt533 => (if 0 ≤ bt533.1 then (if bt533.1 < (x508000_2.length : Int) then ((spec_l03SpoilPiece.f s0_0 bt533.2.1 bt533.2.2 ((rd_T45 x508000_2 bt533.1).f0) ((rd_T45 x508000_2 bt533.1).f1)).bind fun bt536 => (some ((x508000_2.set (bt533.1 : Int).toNat (⟨bt536.1, bt536.2.1⟩ : S45)), x508001_2, bt536.2.2.1, bt536.2.2.2))) else (none)) else (none))) else (if bt530.1 = 1 then ((spec_l00Src_among.f s0_0 bt530.2.1 bt530.2.2 (([(-1), 0, (l1.length : Int)] : List Int))).bind fun bt544 => (if x508001_2.length < 17592186044416 then (some (x508000_2, (x508001_2 ++ [bt544.1]), bt544.2.1, bt544.2.2)) else (none))) else (if bt530.1 = 2 then ((spec_l03DrawPiece.f s0_0 bt530.2.1 bt530.2.2).bind fun bt550 => (if x508000_2.length < 8796093022208 then ((spec_l00Src_among.f s0_0 bt550.2.2.1 bt550.2.2.2 (([(-1), 0, (l1.length : Int)] : List Int))).bind fun bt560 => (if x508001_2.length < 17592186044416 then (some ((x508000_2 ++ [(⟨bt550.1, bt550.2.1⟩ : S45)]), (x508001_2 ++ [bt560.1]), bt560.2.1, bt560.2.2)) else (none))) else (none))) else (some (x508000_2, x508001_2, bt530.2.1, bt530.2.2)))))) = some (r1, r2, r3, r4) := by rw [if_neg (show ¬ (false = true) by decide)] at H; exact H
        clear H
        have H := H1
        clear H1
        replace H := Option.bind_eq_some_iff.mp H
        obtain ⟨⟨t530, t531, t532⟩, A420, H⟩ := H
        replace H : (if t530 = 0 then ((spec_l00Src_pick.f s0_0 t531 t532 (x508000_2.length : Int)).bind fun bt533 => (if 0 ≤ bt533.1 then (if bt533.1 < (x508000_2.length : Int) then ((spec_l03SpoilPiece.f s0_0 bt533.2.1 bt533.2.2 ((rd_T45 x508000_2 bt533.1).f0) ((rd_T45 x508000_2 bt533.1).f1)).bind fun bt536 => (some ((x508000_2.set (bt533.1 : Int).toNat (⟨bt536.1, bt536.2.1⟩ : S45)), x508001_2, bt536.2.2.1, bt536.2.2.2))) else (none)) else (none))) else (if t530 = 1 then ((spec_l00Src_among.f s0_0 t531 t532 (([(-1), 0, (l1.length : Int)] : List Int))).bind fun bt544 => (if x508001_2.length < 17592186044416 then (some (x508000_2, (x508001_2 ++ [bt544.1]), bt544.2.1, bt544.2.2)) else (none))) else (if t530 = 2 then ((spec_l03DrawPiece.f s0_0 t531 t532).bind fun bt550 => (if x508000_2.length < 8796093022208 then ((spec_l00Src_among.f s0_0 bt550.2.2.1 bt550.2.2.2 (([(-1), 0, (l1.length : Int)] : List Int))).bind fun bt560 => (if x508001_2.length < 17592186044416 then (some ((x508000_2 ++ [(⟨bt550.1, bt550.2.1⟩ : S45)]), (x508001_2 ++ [bt560.1]), bt560.2.1, bt560.2.2)) else (none))) else (none))) else (some (x508000_2, x508001_2, t531, t532))))) = some (r1, r2, r3, r4) := H
        have A42 := aS A420
        clear A420
        have HC43 := aS H
        clear H
        go_upto_if 48 with (first | ((with_reducible refine gate_callee (f := 70) rfl ?_); refine goesL_ (some 47) rfl rfl Try.func70 (by kernel_rfl) rfl #[.pointer (some ⟨g, 0, none⟩), .int .i64 24] rfl sG ?_; (with_reducible refine (spec_l00Src_pick.calls g s0_0 x1001_2 x1002_2 24 t530 t531 t532 w0 _ ?side1 ?side2 A42.out).mono ?_); (case side1 => exact IsS127.s HI0.out); (case side2 => exact sWg HB.out (IsS127.ge HI0.out)); rintro e w44 ⟨rfl, hi, hb, hk⟩; refine ⟨_, rfl, ?_⟩; replace HO_508000 := aS (Kd.R_mono (Kd.R_keep (IsS127.apart (show IsS127 w0 _ g s0_0 x1001_2 x1002_2 from IsS127.s HI0.out) (sR HO_508000.out) (by decide)) hk (fun _ h => h.2)) (fun _ h => h.1)); replace HO_508001 := aS (Kd.R_mono (Kd.R_keep (IsS127.apart (show IsS127 w0 _ g s0_0 x1001_2 x1002_2 from IsS127.s HI0.out) (sR HO_508001.out) (by decide)) hk (fun _ h => h.2)) (fun _ h => h.1)); replace BK496 := aS (kB hk (sB BK496.out) NB496_0.out); replace BK507 := aS (kB hk (sB BK507.out) NB507_0.out); replace HK := aS (kT (sK2 HK.out) hk); replace HB := aS (hb); replace HI0 := aS (hi)))
        (try simp only [Act.put, List.setIfInBounds_toArray, List.set_cons_zero, List.set_cons_succ])
        have H := HC43.out
        clear HC43
        replace H := iE H; rcases H with ⟨c45, H⟩ | ⟨c45, H⟩
        ·
         have c45b0 := beq_iff_eq.mpr c45
         have c45b1 := bne_eq_false_iff_eq.mpr c45
         clear c45
         (first | rw [c45b0] | (simp only [i64_w, i32_w]; rw [c45b0]) | (rw [c45b2]; simp only [Bool.not_false, Bool.not_true]) | skip)
         replace H := Option.bind_eq_some_iff.mp H
         obtain ⟨⟨t533, t534, t535⟩, A460, H⟩ := H
         replace H : (if 0 ≤ t533 then (if t533 < (x508000_2.length : Int) then ((spec_l03SpoilPiece.f s0_0 t534 t535 ((rd_T45 x508000_2 t533).f0) ((rd_T45 x508000_2 t533).f1)).bind fun bt536 => (some ((x508000_2.set (t533 : Int).toNat (⟨bt536.1, bt536.2.1⟩ : S45)), x508001_2, bt536.2.2.1, bt536.2.2.2))) else (none)) else (none)) = some (r1, r2, r3, r4) := H
         have A46 := aS A460
         clear A460
         replace H := iN H
         obtain ⟨c47, H⟩ := H
         have c47b0 := decide_eq_true c47
         clear c47
         replace H := iN H
         obtain ⟨c48, H⟩ := H
         have c48b0 := decide_eq_true c48
         clear c48
         replace H := Option.bind_eq_some_iff.mp H
         obtain ⟨⟨t536, t537, t538, t539⟩, A500, H⟩ := H
         replace H : (some ((x508000_2.set (t533 : Int).toNat (⟨t536, t537⟩ : S45)), x508001_2, t538, t539)) = some (r1, r2, r3, r4) := H
         have A50 := aS A500
         clear A500
         obtain ⟨y540, hy540⟩ : ∃ y_ : List (S45), y_ = (x508000_2.set (t533 : Int).toNat (⟨t536, t537⟩ : S45)) := ⟨_, rfl⟩
         replace H : (some (y540, x508001_2, t538, t539)) = some (r1, r2, r3, r4) := by first | (rw [hy540]; with_reducible exact H) | (have H2_ := (Option.bind_some _ _).symm.trans H; rw [hy540]; with_reducible exact H2_) | (have H2_ := (Option.bind_some _ _).symm.trans H; with_reducible exact H2_) | with_reducible exact H | (rw [hy540]; exact H) | exact H
         have Ny540 := aS hy540
         clear hy540
         simp only [Option.some.injEq, Prod.mk.injEq] at H
         obtain ⟨rfl, rfl, rfl, rfl⟩ := H
         try go_wp2
         replace HO_508000 := aS (Kd.R_drew HO_508000.out); replace HO_508001 := aS (Kd.R_drew HO_508001.out); replace BK496 := aS (blk_drew BK496.out); replace BK507 := aS (blk_drew BK507.out); replace HI0 := aS (IsS127.drew HI0.out); replace HK := aS (keep_drew HK.out); replace HB := aS (below_drew1 HB.out)
         obtain ⟨Ao52, co52, eo52⟩ := Kd.R_slice HO_508000.out
         (first | subst eo52 | (injection eo52 with f1_ f2_ f3_; have f4_ := f1_.symm; have f5_ := f3_.symm; clear f1_ f2_ f3_; subst f4_; subst f5_))
         refine start_ (n := 10) (S := fun w' => w'.cell? ⟨gb507, 0, none⟩ = some (.slice Ao52 x508000_2.length co52) ∧ w'.cell? ⟨gb507, 1, none⟩ = some (u508001)) (ds := []) _ (by kernel_rfl) rfl rfl ⟨bq BK507.out 0, bq BK507.out 1⟩ (fun hHeld => ?_); refine with_tabW spec_l03DrawLine.tab12 spec_l03DrawLine.bits12 (fun HT_ HW_ => ?_)
         generalize w44.drew = w51 at HO_508000 HO_508001 BK496 BK507 HI0 HK HB hHeld ⊢
         refine pX 0 50 ?_; refine pX 1 51 ?_; refine pX 3 53 ?_; refine pX 4 54 ?_; refine tX 2 52 ?_; refine tX 5 55 ?_; refine pX 6 56 ?_
         refine oX 7 (some 57) fun K hK => ?_
         refine goes_ Try.func70 (by kernel_rfl) rfl #[.pointer (some ⟨g, 0, none⟩), .int .i64 (x508000_2.length : Int)] (by rfl) rfl rfl sG ?_
         with_reducible refine (spec_l00Src_pick.calls g s0_0 t531 t532 (x508000_2.length : Int) t533 t534 t535 w0 _ ?side1 ?side2 A46.out).mono ?_
         (case side1 => exact IsS127.s HI0.out)
         (case side2 => exact sWg HB.out (IsS127.ge HI0.out))
         rintro e w53 ⟨rfl, hi, hb, hk⟩
         refine ⟨_, rfl, ?_⟩
         replace HO_508000 := aS (Kd.R_mono (Kd.R_keep (IsS127.apart (show IsS127 w0 _ g s0_0 t531 t532 from IsS127.s HI0.out) (sR HO_508000.out) (by decide)) hk (fun _ h => h.2)) (fun _ h => h.1)); replace HO_508001 := aS (Kd.R_mono (Kd.R_keep (IsS127.apart (show IsS127 w0 _ g s0_0 t531 t532 from IsS127.s HI0.out) (sR HO_508001.out) (by decide)) hk (fun _ h => h.2)) (fun _ h => h.1)); replace BK496 := aS (kB hk (sB BK496.out) NB496_0.out); replace BK507 := aS (kB hk (sB BK507.out) NB507_0.out); replace HK := aS (kT (sK2 HK.out) hk); replace HB := aS (hb); replace HI0 := aS (hi)
         have p49 : 0 ≤ (t533 : Int) := sD
         have q49 : (t533 : Int) < ((x508000_2.length : Int) : Int) := sD
         obtain ⟨go49, co49, eo49, gb49, gl49, cl49, HG49⟩ := Kd.R_form HO_508000.out (by omega)
         (first | cases eo49 | (injection eo49 with ea_ en_ ec_; (first | subst ea_ | (injection ea_ with ea_; subst ea_)); subst ec_; clear en_))
         have GB49 := aS gb49
         have GG49 := aS HG49
         clear gb49 gl49 HG49
         obtain ⟨ce49, hcl49, hM49, hcc49, hfr49⟩ := Kd.R_elem HO_508000.out z45 (t533 : Int) p49 q49
         obtain rfl := k45_openM hM49
         have hx49_0 : World.cell? _ ⟨go49, (t533 : Int).toNat * 2, none⟩ = some (.int .i64 ((rd_T45 x508000_2 t533).f0)) := hcc49 0 _ rfl
         have hx49_1 : World.cell? _ ⟨go49, (t533 : Int).toNat * 2 + 1, none⟩ = some (.int .i64 ((rd_T45 x508000_2 t533).f1)) := hcc49 1 _ rfl
         have hf49_0 : World.frozen? _ ⟨go49, (t533 : Int).toNat * 2, none⟩ = false := hfr49 0
         have hf49_1 : World.frozen? _ ⟨go49, (t533 : Int).toNat * 2 + 1, none⟩ = false := hfr49 1
         clear hcl49 hcc49 hfr49 hM49
         replace p49 := eq_true p49
         replace q49 := eq_true q49
         refine hK.out _ _ ⟨bq BK507.out 0, bq BK507.out 1⟩ (fun hHeld => ?_)
         clear hK K
         refine nX 57 ?_
         refine pX 8 58 ?_
         refine oX 9 (some 59) fun K hK => ?_
         refine goes_ Try.func67 (by kernel_rfl) rfl #[.pointer (some ⟨g, 0, none⟩), .pointer (some ⟨go49, (t533 : Int).toNat * 2, none⟩)] (by rfl) rfl rfl sG ?_
         with_reducible refine (spec_l03SpoilPiece.calls g s0_0 t534 t535 ((rd_T45 x508000_2 t533).f0) ((rd_T45 x508000_2 t533).f1) t536 t537 t538 t539 w0 _ ?side1 ?side2 ?side3 A50.out).mono ?_
         (case side1 => exact IsS127.s HI0.out)
         (case side2 => exact sWg HB.out (IsS127.ge HI0.out))
         (case side3 => exact ⟨fun e_ => IsS127.own_ne HI0.out HO_508000.out (by decide) (by rw [e_]; rfl), hx49_0, hx49_1, hf49_0, hf49_1⟩)
         rintro e w' ⟨rfl, w54, hi, hb, hk, rfl⟩
         refine ⟨_, rfl, ?_⟩
         have GG49 := aS (KeepBut.blk hk GG49.out (fun e_ => IsS127.own_ne HI0.out HO_508000.out (by decide) (by rw [e_]; rfl)) (by simp))
         replace HO_508000 := aS (Kd.R_mono (Kd.R_keep (IsS127.apart (show IsS127 w0 _ g s0_0 t534 t535 from IsS127.s HI0.out) (sR HO_508000.out) (by decide)) hk (fun _ h => h.2)) (fun _ h => h.1)); replace HO_508001 := aS (Kd.R_mono (Kd.R_keep (IsS127.apart (show IsS127 w0 _ g s0_0 t534 t535 from IsS127.s HI0.out) (sR HO_508001.out) (by decide)) hk (fun _ h => h.2)) (fun _ h => h.1)); replace BK496 := aS (kB hk (sB BK496.out) NB496_0.out); replace BK507 := aS (kB hk (sB BK507.out) NB507_0.out); replace HK := aS (kT (sK2 HK.out) hk); replace HB := aS (hb); replace HI0 := aS (hi)
         have HN0_go49 := aS (show g ≠ go49 from by have h_ := IsS127.own_ne HI0.out HO_508000.out (by decide); intro e_; exact h_ (by rw [e_]; rfl))
         obtain ⟨ce55, hcl55, hM55, hcc55, hfr55⟩ := Kd.R_elem HO_508000.out z45 (t533 : Int) (sD) (by have h_ : (t533 : Int) < ((x508000_2.length : Int) : Int) := sD; first | exact h_ | (have e_ := (Kd.R_reads' HO_508000.out).1; omega) | simpa using h_)
         obtain rfl := k45_openM hM55
         have HP55 := (Kd.R_seg HO_508000.out (t533 : Int) (sD) (by have h_ : (t533 : Int) < ((x508000_2.length : Int) : Int) := sD; first | exact h_ | (have e_ := (Kd.R_reads' HO_508000.out).1; omega) | simpa using h_) (seg := [.int .i64 t536, .int .i64 t537]) (j := 0) hcl55 hcc55 (show 2 ≤ 2 from by decide) (x' := (⟨t536, t537⟩ : S45)) (k45_mkM _ _ _ (⟨t536, t537⟩ : S45) ) (fun _ hk => hk)).1
         rw [← Ny540.out] at HP55
         have HQ55 := aS HP55
         clear hcl55 hcc55 hfr55 hM55 HP55
         refine hK.out _ _ ⟨(blk_cell (blk_far (blk_far BK507.out (by have h_ := Kd.R_ne HO_508000.out BK507.out (by decide); intro e_; exact h_ (by rw [e_]; rfl)) _) (by have h_ := Kd.R_ne HO_508000.out BK507.out (by decide); intro e_; exact h_ (by rw [e_]; rfl)) _) 0).trans rfl, (blk_cell (blk_far (blk_far BK507.out (by have h_ := Kd.R_ne HO_508000.out BK507.out (by decide); intro e_; exact h_ (by rw [e_]; rfl)) _) (by have h_ := Kd.R_ne HO_508000.out BK507.out (by decide); intro e_; exact h_ (by rw [e_]; rfl)) _) 1).trans rfl⟩ (fun hHeld => ?_)
         clear hK K
         refine nX 59 ?_
         refine dX ?_
         have n0_ : Aside0 (Kd.R k45 45 ((w54.setCell ⟨go49, (t533 : Int).toNat * 2, none⟩ (.int .i64 t536)).setCell ⟨go49, (t533 : Int).toNat * 2 + 1, none⟩ (.int .i64 t537)) w.heap.size (fun _ => True) (.slice (some ⟨go49, 0, none⟩) x508000_2.length co52) y540) := (aS (sR HQ55.out))
         have n1_ : Aside0 (Kd.R (Kd.int .i64) 2 ((w54.setCell ⟨go49, (t533 : Int).toNat * 2, none⟩ (.int .i64 t536)).setCell ⟨go49, (t533 : Int).toNat * 2 + 1, none⟩ (.int .i64 t537)) w.heap.size (fun _ => True) u508001 x508001_2) := (aS (sR (Kd.R_mono (Kd.R_far (p := ⟨go49, (t533 : Int).toNat * 2 + 1, none⟩) (Kd.R_far (p := ⟨go49, (t533 : Int).toNat * 2, none⟩) (Kd.R_types HO_508001.out GG49.out (by decide)) (fun _ hk => hk.2) (.int .i64 t536)) (fun _ hk => hk.2) (.int .i64 t537)) (fun _ hk => trivial))))
         have n2_ : Aside0 (((w54.setCell ⟨go49, (t533 : Int).toNat * 2, none⟩ (.int .i64 t536)).setCell ⟨go49, (t533 : Int).toNat * 2 + 1, none⟩ (.int .i64 t537)).heap[gb496]? = some (.cells #[.slice none 0 0, .slice none 0 0] 29 (0, 0))) := ⟨by (with_reducible repeat (first | refine blk_drewN ?_ _ | refine blk_drew ?_ | refine blk_alloc ?_ _)); refine blk_far ?_ (by have h_ := Kd.R_ne HO_508000.out BK496.out (by decide); intro e_; exact h_ (by rw [e_]; rfl)) _; (with_reducible repeat (first | refine blk_drewN ?_ _ | refine blk_drew ?_ | refine blk_alloc ?_ _)); refine blk_far ?_ (by have h_ := Kd.R_ne HO_508000.out BK496.out (by decide); intro e_; exact h_ (by rw [e_]; rfl)) _; (with_reducible repeat (first | refine blk_drewN ?_ _ | refine blk_drew ?_ | refine blk_alloc ?_ _)); exact BK496.out⟩
         have n3_ : Aside0 (((w54.setCell ⟨go49, (t533 : Int).toNat * 2, none⟩ (.int .i64 t536)).setCell ⟨go49, (t533 : Int).toNat * 2 + 1, none⟩ (.int .i64 t537)).heap[gb507]? = some (.cells #[.slice (some ⟨go49, 0, none⟩) x508000_2.length co52, u508001] 29 (0, 0))) := ⟨by (with_reducible repeat (first | refine blk_drewN ?_ _ | refine blk_drew ?_ | refine blk_alloc ?_ _)); refine blk_far ?_ (by have h_ := Kd.R_ne HO_508000.out BK507.out (by decide); intro e_; exact h_ (by rw [e_]; rfl)) _; (with_reducible repeat (first | refine blk_drewN ?_ _ | refine blk_drew ?_ | refine blk_alloc ?_ _)); refine blk_far ?_ (by have h_ := Kd.R_ne HO_508000.out BK507.out (by decide); intro e_; exact h_ (by rw [e_]; rfl)) _; (with_reducible repeat (first | refine blk_drewN ?_ _ | refine blk_drew ?_ | refine blk_alloc ?_ _)); exact BK507.out⟩
         have n4_ : Aside0 (IsS127 w0 ((w54.setCell ⟨go49, (t533 : Int).toNat * 2, none⟩ (.int .i64 t536)).setCell ⟨go49, (t533 : Int).toNat * 2 + 1, none⟩ (.int .i64 t537)) g s0_0 t538 t539) := (aS (IsS127.s HI0.out))
         have n5_ : Aside0 (KeepBut w ((w54.setCell ⟨go49, (t533 : Int).toNat * 2, none⟩ (.int .i64 t536)).setCell ⟨go49, (t533 : Int).toNat * 2 + 1, none⟩ (.int .i64 t537)) g none) := (aS (sK2 HK.out))
         have n6_ : Aside0 (Below w0.heap.size w0 ((w54.setCell ⟨go49, (t533 : Int).toNat * 2, none⟩ (.int .i64 t536)).setCell ⟨go49, (t533 : Int).toNat * 2 + 1, none⟩ (.int .i64 t537))) := ⟨by repeat (first | (with_reducible first | exact HB.out | apply below_alloc | apply pw_below_drewN | apply below_drew1 | refine below_set ?_ (Nat.le_trans HL.out GB49.out) | refine below_set ?_ (Nat.le_trans HL.out GB49.out) | refine below_set ?_ (IsS127.ge HI0.out) | refine below_set ?_ GE496.out | refine below_set ?_ GE507.out) | exact HB.out)⟩
         generalize ((w54.setCell ⟨go49, (t533 : Int).toNat * 2, none⟩ (.int .i64 t536)).setCell ⟨go49, (t533 : Int).toNat * 2 + 1, none⟩ (.int .i64 t537)) = w56 at n0_ n1_ n2_ n3_ n4_ n5_ n6_ ⊢
         have HO_508000 := n0_; have HO_508001 := n1_; have BK496 := n2_; have BK507 := n3_; have HI0 := n4_; have HK := n5_; have HB := n6_
         clear n0_ n1_ n2_ n3_ n4_ n5_ n6_
         have hnb57 := NB507_496.out
         have hnc57 := NB496_507.out
         have hnb58 := NB507_0.out
         have hnc58 := NB0_507.out
         obtain ⟨hcz59_0, hcz59_1, hfz59_0, hfz59_1⟩ := z2 BK507.out
         have hnb60 := NB496_0.out
         have hnc60 := NB0_496.out
         obtain ⟨hcz61_0, hcz61_1, hfz61_0, hfz61_1⟩ := z2 BK496.out
         obtain ⟨Ao62, co62, eo62⟩ := Kd.R_slice HO_508001.out
         subst eo62
         try go_wp2
         refine bodyPost_ret (results_cell_row rfl _ _ gb496 29 #[.slice (some ⟨go49, 0, none⟩) x508000_2.length co52, .slice Ao62 x508001_2.length co62] (0, 0) _ rfl (sB (put2 BK496.out)) Try.underlying29 rfl (by kernel_rfl)) rfl ?_
         exact ⟨_, _, eE, sR (Kd.R_mono (rG (g := gb496) (Kd.R_types HO_508000.out BK496.out (by decide)) (fun _ hk => hk.2)) (fun _ hk => trivial)), sR (Kd.R_mono (rG (g := gb496) (Kd.R_types HO_508001.out BK496.out (by decide)) (fun _ hk => hk.2)) (fun _ hk => trivial)), IsS127.s HI0.out, sWg HB.out (IsS127.ge HI0.out), sK2 HK.out⟩
        ·
         have c45b0 := beq_eq_false_iff_ne.mpr c45
         have c45b1 := bne_iff_ne.mpr c45
         (first | rw [c45b0] | (simp only [i64_w, i32_w]; rw [c45b0]) | (rw [c45b2]; simp only [Bool.not_false, Bool.not_true]) | skip)
         replace H := iE H; rcases H with ⟨c63, H⟩ | ⟨c63, H⟩
         ·
          have c63b0 := beq_iff_eq.mpr c63
          have c63b1 := bne_eq_false_iff_eq.mpr c63
          clear c63
          obtain ⟨y541, hy541⟩ : ∃ y_ : List Int, y_ = (([(-1), 0, (l1.length : Int)] : List Int)) := ⟨_, rfl⟩
          replace H : ((spec_l00Src_among.f s0_0 t531 t532 y541).bind fun bt544 => (if x508001_2.length < 17592186044416 then (some (x508000_2, (x508001_2 ++ [bt544.1]), bt544.2.1, bt544.2.2)) else (none))) = some (r1, r2, r3, r4) := by first | (rw [hy541]; with_reducible exact H) | (have H2_ := (Option.bind_some _ _).symm.trans H; rw [hy541]; with_reducible exact H2_) | (have H2_ := (Option.bind_some _ _).symm.trans H; with_reducible exact H2_) | with_reducible exact H | (rw [hy541]; exact H) | exact H
          have Ny541 := aS hy541
          clear hy541
          replace H := Option.bind_eq_some_iff.mp H
          obtain ⟨⟨t544, t545, t546⟩, A640, H⟩ := H
          replace H : (if x508001_2.length < 17592186044416 then (some (x508000_2, (x508001_2 ++ [t544]), t545, t546)) else (none)) = some (r1, r2, r3, r4) := H
          have A64 := aS A640
          clear A640
          replace H := iN H
          obtain ⟨c65, H⟩ := H
          have LMc65 := aS c65
          clear c65
          obtain ⟨y547, hy547⟩ : ∃ y_ : List Int, y_ = (x508001_2 ++ [t544]) := ⟨_, rfl⟩
          replace H : (some (x508000_2, y547, t545, t546)) = some (r1, r2, r3, r4) := by first | (rw [hy547]; with_reducible exact H) | (have H2_ := (Option.bind_some _ _).symm.trans H; rw [hy547]; with_reducible exact H2_) | (have H2_ := (Option.bind_some _ _).symm.trans H; with_reducible exact H2_) | with_reducible exact H | (rw [hy547]; exact H) | exact H
          have Ny547 := aS hy547
          clear hy547
          simp only [Option.some.injEq, Prod.mk.injEq] at H
          obtain ⟨rfl, rfl, rfl, rfl⟩ := H
          try go_wp2
          replace HO_508000 := aS (Kd.R_drew HO_508000.out); replace HO_508001 := aS (Kd.R_drew HO_508001.out); replace BK496 := aS (blk_drew BK496.out); replace BK507 := aS (blk_drew BK507.out); replace HI0 := aS (IsS127.drew HI0.out); replace HK := aS (keep_drew HK.out); replace HB := aS (below_drew1 HB.out)
          refine start_ (n := 11) (S := fun w' => w'.cell? ⟨gb507, 0, none⟩ = some (u508000) ∧ w'.cell? ⟨gb507, 1, none⟩ = some (u508001)) (ds := [10]) _ (by kernel_rfl) rfl rfl ⟨bq BK507.out 0, bq BK507.out 1⟩ (fun hHeld => ?_); refine with_tabW spec_l03DrawLine.tab14 spec_l03DrawLine.bits14 (fun HT_ HW_ => ?_)
          generalize w44.drew = w66 at HO_508000 HO_508001 BK496 BK507 HI0 HK HB hHeld ⊢
          refine pX 0 62 ?_; refine pX 2 64 ?_; refine pX 3 65 ?_; refine pX 4 66 ?_; refine tX 1 63 ?_
          refine oX 5 (some 67) fun K hK => ?_
          refine Kd.R_lit_step (Kd.int .i64) _ 2 ?hg (N := 67) ?hd (xs := ([(-1), 0, (l1.length : Int)] : List Int)) (inner := [.int .i64 (-1), .int .i64 0, .int .i64 (l1.length : Int)]) (ok := fun _ => True) (okp := fun _ => True) ?hr ?hp (fun _ hk => hk) trivial (Below.refl _ _) (Nat.le_refl _) (by simp) ?_; (case hd => rfl); (case hg => rfl); (case hr => first | (go_simp; done) | (go_simp; rfl)); (case hp => exact (Reps.one (show Kd.M (Kd.int .i64) _ _ _ (-1) [.int .i64 (-1)] from rfl) (Reps.one (show Kd.M (Kd.int .i64) _ _ _ 0 [.int .i64 0] from rfl) (Reps.one (show Kd.M (Kd.int .i64) _ _ _ (l1.length : Int) [.int .i64 (l1.length : Int)] from rfl) (Reps.none _ _)))))
          intro v542 w67 ho68 hb hg_ hnew_
          clear hg_ hnew_
          (first | rw [← Ny541.out] at ho68 | (simp only [Int.reduceToNat] at ho68; rw [← Ny541.out] at ho68))
          replace HO_508000 := aS (Kd.R_below (sR HO_508000.out) hb); have HO543 := aS (Kd.R_lower (Kd.R_new' ho68 (Kd.R_lt (sR HO_508001.out))) (keep_size (w := w) (g := g) (row := none) (sK2 HK.out))); replace HO_508001 := aS (Kd.R_elder' (sR HO_508001.out) (Kd.R_base ho68) hb); replace BK496 := aS (blk_below (sB BK496.out) hb); replace BK507 := aS (blk_below (sB BK507.out) hb); replace HK := aS (KeepBut.trans (sK2 HK.out) (KeepBut.of_below hb g none) (.inl rfl)); replace HB := aS (below_step (sWg HB.out (IsS127.ge HI0.out)) hb); replace HI0 := aS (IsS127.below (IsS127.s HI0.out) hb)
          clear hb ho68
          obtain ⟨Ao69, co69, eo69⟩ := Kd.R_slice HO543.out
          (first | subst eo69 | (injection eo69 with f1_ f2_ f3_; have f4_ := f1_.symm; have f5_ := f3_.symm; clear f1_ f2_ f3_; subst f4_; subst f5_))
          refine hK.out _ _ ⟨bq BK507.out 0, bq BK507.out 1⟩ (fun hHeld => ?_)
          clear hK K
          refine nX 67 ?_
          refine oX 6 (some 68) fun K hK => ?_
          refine goes_ Try.func96 (by kernel_rfl) rfl #[.pointer (some ⟨g, 0, none⟩), .slice Ao69 y541.length co69] (by rfl) rfl rfl sG ?_
          with_reducible refine (spec_l00Src_among.calls g s0_0 t531 t532 _ _ y541 t544 t545 t546 w0 _ ?side1 ?side2 ?side3 ?side4 ?side5 A64.out).mono ?_
          (case side1 => exact IsS127.s HI0.out)
          (case side2 => exact sWg HB.out (IsS127.ge HI0.out))
          (case side3 => exact sC (Kd.R_reads' HO543.out).2.2)
          (case side4 => exact (Kd.R_reads' HO543.out).2.1)
          (case side5 => exact far_slice (IsS127.own_ne HI0.out HO543.out (by decide)))
          rintro e w70 ⟨rfl, hi, hb, hk⟩
          refine ⟨_, rfl, ?_⟩
          replace HO_508000 := aS (Kd.R_mono (Kd.R_keep (IsS127.apart (show IsS127 w0 _ g s0_0 t531 t532 from IsS127.s HI0.out) (sR HO_508000.out) (by decide)) hk (fun _ h => h.2)) (fun _ h => h.1)); replace HO_508001 := aS (Kd.R_mono (Kd.R_keep (IsS127.apart (show IsS127 w0 _ g s0_0 t531 t532 from IsS127.s HI0.out) (sR HO_508001.out) (by decide)) hk (fun _ h => h.2)) (fun _ h => h.1)); replace BK496 := aS (kB hk (sB BK496.out) NB496_0.out); replace BK507 := aS (kB hk (sB BK507.out) NB507_0.out); replace HO543 := aS (Kd.R_mono (Kd.R_keep (IsS127.apart (show IsS127 w0 _ g s0_0 t531 t532 from IsS127.s HI0.out) (sR HO543.out) (by decide)) hk (fun _ h => h.2)) (fun _ h => h.1)); replace HK := aS (kT (sK2 HK.out) hk); replace HB := aS (hb); replace HI0 := aS (hi)
          refine hK.out _ _ ⟨bq BK507.out 0, bq BK507.out 1⟩ (fun hHeld => ?_)
          clear hK K
          refine nX 68 ?_
          refine oX 7 (some 69) fun K hK => ?_
          refine value_ (w1 := ?_) (v := ?_) (by rfl) rfl ?_ ?_
          rotate_left 2
          ·
           go_simp
           constructor
           ·
            rfl
           ·
            rfl
          refine hK.out _ _ ⟨bq (blk_alloc BK507.out _) 0, bq (blk_alloc BK507.out _) 1⟩ (fun hHeld => ?_)
          clear hK K
          refine nX 69 ?_
          refine oX 8 (some 70) fun K hK => ?_
          refine Kd.R_append_step (Kd.int .i64) w.heap.size (by rfl) (.tmp 63) (.tmp 69) 27 2 (.int .i64 0) 8 rfl Try.underlying27 info2 rfl (by decide) (by omega) u508001 x508001_2 t544 [.int .i64 t544] (fun k_ => some k_ ≠ (.slice Ao69 y541.length co69 : Value).ownBlock) (fun _ => False) rfl rfl ?aP (fun _ hk => hk.elim) ?aF ?aO (Below.refl _ _) ?aS ?aL ?_
          (case aP => exact rfl)
          (case aF => exact (fun k_ hk => Kd.fresh' (Kd.R_lt (sR HO543.out)) k_ hk))
          (case aO => exact (sR (Kd.R_mono HO_508001.out (fun _ hk => hk.2))))
          (case aS => exact (keep_size (w := w) (g := g) (row := none) (sK2 HK.out)))
          (case aL => have := LMc65.out; omega)
          intro v548 w71 ho hb hg hat
          rw [← Ny547.out] at ho
          replace HO_508000 := aS (Kd.R_over' (sR HO_508000.out) (Kd.R_typed (sR HO_508001.out)) (by decide) hg); replace BK496 := aS (blk_grown (sB BK496.out) hg (Kd.R_ne HO_508001.out BK496.out (by decide))); replace BK507 := aS (blk_grown (sB BK507.out) hg (Kd.R_ne HO_508001.out BK507.out (by decide))); replace HO543 := aS (Kd.R_after (ok := (fun _ => True)) (sR HO543.out) hg hat); replace HB := aS (below_weaken (sWg HB.out (IsS127.ge HI0.out)) HL.out hb); replace HI0 := aS (IsS127.grown (show IsS127 w0 _ g s0_0 t545 t546 from IsS127.s HI0.out) hg (IsS127.own_ne HI0.out HO_508001.out (by decide))); replace HK := aS (KeepBut.trans (sK2 HK.out) (KeepBut.of_grown hg g) (Kd.R_base2 HO_508001.out)); have HO549 := aS (ho); clear HO_508001
          clear ho hb hg hat
          obtain ⟨Ao72, co72, eo72⟩ := Kd.R_slice HO549.out
          (first | subst eo72 | (injection eo72 with f1_ f2_ f3_; have f4_ := f1_.symm; have f5_ := f3_.symm; clear f1_ f2_ f3_; subst f4_; subst f5_))
          refine hK.out _ _ ⟨bq BK507.out 0, bq BK507.out 1⟩ (fun hHeld => ?_)
          clear hK K
          refine nX 70 ?_
          refine pX 9 71 ?_
          refine lX 10 none fun K hK => ?_
          have hs73 : w71.cell? ⟨gb507, 1, none⟩ = some (u508001) := bq BK507.out 1
          have hfs73 := blk_frozen BK507.out 1
          have hns73_0 := NB496_507.out
          have hms73_0 := NB507_496.out
          refine skip_ (w1 := ?_) (by rfl) rfl ?_ ?_
          rotate_left
          ·
           go_simp
           rfl
          refine hK.out _ _ ?_
          clear hK K
          refine dX ?_
          have hnb74 := NB507_496.out
          have hnc74 := NB496_507.out
          have hnb75 := NB507_0.out
          have hnc75 := NB0_507.out
          obtain ⟨hcz76_0, hcz76_1, hfz76_0, hfz76_1⟩ := z2 BK507.out
          obtain ⟨Ao77, co77, eo77⟩ := Kd.R_slice HO_508000.out
          subst eo77
          have hnb78 := NB496_0.out
          have hnc78 := NB0_496.out
          obtain ⟨hcz79_0, hcz79_1, hfz79_0, hfz79_1⟩ := z2 BK496.out
          try go_wp2
          refine bodyPost_ret (results_cell_row rfl _ _ gb496 29 #[.slice Ao77 x508000_2.length co77, .slice Ao72 y547.length co72] (0, 0) _ rfl (by exact sZ BK496.out) Try.underlying29 rfl (by kernel_rfl)) rfl ?_
          exact ⟨_, _, eE, sR (Kd.R_mono (rG (g := gb496) (Kd.R_far (p := ⟨gb507, 1, none⟩) (Kd.R_types (Kd.R_types HO_508000.out BK507.out (by decide)) BK496.out (by decide)) (fun _ hk => hk.1.2) (.slice Ao72 y547.length co72)) (fun _ hk => hk.2)) (fun _ hk => trivial)), sR (Kd.R_mono (rG (g := gb496) (Kd.R_far (p := ⟨gb507, 1, none⟩) (Kd.R_types (Kd.R_types HO549.out BK507.out (by decide)) BK496.out (by decide)) (fun _ hk => hk.1.2) (.slice Ao72 y547.length co72)) (fun _ hk => hk.2)) (fun _ hk => trivial)), IsS127.s HI0.out, sWg HB.out (IsS127.ge HI0.out), sK2 HK.out⟩
         ·
          have c63b0 := beq_eq_false_iff_ne.mpr c63
          have c63b1 := bne_iff_ne.mpr c63
          replace H := iE H; rcases H with ⟨c80, H⟩ | ⟨c80, H⟩
          ·
           have c80b0 := beq_iff_eq.mpr c80
           have c80b1 := bne_eq_false_iff_eq.mpr c80
           clear c80
           replace H := Option.bind_eq_some_iff.mp H
           obtain ⟨⟨t550, t551, t552, t553⟩, A810, H⟩ := H
           replace H : (if x508000_2.length < 8796093022208 then ((spec_l00Src_among.f s0_0 t552 t553 (([(-1), 0, (l1.length : Int)] : List Int))).bind fun bt560 => (if x508001_2.length < 17592186044416 then (some ((x508000_2 ++ [(⟨t550, t551⟩ : S45)]), (x508001_2 ++ [bt560.1]), bt560.2.1, bt560.2.2)) else (none))) else (none)) = some (r1, r2, r3, r4) := H
           have A81 := aS A810
           clear A810
           replace H := iN H
           obtain ⟨c82, H⟩ := H
           have LMc82 := aS c82
           clear c82
           obtain ⟨y554, hy554⟩ : ∃ y_ : List (S45), y_ = (x508000_2 ++ [(⟨t550, t551⟩ : S45)]) := ⟨_, rfl⟩
           replace H : ((spec_l00Src_among.f s0_0 t552 t553 (([(-1), 0, (l1.length : Int)] : List Int))).bind fun bt560 => (if x508001_2.length < 17592186044416 then (some (y554, (x508001_2 ++ [bt560.1]), bt560.2.1, bt560.2.2)) else (none))) = some (r1, r2, r3, r4) := by first | (rw [hy554]; with_reducible exact H) | (have H2_ := (Option.bind_some _ _).symm.trans H; rw [hy554]; with_reducible exact H2_) | (have H2_ := (Option.bind_some _ _).symm.trans H; with_reducible exact H2_) | with_reducible exact H | (rw [hy554]; exact H) | exact H
           have Ny554 := aS hy554
           clear hy554
           obtain ⟨y557, hy557⟩ : ∃ y_ : List Int, y_ = (([(-1), 0, (l1.length : Int)] : List Int)) := ⟨_, rfl⟩
           replace H : ((spec_l00Src_among.f s0_0 t552 t553 y557).bind fun bt560 => (if x508001_2.length < 17592186044416 then (some (y554, (x508001_2 ++ [bt560.1]), bt560.2.1, bt560.2.2)) else (none))) = some (r1, r2, r3, r4) := by first | (rw [hy557]; with_reducible exact H) | (have H2_ := (Option.bind_some _ _).symm.trans H; rw [hy557]; with_reducible exact H2_) | (have H2_ := (Option.bind_some _ _).symm.trans H; with_reducible exact H2_) | with_reducible exact H | (rw [hy557]; exact H) | exact H
           have Ny557 := aS hy557
           clear hy557
           replace H := Option.bind_eq_some_iff.mp H
           obtain ⟨⟨t560, t561, t562⟩, A830, H⟩ := H
           replace H : (if x508001_2.length < 17592186044416 then (some (y554, (x508001_2 ++ [t560]), t561, t562)) else (none)) = some (r1, r2, r3, r4) := H
           have A83 := aS A830
           clear A830
           replace H := iN H
           obtain ⟨c84, H⟩ := H
           have LMc84 := aS c84
           clear c84
           obtain ⟨y563, hy563⟩ : ∃ y_ : List Int, y_ = (x508001_2 ++ [t560]) := ⟨_, rfl⟩
           replace H : (some (y554, y563, t561, t562)) = some (r1, r2, r3, r4) := by first | (rw [hy563]; with_reducible exact H) | (have H2_ := (Option.bind_some _ _).symm.trans H; rw [hy563]; with_reducible exact H2_) | (have H2_ := (Option.bind_some _ _).symm.trans H; with_reducible exact H2_) | with_reducible exact H | (rw [hy563]; exact H) | exact H
           have Ny563 := aS hy563
           clear hy563
           simp only [Option.some.injEq, Prod.mk.injEq] at H
           obtain ⟨rfl, rfl, rfl, rfl⟩ := H
           try go_wp2
           replace HO_508000 := aS (Kd.R_drew HO_508000.out); replace HO_508001 := aS (Kd.R_drew HO_508001.out); replace BK496 := aS (blk_drew BK496.out); replace BK507 := aS (blk_drew BK507.out); replace HI0 := aS (IsS127.drew HI0.out); replace HK := aS (keep_drew HK.out); replace HB := aS (below_drew1 HB.out)
           refine start_ (n := 8) (S := fun w' => w'.cell? ⟨gb507, 0, none⟩ = some (u508000) ∧ w'.cell? ⟨gb507, 1, none⟩ = some (u508001)) (ds := [7]) _ (by kernel_rfl) rfl rfl ⟨bq BK507.out 0, bq BK507.out 1⟩ (fun hHeld => ?_); refine with_tabW spec_l03DrawLine.tab16 spec_l03DrawLine.bits16 (fun HT_ HW_ => ?_)
           generalize w44.drew = w85 at HO_508000 HO_508001 BK496 BK507 HI0 HK HB hHeld ⊢
           refine pX 0 74 ?_; refine pX 2 76 ?_; refine tX 1 75 ?_
           refine oX 3 (some 77) fun K hK => ?_
           refine goes_ Try.func65 (by kernel_rfl) rfl #[.pointer (some ⟨g, 0, none⟩)] (by rfl) rfl rfl sG ?_
           with_reducible refine (spec_l03DrawPiece.calls g s0_0 t531 t532 t550 t551 t552 t553 w0 _ ?side1 ?side2 A81.out).mono ?_
           (case side1 => exact IsS127.s HI0.out)
           (case side2 => exact sWg HB.out (IsS127.ge HI0.out))
           rintro e w86 ⟨rfl, hi, hb, hk⟩
           refine ⟨_, rfl, ?_⟩
           replace HO_508000 := aS (Kd.R_mono (Kd.R_keep (IsS127.apart (show IsS127 w0 _ g s0_0 t531 t532 from IsS127.s HI0.out) (sR HO_508000.out) (by decide)) hk (fun _ h => h.2)) (fun _ h => h.1)); replace HO_508001 := aS (Kd.R_mono (Kd.R_keep (IsS127.apart (show IsS127 w0 _ g s0_0 t531 t532 from IsS127.s HI0.out) (sR HO_508001.out) (by decide)) hk (fun _ h => h.2)) (fun _ h => h.1)); replace BK496 := aS (kB hk (sB BK496.out) NB496_0.out); replace BK507 := aS (kB hk (sB BK507.out) NB507_0.out); replace HK := aS (kT (sK2 HK.out) hk); replace HB := aS (hb); replace HI0 := aS (hi)
           refine hK.out _ _ ⟨bq BK507.out 0, bq BK507.out 1⟩ (fun hHeld => ?_)
           clear hK K
           refine nX 77 ?_
           refine oX 4 (some 78) fun K hK => ?_
           refine value_ (w1 := ?_) (v := ?_) (by rfl) rfl ?_ ?_
           rotate_left 2
           ·
            go_simp
            constructor
            ·
             rfl
            ·
             rfl
           refine hK.out _ _ ⟨bq (blk_alloc BK507.out _) 0, bq (blk_alloc BK507.out _) 1⟩ (fun hHeld => ?_)
           clear hK K
           refine nX 78 ?_
           refine oX 5 (some 79) fun K hK => ?_
           refine Kd.R_append_step k45 w.heap.size (by rfl) (.tmp 75) (.tmp 78) 26 45 (.agg #[(.int .i64 0), (.int .i64 0)]) 16 rfl Try.underlying26 info45 rfl (by decide) (by omega) u508000 x508000_2 (⟨t550, t551⟩ : S45) [.int .i64 t550, .int .i64 t551] (fun _ => True) (fun _ => False) rfl rfl ?aP (fun _ hk => hk.elim) ?aF ?aO (Below.refl _ _) ?aS ?aL ?_
           (case aP => exact k45_mkM _ _ _ (⟨t550, t551⟩ : S45))
           (case aF => exact (fun _ _ => trivial))
           (case aO => exact (sR HO_508000.out))
           (case aS => exact (keep_size (w := w) (g := g) (row := none) (sK2 HK.out)))
           (case aL => have := LMc82.out; omega)
           intro v555 w87 ho hb hg hat
           rw [← Ny554.out] at ho
           replace HO_508001 := aS (Kd.R_over' (sR HO_508001.out) (Kd.R_typed (sR HO_508000.out)) (by decide) hg); replace BK496 := aS (blk_grown (sB BK496.out) hg (Kd.R_ne HO_508000.out BK496.out (by decide))); replace BK507 := aS (blk_grown (sB BK507.out) hg (Kd.R_ne HO_508000.out BK507.out (by decide))); replace HB := aS (below_weaken (sWg HB.out (IsS127.ge HI0.out)) HL.out hb); replace HI0 := aS (IsS127.grown (show IsS127 w0 _ g s0_0 t552 t553 from IsS127.s HI0.out) hg (IsS127.own_ne HI0.out HO_508000.out (by decide))); replace HK := aS (KeepBut.trans (sK2 HK.out) (KeepBut.of_grown hg g) (Kd.R_base2 HO_508000.out)); have HO556 := aS (ho); clear HO_508000
           clear ho hb hg hat
           obtain ⟨Ao88, co88, eo88⟩ := Kd.R_slice HO556.out
           (first | subst eo88 | (injection eo88 with f1_ f2_ f3_; have f4_ := f1_.symm; have f5_ := f3_.symm; clear f1_ f2_ f3_; subst f4_; subst f5_))
           refine hK.out _ _ ⟨bq BK507.out 0, bq BK507.out 1⟩ (fun hHeld => ?_)
           clear hK K
           refine nX 79 ?_
           refine pX 6 80 ?_
           refine lX 7 none fun K hK => ?_
           have hs89 : w87.cell? ⟨gb507, 0, none⟩ = some (u508000) := bq BK507.out 0
           have hfs89 := blk_frozen BK507.out 0
           have hns89_0 := NB496_507.out
           have hms89_0 := NB507_496.out
           refine skip_ (w1 := ?_) (by rfl) rfl ?_ ?_
           rotate_left
           ·
            go_simp
            rfl
           refine hK.out _ _ ?_
           clear hK K
           refine dX ?_
           try go_wp2
           have n0_ : Aside0 (Kd.R (Kd.int .i64) 2 (w87.setCell ⟨gb507, 0, none⟩ (.slice Ao88 y554.length co88)) w.heap.size (fun _ => True) u508001 x508001_2) := (aS (sR (Kd.R_mono (Kd.R_far (p := ⟨gb507, 0, none⟩) (Kd.R_types HO_508001.out BK507.out (by decide)) (fun _ hk => hk.2) (.slice Ao88 y554.length co88)) (fun _ hk => trivial))))
           have n1_ : Aside0 (Kd.R k45 45 (w87.setCell ⟨gb507, 0, none⟩ (.slice Ao88 y554.length co88)) w.heap.size (fun _ => True) (.slice Ao88 y554.length co88) y554) := (aS (sR (Kd.R_mono (Kd.R_far (p := ⟨gb507, 0, none⟩) (Kd.R_types HO556.out BK507.out (by decide)) (fun _ hk => hk.2) (.slice Ao88 y554.length co88)) (fun _ hk => trivial))))
           have n2_ : Aside0 ((w87.setCell ⟨gb507, 0, none⟩ (.slice Ao88 y554.length co88)).heap[gb496]? = some (.cells #[.slice none 0 0, .slice none 0 0] 29 (0, 0))) := (aS (sF BK496.out NB496_507.out))
           have n3_ : Aside0 ((w87.setCell ⟨gb507, 0, none⟩ (.slice Ao88 y554.length co88)).heap[gb507]? = some (.cells #[.slice Ao88 y554.length co88, u508001] 29 (0, 0))) := (aS (sZ BK507.out))
           have n4_ : Aside0 (IsS127 w0 (w87.setCell ⟨gb507, 0, none⟩ (.slice Ao88 y554.length co88)) g s0_0 t552 t553) := (aS (IsS127.s HI0.out))
           have n5_ : Aside0 (KeepBut w (w87.setCell ⟨gb507, 0, none⟩ (.slice Ao88 y554.length co88)) g none) := (aS (sK2 HK.out))
           have n6_ : Aside0 (Below w0.heap.size w0 (w87.setCell ⟨gb507, 0, none⟩ (.slice Ao88 y554.length co88))) := (aS (sWg HB.out (IsS127.ge HI0.out)))
           generalize (w87.setCell ⟨gb507, 0, none⟩ (.slice Ao88 y554.length co88)) = w90 at n0_ n1_ n2_ n3_ n4_ n5_ n6_ ⊢
           have HO_508001 := n0_; have HO556 := n1_; have BK496 := n2_; have BK507 := n3_; have HI0 := n4_; have HK := n5_; have HB := n6_
           clear n0_ n1_ n2_ n3_ n4_ n5_ n6_
           replace HO_508001 := aS (Kd.R_drew HO_508001.out); replace HO556 := aS (Kd.R_drew HO556.out); replace BK496 := aS (blk_drew BK496.out); replace BK507 := aS (blk_drew BK507.out); replace HI0 := aS (IsS127.drew HI0.out); replace HK := aS (keep_drew HK.out); replace HB := aS (below_drew1 HB.out)
           refine start_ (n := 11) (S := fun w' => w'.cell? ⟨gb507, 0, none⟩ = some (.slice Ao88 y554.length co88) ∧ w'.cell? ⟨gb507, 1, none⟩ = some (u508001)) (ds := [10]) _ (by kernel_rfl) rfl rfl ⟨bq BK507.out 0, bq BK507.out 1⟩ (fun hHeld => ?_); refine with_tabW spec_l03DrawLine.tab17 spec_l03DrawLine.bits17 (fun HT_ HW_ => ?_)
           generalize w90.drew = w91 at HO_508001 HO556 BK496 BK507 HI0 HK HB hHeld ⊢
           refine pX 0 81 ?_; refine pX 2 83 ?_; refine pX 3 84 ?_; refine pX 4 85 ?_; refine tX 1 82 ?_
           refine oX 5 (some 86) fun K hK => ?_
           refine Kd.R_lit_step (Kd.int .i64) _ 2 ?hg (N := 86) ?hd (xs := ([(-1), 0, (l1.length : Int)] : List Int)) (inner := [.int .i64 (-1), .int .i64 0, .int .i64 (l1.length : Int)]) (ok := fun _ => True) (okp := fun _ => True) ?hr ?hp (fun _ hk => hk) trivial (Below.refl _ _) (Nat.le_refl _) (by simp) ?_; (case hd => rfl); (case hg => rfl); (case hr => first | (go_simp; done) | (go_simp; rfl)); (case hp => exact (Reps.one (show Kd.M (Kd.int .i64) _ _ _ (-1) [.int .i64 (-1)] from rfl) (Reps.one (show Kd.M (Kd.int .i64) _ _ _ 0 [.int .i64 0] from rfl) (Reps.one (show Kd.M (Kd.int .i64) _ _ _ (l1.length : Int) [.int .i64 (l1.length : Int)] from rfl) (Reps.none _ _)))))
           intro v558 w92 ho93 hb hg_ hnew_
           clear hg_ hnew_
           (first | rw [← Ny557.out] at ho93 | (simp only [Int.reduceToNat] at ho93; rw [← Ny557.out] at ho93))
           replace HO556 := aS (Kd.R_below (sR HO556.out) hb); have HO559 := aS (Kd.R_lower (Kd.R_new' ho93 (Kd.R_lt (sR HO_508001.out))) (keep_size (w := w) (g := g) (row := none) (sK2 HK.out))); replace HO_508001 := aS (Kd.R_elder' (sR HO_508001.out) (Kd.R_base ho93) hb); replace BK496 := aS (blk_below (sB BK496.out) hb); replace BK507 := aS (blk_below (sB BK507.out) hb); replace HK := aS (KeepBut.trans (sK2 HK.out) (KeepBut.of_below hb g none) (.inl rfl)); replace HB := aS (below_step (sWg HB.out (IsS127.ge HI0.out)) hb); replace HI0 := aS (IsS127.below (IsS127.s HI0.out) hb)
           clear hb ho93
           obtain ⟨Ao94, co94, eo94⟩ := Kd.R_slice HO559.out
           (first | subst eo94 | (injection eo94 with f1_ f2_ f3_; have f4_ := f1_.symm; have f5_ := f3_.symm; clear f1_ f2_ f3_; subst f4_; subst f5_))
           refine hK.out _ _ ⟨bq BK507.out 0, bq BK507.out 1⟩ (fun hHeld => ?_)
           clear hK K
           refine nX 86 ?_
           refine oX 6 (some 87) fun K hK => ?_
           refine goes_ Try.func96 (by kernel_rfl) rfl #[.pointer (some ⟨g, 0, none⟩), .slice Ao94 y557.length co94] (by rfl) rfl rfl sG ?_
           with_reducible refine (spec_l00Src_among.calls g s0_0 t552 t553 _ _ y557 t560 t561 t562 w0 _ ?side1 ?side2 ?side3 ?side4 ?side5 A83.out).mono ?_
           (case side1 => exact IsS127.s HI0.out)
           (case side2 => exact sWg HB.out (IsS127.ge HI0.out))
           (case side3 => exact sC (Kd.R_reads' HO559.out).2.2)
           (case side4 => exact (Kd.R_reads' HO559.out).2.1)
           (case side5 => exact far_slice (IsS127.own_ne HI0.out HO559.out (by decide)))
           rintro e w95 ⟨rfl, hi, hb, hk⟩
           refine ⟨_, rfl, ?_⟩
           replace HO_508001 := aS (Kd.R_mono (Kd.R_keep (IsS127.apart (show IsS127 w0 _ g s0_0 t552 t553 from IsS127.s HI0.out) (sR HO_508001.out) (by decide)) hk (fun _ h => h.2)) (fun _ h => h.1)); replace BK496 := aS (kB hk (sB BK496.out) NB496_0.out); replace BK507 := aS (kB hk (sB BK507.out) NB507_0.out); replace HO556 := aS (Kd.R_mono (Kd.R_keep (IsS127.apart (show IsS127 w0 _ g s0_0 t552 t553 from IsS127.s HI0.out) (sR HO556.out) (by decide)) hk (fun _ h => h.2)) (fun _ h => h.1)); replace HO559 := aS (Kd.R_mono (Kd.R_keep (IsS127.apart (show IsS127 w0 _ g s0_0 t552 t553 from IsS127.s HI0.out) (sR HO559.out) (by decide)) hk (fun _ h => h.2)) (fun _ h => h.1)); replace HK := aS (kT (sK2 HK.out) hk); replace HB := aS (hb); replace HI0 := aS (hi)
           refine hK.out _ _ ⟨bq BK507.out 0, bq BK507.out 1⟩ (fun hHeld => ?_)
           clear hK K
           refine nX 87 ?_
           refine oX 7 (some 88) fun K hK => ?_
           refine value_ (w1 := ?_) (v := ?_) (by rfl) rfl ?_ ?_
           rotate_left 2
           ·
            go_simp
            constructor
            ·
             rfl
            ·
             rfl
           refine hK.out _ _ ⟨bq (blk_alloc BK507.out _) 0, bq (blk_alloc BK507.out _) 1⟩ (fun hHeld => ?_)
           clear hK K
           refine nX 88 ?_
           refine oX 8 (some 89) fun K hK => ?_
           refine Kd.R_append_step (Kd.int .i64) w.heap.size (by rfl) (.tmp 82) (.tmp 88) 27 2 (.int .i64 0) 8 rfl Try.underlying27 info2 rfl (by decide) (by omega) u508001 x508001_2 t560 [.int .i64 t560] (fun k_ => some k_ ≠ (.slice Ao94 y557.length co94 : Value).ownBlock) (fun _ => False) rfl rfl ?aP (fun _ hk => hk.elim) ?aF ?aO (Below.refl _ _) ?aS ?aL ?_
           (case aP => exact rfl)
           (case aF => exact (fun k_ hk => Kd.fresh' (Kd.R_lt (sR HO559.out)) k_ hk))
           (case aO => exact (sR (Kd.R_mono HO_508001.out (fun _ hk => hk.2))))
           (case aS => exact (keep_size (w := w) (g := g) (row := none) (sK2 HK.out)))
           (case aL => have := LMc84.out; omega)
           intro v564 w96 ho hb hg hat
           rw [← Ny563.out] at ho
           replace BK496 := aS (blk_grown (sB BK496.out) hg (Kd.R_ne HO_508001.out BK496.out (by decide))); replace BK507 := aS (blk_grown (sB BK507.out) hg (Kd.R_ne HO_508001.out BK507.out (by decide))); replace HO556 := aS (Kd.R_over' (sR HO556.out) (Kd.R_typed (sR HO_508001.out)) (by decide) hg); replace HO559 := aS (Kd.R_after (ok := (fun _ => True)) (sR HO559.out) hg hat); replace HB := aS (below_weaken (sWg HB.out (IsS127.ge HI0.out)) HL.out hb); replace HI0 := aS (IsS127.grown (show IsS127 w0 _ g s0_0 t561 t562 from IsS127.s HI0.out) hg (IsS127.own_ne HI0.out HO_508001.out (by decide))); replace HK := aS (KeepBut.trans (sK2 HK.out) (KeepBut.of_grown hg g) (Kd.R_base2 HO_508001.out)); have HO565 := aS (ho); clear HO_508001
           clear ho hb hg hat
           obtain ⟨Ao97, co97, eo97⟩ := Kd.R_slice HO565.out
           (first | subst eo97 | (injection eo97 with f1_ f2_ f3_; have f4_ := f1_.symm; have f5_ := f3_.symm; clear f1_ f2_ f3_; subst f4_; subst f5_))
           refine hK.out _ _ ⟨bq BK507.out 0, bq BK507.out 1⟩ (fun hHeld => ?_)
           clear hK K
           refine nX 89 ?_
           refine pX 9 90 ?_
           refine lX 10 none fun K hK => ?_
           have hs98 : w96.cell? ⟨gb507, 1, none⟩ = some (u508001) := bq BK507.out 1
           have hfs98 := blk_frozen BK507.out 1
           have hns98_0 := NB496_507.out
           have hms98_0 := NB507_496.out
           refine skip_ (w1 := ?_) (by rfl) rfl ?_ ?_
           rotate_left
           ·
            go_simp
            rfl
           refine hK.out _ _ ?_
           clear hK K
           refine dX ?_
           have hnb99 := NB507_496.out
           have hnc99 := NB496_507.out
           have hnb100 := NB507_0.out
           have hnc100 := NB0_507.out
           obtain ⟨hcz101_0, hcz101_1, hfz101_0, hfz101_1⟩ := z2 BK507.out
           have hnb102 := NB496_0.out
           have hnc102 := NB0_496.out
           obtain ⟨hcz103_0, hcz103_1, hfz103_0, hfz103_1⟩ := z2 BK496.out
           try go_wp2
           refine bodyPost_ret (results_cell_row rfl _ _ gb496 29 #[.slice Ao88 y554.length co88, .slice Ao97 y563.length co97] (0, 0) _ rfl (by exact sZ BK496.out) Try.underlying29 rfl (by kernel_rfl)) rfl ?_
           exact ⟨_, _, eE, sR (Kd.R_mono (rG (g := gb496) (Kd.R_far (p := ⟨gb507, 1, none⟩) (Kd.R_types (Kd.R_types HO556.out BK507.out (by decide)) BK496.out (by decide)) (fun _ hk => hk.1.2) (.slice Ao97 y563.length co97)) (fun _ hk => hk.2)) (fun _ hk => trivial)), sR (Kd.R_mono (rG (g := gb496) (Kd.R_far (p := ⟨gb507, 1, none⟩) (Kd.R_types (Kd.R_types HO565.out BK507.out (by decide)) BK496.out (by decide)) (fun _ hk => hk.1.2) (.slice Ao97 y563.length co97)) (fun _ hk => hk.2)) (fun _ hk => trivial)), IsS127.s HI0.out, sWg HB.out (IsS127.ge HI0.out), sK2 HK.out⟩
          ·
           have c80b0 := beq_eq_false_iff_ne.mpr c80
           have c80b1 := bne_iff_ne.mpr c80
           simp only [Option.some.injEq, Prod.mk.injEq] at H
           obtain ⟨rfl, rfl, rfl, rfl⟩ := H
           have hnb104 := NB507_496.out
           have hnc104 := NB496_507.out
           have hnb105 := NB507_0.out
           have hnc105 := NB0_507.out
           obtain ⟨hcz106_0, hcz106_1, hfz106_0, hfz106_1⟩ := z2 BK507.out
           obtain ⟨Ao107, co107, eo107⟩ := Kd.R_slice HO_508000.out
           subst eo107
           have hnb108 := NB496_0.out
           have hnc108 := NB0_496.out
           obtain ⟨hcz109_0, hcz109_1, hfz109_0, hfz109_1⟩ := z2 BK496.out
           obtain ⟨Ao110, co110, eo110⟩ := Kd.R_slice HO_508001.out
           subst eo110
           go_wp2
           refine bodyPost_ret (results_cell_row rfl _ _ gb496 29 #[.slice Ao107 x508000_2.length co107, .slice Ao110 x508001_2.length co110] (0, 0) _ rfl (sB (put2 BK496.out)) Try.underlying29 rfl (by kernel_rfl)) rfl ?_
           exact ⟨_, _, eE, sR (Kd.R_mono (rG (g := gb496) (Kd.R_types HO_508000.out BK496.out (by decide)) (fun _ hk => hk.2)) (fun _ hk => trivial)), sR (Kd.R_mono (rG (g := gb496) (Kd.R_types HO_508001.out BK496.out (by decide)) (fun _ hk => hk.2)) (fun _ hk => trivial)), IsS127.s HI0.out, sWg HB.out (IsS127.ge HI0.out), sK2 HK.out⟩

end Go.Proofs.Ytginmioklkcgbaa.QFnBestJoins

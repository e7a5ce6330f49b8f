/- What the Go functions of this law compute, each as a Lean function, and that each call comes to that answer; written by a program of this session. No condition. -/
import Derived.Test.YtginmioklkcgbaaVShn
import Derived.Test.YtginmioklkcgbaaVQFnBestJoinsx0
import Derived.Test.YtginmioklkcgbaaVQFnBestJoinsx4
import Derived.Test.YtginmioklkcgbaaVQFnBestJoinsx5
namespace Go.Proofs.Ytginmioklkcgbaa.QFnBestJoins
open Go.RowKit Go.Proofs.YtginmioklkcgbaaW.PrintWords Go.Proofs.YtginmioklkcgbaaW.PrintLast Go.Proofs.YtginmioklkcgbaaW.PrintMore
attribute [local go_sem] max2_int min2_int max_two min_two max_three min_three max_four min_four   -- for this text's walks alone
set_option linter.unusedVariables false
set_option linter.unusedSimpArgs false

/-! ### spec_LongestLine: function 9 -/
mutual
def spec_LongestLine.l0 : Nat → List (S61) → List (S45) → Int → Int → Option ((List (S45)) × List Int × Int)
 | 0, _, _, _, _ => none
 | k + 1, x0, x1, x2, x8 => if x8 < (x1.length : Int) then (if 0 ≤ x8 then ((spec_l03Piece.f ((rd_T45 x1 x8).f0) ((rd_T45 x1 x8).f1)).bind fun t141 => (if t141 = true then (spec_LongestLine.l0 k x0 x1 x2 (wrap64 (x8 + 1))) else (some (([] : List (S45)), ([] : List Int), 1)))) else (none)) else (if (x1.length : Int) > 12 then (spec_LongestLine.j1 k x0 x1 x2 true) else ((spec_l03Need.f x2).bind fun t142 => (spec_LongestLine.j1 k x0 x1 x2 (!t142))))
def spec_LongestLine.j1 : Nat → List (S61) → List (S45) → Int → Bool → Option ((List (S45)) × List Int × Int)
 | 0, _, _, _, _ => none
 | k + 1, x0, x1, x2, x42 => if x42 = true then (some (([] : List (S45)), ([] : List Int), 2)) else (spec_LongestLine.l1 k x0 x1 x2 (([] : List (S45))) 0)
def spec_LongestLine.l1 : Nat → List (S61) → List (S45) → Int → List (S45) → Int → Option ((List (S45)) × List Int × Int)
 | 0, _, _, _, _, _ => none
 | k + 1, x0, x1, x2, x9, x10 => if x10 < (x1.length : Int) then (if 0 ≤ x10 then (if ((rd_T45 x1 x10).f0) < x2 then (spec_LongestLine.l1 k x0 x1 x2 x9 (wrap64 (x10 + 1))) else (spec_LongestLine.l2 k x0 x1 x2 x9 x10 (x9.length : Int))) else (none)) else (if (x9.length : Int) = 0 then (some (([] : List (S45)), ([] : List Int), 3)) else (if 0 < (x9.length : Int) then (spec_LongestLine.l3 k x0 x2 x9 1 (([(⟨(rd_T45 x9 0).f0, (rd_T45 x9 0).f1⟩ : S45)] : List (S45))) (([] : List Int))) else (none)))
def spec_LongestLine.l2 : Nat → List (S61) → List (S45) → Int → List (S45) → Int → Int → Option ((List (S45)) × List Int × Int)
 | 0, _, _, _, _, _, _ => none
 | k + 1, x0, x1, x2, x9, x10, x11 => if x11 > 0 then (if 0 ≤ (wrap64 (x11 - 1)) then (if (wrap64 (x11 - 1)) < (x9.length : Int) then (if 0 ≤ x10 then (if x10 < (x1.length : Int) then (if ((rd_T45 x9 (wrap64 (x11 - 1))).f0) < ((rd_T45 x1 x10).f0) then (spec_LongestLine.j4 k x0 x1 x2 x9 x10 x11 true) else (if ((rd_T45 x9 (wrap64 (x11 - 1))).f0) = ((rd_T45 x1 x10).f0) then (spec_LongestLine.j4 k x0 x1 x2 x9 x10 x11 (decide (((rd_T45 x9 (wrap64 (x11 - 1))).f1) < ((rd_T45 x1 x10).f1)))) else (spec_LongestLine.j4 k x0 x1 x2 x9 x10 x11 false))) else (none)) else (none)) else (none)) else (none)) else (spec_LongestLine.j4 k x0 x1 x2 x9 x10 x11 false)
def spec_LongestLine.j4 : Nat → List (S61) → List (S45) → Int → List (S45) → Int → Int → Bool → Option ((List (S45)) × List Int × Int)
 | 0, _, _, _, _, _, _, _ => none
 | k + 1, x0, x1, x2, x9, x10, x11, x103 => if x103 = true then (spec_LongestLine.l2 k x0 x1 x2 x9 x10 (wrap64 (x11 - 1))) else ((some (([] : List (S45)) : List (S45))).bind fun y153 => (if 0 ≤ x11 then (if x11 ≤ (x9.length : Int) then ((some (x9.take (x11 : Int).toNat : List (S45))).bind fun y156 => (if y153.length + y156.length < 8796093022208 then ((some (y153 ++ y156 : List (S45))).bind fun y160 => (if 0 ≤ x10 then (if x10 < (x1.length : Int) then (if y160.length < 8796093022208 then ((some (y160 ++ [(⟨(rd_T45 x1 x10).f0, (rd_T45 x1 x10).f1⟩ : S45)] : List (S45))).bind fun y164 => ((some (x9.drop (x11 : Int).toNat : List (S45))).bind fun y167 => (if y164.length + y167.length < 8796093022208 then (spec_LongestLine.l1 k x0 x1 x2 (y164 ++ y167) (wrap64 (x10 + 1))) else (none)))) else (none)) else (none)) else (none))) else (none))) else (none)) else (none)))
def spec_LongestLine.l3 : Nat → List (S61) → Int → List (S45) → Int → List (S45) → List Int → Option ((List (S45)) × List Int × Int)
 | 0, _, _, _, _, _, _ => none
 | k + 1, x0, x2, x9, x14, x182000, x182001 => if x14 < (x9.length : Int) then (if 0 ≤ (wrap64 ((x182000.length : Int) - 1)) then (if (wrap64 ((x182000.length : Int) - 1)) < (x182000.length : Int) then (if 0 ≤ x14 then ((spec_BestJoin.f k x0 ((rd_T45 x182000 (wrap64 ((x182000.length : Int) - 1))).f0) ((rd_T45 x182000 (wrap64 ((x182000.length : Int) - 1))).f1) ((rd_T45 x9 x14).f0) ((rd_T45 x9 x14).f1) x2).bind fun bt185 => (if bt185.2 = 0 then (if 0 ≤ bt185.1 then (if bt185.1 < (x0.length : Int) then (if ((rd_T61 x0 bt185.1).f2) < ((rd_T45 x9 x14).f1) then (if x182000.length < 8796093022208 then (if x182001.length < 17592186044416 then (spec_LongestLine.l3 k x0 x2 x9 (wrap64 (x14 + 1)) (x182000 ++ [(⟨(rd_T45 x9 x14).f0, (rd_T45 x9 x14).f1⟩ : S45)]) (x182001 ++ [bt185.1])) else (none)) else (none)) else (spec_LongestLine.l3 k x0 x2 x9 (wrap64 (x14 + 1)) x182000 x182001)) else (none)) else (none)) else (spec_LongestLine.l3 k x0 x2 x9 (wrap64 (x14 + 1)) x182000 x182001))) else (none)) else (none)) else (none)) else (some (x182000, x182001, 0))
end
def spec_LongestLine.f (k : Nat) (l0 : List (S61)) (l1 : List (S45)) (a2 : Int) : Option ((List (S45)) × List Int × Int) := (spec_l03Ok.f k l0).bind fun t139 => (if t139 = true then (spec_LongestLine.l0 k l0 l1 a2 0) else (some (([] : List (S45)), ([] : List Int), 1)))
theorem spec_LongestLine.mono_l : ∀ k, (∀ y0 y1 y2 y3, LeO (spec_LongestLine.l0 k y0 y1 y2 y3) (spec_LongestLine.l0 (k + 1) y0 y1 y2 y3)) ∧ (∀ y0 y1 y2 y3, LeO (spec_LongestLine.j1 k y0 y1 y2 y3) (spec_LongestLine.j1 (k + 1) y0 y1 y2 y3)) ∧ (∀ y0 y1 y2 y3 y4, LeO (spec_LongestLine.l1 k y0 y1 y2 y3 y4) (spec_LongestLine.l1 (k + 1) y0 y1 y2 y3 y4)) ∧ (∀ y0 y1 y2 y3 y4 y5, LeO (spec_LongestLine.l2 k y0 y1 y2 y3 y4 y5) (spec_LongestLine.l2 (k + 1) y0 y1 y2 y3 y4 y5)) ∧ (∀ y0 y1 y2 y3 y4 y5 y6, LeO (spec_LongestLine.j4 k y0 y1 y2 y3 y4 y5 y6) (spec_LongestLine.j4 (k + 1) y0 y1 y2 y3 y4 y5 y6)) ∧ (∀ y0 y1 y2 y3 y4 y5, LeO (spec_LongestLine.l3 k y0 y1 y2 y3 y4 y5) (spec_LongestLine.l3 (k + 1) y0 y1 y2 y3 y4 y5))
 | 0 => by refine ⟨?_, ?_, ?_, ?_, ?_, ?_⟩ <;> (intros; intro r h; simp [spec_LongestLine.l0, spec_LongestLine.j1, spec_LongestLine.l1, spec_LongestLine.l2, spec_LongestLine.j4, spec_LongestLine.l3] at h)
 | k + 1 => by
  obtain ⟨ih0, ih1, ih2, ih3, ih4, ih5⟩ := spec_LongestLine.mono_l k
  refine ⟨?_, ?_, ?_, ?_, ?_, ?_⟩ <;> (intros; (first | unfold spec_LongestLine.l0 | unfold spec_LongestLine.j1 | unfold spec_LongestLine.l1 | unfold spec_LongestLine.l2 | unfold spec_LongestLine.j4 | unfold spec_LongestLine.l3); repeat' first | (with_reducible first | exact ih0 _ _ _ _ | exact ih1 _ _ _ _ | exact ih2 _ _ _ _ _ | exact ih3 _ _ _ _ _ _ | exact ih4 _ _ _ _ _ _ _ | exact ih5 _ _ _ _ _ _ | exact spec_BestJoin.mono _ _ _ _ _ _ _ | exact spec_l03Ok.mono _ _ | exact LeO.refl _ | exact LeO.none _ | refine LeO.ite ?_ ?_ | refine LeO.bind ?_ (fun _ => ?_)) | refine LeO.ite ?_ ?_ | refine LeO.bind ?_ (fun _ => ?_))
theorem spec_LongestLine.mono : ∀ a0 a1 a2 k, LeO (spec_LongestLine.f k a0 a1 a2) (spec_LongestLine.f (k + 1) a0 a1 a2) := by
 intro a0 a1 a2 k
 obtain ⟨ih0, ih1, ih2, ih3, ih4, ih5⟩ := spec_LongestLine.mono_l k
 unfold spec_LongestLine.f
 repeat' first | (with_reducible first | exact ih0 _ _ _ _ | exact ih1 _ _ _ _ | exact ih2 _ _ _ _ _ | exact ih3 _ _ _ _ _ _ | exact ih4 _ _ _ _ _ _ _ | exact ih5 _ _ _ _ _ _ | exact spec_BestJoin.mono _ _ _ _ _ _ _ | exact spec_l03Ok.mono _ _ | exact LeO.refl _ | exact LeO.none _ | refine LeO.ite ?_ ?_ | refine LeO.bind ?_ (fun _ => ?_)) | refine LeO.ite ?_ ?_ | refine LeO.bind ?_ (fun _ => ?_)
def spec_LongestLine.T16 : Bool × List (List Nat × List Nat) := (true, [([], []), ([0], [0]), ([1], [1]), ([2], [2]), ([2], [2]), ([4, 2], [2, 4]), ([3, 5, 2], [2, 3, 5]), ([6, 2], [2, 6]), ([7, 2], [2, 7]), ([2], [2]), ([2], [2]), ([9, 10, 2], [2, 9, 10]), ([11, 2], [2, 11]), ([12, 2], [2, 12]), ([8, 13, 2], [2, 8, 13]), ([14, 2, 2], [2, 14]), ([15], [15]), ([15], [15]), ([17, 15], [15, 17]), ([16, 18, 15], [15, 16, 18]), ([19, 15], [15, 19]), ([20, 15], [15, 20]), ([15], [15]), ([15], [15]), ([22, 23, 15], [15, 22, 23]), ([24, 15], [15, 24]), ([25, 15], [15, 25]), ([21, 26, 15], [15, 21, 26]), ([27, 15, 15], [15, 27]), ([28], [28]), ([28], [28]), ([30, 28], [28, 30]), ([29, 31, 28], [28, 29, 31]), ([32, 28], [28, 32]), ([33, 28], [28, 33]), ([28], [28]), ([28], [28]), ([35, 36, 28], [28, 35, 36]), ([37, 28], [28, 37]), ([38, 28], [28, 38]), ([34, 39, 28], [28, 34, 39]), ([28, 40, 15], [15, 28, 40]), ([15, 41, 2], [2, 15, 41]), ([2, 42], [2, 42])])
def spec_LongestLine.B16 : List Nat := [0, 1, 3, 7, 7, 23, 63, 127, 255, 7, 7, 1543, 3591, 7687, 16383, 32767, 65535, 65535, 196607, 524287, 1048575, 2097151, 65535, 65535, 12648447, 29425663, 62980095, 134217727, 268435455, 536870911, 536870911, 1610612735, 4294967295, 8589934591, 17179869183, 536870911, 536870911, 103616086015, 241055039487, 515932946431, 1099511627775, 2199023255551, 4398046511103, 8796093022207]
theorem spec_LongestLine.tab16 : rtab .any (opsOf Try.f9 16) = spec_LongestLine.T16 := by kernel_rfl
theorem spec_LongestLine.bits16 : waitsOk spec_LongestLine.T16.2 spec_LongestLine.B16 = true := by kernel_rfl
def spec_LongestLine.T28 : Bool × List (List Nat × List Nat) := (true, [([], []), ([], []), ([], []), ([], []), ([2, 3], [2, 3]), ([4], [4]), ([], []), ([0, 1, 5, 6], [0, 1, 5, 6]), ([7], [7]), ([8], [8]), ([8], [8]), ([9, 7, 0, 1, 2, 3, 4, 5, 6, 7, 8, 9], [9]), ([10, 11, 0, 1, 2, 3, 4, 5, 6, 7, 8, 9, 10, 11], [10])])
def spec_LongestLine.B28 : List Nat := [0, 0, 0, 0, 12, 28, 0, 127, 255, 511, 511, 1023, 4095]
theorem spec_LongestLine.tab28 : rtab .any (opsOf Try.f9 28) = spec_LongestLine.T28 := by kernel_rfl
theorem spec_LongestLine.bits28 : waitsOk spec_LongestLine.T28.2 spec_LongestLine.B28 = true := by kernel_rfl
def spec_LongestLine.T29 : Bool × List (List Nat × List Nat) := (true, [([], []), ([0], [0]), ([1], [1]), ([2], [2]), ([2], [2]), ([3, 4, 2], [2, 3, 4]), ([5, 2], [2, 5]), ([6, 2], [2, 6]), ([2], [2]), ([2], [2]), ([8, 9, 2], [2, 8, 9]), ([10, 2], [2, 10]), ([11, 2], [2, 11]), ([7, 12, 2], [2, 7, 12]), ([2, 13], [2, 13])])
def spec_LongestLine.B29 : List Nat := [0, 1, 3, 7, 7, 31, 63, 127, 7, 7, 775, 1799, 3847, 8191, 16383]
theorem spec_LongestLine.tab29 : rtab .any (opsOf Try.f9 29) = spec_LongestLine.T29 := by kernel_rfl
theorem spec_LongestLine.bits29 : waitsOk spec_LongestLine.T29.2 spec_LongestLine.B29 = true := by kernel_rfl
def spec_LongestLine.T30 : Bool × List (List Nat × List Nat) := (true, [([], []), ([0], [0]), ([], []), ([], []), ([2, 3], [2, 3]), ([4], [4]), ([5], [5]), ([1, 6], [1, 6]), ([0, 1, 2, 3, 4, 5, 6, 7], []), ([8, 7, 7, 0, 1, 2, 3, 4, 5, 6, 7], [7, 8])])
def spec_LongestLine.B30 : List Nat := [0, 1, 0, 0, 12, 28, 60, 127, 255, 511]
theorem spec_LongestLine.tab30 : rtab .any (opsOf Try.f9 30) = spec_LongestLine.T30 := by kernel_rfl
theorem spec_LongestLine.bits30 : waitsOk spec_LongestLine.T30.2 spec_LongestLine.B30 = true := by kernel_rfl
def spec_LongestLine.bF (n k : Nat) : Array Bool := ((List.range n).map fun i => k.testBit i).toArray
set_option maxHeartbeats 8000000 in
set_option maxRecDepth 100000 in
theorem spec_LongestLine.calls (k : Nat) (A0 : Option Addr) (c0 : Nat) (l0 : List (S61)) (A1 : Option Addr) (c1 : Nat) (l1 : List (S45)) (a2 : Int) (r1 : List (S45)) (r2 : List Int) (r3 : Int) (w : World) (hr0 : Kd.C k61 w A0 l0.length l0) (hc0 : l0.length ≤ c0) (hr1 : Kd.C k45 w A1 l1.length l1) (hc1 : l1.length ≤ c1) (h : spec_LongestLine.f k l0 l1 a2 = some (r1, r2, r3)) :
  Calls Try.prog 9 #[.slice A0 l0.length c0, .slice A1 l1.length c1, .int .i64 a2] w fun e w' => ∃ v0_ v1_ : Value, e = .returned (.tuple #[.agg #[v0_, v1_], .int .i64 r3]) ∧ Kd.R k45 45 w' w.heap.size (fun _ => True) v0_ r1 ∧ Kd.R (Kd.int .i64) 2 w' w.heap.size (fun _ => True) v1_ r2 ∧ Below w.heap.size w w' := by
 have hu29 := Try.underlying29
 have hu45 := Try.underlying45
 have HR0 := aS hr0
 have HC0 := aS hc0
 clear hr0 hc0
 have HR1 := aS hr1
 have HC1 := aS hc1
 clear hr1 hc1
 have HB := aS (Below.refl w.heap.size w)
 have H := h
 clear h
 unfold spec_LongestLine.f at H
 replace H := Option.bind_eq_some_iff.mp H
 obtain ⟨t139, A40, H⟩ := H
 replace H : (if t139 = true then (spec_LongestLine.l0 k l0 l1 a2 0) else (some (([] : List (S45)), ([] : List Int), 1))) = some (r1, r2, r3) := H
 have A4 := aS A40
 clear A40
 have HC5 := aS H
 clear H
 go_enter Try.func9, Try.ntmps9
 go_upto_if 20 with (first | ((with_reducible refine gate_dst (N := 6) rfl ?_); refine bx 6 #[.slice none 0 0, .slice none 0 0] 29 ?_; intro gb138 hg w6 hbox hb; have BK138 := aS (hbox); have GW138 := aS (gW hg (sW HB.out)); have GE138 := aS (gW hg (sW HB.out)); replace HB := aS (below_step (sW HB.out) hb); clear hb hbox hg) | ((with_reducible refine gate_callee (f := 43) rfl ?_); refine goesL_ (some 19) rfl rfl Try.func43 (by kernel_rfl) rfl #[.slice A0 l0.length c0] rfl sG ?_; (with_reducible refine (spec_l03Ok.calls k _ _ l0 t139 _ ?side1 ?side2 A4.out).mono ?_); (case side1 => exact sC (Kd.C_below HR0.out HB.out)); (case side2 => exact HC0.out); rintro e w7 ⟨rfl, hb⟩; refine ⟨_, rfl, ?_⟩; replace BK138 := aS (blk_below (sB BK138.out) hb); replace HB := aS (below_step (sW HB.out) hb)))
 (try simp only [Act.put, List.setIfInBounds_toArray, List.set_cons_zero, List.set_cons_succ])
 have H := HC5.out
 clear HC5
 by_cases c8 : t139 = true
 ·
  subst c8
  have H1 : (spec_LongestLine.l0 k l0 l1 a2 0) = some (r1, r2, r3) := by rw [if_pos rfl] at H; exact H
  clear H
  have H := H1
  clear H1
  have H' := aS H
  clear H
  go_wp2
  go_loopg [8] k (fun kq v8 w' => ∃ (x8_1 : Int), v8 = .int .i64 x8_1 ∧ Aside0 (spec_LongestLine.l0 kq l0 l1 a2 x8_1 = some (r1, r2, r3)) ∧ Aside0 (kq ≤ k) ∧ Aside0 (w'.heap[gb138]? = some (.cells #[(.slice none 0 0), (.slice none 0 0)] 29 (0, 0))) ∧ Aside0 (Below w.heap.size w w'))
  case atStart => exact ⟨(0), eV, H', ⟨Nat.le_refl _⟩, (aS (sB BK138.out)), (aS (sW HB.out))⟩
  case round =>
   clear H'
   obtain ⟨x8_1, rfl, HA, HK1, BK138, HB⟩ := hrel
   cases gk with
   | zero => exact absurd HA.out (by simp [spec_LongestLine.l0])
   | succ k1 =>
    have H := HA.out
    clear HA
    simp only [spec_LongestLine.l0] at H
    replace H := iE H; rcases H with ⟨c9, H⟩ | ⟨c9, H⟩
    ·
     have c9b0 := decide_eq_true c9
     clear c9
     (first | rw [c9b0] | (simp only [i64_w, i32_w]; rw [c9b0]) | (rw [c9b2]; simp only [Bool.not_false, Bool.not_true]) | skip)
     replace H := iN H
     obtain ⟨c10, H⟩ := H
     have c10b0 := decide_eq_true c10
     clear c10
     replace H := Option.bind_eq_some_iff.mp H
     obtain ⟨t141, A110, H⟩ := H
     replace H : (if t141 = true then (spec_LongestLine.l0 k1 l0 l1 a2 (wrap64 (x8_1 + 1))) else (some (([] : List (S45)), ([] : List Int), 1))) = some (r1, r2, r3) := H
     have A11 := aS A110
     clear A110
     have HC12 := aS H
     clear H
     have p140 : 0 ≤ (x8_1 : Int) := sD
     have q140 : x8_1 < (l1.length : Int) := sD
     obtain ⟨ad140, e140, hx140_0, hx140_1⟩ := at_T45 HR1.out x8_1 p140 q140
     cases e140
     replace hx140_0 := bC HB.out hx140_0
     replace hx140_1 := bC HB.out hx140_1
     replace p140 := eq_true p140
     replace q140 := eq_true q140
     go_upto_if 33 with (first | ((with_reducible refine gate_callee (f := 44) rfl ?_); refine goesL_ (some 32) rfl rfl Try.func44 (by kernel_rfl) rfl #[.agg #[.int .i64 ((rd_T45 l1 x8_1).f0), .int .i64 ((rd_T45 l1 x8_1).f1)]] rfl sG ?_; (with_reducible refine (spec_l03Piece.calls ((rd_T45 l1 x8_1).f0) ((rd_T45 l1 x8_1).f1) t141 _ A11.out).mono ?_); rintro e w13 ⟨rfl, hb⟩; refine ⟨_, rfl, ?_⟩; replace BK138 := aS (blk_below (sB BK138.out) hb); replace HB := aS (below_step (sW HB.out) hb)))
     (try simp only [Act.put, List.setIfInBounds_toArray, List.set_cons_zero, List.set_cons_succ])
     have H := HC12.out
     clear HC12
     by_cases c14 : t141 = true
     ·
      subst c14
      have H1 : (spec_LongestLine.l0 k1 l0 l1 a2 (wrap64 (x8_1 + 1))) = some (r1, r2, r3) := by rw [if_pos rfl] at H; exact H
      clear H
      have H := H1
      clear H1
      have H' := aS H
      clear H
      go_wp2
      go_roundg k1
      case measure => have := HK1.out; omega
      case rel => exact ⟨(wrap64 (x8_1 + 1)), eV, H', ⟨by have := HK1.out; omega⟩, (aS (sB BK138.out)), (aS (sW HB.out))⟩
     replace c14 := Bool.eq_false_iff.mpr c14
     subst c14
     have H1 : (some (([] : List (S45)), ([] : List Int), 1)) = some (r1, r2, r3) := by rw [if_neg (show ¬ (false = true) by decide)] at H; exact H
     clear H
     have H := H1
     clear H1
     simp only [Option.some.injEq, Prod.mk.injEq] at H
     obtain ⟨rfl, rfl, rfl⟩ := H
     obtain ⟨hcz15_0, hcz15_1, hfz15_0, hfz15_1⟩ := z2 BK138.out
     go_wp2
     refine bodyPost_ret (results_ct rfl _ _ gb138 29 #[.slice none 0 0, .slice none 0 0] (0, 0) _ rfl (sB (put2 BK138.out)) Try.underlying29 rfl (by kernel_rfl)) rfl ?_
     exact ⟨_, _, eE, eN, eN, sW HB.out⟩
    have c9b0 := decide_eq_false c9
    clear c9
    (first | rw [c9b0] | (simp only [i64_w, i32_w]; rw [c9b0]) | (rw [c9b2]; simp only [Bool.not_false, Bool.not_true]) | skip)
    have HC16 := aS H
    clear H
    go_upto_region 8 with (fail)
    go_cut [42] (fun v42 wc => ∃ (kq : Nat) (x42_15 : Bool), v42 = .bool x42_15 ∧ Aside0 (spec_LongestLine.j1 kq l0 l1 a2 x42_15 = some (r1, r2, r3)) ∧ Aside0 (kq ≤ k1) ∧ Aside0 (wc.heap[gb138]? = some (.cells #[(.slice none 0 0), (.slice none 0 0)] 29 (0, 0))) ∧ Aside0 (Below w.heap.size w wc))
    case first =>
     have H := HC16.out
     clear HC16
     replace H := iE H; rcases H with ⟨c17, H⟩ | ⟨c17, H⟩
     ·
      have c17b0 : decide (12 < (l1.length : Int)) = true := decide_eq_true c17
      have c17b1 : decide (12 < l1.length) = true := decide_eq_true (by omega)
      clear c17
      (first | rw [c17b0] | (simp only [i64_w, i32_w]; rw [c17b0]) | (rw [c17b2]; simp only [Bool.not_false, Bool.not_true]) | skip)
      have H' := aS H
      clear H
      go_wp2
      go_meet
      case rel => exact ⟨_, (true), eV, H', ⟨by have := HK1.out; first | omega | exact Nat.le_refl _⟩, (aS (sB BK138.out)), (aS (sW HB.out))⟩
     have c17b0 : decide (12 < (l1.length : Int)) = false := decide_eq_false c17
     have c17b1 : decide (12 < l1.length) = false := decide_eq_false (by omega)
     clear c17
     (first | rw [c17b0] | (simp only [i64_w, i32_w]; rw [c17b0]) | (rw [c17b2]; simp only [Bool.not_false, Bool.not_true]) | skip)
     replace H := Option.bind_eq_some_iff.mp H
     obtain ⟨t142, A180, H⟩ := H
     replace H : (spec_LongestLine.j1 k1 l0 l1 a2 (!t142)) = some (r1, r2, r3) := H
     have A18 := aS A180
     clear A180
     have H' := aS H
     clear H
     go_wp2_with (first | (go_at_call 45; (with_reducible refine (spec_l03Need.calls a2 t142 _ A18.out).mono ?_); rintro e w' ⟨rfl, ⟨nd, rfl⟩⟩))
     go_meet
     case rel => exact ⟨_, (!t142), eV, H', ⟨by have := HK1.out; first | omega | exact Nat.le_refl _⟩, (aS (sB BK138.out)), (aS (sW HB.out))⟩
    case rest =>
     clear HC16
     (try clear hx1); (try clear hx14); (try clear hx140_0); (try clear hx140_1)
     obtain ⟨kq, x42_15, rfl, HA, HJ15, BK138, HB⟩ := hcut
     cases kq with
     | zero => exact absurd HA.out (by simp [spec_LongestLine.j1])
     | succ kj15 =>
      have H := HA.out
      clear HA
      simp only [spec_LongestLine.j1] at H
      by_cases c19 : x42_15 = true
      ·
       subst c19
       have H1 : (some (([] : List (S45)), ([] : List Int), 2)) = some (r1, r2, r3) := by rw [if_pos rfl] at H; exact H
       clear H
       have H := H1
       clear H1
       simp only [Option.some.injEq, Prod.mk.injEq] at H
       obtain ⟨rfl, rfl, rfl⟩ := H
       obtain ⟨hcz20_0, hcz20_1, hfz20_0, hfz20_1⟩ := z2 BK138.out
       go_wp2
       refine bodyPost_ret (results_ct rfl _ _ gb138 29 #[.slice none 0 0, .slice none 0 0] (0, 0) _ rfl (sB (put2 BK138.out)) Try.underlying29 rfl (by kernel_rfl)) rfl ?_
       exact ⟨_, _, eE, eN, eN, sW HB.out⟩
      replace c19 := Bool.eq_false_iff.mpr c19
      subst c19
      have H1 : (spec_LongestLine.l1 kj15 l0 l1 a2 (([] : List (S45))) 0) = some (r1, r2, r3) := by rw [if_neg (show ¬ (false = true) by decide)] at H; exact H
      clear H
      have H := H1
      clear H1
      obtain ⟨y143, hy143⟩ : ∃ y_ : List (S45), y_ = (([] : List (S45))) := ⟨_, rfl⟩
      replace H : (spec_LongestLine.l1 kj15 l0 l1 a2 y143 0) = some (r1, r2, r3) := by first | (rw [hy143]; with_reducible exact H) | (have H2_ := (Option.bind_some _ _).symm.trans H; rw [hy143]; with_reducible exact H2_) | (have H2_ := (Option.bind_some _ _).symm.trans H; with_reducible exact H2_) | with_reducible exact H | (rw [hy143]; exact H) | exact H
      have Ny143 := aS hy143
      clear hy143
      have H' := aS H
      clear H
      go_wp2_with (first | ((with_reducible refine gate_dst (N := 44) rfl ?_); refine Kd.R_lit k45 _ 45 ?hg (N := 44) ?hd (xs := ([] : List (S45))) (inner := []) (ok := fun _ => True) (okp := fun _ => True) ?hr ?hp (fun _ hk => hk) trivial (Below.refl _ _) (Nat.le_refl _) (by simp) ?_; (case hd => rfl); (case hg => rfl); (case hr => first | (go_simp; done) | (go_simp; rfl)); (case hp => exact (Reps.none _ _)); intro v144 w21 ho22 hb hg_ hnew_; clear hg_ hnew_; (first | rw [← Ny143.out] at ho22 | (simp only [Int.reduceToNat] at ho22; rw [← Ny143.out] at ho22)); have HO145 := aS (Kd.R_lower ho22 (below_size (sW HB.out))); replace BK138 := aS (blk_below (sB BK138.out) hb); replace HB := aS (below_step (sW HB.out) hb); clear hb ho22))
      go_loopg [9, 10] kj15 (fun kq v9 v10 w' => ∃ (x9_3 : List (S45)) (x10_3 : Int), v10 = .int .i64 x10_3 ∧ Aside0 (spec_LongestLine.l1 kq l0 l1 a2 x9_3 x10_3 = some (r1, r2, r3)) ∧ Aside0 (kq ≤ kj15) ∧ Aside0 (Kd.R k45 45 w' w.heap.size (fun _ => True) v9 x9_3) ∧ Aside0 (w'.heap[gb138]? = some (.cells #[(.slice none 0 0), (.slice none 0 0)] 29 (0, 0))) ∧ Aside0 (Below w.heap.size w w'))
      case atStart => exact ⟨(y143), (0), eV, H', ⟨Nat.le_refl _⟩, (aS (sR HO145.out)), (aS (sB BK138.out)), (aS (sW HB.out))⟩
      case round =>
       clear H'
       (try clear hx1); (try clear hx14); (try clear hx140_0); (try clear hx140_1)
       obtain ⟨x9_3, x10_3, rfl, HA, HK3, HO_9, BK138, HB⟩ := hrel
       cases gk with
       | zero => exact absurd HA.out (by simp [spec_LongestLine.l1])
       | succ k3 =>
        have H := HA.out
        clear HA
        simp only [spec_LongestLine.l1] at H
        replace H := iE H; rcases H with ⟨c23, H⟩ | ⟨c23, H⟩
        rotate_left
        ·
         have c23b0 := decide_eq_false c23
         clear c23
         replace H := iE H; rcases H with ⟨c57, H⟩ | ⟨c57, H⟩
         ·
          have c57b0 := beq_iff_eq.mpr c57
          have c57b1 := bne_eq_false_iff_eq.mpr c57
          clear c57
          simp only [Option.some.injEq, Prod.mk.injEq] at H
          obtain ⟨rfl, rfl, rfl⟩ := H
          obtain ⟨Ao58, co58, eo58⟩ := Kd.R_slice HO_9.out
          subst eo58
          obtain ⟨hcz59_0, hcz59_1, hfz59_0, hfz59_1⟩ := z2 BK138.out
          go_wp2
          refine bodyPost_ret (results_ct rfl _ _ gb138 29 #[.slice none 0 0, .slice none 0 0] (0, 0) _ rfl (sB (put2 BK138.out)) Try.underlying29 rfl (by kernel_rfl)) rfl ?_
          exact ⟨_, _, eE, eN, eN, sW HB.out⟩
         have c57b0 := beq_eq_false_iff_ne.mpr c57
         have c57b1 := bne_iff_ne.mpr c57
         have c57b2 : ¬ (x9_3 = []) := fun h_ => c57 (by rw [h_]; rfl)
         replace H := iN H
         obtain ⟨c60, H⟩ := H
         have c60b0 := decide_eq_true c60
         have c60b1 : decide (0 < x9_3.length) = true := decide_eq_true (by omega)
         clear c60
         obtain ⟨y175, hy175⟩ : ∃ y_ : List (S45), y_ = (([(⟨(rd_T45 x9_3 0).f0, (rd_T45 x9_3 0).f1⟩ : S45)] : List (S45))) := ⟨_, rfl⟩
         replace H : (spec_LongestLine.l3 k3 l0 a2 x9_3 1 y175 (([] : List Int))) = some (r1, r2, r3) := by first | (rw [hy175]; with_reducible exact H) | (have H2_ := (Option.bind_some _ _).symm.trans H; rw [hy175]; with_reducible exact H2_) | (have H2_ := (Option.bind_some _ _).symm.trans H; with_reducible exact H2_) | with_reducible exact H | (rw [hy175]; exact H) | exact H
         have Ny175 := aS hy175
         clear hy175
         obtain ⟨y178, hy178⟩ : ∃ y_ : List Int, y_ = (([] : List Int)) := ⟨_, rfl⟩
         replace H : (spec_LongestLine.l3 k3 l0 a2 x9_3 1 y175 y178) = some (r1, r2, r3) := by first | (rw [hy178]; with_reducible exact H) | (have H2_ := (Option.bind_some _ _).symm.trans H; rw [hy178]; with_reducible exact H2_) | (have H2_ := (Option.bind_some _ _).symm.trans H; with_reducible exact H2_) | with_reducible exact H | (rw [hy178]; exact H) | exact H
         have Ny178 := aS hy178
         clear hy178
         have H' := aS H
         clear H
         obtain ⟨Ao61, co61, eo61⟩ := Kd.R_slice HO_9.out
         subst eo61
         have p174 : 0 ≤ (0 : Int) := (by omega)
         have q174 : 0 < (x9_3.length : Int) := sD
         obtain ⟨ad174, e174, hx174_0, hx174_1⟩ := at_T45 (Kd.R_reads' HO_9.out).2.2 0 p174 q174
         cases e174
         have qi174 : (0 < x9_3.length) = True := eq_true (by omega)
         (try rw [show ((0 : Int)).toNat = 0 from rfl] at hx174_0)
         (try rw [show 0 * 2 = 0 from rfl] at hx174_0)
         (try rw [Addr.add_zero'] at hx174_0)
         (try rw [show ((0 : Int)).toNat = 0 from rfl] at hx174_1)
         (try rw [show 0 * 2 = 0 from rfl] at hx174_1)
         (try rw [Addr.add_zero'] at hx174_1)
         replace p174 := eq_true p174
         replace q174 := eq_true q174
         go_wp2_with (first | ((with_reducible refine gate_dst (N := 130) rfl ?_); refine Kd.R_lit k45 _ 45 ?hg (N := 130) ?hd (xs := ([(⟨(rd_T45 x9_3 0).f0, (rd_T45 x9_3 0).f1⟩ : S45)] : List (S45))) (inner := [.int .i64 ((rd_T45 x9_3 0).f0), .int .i64 ((rd_T45 x9_3 0).f1)]) (ok := fun _ => True) (okp := fun _ => True) ?hr ?hp (fun _ hk => hk) trivial (Below.refl _ _) (Nat.le_refl _) (by simp) ?_; (case hd => rfl); (case hg => rfl); (case hr => first | (go_simp; done) | (go_simp; rfl)); (case hp => exact (Reps.c2 (show Kd.M k45 _ _ _ (⟨(rd_T45 x9_3 0).f0, (rd_T45 x9_3 0).f1⟩ : S45) [.int .i64 ((rd_T45 x9_3 0).f0), .int .i64 ((rd_T45 x9_3 0).f1)] from (k45_mkM _ _ _ (⟨(rd_T45 x9_3 0).f0, (rd_T45 x9_3 0).f1⟩ : S45) )) (Reps.none _ _))); intro v176 w62 ho63 hb hg_ hnew_; clear hg_ hnew_; (first | rw [← Ny175.out] at ho63 | (simp only [Int.reduceToNat] at ho63; rw [← Ny175.out] at ho63)); have HO177 := aS (Kd.R_lower (Kd.R_new' ho63 (Kd.R_lt (sR HO_9.out))) (below_size (sW HB.out))); replace HO_9 := aS (Kd.R_elder' (sR HO_9.out) (Kd.R_base ho63) hb); replace BK138 := aS (blk_below (sB BK138.out) hb); replace HB := aS (below_step (sW HB.out) hb); clear hb ho63) | ((with_reducible refine gate_dst (N := 131) rfl ?_); refine Kd.R_lit (Kd.int .i64) _ 2 ?hg (N := 131) ?hd (xs := ([] : List Int)) (inner := []) (ok := fun _ => True) (okp := fun _ => True) ?hr ?hp (fun _ hk => hk) trivial (Below.refl _ _) (Nat.le_refl _) (by simp) ?_; (case hd => rfl); (case hg => rfl); (case hr => first | (go_simp; done) | (go_simp; rfl)); (case hp => exact (Reps.none _ _)); intro v179 w64 ho65 hb hg_ hnew_; clear hg_ hnew_; (first | rw [← Ny178.out] at ho65 | (simp only [Int.reduceToNat] at ho65; rw [← Ny178.out] at ho65)); replace HO_9 := aS (Kd.R_below (sR HO_9.out) hb); replace HO177 := aS (Kd.R_below (sR HO177.out) hb); have HO180 := aS (Kd.R_lower ho65 (below_size (sW HB.out))); replace BK138 := aS (blk_below (sB BK138.out) hb); replace HB := aS (below_step (sW HB.out) hb); clear hb ho65; obtain ⟨Ao66, co66, eo66⟩ := Kd.R_slice HO180.out; subst eo66; obtain ⟨Ao67, co67, eo67⟩ := Kd.R_slice HO177.out; subst eo67) | ((with_reducible refine gate_dst (N := 13) rfl ?_); refine bx 13 #[.slice none 0 0, .slice none 0 0] 29 ?_; intro gb181 hg w68 hbox hb; replace HO_9 := aS (Kd.R_below (sR HO_9.out) hb); replace HO177 := aS (Kd.R_below (sR HO177.out) hb); replace HO180 := aS (Kd.R_below (sR HO180.out) hb); have BK181 := aS (hbox); have GW181 := aS (gW hg (sW HB.out)); have GE181 := aS (gW hg (sW HB.out)); replace HB := aS (below_step (sW HB.out) hb); have NB138_181 := aS (nL hg (sB BK138.out)); have NB181_138 := aS (nG hg (sB BK138.out)); replace BK138 := aS (blk_below (sB BK138.out) hb); clear hb hbox hg; have hnb69 := NB181_138.out; have hnc69 := NB138_181.out; obtain ⟨hcz70_0, hcz70_1, hfz70_0, hfz70_1⟩ := z2 BK181.out))
         go_loopg [14] k3 (fun kq v14 w' => ∃ (x14_4 : Int) (x182000_4 : List (S45)) (x182001_4 : List Int) (u182000 : Value) (u182001 : Value), v14 = .int .i64 x14_4 ∧ Aside0 (spec_LongestLine.l3 kq l0 a2 x9_3 x14_4 x182000_4 x182001_4 = some (r1, r2, r3)) ∧ Aside0 (kq ≤ k3) ∧ Aside0 (Kd.R k45 45 w' w.heap.size (fun k_ => some k_ ≠ (u182000 : Value).ownBlock) (.slice (some ad174) x9_3.length co61) x9_3) ∧ Aside0 (Kd.R k45 45 w' w.heap.size (fun k_ => some k_ ≠ ((.slice (some ad174) x9_3.length co61) : Value).ownBlock) u182000 x182000_4) ∧ Aside0 (Kd.R (Kd.int .i64) 2 w' w.heap.size (fun _ => True) u182001 x182001_4) ∧ Aside0 (w'.heap[gb138]? = some (.cells #[(.slice none 0 0), (.slice none 0 0)] 29 (0, 0))) ∧ Aside0 (w'.heap[gb181]? = some (.cells #[u182000, u182001] 29 (0, 0))) ∧ Aside0 (Below w.heap.size w w'))
         case atStart => exact ⟨(1), (y175), (y178), (.slice Ao67 y175.length co67), (.slice Ao66 y178.length co66), eV, H', ⟨Nat.le_refl _⟩, (aS (sR (Kd.R_mono (rG (g := gb181) (Kd.R_types HO_9.out BK181.out (by decide)) (fun _ hk => hk.2)) (fun _ hk => hk.1.2)))), (aS (sR (Kd.R_mono (rG (g := gb181) (Kd.R_types HO177.out BK181.out (by decide)) (fun _ hk => hk.2)) (fun _ hk => hk.1.2)))), (aS (sR (Kd.R_mono (rG (g := gb181) (Kd.R_types HO180.out BK181.out (by decide)) (fun _ hk => hk.2)) (fun _ hk => trivial)))), (aS (sF BK138.out NB138_181.out)), (aS (sB (put2 BK181.out))), (aS (sW HB.out))⟩
         case round =>
          clear H'
          (try clear hx1); (try clear hx14); (try clear hx15); (try clear hx16); (try clear hx17); (try clear hx147_0); (try clear hx147_1); (try clear hx148_0); (try clear hx148_1); (try clear hx149_0); (try clear hx149_1); (try clear hx150_0); (try clear hx150_1); (try clear hx163_0); (try clear hx163_1); (try clear hx174_0); (try clear hx174_1)
          obtain ⟨x14_4, x182000_4, x182001_4, u182000, u182001, rfl, HA, HK4, HO_9, HO_182000, HO_182001, BK138, BK181, HB⟩ := hrel
          cases gk with
          | zero => exact absurd HA.out (by simp [spec_LongestLine.l3])
          | succ k4 =>
           have H := HA.out
           clear HA
           simp only [spec_LongestLine.l3] at H
           replace H := iE H; rcases H with ⟨c71, H⟩ | ⟨c71, H⟩
           rotate_left
           ·
            have c71b0 := decide_eq_false c71
            clear c71
            simp only [Option.some.injEq, Prod.mk.injEq] at H
            obtain ⟨rfl, rfl, rfl⟩ := H
            have hnb116 := NB181_138.out
            have hnc116 := NB138_181.out
            obtain ⟨hcz117_0, hcz117_1, hfz117_0, hfz117_1⟩ := z2 BK181.out
            obtain ⟨Ao118, co118, eo118⟩ := Kd.R_slice HO_182000.out
            subst eo118
            obtain ⟨hcz119_0, hcz119_1, hfz119_0, hfz119_1⟩ := z2 BK138.out
            obtain ⟨Ao120, co120, eo120⟩ := Kd.R_slice HO_182001.out
            subst eo120
            go_wp2
            refine bodyPost_ret (results_ct rfl _ _ gb138 29 #[.slice Ao118 x182000_4.length co118, .slice Ao120 x182001_4.length co120] (0, 0) _ rfl (sB (put2 BK138.out)) Try.underlying29 rfl (by kernel_rfl)) rfl ?_
            exact ⟨_, _, eE, sR (Kd.R_mono (rG (g := gb138) (Kd.R_types HO_182000.out BK138.out (by decide)) (fun _ hk => hk.2)) (fun _ hk => trivial)), sR (Kd.R_mono (rG (g := gb138) (Kd.R_types HO_182001.out BK138.out (by decide)) (fun _ hk => hk.2)) (fun _ hk => trivial)), sW HB.out⟩
           have c71b0 := decide_eq_true c71
           clear c71
           obtain ⟨ji72, hji72⟩ : ∃ j_ : Int, (wrap64 ((x182000_4.length : Int) - 1)) = j_ := ⟨_, rfl⟩
           replace H : (if 0 ≤ (ji72) then (if (ji72) < (x182000_4.length : Int) then (if 0 ≤ x14_4 then ((spec_BestJoin.f k4 l0 ((rd_T45 x182000_4 (ji72)).f0) ((rd_T45 x182000_4 (ji72)).f1) ((rd_T45 x9_3 x14_4).f0) ((rd_T45 x9_3 x14_4).f1) a2).bind fun bt185 => (if bt185.2 = 0 then (if 0 ≤ bt185.1 then (if bt185.1 < (l0.length : Int) then (if ((rd_T61 l0 bt185.1).f2) < ((rd_T45 x9_3 x14_4).f1) then (if x182000_4.length < 8796093022208 then (if x182001_4.length < 17592186044416 then (spec_LongestLine.l3 k4 l0 a2 x9_3 (wrap64 (x14_4 + 1)) (x182000_4 ++ [(⟨(rd_T45 x9_3 x14_4).f0, (rd_T45 x9_3 x14_4).f1⟩ : S45)]) (x182001_4 ++ [bt185.1])) else (none)) else (none)) else (spec_LongestLine.l3 k4 l0 a2 x9_3 (wrap64 (x14_4 + 1)) x182000_4 x182001_4)) else (none)) else (none)) else (spec_LongestLine.l3 k4 l0 a2 x9_3 (wrap64 (x14_4 + 1)) x182000_4 x182001_4))) else (none)) else (none)) else (none)) = some (r1, r2, r3) := by first | (rw [hji72] at H; exact H) | (simp only [hji72] at H ⊢; exact H)
           have hji72w : (IntKind.i64.wrap ((x182000_4.length : Int) - 1)) = ji72 := (i64_w _).trans hji72
           replace H := iN H
           obtain ⟨c73, H⟩ := H
           have c73b0 := decide_eq_true c73
           clear c73
           replace H := iN H
           obtain ⟨c74, H⟩ := H
           have c74b0 := decide_eq_true c74
           clear c74
           replace H := iN H
           obtain ⟨c75, H⟩ := H
           have c75b0 := decide_eq_true c75
           clear c75
           replace H := Option.bind_eq_some_iff.mp H
           obtain ⟨⟨t185, t186⟩, A760, H⟩ := H
           replace H : (if t186 = 0 then (if 0 ≤ t185 then (if t185 < (l0.length : Int) then (if ((rd_T61 l0 t185).f2) < ((rd_T45 x9_3 x14_4).f1) then (if x182000_4.length < 8796093022208 then (if x182001_4.length < 17592186044416 then (spec_LongestLine.l3 k4 l0 a2 x9_3 (wrap64 (x14_4 + 1)) (x182000_4 ++ [(⟨(rd_T45 x9_3 x14_4).f0, (rd_T45 x9_3 x14_4).f1⟩ : S45)]) (x182001_4 ++ [t185])) else (none)) else (none)) else (spec_LongestLine.l3 k4 l0 a2 x9_3 (wrap64 (x14_4 + 1)) x182000_4 x182001_4)) else (none)) else (none)) else (spec_LongestLine.l3 k4 l0 a2 x9_3 (wrap64 (x14_4 + 1)) x182000_4 x182001_4)) = some (r1, r2, r3) := H
           have A76 := aS A760
           clear A760
           replace H := iE H; rcases H with ⟨c77, H⟩ | ⟨c77, H⟩
           rotate_left
           ·
            have c77b0 := beq_eq_false_iff_ne.mpr c77
            have c77b1 := bne_iff_ne.mpr c77
            have H' := aS H
            clear H
            have hnb105 := NB181_138.out
            have hnc105 := NB138_181.out
            obtain ⟨hcz106_0, hcz106_1, hfz106_0, hfz106_1⟩ := z2 BK181.out
            obtain ⟨Ao107, co107, eo107⟩ := Kd.R_slice HO_182000.out
            subst eo107
            have p182 : 0 ≤ ((ji72) : Int) := sD
            have q182 : (ji72) < (x182000_4.length : Int) := sD
            obtain ⟨ad182, e182, hx182_0, hx182_1⟩ := at_T45 (Kd.R_reads' HO_182000.out).2.2 (ji72) p182 q182
            cases e182
            replace p182 := eq_true p182
            replace q182 := eq_true q182
            try go_wp2_with (first | ((with_reducible refine gate_dst (N := 15) rfl ?_); refine bx 15 #[.int .i64 0, .int .i64 0] 45 ?_; intro gb183 hg w108 hbox hb; replace HO_9 := aS (Kd.R_below (Kd.R_elderB (sR HO_9.out) gb183 (Nat.le_of_eq hg.symm)) hb); replace HO_182000 := aS (Kd.R_below (Kd.R_elderB (sR HO_182000.out) gb183 (Nat.le_of_eq hg.symm)) hb); replace HO_182001 := aS (Kd.R_below (sR HO_182001.out) hb); have BK183 := aS (hbox); have GW183 := aS (gW hg (sW HB.out)); have GE183 := aS (gW hg (sW HB.out)); replace HB := aS (below_step (sW HB.out) hb); have NB138_183 := aS (nL hg (sB BK138.out)); have NB183_138 := aS (nG hg (sB BK138.out)); replace BK138 := aS (blk_below (sB BK138.out) hb); have NB181_183 := aS (nL hg (sB BK181.out)); have NB183_181 := aS (nG hg (sB BK181.out)); replace BK181 := aS (blk_below (sB BK181.out) hb); clear hb hbox hg; have hnb109 := NB183_138.out; have hnc109 := NB138_183.out; have hnb110 := NB183_181.out; have hnc110 := NB181_183.out; obtain ⟨hcz111_0, hcz111_1, hfz111_0, hfz111_1⟩ := z2 BK183.out))
            have n0_ : Aside0 (Kd.R k45 45 ((w108.setCell ⟨gb183, 0, none⟩ (.int .i64 ((rd_T45 x182000_4 (ji72)).f0))).setCell ⟨gb183, 1, none⟩ (.int .i64 ((rd_T45 x182000_4 (ji72)).f1))) w.heap.size (fun k_ => some k_ ≠ (.slice (some ad182) x182000_4.length co107 : Value).ownBlock ∧ k_ ≠ gb183) (.slice (some ad174) x9_3.length co61) x9_3) := (aS (sR (Kd.R_mono (rG (g := gb183) (Kd.R_mono HO_9.out (fun k_ hk => (⟨hk, hk.2⟩ : _ ∧ k_ ≠ gb183))) (fun _ hk => hk.2)) (fun _ hk => ⟨hk.1.1, hk.1.2⟩))))
            have n1_ : Aside0 (Kd.R k45 45 ((w108.setCell ⟨gb183, 0, none⟩ (.int .i64 ((rd_T45 x182000_4 (ji72)).f0))).setCell ⟨gb183, 1, none⟩ (.int .i64 ((rd_T45 x182000_4 (ji72)).f1))) w.heap.size (fun k_ => some k_ ≠ (.slice (some ad174) x9_3.length co61 : Value).ownBlock ∧ k_ ≠ gb183) (.slice (some ad182) x182000_4.length co107) x182000_4) := (aS (sR (Kd.R_mono (rG (g := gb183) (Kd.R_mono HO_182000.out (fun k_ hk => (⟨hk, hk.2⟩ : _ ∧ k_ ≠ gb183))) (fun _ hk => hk.2)) (fun _ hk => ⟨hk.1.1, hk.1.2⟩))))
            have n2_ : Aside0 (Kd.R (Kd.int .i64) 2 ((w108.setCell ⟨gb183, 0, none⟩ (.int .i64 ((rd_T45 x182000_4 (ji72)).f0))).setCell ⟨gb183, 1, none⟩ (.int .i64 ((rd_T45 x182000_4 (ji72)).f1))) w.heap.size (fun _ => True) u182001 x182001_4) := (aS (sR (Kd.R_mono (rG (g := gb183) (Kd.R_types HO_182001.out BK183.out (by decide)) (fun _ hk => hk.2)) (fun _ hk => trivial))))
            have n3_ : Aside0 (((w108.setCell ⟨gb183, 0, none⟩ (.int .i64 ((rd_T45 x182000_4 (ji72)).f0))).setCell ⟨gb183, 1, none⟩ (.int .i64 ((rd_T45 x182000_4 (ji72)).f1))).heap[gb138]? = some (.cells #[.slice none 0 0, .slice none 0 0] 29 (0, 0))) := (aS (sF BK138.out NB138_183.out))
            have n4_ : Aside0 (((w108.setCell ⟨gb183, 0, none⟩ (.int .i64 ((rd_T45 x182000_4 (ji72)).f0))).setCell ⟨gb183, 1, none⟩ (.int .i64 ((rd_T45 x182000_4 (ji72)).f1))).heap[gb181]? = some (.cells #[.slice (some ad182) x182000_4.length co107, u182001] 29 (0, 0))) := (aS (sF BK181.out NB181_183.out))
            have n5_ : Aside0 (((w108.setCell ⟨gb183, 0, none⟩ (.int .i64 ((rd_T45 x182000_4 (ji72)).f0))).setCell ⟨gb183, 1, none⟩ (.int .i64 ((rd_T45 x182000_4 (ji72)).f1))).heap[gb183]? = some (.cells #[.int .i64 ((rd_T45 x182000_4 (ji72)).f0), .int .i64 ((rd_T45 x182000_4 (ji72)).f1)] 45 (0, 0))) := (aS (sB (put2 BK183.out)))
            have n6_ : Aside0 (Below w.heap.size w ((w108.setCell ⟨gb183, 0, none⟩ (.int .i64 ((rd_T45 x182000_4 (ji72)).f0))).setCell ⟨gb183, 1, none⟩ (.int .i64 ((rd_T45 x182000_4 (ji72)).f1)))) := (aS (sW HB.out))
            generalize ((w108.setCell ⟨gb183, 0, none⟩ (.int .i64 ((rd_T45 x182000_4 (ji72)).f0))).setCell ⟨gb183, 1, none⟩ (.int .i64 ((rd_T45 x182000_4 (ji72)).f1))) = w112 at n0_ n1_ n2_ n3_ n4_ n5_ n6_ ⊢
            have HO_9 := n0_; have HO_182000 := n1_; have HO_182001 := n2_; have BK138 := n3_; have BK181 := n4_; have BK183 := n5_; have HB := n6_
            clear n0_ n1_ n2_ n3_ n4_ n5_ n6_
            replace HO_9 := aS (Kd.R_drew HO_9.out); replace HO_182000 := aS (Kd.R_drew HO_182000.out); replace HO_182001 := aS (Kd.R_drew HO_182001.out); replace BK138 := aS (blk_drew BK138.out); replace BK181 := aS (blk_drew BK181.out); replace BK183 := aS (blk_drew BK183.out); replace HB := aS (below_drew1 HB.out)
            have p184 : 0 ≤ (x14_4 : Int) := sD
            have q184 : x14_4 < (x9_3.length : Int) := sD
            obtain ⟨ad184, e184, hx184_0, hx184_1⟩ := at_T45 (Kd.R_reads' HO_9.out).2.2 x14_4 p184 q184
            obtain rfl : ad174 = ad184 := (by injection e184)
            replace p184 := eq_true p184
            replace q184 := eq_true q184
            refine start_ (n := 13) (S := fun w' => w'.cell? ⟨gb183, 0, none⟩ = some (.int .i64 ((rd_T45 x182000_4 (ji72)).f0)) ∧ w'.cell? ⟨gb183, 1, none⟩ = some (.int .i64 ((rd_T45 x182000_4 (ji72)).f1)) ∧ w'.cell? (ad174.add ((x14_4).toNat * 2)) = some (.int .i64 ((rd_T45 x9_3 x14_4).f0)) ∧ w'.cell? ⟨(ad174.add ((x14_4).toNat * 2)).block, (ad174.add ((x14_4).toNat * 2)).off + 1, none⟩ = some (.int .i64 ((rd_T45 x9_3 x14_4).f1))) (ds := []) _ (by kernel_rfl) rfl rfl ⟨bq BK183.out 0, bq BK183.out 1, hx184_0, hx184_1⟩ (fun hHeld => ?_); refine with_tabW spec_LongestLine.tab28 spec_LongestLine.bits28 (fun HT_ HW_ => ?_)
            generalize w112.drew = w113 at HO_9 HO_182000 HO_182001 BK138 BK181 BK183 HB hx184_0 hx184_1 hHeld ⊢
            refine pX 0 148 ?_; refine pX 2 150 ?_; refine pX 3 151 ?_; refine pX 4 152 ?_; refine pX 6 154 ?_; refine tX 1 149 ?_; refine tX 5 153 ?_
            refine oX 7 (some 155) fun K hK => ?_
            refine goes_ Try.func23 (by kernel_rfl) rfl #[.slice A0 l0.length c0, .agg #[.int .i64 ((rd_T45 x182000_4 (ji72)).f0), .int .i64 ((rd_T45 x182000_4 (ji72)).f1)], .agg #[.int .i64 ((rd_T45 x9_3 x14_4).f0), .int .i64 ((rd_T45 x9_3 x14_4).f1)], .int .i64 a2] (by rfl) rfl rfl (by (try simp only [List.map_toArray, List.map_cons, List.map_nil]); first | done | (simp only [hji72]; rfl) | rfl | (simp only [List.length_drop, List.length_take]; rfl)) ?_
            with_reducible refine (spec_BestJoin.calls k4 _ _ l0 ((rd_T45 x182000_4 (ji72)).f0) ((rd_T45 x182000_4 (ji72)).f1) ((rd_T45 x9_3 x14_4).f0) ((rd_T45 x9_3 x14_4).f1) a2 t185 t186 _ ?side1 ?side2 A76.out).mono ?_
            (case side1 => exact sC (Kd.C_below HR0.out HB.out))
            (case side2 => exact HC0.out)
            rintro e w114 ⟨rfl, hb⟩
            have HS2_ := (hb.cell (World.block_lt_of_cell? _ _ (hHeld.2.2.1))).trans (hHeld.2.2.1)
            have HS3_ := (hb.cell (World.block_lt_of_cell? _ _ (hHeld.2.2.2))).trans (hHeld.2.2.2)
            refine ⟨_, rfl, ?_⟩
            replace HO_9 := aS (Kd.R_below (sR HO_9.out) hb); replace HO_182000 := aS (Kd.R_below (sR HO_182000.out) hb); replace HO_182001 := aS (Kd.R_below (sR HO_182001.out) hb); replace BK138 := aS (blk_below (sB BK138.out) hb); replace BK181 := aS (blk_below (sB BK181.out) hb); replace BK183 := aS (blk_below (sB BK183.out) hb); replace HB := aS (below_step (sW HB.out) hb)
            refine hK.out _ _ ⟨bq BK183.out 0, bq BK183.out 1, HS2_, HS3_⟩ (fun hHeld => ?_)
            clear hK K
            refine nX 155 ?_
            refine pX 8 147 ?_; refine pX 9 156 ?_; refine pX 10 157 ?_; refine pX 11 16 ?_; refine pX 12 17 ?_
            refine dX ?_
            try go_wp2
            replace HO_9 := aS (Kd.R_drew HO_9.out); replace HO_182000 := aS (Kd.R_drew HO_182000.out); replace HO_182001 := aS (Kd.R_drew HO_182001.out); replace BK138 := aS (blk_drew BK138.out); replace BK181 := aS (blk_drew BK181.out); replace BK183 := aS (blk_drew BK183.out); replace HB := aS (below_drew1 HB.out)
            refine start_ (n := 15) (S := fun w' => True) (ds := []) _ (by kernel_rfl) rfl rfl trivial (fun hHeld => ?_); refine with_tabW spec_LongestLine.tab29 spec_LongestLine.bits29 (fun HT_ HW_ => ?_)
            generalize w114.drew = w115 at HO_9 HO_182000 HO_182001 BK138 BK181 BK183 HB hHeld ⊢
            refine pX 0 158 ?_; refine pX 1 159 ?_; refine pX 2 160 ?_; refine pU 3 161 ?_; refine pU 4 162 ?_; refine pU 5 163 ?_; refine pU 6 164 ?_; refine pU 7 165 ?_; refine pU 8 166 ?_; refine pU 9 167 ?_; refine pU 10 168 ?_; refine pU 11 169 ?_; refine pU 12 170 ?_; refine pU 13 171 ?_; refine pX 14 172 ?_
            refine dX ?_
            try go_wp2
            go_roundg k4
            case measure => have := HK1.out; have := HJ15.out; have := HK3.out; have := HK4.out; omega
            case rel => exact ⟨(wrap64 (x14_4 + 1)), (x182000_4), (x182001_4), (.slice (some ad182) x182000_4.length co107), (u182001), eV, H', ⟨by have := HK1.out; have := HJ15.out; have := HK3.out; have := HK4.out; omega⟩, (aS (sR (Kd.R_mono HO_9.out (fun _ hk => hk.1)))), (aS (sR (Kd.R_mono HO_182000.out (fun _ hk => hk.1)))), (aS (sR HO_182001.out)), (aS (sB BK138.out)), (aS (sB BK181.out)), (aS (sW HB.out))⟩
           have c77b0 := beq_iff_eq.mpr c77
           have c77b1 := bne_eq_false_iff_eq.mpr c77
           clear c77
           replace H := iN H
           obtain ⟨c78, H⟩ := H
           have c78b0 := decide_eq_true c78
           clear c78
           replace H := iN H
           obtain ⟨c79, H⟩ := H
           have c79b0 := decide_eq_true c79
           clear c79
           have HC80 := aS H
           clear H
           have hnb81 := NB181_138.out
           have hnc81 := NB138_181.out
           obtain ⟨hcz82_0, hcz82_1, hfz82_0, hfz82_1⟩ := z2 BK181.out
           obtain ⟨Ao83, co83, eo83⟩ := Kd.R_slice HO_182000.out
           subst eo83
           have p182 : 0 ≤ ((ji72) : Int) := sD
           have q182 : (ji72) < (x182000_4.length : Int) := sD
           obtain ⟨ad182, e182, hx182_0, hx182_1⟩ := at_T45 (Kd.R_reads' HO_182000.out).2.2 (ji72) p182 q182
           cases e182
           replace p182 := eq_true p182
           replace q182 := eq_true q182
           try go_wp2_with (first | ((with_reducible refine gate_dst (N := 15) rfl ?_); refine bx 15 #[.int .i64 0, .int .i64 0] 45 ?_; intro gb183 hg w84 hbox hb; replace HO_9 := aS (Kd.R_below (Kd.R_elderB (sR HO_9.out) gb183 (Nat.le_of_eq hg.symm)) hb); replace HO_182000 := aS (Kd.R_below (Kd.R_elderB (sR HO_182000.out) gb183 (Nat.le_of_eq hg.symm)) hb); replace HO_182001 := aS (Kd.R_below (sR HO_182001.out) hb); have BK183 := aS (hbox); have GW183 := aS (gW hg (sW HB.out)); have GE183 := aS (gW hg (sW HB.out)); replace HB := aS (below_step (sW HB.out) hb); have NB138_183 := aS (nL hg (sB BK138.out)); have NB183_138 := aS (nG hg (sB BK138.out)); replace BK138 := aS (blk_below (sB BK138.out) hb); have NB181_183 := aS (nL hg (sB BK181.out)); have NB183_181 := aS (nG hg (sB BK181.out)); replace BK181 := aS (blk_below (sB BK181.out) hb); clear hb hbox hg; have hnb85 := NB183_138.out; have hnc85 := NB138_183.out; have hnb86 := NB183_181.out; have hnc86 := NB181_183.out; obtain ⟨hcz87_0, hcz87_1, hfz87_0, hfz87_1⟩ := z2 BK183.out))
           have n0_ : Aside0 (Kd.R k45 45 ((w84.setCell ⟨gb183, 0, none⟩ (.int .i64 ((rd_T45 x182000_4 (ji72)).f0))).setCell ⟨gb183, 1, none⟩ (.int .i64 ((rd_T45 x182000_4 (ji72)).f1))) w.heap.size (fun k_ => some k_ ≠ (.slice (some ad182) x182000_4.length co83 : Value).ownBlock ∧ k_ ≠ gb183) (.slice (some ad174) x9_3.length co61) x9_3) := (aS (sR (Kd.R_mono (rG (g := gb183) (Kd.R_mono HO_9.out (fun k_ hk => (⟨hk, hk.2⟩ : _ ∧ k_ ≠ gb183))) (fun _ hk => hk.2)) (fun _ hk => ⟨hk.1.1, hk.1.2⟩))))
           have n1_ : Aside0 (Kd.R k45 45 ((w84.setCell ⟨gb183, 0, none⟩ (.int .i64 ((rd_T45 x182000_4 (ji72)).f0))).setCell ⟨gb183, 1, none⟩ (.int .i64 ((rd_T45 x182000_4 (ji72)).f1))) w.heap.size (fun k_ => some k_ ≠ (.slice (some ad174) x9_3.length co61 : Value).ownBlock ∧ k_ ≠ gb183) (.slice (some ad182) x182000_4.length co83) x182000_4) := (aS (sR (Kd.R_mono (rG (g := gb183) (Kd.R_mono HO_182000.out (fun k_ hk => (⟨hk, hk.2⟩ : _ ∧ k_ ≠ gb183))) (fun _ hk => hk.2)) (fun _ hk => ⟨hk.1.1, hk.1.2⟩))))
           have n2_ : Aside0 (Kd.R (Kd.int .i64) 2 ((w84.setCell ⟨gb183, 0, none⟩ (.int .i64 ((rd_T45 x182000_4 (ji72)).f0))).setCell ⟨gb183, 1, none⟩ (.int .i64 ((rd_T45 x182000_4 (ji72)).f1))) w.heap.size (fun _ => True) u182001 x182001_4) := (aS (sR (Kd.R_mono (rG (g := gb183) (Kd.R_types HO_182001.out BK183.out (by decide)) (fun _ hk => hk.2)) (fun _ hk => trivial))))
           have n3_ : Aside0 (((w84.setCell ⟨gb183, 0, none⟩ (.int .i64 ((rd_T45 x182000_4 (ji72)).f0))).setCell ⟨gb183, 1, none⟩ (.int .i64 ((rd_T45 x182000_4 (ji72)).f1))).heap[gb138]? = some (.cells #[.slice none 0 0, .slice none 0 0] 29 (0, 0))) := (aS (sF BK138.out NB138_183.out))
           have n4_ : Aside0 (((w84.setCell ⟨gb183, 0, none⟩ (.int .i64 ((rd_T45 x182000_4 (ji72)).f0))).setCell ⟨gb183, 1, none⟩ (.int .i64 ((rd_T45 x182000_4 (ji72)).f1))).heap[gb181]? = some (.cells #[.slice (some ad182) x182000_4.length co83, u182001] 29 (0, 0))) := (aS (sF BK181.out NB181_183.out))
           have n5_ : Aside0 (((w84.setCell ⟨gb183, 0, none⟩ (.int .i64 ((rd_T45 x182000_4 (ji72)).f0))).setCell ⟨gb183, 1, none⟩ (.int .i64 ((rd_T45 x182000_4 (ji72)).f1))).heap[gb183]? = some (.cells #[.int .i64 ((rd_T45 x182000_4 (ji72)).f0), .int .i64 ((rd_T45 x182000_4 (ji72)).f1)] 45 (0, 0))) := (aS (sB (put2 BK183.out)))
           have n6_ : Aside0 (Below w.heap.size w ((w84.setCell ⟨gb183, 0, none⟩ (.int .i64 ((rd_T45 x182000_4 (ji72)).f0))).setCell ⟨gb183, 1, none⟩ (.int .i64 ((rd_T45 x182000_4 (ji72)).f1)))) := (aS (sW HB.out))
           generalize ((w84.setCell ⟨gb183, 0, none⟩ (.int .i64 ((rd_T45 x182000_4 (ji72)).f0))).setCell ⟨gb183, 1, none⟩ (.int .i64 ((rd_T45 x182000_4 (ji72)).f1))) = w88 at n0_ n1_ n2_ n3_ n4_ n5_ n6_ ⊢
           have HO_9 := n0_; have HO_182000 := n1_; have HO_182001 := n2_; have BK138 := n3_; have BK181 := n4_; have BK183 := n5_; have HB := n6_
           clear n0_ n1_ n2_ n3_ n4_ n5_ n6_
           replace HO_9 := aS (Kd.R_drew HO_9.out); replace HO_182000 := aS (Kd.R_drew HO_182000.out); replace HO_182001 := aS (Kd.R_drew HO_182001.out); replace BK138 := aS (blk_drew BK138.out); replace BK181 := aS (blk_drew BK181.out); replace BK183 := aS (blk_drew BK183.out); replace HB := aS (below_drew1 HB.out)
           have p184 : 0 ≤ (x14_4 : Int) := sD
           have q184 : x14_4 < (x9_3.length : Int) := sD
           obtain ⟨ad184, e184, hx184_0, hx184_1⟩ := at_T45 (Kd.R_reads' HO_9.out).2.2 x14_4 p184 q184
           obtain rfl : ad174 = ad184 := (by injection e184)
           replace p184 := eq_true p184
           replace q184 := eq_true q184
           refine start_ (n := 13) (S := fun w' => w'.cell? ⟨gb183, 0, none⟩ = some (.int .i64 ((rd_T45 x182000_4 (ji72)).f0)) ∧ w'.cell? ⟨gb183, 1, none⟩ = some (.int .i64 ((rd_T45 x182000_4 (ji72)).f1)) ∧ w'.cell? (ad174.add ((x14_4).toNat * 2)) = some (.int .i64 ((rd_T45 x9_3 x14_4).f0)) ∧ w'.cell? ⟨(ad174.add ((x14_4).toNat * 2)).block, (ad174.add ((x14_4).toNat * 2)).off + 1, none⟩ = some (.int .i64 ((rd_T45 x9_3 x14_4).f1))) (ds := []) _ (by kernel_rfl) rfl rfl ⟨bq BK183.out 0, bq BK183.out 1, hx184_0, hx184_1⟩ (fun hHeld => ?_); refine with_tabW spec_LongestLine.tab28 spec_LongestLine.bits28 (fun HT_ HW_ => ?_)
           generalize w88.drew = w89 at HO_9 HO_182000 HO_182001 BK138 BK181 BK183 HB hx184_0 hx184_1 hHeld ⊢
           refine pX 0 148 ?_; refine pX 2 150 ?_; refine pX 3 151 ?_; refine pX 4 152 ?_; refine pX 6 154 ?_; refine tX 1 149 ?_; refine tX 5 153 ?_
           refine oX 7 (some 155) fun K hK => ?_
           refine goes_ Try.func23 (by kernel_rfl) rfl #[.slice A0 l0.length c0, .agg #[.int .i64 ((rd_T45 x182000_4 (ji72)).f0), .int .i64 ((rd_T45 x182000_4 (ji72)).f1)], .agg #[.int .i64 ((rd_T45 x9_3 x14_4).f0), .int .i64 ((rd_T45 x9_3 x14_4).f1)], .int .i64 a2] (by rfl) rfl rfl (by (try simp only [List.map_toArray, List.map_cons, List.map_nil]); first | done | (simp only [hji72]; rfl) | rfl | (simp only [List.length_drop, List.length_take]; rfl)) ?_
           with_reducible refine (spec_BestJoin.calls k4 _ _ l0 ((rd_T45 x182000_4 (ji72)).f0) ((rd_T45 x182000_4 (ji72)).f1) ((rd_T45 x9_3 x14_4).f0) ((rd_T45 x9_3 x14_4).f1) a2 t185 t186 _ ?side1 ?side2 A76.out).mono ?_
           (case side1 => exact sC (Kd.C_below HR0.out HB.out))
           (case side2 => exact HC0.out)
           rintro e w90 ⟨rfl, hb⟩
           have HS2_ := (hb.cell (World.block_lt_of_cell? _ _ (hHeld.2.2.1))).trans (hHeld.2.2.1)
           have HS3_ := (hb.cell (World.block_lt_of_cell? _ _ (hHeld.2.2.2))).trans (hHeld.2.2.2)
           refine ⟨_, rfl, ?_⟩
           replace HO_9 := aS (Kd.R_below (sR HO_9.out) hb); replace HO_182000 := aS (Kd.R_below (sR HO_182000.out) hb); replace HO_182001 := aS (Kd.R_below (sR HO_182001.out) hb); replace BK138 := aS (blk_below (sB BK138.out) hb); replace BK181 := aS (blk_below (sB BK181.out) hb); replace BK183 := aS (blk_below (sB BK183.out) hb); replace HB := aS (below_step (sW HB.out) hb)
           refine hK.out _ _ ⟨bq BK183.out 0, bq BK183.out 1, HS2_, HS3_⟩ (fun hHeld => ?_)
           clear hK K
           refine nX 155 ?_
           refine pX 8 147 ?_; refine pX 9 156 ?_; refine pX 10 157 ?_; refine pX 11 16 ?_; refine pX 12 17 ?_
           refine dX ?_
           try go_wp2
           replace HO_9 := aS (Kd.R_drew HO_9.out); replace HO_182000 := aS (Kd.R_drew HO_182000.out); replace HO_182001 := aS (Kd.R_drew HO_182001.out); replace BK138 := aS (blk_drew BK138.out); replace BK181 := aS (blk_drew BK181.out); replace BK183 := aS (blk_drew BK183.out); replace HB := aS (below_drew1 HB.out)
           have p187 : 0 ≤ (t185 : Int) := sD
           have q187 : t185 < (l0.length : Int) := sD
           obtain ⟨ad187, e187, hx187_0, hx187_1, hx187_2⟩ := at_T61 HR0.out t185 p187 q187
           have hw187_2 := hx187_2
           have hw187_1 := hx187_1
           have hw187_0 := hx187_0
           cases e187
           replace hx187_0 := bC HB.out hx187_0
           replace hx187_1 := bC HB.out hx187_1
           replace hx187_2 := bC HB.out hx187_2
           replace p187 := eq_true p187
           replace q187 := eq_true q187
           have p188 : 0 ≤ (x14_4 : Int) := sD
           have q188 : x14_4 < (x9_3.length : Int) := sD
           obtain ⟨ad188, e188, hx188_0, hx188_1⟩ := at_T45 (Kd.R_reads' HO_9.out).2.2 x14_4 p188 q188
           obtain rfl : ad174 = ad188 := (by injection e188)
           replace p188 := eq_true p188
           replace q188 := eq_true q188
           refine start_ (n := 15) (S := fun w' => w'.cell? (ad187.add ((t185).toNat * 3)) = some (.string ((rd_T61 l0 t185).f0)) ∧ w'.cell? ⟨(ad187.add ((t185).toNat * 3)).block, (ad187.add ((t185).toNat * 3)).off + 1, none⟩ = some (.int .i64 ((rd_T61 l0 t185).f1)) ∧ w'.cell? ⟨(ad187.add ((t185).toNat * 3)).block, (ad187.add ((t185).toNat * 3)).off + 2, none⟩ = some (.int .i64 ((rd_T61 l0 t185).f2)) ∧ w'.cell? (ad174.add ((x14_4).toNat * 2)) = some (.int .i64 ((rd_T45 x9_3 x14_4).f0)) ∧ w'.cell? ⟨(ad174.add ((x14_4).toNat * 2)).block, (ad174.add ((x14_4).toNat * 2)).off + 1, none⟩ = some (.int .i64 ((rd_T45 x9_3 x14_4).f1))) (ds := []) _ (by kernel_rfl) rfl rfl ⟨((HB.out.cell (World.block_lt_of_cell? w _ hw187_0)).trans hw187_0), ((HB.out.cell (World.block_lt_of_cell? w _ hw187_1)).trans hw187_1), ((HB.out.cell (World.block_lt_of_cell? w _ hw187_2)).trans hw187_2), hx188_0, hx188_1⟩ (fun hHeld => ?_); refine with_tabW spec_LongestLine.tab29 spec_LongestLine.bits29 (fun HT_ HW_ => ?_)
           generalize w90.drew = w91 at HO_9 HO_182000 HO_182001 BK138 BK181 BK183 HB hx187_0 hx187_1 hx187_2 hx188_0 hx188_1 hHeld ⊢
           refine pX 0 158 ?_; refine pX 1 159 ?_; refine pX 2 160 ?_; refine pX 3 161 ?_; refine pX 4 162 ?_; refine pX 5 163 ?_; refine pX 6 164 ?_; refine pX 8 166 ?_; refine pX 9 167 ?_; refine pX 10 168 ?_; refine pX 11 169 ?_; refine tX 7 165 ?_; refine tX 12 170 ?_; refine pX 13 171 ?_; refine pX 14 172 ?_
           refine dX ?_
           go_upto_if 172 with (fail)
           have H := HC80.out
           clear HC80
           replace H := iE H; rcases H with ⟨c92, H⟩ | ⟨c92, H⟩
           rotate_left
           ·
            have c92b0 := decide_eq_false c92
            clear c92
            (first | rw [c92b0] | (simp only [i64_w, i32_w]; rw [c92b0]) | (rw [c92b2]; simp only [Bool.not_false, Bool.not_true]) | skip)
            have H' := aS H
            clear H
            go_wp2
            go_roundg k4
            case measure => have := HK1.out; have := HJ15.out; have := HK3.out; have := HK4.out; omega
            case rel => exact ⟨(wrap64 (x14_4 + 1)), (x182000_4), (x182001_4), (.slice (some ad182) x182000_4.length co83), (u182001), eV, H', ⟨by have := HK1.out; have := HJ15.out; have := HK3.out; have := HK4.out; omega⟩, (aS (sR (Kd.R_mono HO_9.out (fun _ hk => hk.1)))), (aS (sR (Kd.R_mono HO_182000.out (fun _ hk => hk.1)))), (aS (sR HO_182001.out)), (aS (sB BK138.out)), (aS (sB BK181.out)), (aS (sW HB.out))⟩
           have c92b0 := decide_eq_true c92
           clear c92
           (first | rw [c92b0] | (simp only [i64_w, i32_w]; rw [c92b0]) | (rw [c92b2]; simp only [Bool.not_false, Bool.not_true]) | skip)
           replace H := iN H
           obtain ⟨c93, H⟩ := H
           have LMc93 := aS c93
           clear c93
           obtain ⟨y190, hy190⟩ : ∃ y_ : List (S45), y_ = (x182000_4 ++ [(⟨(rd_T45 x9_3 x14_4).f0, (rd_T45 x9_3 x14_4).f1⟩ : S45)]) := ⟨_, rfl⟩
           replace H : (if x182001_4.length < 17592186044416 then (spec_LongestLine.l3 k4 l0 a2 x9_3 (wrap64 (x14_4 + 1)) y190 (x182001_4 ++ [t185])) else (none)) = some (r1, r2, r3) := by first | (rw [hy190]; with_reducible exact H) | (have H2_ := (Option.bind_some _ _).symm.trans H; rw [hy190]; with_reducible exact H2_) | (have H2_ := (Option.bind_some _ _).symm.trans H; with_reducible exact H2_) | with_reducible exact H | (rw [hy190]; exact H) | exact H
           have Ny190 := aS hy190
           clear hy190
           replace H := iN H
           obtain ⟨c94, H⟩ := H
           have LMc94 := aS c94
           clear c94
           obtain ⟨y193, hy193⟩ : ∃ y_ : List Int, y_ = (x182001_4 ++ [t185]) := ⟨_, rfl⟩
           replace H : (spec_LongestLine.l3 k4 l0 a2 x9_3 (wrap64 (x14_4 + 1)) y190 y193) = some (r1, r2, r3) := by first | (rw [hy193]; with_reducible exact H) | (have H2_ := (Option.bind_some _ _).symm.trans H; rw [hy193]; with_reducible exact H2_) | (have H2_ := (Option.bind_some _ _).symm.trans H; with_reducible exact H2_) | with_reducible exact H | (rw [hy193]; exact H) | exact H
           have Ny193 := aS hy193
           clear hy193
           have H' := aS H
           clear H
           try go_wp2
           replace HO_9 := aS (Kd.R_drew HO_9.out); replace HO_182000 := aS (Kd.R_drew HO_182000.out); replace HO_182001 := aS (Kd.R_drew HO_182001.out); replace BK138 := aS (blk_drew BK138.out); replace BK181 := aS (blk_drew BK181.out); replace BK183 := aS (blk_drew BK183.out); replace HB := aS (below_drew1 HB.out)
           have p189 : 0 ≤ (x14_4 : Int) := sD
           have q189 : x14_4 < (x9_3.length : Int) := sD
           obtain ⟨ad189, e189, hx189_0, hx189_1⟩ := at_T45 (Kd.R_reads' HO_9.out).2.2 x14_4 p189 q189
           obtain rfl : ad174 = ad189 := (by injection e189)
           replace p189 := eq_true p189
           replace q189 := eq_true q189
           refine start_ (n := 10) (S := fun w' => w'.cell? ⟨gb181, 0, none⟩ = some (.slice (some ad182) x182000_4.length co83) ∧ w'.cell? ⟨gb181, 1, none⟩ = some (u182001) ∧ w'.cell? (ad174.add ((x14_4).toNat * 2)) = some (.int .i64 ((rd_T45 x9_3 x14_4).f0)) ∧ w'.cell? ⟨(ad174.add ((x14_4).toNat * 2)).block, (ad174.add ((x14_4).toNat * 2)).off + 1, none⟩ = some (.int .i64 ((rd_T45 x9_3 x14_4).f1))) (ds := [7, 9]) _ (by kernel_rfl) rfl rfl ⟨bq BK181.out 0, bq BK181.out 1, hx189_0, hx189_1⟩ (fun hHeld => ?_); refine with_tabW spec_LongestLine.tab30 spec_LongestLine.bits30 (fun HT_ HW_ => ?_)
           generalize w91.drew = w95 at HO_9 HO_182000 HO_182001 BK138 BK181 BK183 HB hx189_0 hx189_1 hHeld ⊢
           refine pX 0 173 ?_; refine pX 2 175 ?_; refine pX 3 176 ?_; refine pX 4 177 ?_; refine tX 1 174 ?_; refine tX 5 178 ?_
           refine oX 6 (some 179) fun K hK => ?_
           refine value_ (w1 := ?_) (v := ?_) (by rfl) rfl ?_ ?_
           rotate_left 2
           ·
            go_simp
            constructor
            ·
             rfl
            ·
             rfl
           refine hK.out _ _ ⟨bq (blk_alloc BK181.out _) 0, bq (blk_alloc BK181.out _) 1, (World.cell?_alloc_lt _ _ _ (World.block_lt_of_cell? _ _ (hHeld.2.2.1))).trans (hHeld.2.2.1), (World.cell?_alloc_lt _ _ _ (World.block_lt_of_cell? _ _ (hHeld.2.2.2))).trans (hHeld.2.2.2)⟩ (fun hHeld => ?_)
           clear hK K
           refine nX 179 ?_
           refine lX 7 (some 180) fun K hK => ?_
           refine Kd.R_append_step k45 (w0 := w) w.heap.size (by rfl) (.tmp 174) (.tmp 179) 26 45 (.agg #[(.int .i64 0), (.int .i64 0)]) 16 rfl Try.underlying26 info45 rfl (by decide) (by omega) (.slice (some ad182) x182000_4.length co83) x182000_4 (⟨(rd_T45 x9_3 x14_4).f0, (rd_T45 x9_3 x14_4).f1⟩ : S45) [.int .i64 ((rd_T45 x9_3 x14_4).f0), .int .i64 ((rd_T45 x9_3 x14_4).f1)] (fun k_ => some k_ ≠ (.slice (some ad174) x9_3.length co61 : Value).ownBlock ∧ k_ ≠ gb183) (fun _ => False) rfl rfl ?aP (fun _ hk => hk.elim) ?aF ?aO ?aB ?aS ?aL ?_
           (case aP => exact k45_mkM _ _ _ (⟨(rd_T45 x9_3 x14_4).f0, (rd_T45 x9_3 x14_4).f1⟩ : S45))
           (case aB => exact (sW HB.out))
           (case aF => exact (fun k_ hk => ⟨Kd.fresh' (Kd.R_lt (sR HO_9.out)) k_ hk, Kd.freshB (g := gb183) (o := .cells #[.int .i64 ((rd_T45 x182000_4 (ji72)).f0), .int .i64 ((rd_T45 x182000_4 (ji72)).f1)] 45 (0, 0)) (sB BK183.out) k_ hk⟩))
           (case aO => exact (sR HO_182000.out))
           (case aS => exact (below_size (sW HB.out)))
           (case aL => have := LMc93.out; omega)
           intro v191 w96 ho hb hg hat
           rw [← Ny190.out] at ho
           replace HO_9 := aS (Kd.R_after (ok := (fun k_ => k_ ≠ gb183)) (sR (Kd.R_mono HO_9.out (fun _ hk => ⟨hk.2, hk.1⟩))) hg hat); replace HO_182001 := aS (Kd.R_over' (sR HO_182001.out) (Kd.R_typed (sR HO_182000.out)) (by decide) hg); replace BK138 := aS (blk_grown (sB BK138.out) hg (Kd.R_ne HO_182000.out BK138.out (by decide))); replace BK181 := aS (blk_grown (sB BK181.out) hg (Kd.R_ne HO_182000.out BK181.out (by decide))); replace BK183 := aS (blk_grown (sB BK183.out) hg (Kd.R_away HO_182000.out (fun _ hk => hk.2))); replace HB := aS (hb); have HO192 := aS (ho); clear HO_182000
           clear ho hb hg hat
           obtain ⟨Ao97, co97, eo97⟩ := Kd.R_slice HO192.out
           (first | subst eo97 | (injection eo97 with f1_ f2_ f3_; have f4_ := f1_.symm; have f5_ := f3_.symm; clear f1_ f2_ f3_; subst f4_; subst f5_))
           refine hK.out _ _ ?_
           clear hK K
           refine nX 180 ?_
           refine pX 8 181 ?_
           refine lX 9 none fun K hK => ?_
           have hs98 : w96.cell? ⟨gb181, 0, none⟩ = some (.slice (some ad182) x182000_4.length co83) := bq BK181.out 0
           have hfs98 := blk_frozen BK181.out 0
           have hns98_0 := NB138_181.out
           have hns98_2 := NB183_181.out
           have hms98_0 := NB181_138.out
           have hms98_2 := NB181_183.out
           refine skip_ (w1 := ?_) (by rfl) rfl ?_ ?_
           rotate_left
           ·
            go_simp
            rfl
           refine hK.out _ _ ?_
           clear hK K
           refine dX ?_
           have hnb99 := NB181_138.out
           have hnc99 := NB138_181.out
           have hnb100 := NB181_183.out
           have hnc100 := NB183_181.out
           obtain ⟨hcz101_0, hcz101_1, hfz101_0, hfz101_1⟩ := z2 BK181.out
           try go_wp2_with (first | ((with_reducible refine gate_builtin (b := .append) (xs := #[.tmp 183, .tmp 185]) rfl ?_); at_builtin; refine Kd.R_append (Kd.int .i64) (w0 := w) w.heap.size rfl (.tmp 183) (.tmp 185) 27 2 (.int .i64 0) 8 rfl Try.underlying27 info2 rfl (by decide) (by omega) u182001 x182001_4 t185 [.int .i64 t185] (fun _ => True) (fun _ => False) rfl (by first | (go_simp; done) | (go_simp; rfl)) ?aP (fun _ hk => hk.elim) ?aF ?aO ?aB ?aS ?aL ?_; (case aP => exact rfl); (case aB => exact (sW HB.out)); (case aF => exact (fun _ _ => trivial)); (case aO => exact (sR (Kd.R_mono (Kd.R_far (p := ⟨gb181, 0, none⟩) (Kd.R_types HO_182001.out BK181.out (by decide)) (fun _ hk => hk.2) (.slice Ao97 y190.length co97)) (fun _ hk => trivial)))); (case aS => exact (below_size (sW HB.out))); (case aL => have := LMc94.out; omega); intro v194 w102 ho hb hg hat; rw [← Ny193.out] at ho; replace HO_9 := aS (Kd.R_over' (sR (Kd.R_mono (Kd.R_far (p := ⟨gb181, 0, none⟩) (Kd.R_types HO_9.out BK181.out (by decide)) (fun _ hk => hk.2) (.slice Ao97 y190.length co97)) (fun _ h_ => h_.1))) (Kd.R_typed (sR (Kd.R_mono (Kd.R_far (p := ⟨gb181, 0, none⟩) (Kd.R_types HO_182001.out BK181.out (by decide)) (fun _ hk => hk.2) (.slice Ao97 y190.length co97)) (fun _ h_ => h_.1)))) (by decide) hg); replace BK138 := aS (blk_grown (sF BK138.out NB138_181.out) hg (Kd.R_ne HO_182001.out BK138.out (by decide))); replace BK183 := aS (blk_grown (sF BK183.out NB183_181.out) hg (Kd.R_ne HO_182001.out BK183.out (by decide))); replace HO192 := aS (Kd.R_over' (sR (Kd.R_mono (Kd.R_far (p := ⟨gb181, 0, none⟩) (Kd.R_types HO192.out BK181.out (by decide)) (fun _ hk => hk.2) (.slice Ao97 y190.length co97)) (fun _ h_ => h_.1))) (Kd.R_typed (sR (Kd.R_mono (Kd.R_far (p := ⟨gb181, 0, none⟩) (Kd.R_types HO_182001.out BK181.out (by decide)) (fun _ hk => hk.2) (.slice Ao97 y190.length co97)) (fun _ h_ => h_.1)))) (by decide) hg); replace BK181 := aS (blk_grown (g := gb181) (o := .cells #[.slice Ao97 y190.length co97, u182001] 29 (0, 0)) (by exact sZ BK181.out) hg (Kd.R_ne HO_182001.out BK181.out (by decide))); replace HB := aS (hb); have HO195 := aS (ho); clear HO_182001; clear ho hb hg hat; obtain ⟨Ao103, co103, eo103⟩ := Kd.R_slice HO195.out; subst eo103; obtain ⟨hcz104_0, hcz104_1, hfz104_0, hfz104_1⟩ := z2 BK181.out))
           go_roundg k4
           case measure => have := HK1.out; have := HJ15.out; have := HK3.out; have := HK4.out; omega
           case rel => exact ⟨(wrap64 (x14_4 + 1)), (y190), (y193), (.slice Ao97 y190.length co97), (.slice Ao103 y193.length co103), eV, H', ⟨by have := HK1.out; have := HJ15.out; have := HK3.out; have := HK4.out; omega⟩, (aS (sR (Kd.R_mono (Kd.R_far (p := ⟨gb181, 1, none⟩) (Kd.R_types HO_9.out BK181.out (by decide)) (fun _ hk => hk.2) (.slice Ao103 y193.length co103)) (fun _ hk => hk.1.2)))), (aS (sR (Kd.R_mono (Kd.R_far (p := ⟨gb181, 1, none⟩) (Kd.R_types HO192.out BK181.out (by decide)) (fun _ hk => hk.2) (.slice Ao103 y193.length co103)) (fun _ hk => hk.1.1)))), (aS (sR (Kd.R_mono (Kd.R_far (p := ⟨gb181, 1, none⟩) (Kd.R_types HO195.out BK181.out (by decide)) (fun _ hk => hk.2) (.slice Ao103 y193.length co103)) (fun _ hk => trivial)))), (aS (sF BK138.out NB138_181.out)), (aS (sZ BK181.out)), (aS (sW HB.out))⟩
        have c23b0 := decide_eq_true c23
        clear c23
        replace H := iN H
        obtain ⟨c24, H⟩ := H
        have c24b0 := decide_eq_true c24
        clear c24
        replace H := iE H; rcases H with ⟨c25, H⟩ | ⟨c25, H⟩
        ·
         have c25b0 := decide_eq_true c25
         clear c25
         have H' := aS H
         clear H
         have p146 : 0 ≤ (x10_3 : Int) := sD
         have q146 : x10_3 < (l1.length : Int) := sD
         obtain ⟨ad146, e146, hx146_0, hx146_1⟩ := at_T45 HR1.out x10_3 p146 q146
         cases e146
         replace hx146_0 := bC HB.out hx146_0
         replace hx146_1 := bC HB.out hx146_1
         replace p146 := eq_true p146
         replace q146 := eq_true q146
         go_wp2
         go_roundg k3
         case measure => have := HK1.out; have := HJ15.out; have := HK3.out; omega
         case rel => exact ⟨(x9_3), (wrap64 (x10_3 + 1)), eV, H', ⟨by have := HK1.out; have := HJ15.out; have := HK3.out; omega⟩, (aS (sR HO_9.out)), (aS (sB BK138.out)), (aS (sW HB.out))⟩
        have c25b0 := decide_eq_false c25
        clear c25
        have H' := aS H
        clear H
        have p146 : 0 ≤ (x10_3 : Int) := sD
        have q146 : x10_3 < (l1.length : Int) := sD
        obtain ⟨ad146, e146, hx146_0, hx146_1⟩ := at_T45 HR1.out x10_3 p146 q146
        cases e146
        replace hx146_0 := bC HB.out hx146_0
        replace hx146_1 := bC HB.out hx146_1
        replace p146 := eq_true p146
        replace q146 := eq_true q146
        obtain ⟨Ao26, co26, eo26⟩ := Kd.R_slice HO_9.out
        subst eo26
        go_wp2
        go_loopg [11] k3 (fun kq v11 w' => ∃ (x11_4 : Int), v11 = .int .i64 x11_4 ∧ Aside0 (spec_LongestLine.l2 kq l0 l1 a2 x9_3 x10_3 x11_4 = some (r1, r2, r3)) ∧ Aside0 (kq ≤ k3) ∧ Aside0 (Kd.R k45 45 w' w.heap.size (fun _ => True) (.slice Ao26 x9_3.length co26) x9_3) ∧ Aside0 (w'.heap[gb138]? = some (.cells #[(.slice none 0 0), (.slice none 0 0)] 29 (0, 0))) ∧ Aside0 (Below w.heap.size w w'))
        case atStart => exact ⟨((x9_3.length : Int)), eV, H', ⟨Nat.le_refl _⟩, (aS (sR HO_9.out)), (aS (sB BK138.out)), (aS (sW HB.out))⟩
        case round =>
         clear H'
         (try clear hx1); (try clear hx14); (try clear hx140_0); (try clear hx140_1); (try clear hx146_0); (try clear hx146_1)
         obtain ⟨x11_4, rfl, HA, HK4, HO_9, BK138, HB⟩ := hrel
         cases gk with
         | zero => exact absurd HA.out (by simp [spec_LongestLine.l2])
         | succ k4 =>
          have H := HA.out
          clear HA
          simp only [spec_LongestLine.l2] at H
          have HC27 := aS H
          clear H
          go_upto_region 16 with (fail)
          go_cut [103] (fun v103 wc => ∃ (kq : Nat) (x103_26 : Bool), v103 = .bool x103_26 ∧ Aside0 (spec_LongestLine.j4 kq l0 l1 a2 x9_3 x10_3 x11_4 x103_26 = some (r1, r2, r3)) ∧ Aside0 (kq ≤ k4) ∧ Aside0 (Kd.R k45 45 wc w.heap.size (fun _ => True) (.slice Ao26 x9_3.length co26) x9_3) ∧ Aside0 (wc.heap[gb138]? = some (.cells #[(.slice none 0 0), (.slice none 0 0)] 29 (0, 0))) ∧ Aside0 (Below w.heap.size w wc))
          case first =>
           have H := HC27.out
           clear HC27
           replace H := iE H; rcases H with ⟨c28, H⟩ | ⟨c28, H⟩
           rotate_left
           ·
            have c28b0 : decide (0 < x11_4) = false := decide_eq_false c28
            clear c28
            (first | rw [c28b0] | (simp only [i64_w, i32_w]; rw [c28b0]) | (rw [c28b2]; simp only [Bool.not_false, Bool.not_true]) | skip)
            have H' := aS H
            clear H
            try go_wp2
            replace HO_9 := aS (Kd.R_drew HO_9.out); replace BK138 := aS (blk_drew BK138.out); replace HB := aS (below_drew1 HB.out)
            refine start_ (n := 44) (S := fun w' => True) (ds := []) _ (by kernel_rfl) rfl rfl trivial (fun hHeld => ?_); refine with_tabW spec_LongestLine.tab16 spec_LongestLine.bits16 (fun HT_ HW_ => ?_)
            generalize wr.drew = w39 at HO_9 BK138 HB hHeld ⊢
            refine pX 0 60 ?_; refine pX 1 61 ?_; refine pX 2 62 ?_; refine pU 3 63 ?_; refine pU 4 64 ?_; refine pU 5 65 ?_; refine pU 6 66 ?_; refine pU 7 67 ?_; refine pU 8 68 ?_; refine pU 9 69 ?_; refine pU 10 70 ?_; refine pU 11 71 ?_; refine pU 12 72 ?_; refine pU 13 73 ?_; refine pU 14 74 ?_; refine pU 15 75 ?_; refine pU 16 76 ?_; refine pU 17 77 ?_; refine pU 18 78 ?_; refine pU 19 79 ?_; refine pU 20 80 ?_; refine pU 21 81 ?_; refine pU 22 82 ?_; refine pU 23 83 ?_; refine pU 24 84 ?_; refine pU 25 85 ?_; refine pU 26 86 ?_; refine pU 27 87 ?_; refine pU 28 88 ?_; refine pU 29 89 ?_; refine pU 30 90 ?_; refine pU 31 91 ?_; refine pU 32 92 ?_; refine pU 33 93 ?_; refine pU 34 94 ?_; refine pU 35 95 ?_; refine pU 36 96 ?_; refine pU 37 97 ?_; refine pU 38 98 ?_; refine pU 39 99 ?_; refine pU 40 100 ?_; refine pU 41 101 ?_; refine pU 42 102 ?_; refine pX 43 103 ?_
            refine dX ?_
            try go_wp2
            go_meet
            case rel => exact ⟨_, (false), eV, H', ⟨by have := HK1.out; have := HJ15.out; have := HK3.out; have := HK4.out; first | omega | exact Nat.le_refl _⟩, (aS (sR HO_9.out)), (aS (sB BK138.out)), (aS (sW HB.out))⟩
           have c28b0 : decide (0 < x11_4) = true := decide_eq_true c28
           clear c28
           (first | rw [c28b0] | (simp only [i64_w, i32_w]; rw [c28b0]) | (rw [c28b2]; simp only [Bool.not_false, Bool.not_true]) | skip)
           obtain ⟨ji29, hji29⟩ : ∃ j_ : Int, (wrap64 (x11_4 - 1)) = j_ := ⟨_, rfl⟩
           replace H : (if 0 ≤ (ji29) then (if (ji29) < (x9_3.length : Int) then (if 0 ≤ x10_3 then (if x10_3 < (l1.length : Int) then (if ((rd_T45 x9_3 (ji29)).f0) < ((rd_T45 l1 x10_3).f0) then (spec_LongestLine.j4 k4 l0 l1 a2 x9_3 x10_3 x11_4 true) else (if ((rd_T45 x9_3 (ji29)).f0) = ((rd_T45 l1 x10_3).f0) then (spec_LongestLine.j4 k4 l0 l1 a2 x9_3 x10_3 x11_4 (decide (((rd_T45 x9_3 (ji29)).f1) < ((rd_T45 l1 x10_3).f1)))) else (spec_LongestLine.j4 k4 l0 l1 a2 x9_3 x10_3 x11_4 false))) else (none)) else (none)) else (none)) else (none)) = some (r1, r2, r3) := by first | (rw [hji29] at H; exact H) | (simp only [hji29] at H ⊢; exact H)
           have hji29w : (IntKind.i64.wrap (x11_4 - 1)) = ji29 := (i64_w _).trans hji29
           replace H := iN H
           obtain ⟨c30, H⟩ := H
           have c30b0 := decide_eq_true c30
           clear c30
           replace H := iN H
           obtain ⟨c31, H⟩ := H
           have c31b0 := decide_eq_true c31
           clear c31
           replace H := iN H
           obtain ⟨c32, H⟩ := H
           have c32b0 := decide_eq_true c32
           clear c32
           replace H := iN H
           obtain ⟨c33, H⟩ := H
           have c33b0 := decide_eq_true c33
           clear c33
           replace H := iE H; rcases H with ⟨c34, H⟩ | ⟨c34, H⟩
           ·
            have c34b0 := decide_eq_true c34
            clear c34
            have H' := aS H
            clear H
            try go_wp2
            replace HO_9 := aS (Kd.R_drew HO_9.out); replace BK138 := aS (blk_drew BK138.out); replace HB := aS (below_drew1 HB.out)
            have p147 : 0 ≤ ((ji29) : Int) := sD
            have q147 : (ji29) < (x9_3.length : Int) := sD
            obtain ⟨ad147, e147, hx147_0, hx147_1⟩ := at_T45 (Kd.R_reads' HO_9.out).2.2 (ji29) p147 q147
            cases e147
            replace p147 := eq_true p147
            replace q147 := eq_true q147
            have p148 : 0 ≤ (x10_3 : Int) := sD
            have q148 : x10_3 < (l1.length : Int) := sD
            obtain ⟨ad148, e148, hx148_0, hx148_1⟩ := at_T45 HR1.out x10_3 p148 q148
            have hw148_1 := hx148_1
            have hw148_0 := hx148_0
            obtain rfl : ad146 = ad148 := (by injection e148)
            replace hx148_0 := bC HB.out hx148_0
            replace hx148_1 := bC HB.out hx148_1
            replace p148 := eq_true p148
            replace q148 := eq_true q148
            refine start_ (n := 44) (S := fun w' => w'.cell? (ad147.add (((ji29)).toNat * 2)) = some (.int .i64 ((rd_T45 x9_3 (ji29)).f0)) ∧ w'.cell? ⟨(ad147.add (((ji29)).toNat * 2)).block, (ad147.add (((ji29)).toNat * 2)).off + 1, none⟩ = some (.int .i64 ((rd_T45 x9_3 (ji29)).f1)) ∧ w'.cell? (ad146.add ((x10_3).toNat * 2)) = some (.int .i64 ((rd_T45 l1 x10_3).f0)) ∧ w'.cell? ⟨(ad146.add ((x10_3).toNat * 2)).block, (ad146.add ((x10_3).toNat * 2)).off + 1, none⟩ = some (.int .i64 ((rd_T45 l1 x10_3).f1))) (ds := []) _ (by kernel_rfl) rfl rfl ⟨hx147_0, hx147_1, ((HB.out.cell (World.block_lt_of_cell? w _ hw148_0)).trans hw148_0), ((HB.out.cell (World.block_lt_of_cell? w _ hw148_1)).trans hw148_1)⟩ (fun hHeld => ?_); refine with_tabW spec_LongestLine.tab16 spec_LongestLine.bits16 (fun HT_ HW_ => ?_)
            generalize wr.drew = w35 at HO_9 BK138 HB hx147_0 hx147_1 hx148_0 hx148_1 hHeld ⊢
            refine pX 0 60 ?_; refine pX 1 61 ?_; refine pX 2 62 ?_; refine pX 3 63 ?_; refine pX 4 64 ?_; refine pX 5 65 ?_; refine pX 6 66 ?_; refine pX 7 67 ?_; refine pX 9 69 ?_; refine pX 10 70 ?_; refine pX 11 71 ?_; refine pX 12 72 ?_; refine tX 8 68 ?_; refine tX 13 73 ?_; refine pX 14 74 ?_; refine pX 15 75 ?_; refine pU 16 76 ?_; refine pU 17 77 ?_; refine pU 18 78 ?_; refine pU 19 79 ?_; refine pU 20 80 ?_; refine pU 21 81 ?_; refine pU 22 82 ?_; refine pU 23 83 ?_; refine pU 24 84 ?_; refine pU 25 85 ?_; refine pU 26 86 ?_; refine pU 27 87 ?_; refine pU 28 88 ?_; refine pU 29 89 ?_; refine pU 30 90 ?_; refine pU 31 91 ?_; refine pU 32 92 ?_; refine pU 33 93 ?_; refine pU 34 94 ?_; refine pU 35 95 ?_; refine pU 36 96 ?_; refine pU 37 97 ?_; refine pU 38 98 ?_; refine pU 39 99 ?_; refine pU 40 100 ?_; refine pU 41 101 ?_; refine pX 42 102 ?_; refine pX 43 103 ?_
            refine dX ?_
            try go_wp2
            go_meet
            case rel => exact ⟨_, (true), eV, H', ⟨by have := HK1.out; have := HJ15.out; have := HK3.out; have := HK4.out; first | omega | exact Nat.le_refl _⟩, (aS (sR HO_9.out)), (aS (sB BK138.out)), (aS (sW HB.out))⟩
           have c34b0 := decide_eq_false c34
           clear c34
           replace H := iE H; rcases H with ⟨c36, H⟩ | ⟨c36, H⟩
           rotate_left
           ·
            have c36b0 := beq_eq_false_iff_ne.mpr c36
            have c36b1 := bne_iff_ne.mpr c36
            have H' := aS H
            clear H
            try go_wp2
            replace HO_9 := aS (Kd.R_drew HO_9.out); replace BK138 := aS (blk_drew BK138.out); replace HB := aS (below_drew1 HB.out)
            have p147 : 0 ≤ ((ji29) : Int) := sD
            have q147 : (ji29) < (x9_3.length : Int) := sD
            obtain ⟨ad147, e147, hx147_0, hx147_1⟩ := at_T45 (Kd.R_reads' HO_9.out).2.2 (ji29) p147 q147
            cases e147
            replace p147 := eq_true p147
            replace q147 := eq_true q147
            have p148 : 0 ≤ (x10_3 : Int) := sD
            have q148 : x10_3 < (l1.length : Int) := sD
            obtain ⟨ad148, e148, hx148_0, hx148_1⟩ := at_T45 HR1.out x10_3 p148 q148
            have hw148_1 := hx148_1
            have hw148_0 := hx148_0
            obtain rfl : ad146 = ad148 := (by injection e148)
            replace hx148_0 := bC HB.out hx148_0
            replace hx148_1 := bC HB.out hx148_1
            replace p148 := eq_true p148
            replace q148 := eq_true q148
            have p149 : 0 ≤ ((ji29) : Int) := sD
            have q149 : (ji29) < (x9_3.length : Int) := sD
            obtain ⟨ad149, e149, hx149_0, hx149_1⟩ := at_T45 (Kd.R_reads' HO_9.out).2.2 (ji29) p149 q149
            obtain rfl : ad147 = ad149 := (by injection e149)
            replace p149 := eq_true p149
            replace q149 := eq_true q149
            have p150 : 0 ≤ (x10_3 : Int) := sD
            have q150 : x10_3 < (l1.length : Int) := sD
            obtain ⟨ad150, e150, hx150_0, hx150_1⟩ := at_T45 HR1.out x10_3 p150 q150
            have hw150_1 := hx150_1
            have hw150_0 := hx150_0
            obtain rfl : ad146 = ad150 := (by injection e150)
            replace hx150_0 := bC HB.out hx150_0
            replace hx150_1 := bC HB.out hx150_1
            replace p150 := eq_true p150
            replace q150 := eq_true q150
            refine start_ (n := 44) (S := fun w' => w'.cell? (ad147.add (((ji29)).toNat * 2)) = some (.int .i64 ((rd_T45 x9_3 (ji29)).f0)) ∧ w'.cell? ⟨(ad147.add (((ji29)).toNat * 2)).block, (ad147.add (((ji29)).toNat * 2)).off + 1, none⟩ = some (.int .i64 ((rd_T45 x9_3 (ji29)).f1)) ∧ w'.cell? (ad146.add ((x10_3).toNat * 2)) = some (.int .i64 ((rd_T45 l1 x10_3).f0)) ∧ w'.cell? ⟨(ad146.add ((x10_3).toNat * 2)).block, (ad146.add ((x10_3).toNat * 2)).off + 1, none⟩ = some (.int .i64 ((rd_T45 l1 x10_3).f1)) ∧ w'.cell? (ad147.add (((ji29)).toNat * 2)) = some (.int .i64 ((rd_T45 x9_3 (ji29)).f0)) ∧ w'.cell? ⟨(ad147.add (((ji29)).toNat * 2)).block, (ad147.add (((ji29)).toNat * 2)).off + 1, none⟩ = some (.int .i64 ((rd_T45 x9_3 (ji29)).f1)) ∧ w'.cell? (ad146.add ((x10_3).toNat * 2)) = some (.int .i64 ((rd_T45 l1 x10_3).f0)) ∧ w'.cell? ⟨(ad146.add ((x10_3).toNat * 2)).block, (ad146.add ((x10_3).toNat * 2)).off + 1, none⟩ = some (.int .i64 ((rd_T45 l1 x10_3).f1))) (ds := []) _ (by kernel_rfl) rfl rfl ⟨hx147_0, hx147_1, ((HB.out.cell (World.block_lt_of_cell? w _ hw148_0)).trans hw148_0), ((HB.out.cell (World.block_lt_of_cell? w _ hw148_1)).trans hw148_1), hx149_0, hx149_1, ((HB.out.cell (World.block_lt_of_cell? w _ hw150_0)).trans hw150_0), ((HB.out.cell (World.block_lt_of_cell? w _ hw150_1)).trans hw150_1)⟩ (fun hHeld => ?_); refine with_tabW spec_LongestLine.tab16 spec_LongestLine.bits16 (fun HT_ HW_ => ?_)
            generalize wr.drew = w38 at HO_9 BK138 HB hx147_0 hx147_1 hx148_0 hx148_1 hx149_0 hx149_1 hx150_0 hx150_1 hHeld ⊢
            refine pX 0 60 ?_; refine pX 1 61 ?_; refine pX 2 62 ?_; refine pX 3 63 ?_; refine pX 4 64 ?_; refine pX 5 65 ?_; refine pX 6 66 ?_; refine pX 7 67 ?_; refine pX 9 69 ?_; refine pX 10 70 ?_; refine pX 11 71 ?_; refine pX 12 72 ?_; refine tX 8 68 ?_; refine tX 13 73 ?_; refine pX 14 74 ?_; refine pX 15 75 ?_; refine pX 16 76 ?_; refine pX 17 77 ?_; refine pX 18 78 ?_; refine pX 19 79 ?_; refine pX 20 80 ?_; refine pX 22 82 ?_; refine pX 23 83 ?_; refine pX 24 84 ?_; refine pX 25 85 ?_; refine tX 21 81 ?_; refine tX 26 86 ?_; refine pX 27 87 ?_; refine pX 28 88 ?_; refine pU 29 89 ?_; refine pU 30 90 ?_; refine pU 31 91 ?_; refine pU 32 92 ?_; refine pU 33 93 ?_; refine pU 34 94 ?_; refine pU 35 95 ?_; refine pU 36 96 ?_; refine pU 37 97 ?_; refine pU 38 98 ?_; refine pU 39 99 ?_; refine pU 40 100 ?_; refine pX 41 101 ?_; refine pX 42 102 ?_; refine pX 43 103 ?_
            refine dX ?_
            try go_wp2
            go_meet
            case rel => exact ⟨_, (false), eV, H', ⟨by have := HK1.out; have := HJ15.out; have := HK3.out; have := HK4.out; first | omega | exact Nat.le_refl _⟩, (aS (sR HO_9.out)), (aS (sB BK138.out)), (aS (sW HB.out))⟩
           have c36b0 := beq_iff_eq.mpr c36
           have c36b1 := bne_eq_false_iff_eq.mpr c36
           clear c36
           have H' := aS H
           clear H
           try go_wp2
           replace HO_9 := aS (Kd.R_drew HO_9.out); replace BK138 := aS (blk_drew BK138.out); replace HB := aS (below_drew1 HB.out)
           have p147 : 0 ≤ ((ji29) : Int) := sD
           have q147 : (ji29) < (x9_3.length : Int) := sD
           obtain ⟨ad147, e147, hx147_0, hx147_1⟩ := at_T45 (Kd.R_reads' HO_9.out).2.2 (ji29) p147 q147
           cases e147
           replace p147 := eq_true p147
           replace q147 := eq_true q147
           have p148 : 0 ≤ (x10_3 : Int) := sD
           have q148 : x10_3 < (l1.length : Int) := sD
           obtain ⟨ad148, e148, hx148_0, hx148_1⟩ := at_T45 HR1.out x10_3 p148 q148
           have hw148_1 := hx148_1
           have hw148_0 := hx148_0
           obtain rfl : ad146 = ad148 := (by injection e148)
           replace hx148_0 := bC HB.out hx148_0
           replace hx148_1 := bC HB.out hx148_1
           replace p148 := eq_true p148
           replace q148 := eq_true q148
           have p149 : 0 ≤ ((ji29) : Int) := sD
           have q149 : (ji29) < (x9_3.length : Int) := sD
           obtain ⟨ad149, e149, hx149_0, hx149_1⟩ := at_T45 (Kd.R_reads' HO_9.out).2.2 (ji29) p149 q149
           obtain rfl : ad147 = ad149 := (by injection e149)
           replace p149 := eq_true p149
           replace q149 := eq_true q149
           have p150 : 0 ≤ (x10_3 : Int) := sD
           have q150 : x10_3 < (l1.length : Int) := sD
           obtain ⟨ad150, e150, hx150_0, hx150_1⟩ := at_T45 HR1.out x10_3 p150 q150
           have hw150_1 := hx150_1
           have hw150_0 := hx150_0
           obtain rfl : ad146 = ad150 := (by injection e150)
           replace hx150_0 := bC HB.out hx150_0
           replace hx150_1 := bC HB.out hx150_1
           replace p150 := eq_true p150
           replace q150 := eq_true q150
           have p151 : 0 ≤ ((ji29) : Int) := sD
           have q151 : (ji29) < (x9_3.length : Int) := sD
           obtain ⟨ad151, e151, hx151_0, hx151_1⟩ := at_T45 (Kd.R_reads' HO_9.out).2.2 (ji29) p151 q151
           obtain rfl : ad147 = ad151 := (by injection e151)
           replace p151 := eq_true p151
           replace q151 := eq_true q151
           have p152 : 0 ≤ (x10_3 : Int) := sD
           have q152 : x10_3 < (l1.length : Int) := sD
           obtain ⟨ad152, e152, hx152_0, hx152_1⟩ := at_T45 HR1.out x10_3 p152 q152
           have hw152_1 := hx152_1
           have hw152_0 := hx152_0
           obtain rfl : ad146 = ad152 := (by injection e152)
           replace hx152_0 := bC HB.out hx152_0
           replace hx152_1 := bC HB.out hx152_1
           replace p152 := eq_true p152
           replace q152 := eq_true q152
           refine start_ (n := 44) (S := fun w' => w'.cell? (ad147.add (((ji29)).toNat * 2)) = some (.int .i64 ((rd_T45 x9_3 (ji29)).f0)) ∧ w'.cell? ⟨(ad147.add (((ji29)).toNat * 2)).block, (ad147.add (((ji29)).toNat * 2)).off + 1, none⟩ = some (.int .i64 ((rd_T45 x9_3 (ji29)).f1)) ∧ w'.cell? (ad146.add ((x10_3).toNat * 2)) = some (.int .i64 ((rd_T45 l1 x10_3).f0)) ∧ w'.cell? ⟨(ad146.add ((x10_3).toNat * 2)).block, (ad146.add ((x10_3).toNat * 2)).off + 1, none⟩ = some (.int .i64 ((rd_T45 l1 x10_3).f1)) ∧ w'.cell? (ad147.add (((ji29)).toNat * 2)) = some (.int .i64 ((rd_T45 x9_3 (ji29)).f0)) ∧ w'.cell? ⟨(ad147.add (((ji29)).toNat * 2)).block, (ad147.add (((ji29)).toNat * 2)).off + 1, none⟩ = some (.int .i64 ((rd_T45 x9_3 (ji29)).f1)) ∧ w'.cell? (ad146.add ((x10_3).toNat * 2)) = some (.int .i64 ((rd_T45 l1 x10_3).f0)) ∧ w'.cell? ⟨(ad146.add ((x10_3).toNat * 2)).block, (ad146.add ((x10_3).toNat * 2)).off + 1, none⟩ = some (.int .i64 ((rd_T45 l1 x10_3).f1)) ∧ w'.cell? (ad147.add (((ji29)).toNat * 2)) = some (.int .i64 ((rd_T45 x9_3 (ji29)).f0)) ∧ w'.cell? ⟨(ad147.add (((ji29)).toNat * 2)).block, (ad147.add (((ji29)).toNat * 2)).off + 1, none⟩ = some (.int .i64 ((rd_T45 x9_3 (ji29)).f1)) ∧ w'.cell? (ad146.add ((x10_3).toNat * 2)) = some (.int .i64 ((rd_T45 l1 x10_3).f0)) ∧ w'.cell? ⟨(ad146.add ((x10_3).toNat * 2)).block, (ad146.add ((x10_3).toNat * 2)).off + 1, none⟩ = some (.int .i64 ((rd_T45 l1 x10_3).f1))) (ds := []) _ (by kernel_rfl) rfl rfl ⟨hx147_0, hx147_1, ((HB.out.cell (World.block_lt_of_cell? w _ hw148_0)).trans hw148_0), ((HB.out.cell (World.block_lt_of_cell? w _ hw148_1)).trans hw148_1), hx149_0, hx149_1, ((HB.out.cell (World.block_lt_of_cell? w _ hw150_0)).trans hw150_0), ((HB.out.cell (World.block_lt_of_cell? w _ hw150_1)).trans hw150_1), hx151_0, hx151_1, ((HB.out.cell (World.block_lt_of_cell? w _ hw152_0)).trans hw152_0), ((HB.out.cell (World.block_lt_of_cell? w _ hw152_1)).trans hw152_1)⟩ (fun hHeld => ?_); refine with_tabW spec_LongestLine.tab16 spec_LongestLine.bits16 (fun HT_ HW_ => ?_)
           generalize wr.drew = w37 at HO_9 BK138 HB hx147_0 hx147_1 hx148_0 hx148_1 hx149_0 hx149_1 hx150_0 hx150_1 hx151_0 hx151_1 hx152_0 hx152_1 hHeld ⊢
           refine pX 0 60 ?_; refine pX 1 61 ?_; refine pX 2 62 ?_; refine pX 3 63 ?_; refine pX 4 64 ?_; refine pX 5 65 ?_; refine pX 6 66 ?_; refine pX 7 67 ?_; refine pX 9 69 ?_; refine pX 10 70 ?_; refine pX 11 71 ?_; refine pX 12 72 ?_; refine tX 8 68 ?_; refine tX 13 73 ?_; refine pX 14 74 ?_; refine pX 15 75 ?_; refine pX 16 76 ?_; refine pX 17 77 ?_; refine pX 18 78 ?_; refine pX 19 79 ?_; refine pX 20 80 ?_; refine pX 22 82 ?_; refine pX 23 83 ?_; refine pX 24 84 ?_; refine pX 25 85 ?_; refine tX 21 81 ?_; refine tX 26 86 ?_; refine pX 27 87 ?_; refine pX 28 88 ?_; refine pX 29 89 ?_; refine pX 30 90 ?_; refine pX 31 91 ?_; refine pX 32 92 ?_; refine pX 33 93 ?_; refine pX 35 95 ?_; refine pX 36 96 ?_; refine pX 37 97 ?_; refine pX 38 98 ?_; refine tX 34 94 ?_; refine tX 39 99 ?_; refine pX 40 100 ?_; refine pX 41 101 ?_; refine pX 42 102 ?_; refine pX 43 103 ?_
           refine dX ?_
           try go_wp2
           go_meet
           case rel => exact ⟨_, (decide (((rd_T45 x9_3 (ji29)).f1) < ((rd_T45 l1 x10_3).f1))), (by first | rfl | (simp; done) | (simp only [← hji29] <;> (first | rfl | simp)) | (simp [*]; done) | (simp only [i64_w]; done) | (simp [i64_w]; done)), H', ⟨by have := HK1.out; have := HJ15.out; have := HK3.out; have := HK4.out; first | omega | exact Nat.le_refl _⟩, (aS (sR HO_9.out)), (aS (sB BK138.out)), (aS (sW HB.out))⟩
          case rest =>
           clear HC27
           (try clear hx1); (try clear hx14); (try clear hx15); (try clear hx147_0); (try clear hx147_1); (try clear hx148_0); (try clear hx148_1); (try clear hx149_0); (try clear hx149_1); (try clear hx150_0); (try clear hx150_1)
           obtain ⟨kq, x103_26, rfl, HA, HJ26, HO_9, BK138, HB⟩ := hcut
           cases kq with
           | zero => exact absurd HA.out (by simp [spec_LongestLine.j4])
           | succ kj26 =>
            have H := HA.out
            clear HA
            simp only [spec_LongestLine.j4] at H
            by_cases c40 : x103_26 = true
            ·
             subst c40
             have H1 : (spec_LongestLine.l2 kj26 l0 l1 a2 x9_3 x10_3 (wrap64 (x11_4 - 1))) = some (r1, r2, r3) := by rw [if_pos rfl] at H; exact H
             clear H
             have H := H1
             clear H1
             have H' := aS H
             clear H
             go_wp2
             go_roundg kj26
             case measure => have := HK1.out; have := HJ15.out; have := HK3.out; have := HK4.out; have := HJ26.out; omega
             case rel => exact ⟨(wrap64 (x11_4 - 1)), eV, H', ⟨by have := HK1.out; have := HJ15.out; have := HK3.out; have := HK4.out; have := HJ26.out; omega⟩, (aS (sR HO_9.out)), (aS (sB BK138.out)), (aS (sW HB.out))⟩
            replace c40 := Bool.eq_false_iff.mpr c40
            subst c40
            have H1 : ((some (([] : List (S45)) : List (S45))).bind fun y153 => (if 0 ≤ x11_4 then (if x11_4 ≤ (x9_3.length : Int) then ((some (x9_3.take (x11_4 : Int).toNat : List (S45))).bind fun y156 => (if y153.length + y156.length < 8796093022208 then ((some (y153 ++ y156 : List (S45))).bind fun y160 => (if 0 ≤ x10_3 then (if x10_3 < (l1.length : Int) then (if y160.length < 8796093022208 then ((some (y160 ++ [(⟨(rd_T45 l1 x10_3).f0, (rd_T45 l1 x10_3).f1⟩ : S45)] : List (S45))).bind fun y164 => ((some (x9_3.drop (x11_4 : Int).toNat : List (S45))).bind fun y167 => (if y164.length + y167.length < 8796093022208 then (spec_LongestLine.l1 kj26 l0 l1 a2 (y164 ++ y167) (wrap64 (x10_3 + 1))) else (none)))) else (none)) else (none)) else (none))) else (none))) else (none)) else (none))) = some (r1, r2, r3) := by rw [if_neg (show ¬ (false = true) by decide)] at H; exact H
            clear H
            have H := H1
            clear H1
            obtain ⟨y153, hy153⟩ : ∃ y_ : List (S45), y_ = (([] : List (S45))) := ⟨_, rfl⟩
            replace H : (if 0 ≤ x11_4 then (if x11_4 ≤ (x9_3.length : Int) then ((some (x9_3.take (x11_4 : Int).toNat : List (S45))).bind fun y156 => (if y153.length + y156.length < 8796093022208 then ((some (y153 ++ y156 : List (S45))).bind fun y160 => (if 0 ≤ x10_3 then (if x10_3 < (l1.length : Int) then (if y160.length < 8796093022208 then ((some (y160 ++ [(⟨(rd_T45 l1 x10_3).f0, (rd_T45 l1 x10_3).f1⟩ : S45)] : List (S45))).bind fun y164 => ((some (x9_3.drop (x11_4 : Int).toNat : List (S45))).bind fun y167 => (if y164.length + y167.length < 8796093022208 then (spec_LongestLine.l1 kj26 l0 l1 a2 (y164 ++ y167) (wrap64 (x10_3 + 1))) else (none)))) else (none)) else (none)) else (none))) else (none))) else (none)) else (none)) = some (r1, r2, r3) := by first | (rw [hy153]; with_reducible exact H) | (have H2_ := (Option.bind_some _ _).symm.trans H; rw [hy153]; with_reducible exact H2_) | (have H2_ := (Option.bind_some _ _).symm.trans H; with_reducible exact H2_) | with_reducible exact H | (rw [hy153]; exact H) | exact H
            have Ny153 := aS hy153
            clear hy153
            replace H := iN H
            obtain ⟨c41, H⟩ := H
            have c41b0 := eq_true c41
            have c41b1 := decide_eq_true c41
            clear c41
            replace H := iN H
            obtain ⟨c42, H⟩ := H
            have c42b0 := eq_true c42
            have c42b1 := decide_eq_true c42
            clear c42
            obtain ⟨y156, hy156⟩ : ∃ y_ : List (S45), y_ = (x9_3.take (x11_4 : Int).toNat) := ⟨_, rfl⟩
            replace H : (if y153.length + y156.length < 8796093022208 then ((some (y153 ++ y156 : List (S45))).bind fun y160 => (if 0 ≤ x10_3 then (if x10_3 < (l1.length : Int) then (if y160.length < 8796093022208 then ((some (y160 ++ [(⟨(rd_T45 l1 x10_3).f0, (rd_T45 l1 x10_3).f1⟩ : S45)] : List (S45))).bind fun y164 => ((some (x9_3.drop (x11_4 : Int).toNat : List (S45))).bind fun y167 => (if y164.length + y167.length < 8796093022208 then (spec_LongestLine.l1 kj26 l0 l1 a2 (y164 ++ y167) (wrap64 (x10_3 + 1))) else (none)))) else (none)) else (none)) else (none))) else (none)) = some (r1, r2, r3) := by first | (rw [hy156]; with_reducible exact H) | (have H2_ := (Option.bind_some _ _).symm.trans H; rw [hy156]; with_reducible exact H2_) | (have H2_ := (Option.bind_some _ _).symm.trans H; with_reducible exact H2_) | with_reducible exact H | (rw [hy156]; exact H) | exact H
            have Ny156 := aS hy156
            clear hy156
            replace H := iN H
            obtain ⟨c43, H⟩ := H
            have LMc43 := aS c43
            clear c43
            obtain ⟨y160, hy160⟩ : ∃ y_ : List (S45), y_ = (y153 ++ y156) := ⟨_, rfl⟩
            replace H : (if 0 ≤ x10_3 then (if x10_3 < (l1.length : Int) then (if y160.length < 8796093022208 then ((some (y160 ++ [(⟨(rd_T45 l1 x10_3).f0, (rd_T45 l1 x10_3).f1⟩ : S45)] : List (S45))).bind fun y164 => ((some (x9_3.drop (x11_4 : Int).toNat : List (S45))).bind fun y167 => (if y164.length + y167.length < 8796093022208 then (spec_LongestLine.l1 kj26 l0 l1 a2 (y164 ++ y167) (wrap64 (x10_3 + 1))) else (none)))) else (none)) else (none)) else (none)) = some (r1, r2, r3) := by first | (rw [hy160]; with_reducible exact H) | (have H2_ := (Option.bind_some _ _).symm.trans H; rw [hy160]; with_reducible exact H2_) | (have H2_ := (Option.bind_some _ _).symm.trans H; with_reducible exact H2_) | with_reducible exact H | (rw [hy160]; exact H) | exact H
            have Ny160 := aS hy160
            clear hy160
            replace H := iN H
            obtain ⟨c44, H⟩ := H
            have c44b0 := decide_eq_true c44
            clear c44
            replace H := iN H
            obtain ⟨c45, H⟩ := H
            have c45b0 := decide_eq_true c45
            clear c45
            replace H := iN H
            obtain ⟨c46, H⟩ := H
            have LMc46 := aS c46
            clear c46
            obtain ⟨y164, hy164⟩ : ∃ y_ : List (S45), y_ = (y160 ++ [(⟨(rd_T45 l1 x10_3).f0, (rd_T45 l1 x10_3).f1⟩ : S45)]) := ⟨_, rfl⟩
            replace H : ((some (x9_3.drop (x11_4 : Int).toNat : List (S45))).bind fun y167 => (if y164.length + y167.length < 8796093022208 then (spec_LongestLine.l1 kj26 l0 l1 a2 (y164 ++ y167) (wrap64 (x10_3 + 1))) else (none))) = some (r1, r2, r3) := by first | (rw [hy164]; with_reducible exact H) | (have H2_ := (Option.bind_some _ _).symm.trans H; rw [hy164]; with_reducible exact H2_) | (have H2_ := (Option.bind_some _ _).symm.trans H; with_reducible exact H2_) | with_reducible exact H | (rw [hy164]; exact H) | exact H
            have Ny164 := aS hy164
            clear hy164
            have c47b0 := eq_true (sD : 0 ≤ x11_4)
            have c48b0 := eq_true (sD : x11_4 ≤ (x9_3.length : Int))
            obtain ⟨y167, hy167⟩ : ∃ y_ : List (S45), y_ = (x9_3.drop (x11_4 : Int).toNat) := ⟨_, rfl⟩
            replace H : (if y164.length + y167.length < 8796093022208 then (spec_LongestLine.l1 kj26 l0 l1 a2 (y164 ++ y167) (wrap64 (x10_3 + 1))) else (none)) = some (r1, r2, r3) := by first | (rw [hy167]; with_reducible exact H) | (have H2_ := (Option.bind_some _ _).symm.trans H; rw [hy167]; with_reducible exact H2_) | (have H2_ := (Option.bind_some _ _).symm.trans H; with_reducible exact H2_) | with_reducible exact H | (rw [hy167]; exact H) | exact H
            have Ny167 := aS hy167
            clear hy167
            replace H := iN H
            obtain ⟨c49, H⟩ := H
            have LMc49 := aS c49
            clear c49
            obtain ⟨y171, hy171⟩ : ∃ y_ : List (S45), y_ = (y164 ++ y167) := ⟨_, rfl⟩
            replace H : (spec_LongestLine.l1 kj26 l0 l1 a2 y171 (wrap64 (x10_3 + 1))) = some (r1, r2, r3) := by first | (rw [hy171]; with_reducible exact H) | (have H2_ := (Option.bind_some _ _).symm.trans H; rw [hy171]; with_reducible exact H2_) | (have H2_ := (Option.bind_some _ _).symm.trans H; with_reducible exact H2_) | with_reducible exact H | (rw [hy171]; exact H) | exact H
            have Ny171 := aS hy171
            clear hy171
            have H' := aS H
            clear H
            go_wp2_with (first | ((with_reducible refine gate_dst (N := 106) rfl ?_); refine Kd.R_lit k45 _ 45 ?hg (N := 106) ?hd (xs := ([] : List (S45))) (inner := []) (ok := fun _ => True) (okp := fun _ => True) ?hr ?hp (fun _ hk => hk) trivial (Below.refl _ _) (Nat.le_refl _) (by simp) ?_; (case hd => rfl); (case hg => rfl); (case hr => first | (go_simp; done) | (go_simp; rfl)); (case hp => exact (Reps.none _ _)); intro v154 w50 ho51 hb hg_ hnew_; clear hg_ hnew_; (first | rw [← Ny153.out] at ho51 | (simp only [Int.reduceToNat] at ho51; rw [← Ny153.out] at ho51)); have HO155 := aS (Kd.R_lower (Kd.R_new' ho51 (Kd.R_lt (sR HO_9.out))) (below_size (sW HB.out))); replace HO_9 := aS (Kd.R_elder' (sR HO_9.out) (Kd.R_base ho51) hb); replace BK138 := aS (blk_below (sB BK138.out) hb); replace HB := aS (below_step (sW HB.out) hb); clear hb ho51; have q52 : (x11_4 : Int) ≤ ((x9_3.length : Int) : Int) := sD; obtain ⟨i052, hi052, _, hsz52, _⟩ := info_parts info45; have hroom52 : x9_3.length ≤ co26 := (Kd.R_reads' HO_9.out).2.1; have hC52 : Kd.C k45 _ Ao26 x9_3.length x9_3 := (Kd.R_reads' HO_9.out).2.2; have hcut52 := cut_to (P := Try.prog) 26 45 .i64 Try.underlying26 hi052 Ao26 x9_3.length co26 x11_4 (sD) q52 hroom52; have hr52 := Kd.C_take (m := (x11_4 : Int).toNat) hC52 (by omega); have hy52 : y156.length = (x11_4 : Int).toNat := (by rw [Ny156.out, List.length_take]; omega); rw [← Ny156.out] at hr52; rw [← hy52] at hcut52; have HR159 := aS hr52; have HC159 := aS (show y156.length ≤ co26 from by omega); clear hr52 hC52 hroom52 hi052 hsz52; have KY52 := aS hy52; clear hy52; have KL52 := aS (show (x11_4 : Int).toNat ≤ x9_3.length from by omega); replace q52 := eq_true q52) | ((with_reducible refine gate_builtin (b := .append) (xs := #[.tmp 106, .tmp 109]) rfl ?_); at_builtin; refine Kd.R_append_rows k45 (w0 := w) w.heap.size rfl (.tmp 106) (.tmp 109) 26 45 (.agg #[(.int .i64 0), (.int .i64 0)]) 16 rfl Try.underlying26 info45 rfl (by decide) (by omega) v154 y153 y156 _ _ _ (fun k_ => some k_ ≠ (.slice Ao26 x9_3.length co26 : Value).ownBlock) (fun _ => False) rfl rfl ?aO ?aR (fun _ _ h => h) (fun _ h => h.elim) ?aF ?aB ?aS ?aL ?_; (case aR => repeat (first | exact (by repeat (first | (with_reducible exact HR159.out) | (with_reducible refine Kd.C_alloc ?_ _) | (with_reducible refine Kd.C_drewN ?_ _) | (with_reducible refine Kd.C_drew ?_) | exact HR159.out)) | (with_reducible refine Kd.C_alloc ?_ _) | (with_reducible refine Kd.C_drewN ?_ _) | (with_reducible refine Kd.C_drew ?_))); (case aB => exact (sW HB.out)); (case aF => exact (fun k_ hk => Kd.fresh' (Kd.R_lt (sR HO_9.out)) k_ hk)); (case aO => exact (sR (Kd.R_mono HO155.out (fun _ hk => hk.2)))); (case aS => exact (below_size (sW HB.out))); (case aL => have := LMc43.out; omega); intro v161 w53 ho hb hg hat; rw [← Ny160.out] at ho; replace BK138 := aS (blk_grown (sB BK138.out) hg (Kd.R_ne HO155.out BK138.out (by decide))); replace HB := aS (hb); replace HR159 := aS ((show Kd.C k45 w53 Ao26 y156.length y156 from by rw [Ny156.out]; exact Kd.C_take (m := (x11_4 : Int).toNat) ((Kd.R_reads' (Kd.R_after (ok := (fun _ => True)) (sR HO_9.out) hg hat)).2.2) KL52.out)); replace HO_9 := aS (Kd.R_after (ok := (fun _ => True)) (sR HO_9.out) hg hat); have HO162 := aS (ho); clear HO155; clear ho hb hg hat; have p163 : 0 ≤ (x10_3 : Int) := sD; have q163 : x10_3 < (l1.length : Int) := sD; obtain ⟨ad163, e163, hx163_0, hx163_1⟩ := at_T45 HR1.out x10_3 p163 q163; obtain rfl : ad146 = ad163 := (by injection e163); replace hx163_0 := bC HB.out hx163_0; replace hx163_1 := bC HB.out hx163_1; replace p163 := eq_true p163; replace q163 := eq_true q163) | ((with_reducible refine gate_builtin (b := .append) (xs := #[.tmp 111, .tmp 116]) rfl ?_); at_builtin; refine Kd.R_append k45 (w0 := w) w.heap.size rfl (.tmp 111) (.tmp 116) 26 45 (.agg #[(.int .i64 0), (.int .i64 0)]) 16 rfl Try.underlying26 info45 rfl (by decide) (by omega) v161 y160 (⟨(rd_T45 l1 x10_3).f0, (rd_T45 l1 x10_3).f1⟩ : S45) [.int .i64 ((rd_T45 l1 x10_3).f0), .int .i64 ((rd_T45 l1 x10_3).f1)] (fun k_ => some k_ ≠ (.slice Ao26 x9_3.length co26 : Value).ownBlock) (fun _ => False) rfl rfl ?aP (fun _ hk => hk.elim) ?aF ?aO ?aB ?aS ?aL ?_; (case aP => exact k45_mkM _ _ _ (⟨(rd_T45 l1 x10_3).f0, (rd_T45 l1 x10_3).f1⟩ : S45)); (case aB => exact (sW HB.out)); (case aF => exact (fun k_ hk => Kd.fresh' (Kd.R_lt (sR HO_9.out)) k_ hk)); (case aO => exact (sR HO162.out)); (case aS => exact (below_size (sW HB.out))); (case aL => have := LMc46.out; omega); intro v165 w54 ho hb hg hat; rw [← Ny164.out] at ho; replace BK138 := aS (blk_grown (sB BK138.out) hg (Kd.R_ne HO162.out BK138.out (by decide))); replace HB := aS (hb); replace HR159 := aS ((show Kd.C k45 w54 Ao26 y156.length y156 from by rw [Ny156.out]; exact Kd.C_take (m := (x11_4 : Int).toNat) ((Kd.R_reads' (Kd.R_after (ok := (fun _ => True)) (sR HO_9.out) hg hat)).2.2) KL52.out)); replace HO_9 := aS (Kd.R_after (ok := (fun _ => True)) (sR HO_9.out) hg hat); have HO166 := aS (ho); clear HO162; clear ho hb hg hat; have q55 : (x11_4 : Int) ≤ ((x9_3.length : Int) : Int) := sD; obtain ⟨i055, hi055, _, hsz55, _⟩ := info_parts info45; have hroom55 : x9_3.length ≤ co26 := (Kd.R_reads' HO_9.out).2.1; have hC55 : Kd.C k45 _ Ao26 x9_3.length x9_3 := (Kd.R_reads' HO_9.out).2.2; have q055 : (0 : Int) ≤ (x11_4 : Int) := sD; have hcut55 := cut_from (P := Try.prog) 26 45 .i64 Try.underlying26 hi055 2 hsz55 Ao26 x9_3.length co26 x11_4 q055 q55; have hr55 := Kd.C_drop (m := (x11_4 : Int).toNat) (c := co26) hC55 (by omega) hroom55; obtain ⟨A55, hA55⟩ : ∃ A1, A1 = (if co26 = (x11_4 : Int).toNat then Ao26 else (Ao26 : Option Addr).map (·.add ((x11_4 : Int).toNat * 2))) := ⟨_, rfl⟩; obtain ⟨c55, hc55⟩ : ∃ c1, c1 = co26 - (x11_4 : Int).toNat := ⟨_, rfl⟩; have hy55 : y167.length = x9_3.length - (x11_4 : Int).toNat := (by rw [Ny167.out, List.length_drop] <;> omega); rw [show (x9_3).drop (x11_4 : Int).toNat = y167 from Ny167.out.symm] at hr55; replace hr55 : Kd.C k45 _ A55 y167.length y167 := (by rw [hA55]; exact hr55); rw [← hy55, ← hA55, ← hc55] at hcut55; have HR170 := aS hr55; have HC170 := aS (show y167.length ≤ c55 from by rw [hy55, hc55]; exact Nat.sub_le_sub_right hroom55 _); clear hr55 hC55 hroom55 hi055 hsz55 hc55; have KY55 := aS hy55; have KA55 := aS hA55; clear hy55 hA55; have KL55 := aS (show (x11_4 : Int).toNat ≤ x9_3.length from by omega); replace q55 := eq_true q55) | ((with_reducible refine gate_builtin (b := .append) (xs := #[.tmp 118, .tmp 121]) rfl ?_); at_builtin; refine Kd.R_append_rows k45 (w0 := w) w.heap.size rfl (.tmp 118) (.tmp 121) 26 45 (.agg #[(.int .i64 0), (.int .i64 0)]) 16 rfl Try.underlying26 info45 rfl (by decide) (by omega) v165 y164 y167 _ _ _ (fun k_ => some k_ ≠ (.slice Ao26 x9_3.length co26 : Value).ownBlock) (fun _ => False) rfl rfl ?aO ?aR (fun _ _ h => h) (fun _ h => h.elim) ?aF ?aB ?aS ?aL ?_; (case aR => repeat (first | exact (by repeat (first | (with_reducible exact HR170.out) | (with_reducible refine Kd.C_alloc ?_ _) | (with_reducible refine Kd.C_drewN ?_ _) | (with_reducible refine Kd.C_drew ?_) | exact HR170.out)) | (with_reducible refine Kd.C_alloc ?_ _) | (with_reducible refine Kd.C_drewN ?_ _) | (with_reducible refine Kd.C_drew ?_))); (case aB => exact (sW HB.out)); (case aF => exact (fun k_ hk => Kd.fresh' (Kd.R_lt (sR HO_9.out)) k_ hk)); (case aO => exact (sR HO166.out)); (case aS => exact (below_size (sW HB.out))); (case aL => have := LMc49.out; omega); intro v172 w56 ho hb hg hat; rw [← Ny171.out] at ho; replace BK138 := aS (blk_grown (sB BK138.out) hg (Kd.R_ne HO166.out BK138.out (by decide))); replace HB := aS (hb); replace HR159 := aS ((show Kd.C k45 w56 Ao26 y156.length y156 from by rw [Ny156.out]; exact Kd.C_take (m := (x11_4 : Int).toNat) ((Kd.R_reads' (Kd.R_after (ok := (fun _ => True)) (sR HO_9.out) hg hat)).2.2) KL52.out)); replace HR170 := aS ((show Kd.C k45 w56 A55 y167.length y167 from by rw [Ny167.out, KA55.out]; exact Kd.C_drop (m := (x11_4 : Int).toNat) (c := co26) ((Kd.R_reads' (Kd.R_after (ok := (fun _ => True)) (sR HO_9.out) hg hat)).2.2) KL55.out ((Kd.R_reads' (Kd.R_after (ok := (fun _ => True)) (sR HO_9.out) hg hat)).2.1))); replace HO_9 := aS (Kd.R_after (ok := (fun _ => True)) (sR HO_9.out) hg hat); have HO173 := aS (ho); clear HO166; clear ho hb hg hat))
            go_roundg kj26
            case measure => have := HK1.out; have := HJ15.out; have := HK3.out; have := HK4.out; have := HJ26.out; omega
            case rel => exact ⟨(y171), (wrap64 (x10_3 + 1)), eV, H', ⟨by have := HK1.out; have := HJ15.out; have := HK3.out; have := HK4.out; have := HJ26.out; omega⟩, (aS (sR (Kd.R_mono HO173.out (fun _ hk => trivial)))), (aS (sB BK138.out)), (aS (sW HB.out))⟩
 ·
  replace c8 := Bool.eq_false_iff.mpr c8
  subst c8
  have H1 : (some (([] : List (S45)), ([] : List Int), 1)) = some (r1, r2, r3) := by rw [if_neg (show ¬ (false = true) by decide)] at H; exact H
  clear H
  have H := H1
  clear H1
  simp only [Option.some.injEq, Prod.mk.injEq] at H
  obtain ⟨rfl, rfl, rfl⟩ := H
  obtain ⟨hcz121_0, hcz121_1, hfz121_0, hfz121_1⟩ := z2 BK138.out
  go_wp2
  refine bodyPost_ret (results_ct rfl _ _ gb138 29 #[.slice none 0 0, .slice none 0 0] (0, 0) _ rfl (sB (put2 BK138.out)) Try.underlying29 rfl (by kernel_rfl)) rfl ?_
  exact ⟨_, _, eE, eN, eN, sW HB.out⟩

end Go.Proofs.Ytginmioklkcgbaa.QFnBestJoins

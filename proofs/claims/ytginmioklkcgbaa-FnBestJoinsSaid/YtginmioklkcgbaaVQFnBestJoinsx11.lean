/- What the Go functions of this law compute, each as a Lean function, and that each call comes to that answer; written by a program of this session. No condition. -/
import Derived.Test.YtginmioklkcgbaaVShn
import Derived.Test.YtginmioklkcgbaaVQFnBestJoinsx0
import Derived.Test.YtginmioklkcgbaaVQFnBestJoinsx7
import Derived.Test.YtginmioklkcgbaaVQFnBestJoinsx8
import Derived.Test.YtginmioklkcgbaaVQFnBestJoinsx10
namespace Go.Proofs.Ytginmioklkcgbaa.QFnBestJoins
open Go.RowKit Go.Proofs.YtginmioklkcgbaaW.PrintWords Go.Proofs.YtginmioklkcgbaaW.PrintLast Go.Proofs.YtginmioklkcgbaaW.PrintMore
attribute [local go_sem] max2_int min2_int max_two min_two max_three min_three max_four min_four   -- for this text's walks alone
set_option linter.unusedVariables false
set_option linter.unusedSimpArgs false

/-! ### impl_LongestLine: function 12 -/
mutual
def impl_LongestLine.l0 : Nat → List (S61) → List (S45) → Int → List (S45) → List (S45) → Int → Int → Option ((List (S45)) × List Int × Int)
 | 0, _, _, _, _, _, _, _ => none
 | k + 1, x0, x1, x2, x8, x20, x21, x22 => if x22 < x21 then (if 0 ≤ x22 then (if x22 < (x20.length : Int) then ((impl_validPiece.f ((rd_T45 x20 x22).f0) ((rd_T45 x20 x22).f1)).bind fun t249 => (if t249 = true then (if ((rd_T45 x20 x22).f0) ≥ x2 then (if x8.length < 8796093022208 then (impl_LongestLine.l0 k x0 x1 x2 (x8 ++ [(⟨(rd_T45 x20 x22).f0, (rd_T45 x20 x22).f1⟩ : S45)]) x20 x21 (wrap64 (x22 + 1))) else (none)) else (impl_LongestLine.l0 k x0 x1 x2 x8 x20 x21 (wrap64 (x22 + 1)))) else (some (([] : List (S45)), ([] : List Int), 1)))) else (none)) else (none)) else ((impl_within.f x2 0 1000000).bind fun t253 => (if t253 = true then (impl_LongestLine.j1 k x0 x2 x8 (decide ((x1.length : Int) > 12))) else (impl_LongestLine.j1 k x0 x2 x8 true)))
def impl_LongestLine.j1 : Nat → List (S61) → Int → List (S45) → Bool → Option ((List (S45)) × List Int × Int)
 | 0, _, _, _, _ => none
 | k + 1, x0, x2, x8, x46 => if x46 = true then (some (([] : List (S45)), ([] : List Int), 2)) else (if (x8.length : Int) = 0 then (some (([] : List (S45)), ([] : List Int), 3)) else ((impl_LinePiece_51.f k x8 0).bind fun t254 => (if 0 < (x8.length : Int) then (if 1 ≤ (x8.length : Int) then ((some (t254.drop (1 : Int).toNat : List (S45))).bind fun y260 => (impl_LongestLine.l1 k x0 x2 y260 (y260.length : Int) 0 (([(⟨(rd_T45 t254 0).f0, (rd_T45 t254 0).f1⟩ : S45)] : List (S45))) ([] : List Int))) else (none)) else (none))))
def impl_LongestLine.l1 : Nat → List (S61) → Int → List (S45) → Int → Int → List (S45) → List Int → Option ((List (S45)) × List Int × Int)
 | 0, _, _, _, _, _, _, _ => none
 | k + 1, x0, x2, x60, x61, x62, x260000, x260001 => if x62 < x61 then (if 0 ≤ x62 then (if x62 < (x60.length : Int) then (if 0 ≤ (wrap64 ((x260000.length : Int) - 1)) then (if (wrap64 ((x260000.length : Int) - 1)) < (x260000.length : Int) then ((impl_bestJoin.f k x0 ((rd_T45 x260000 (wrap64 ((x260000.length : Int) - 1))).f0) ((rd_T45 x260000 (wrap64 ((x260000.length : Int) - 1))).f1) ((rd_T45 x60 x62).f0) ((rd_T45 x60 x62).f1) x2).bind fun t266 => (if t266 ≥ 0 then (if 0 ≤ t266 then (if t266 < (x0.length : Int) then (if ((rd_T61 x0 t266).f2) < ((rd_T45 x60 x62).f1) then (if x260000.length < 8796093022208 then (if x260001.length < 17592186044416 then (impl_LongestLine.l1 k x0 x2 x60 x61 (wrap64 (x62 + 1)) (x260000 ++ [(⟨(rd_T45 x60 x62).f0, (rd_T45 x60 x62).f1⟩ : S45)]) (x260001 ++ [t266])) else (none)) else (none)) else (impl_LongestLine.l1 k x0 x2 x60 x61 (wrap64 (x62 + 1)) x260000 x260001)) else (none)) else (none)) else (impl_LongestLine.l1 k x0 x2 x60 x61 (wrap64 (x62 + 1)) x260000 x260001))) else (none)) else (none)) else (none)) else (none)) else (some (x260000, x260001, 0))
end
def impl_LongestLine.f (k : Nat) (l0 : List (S61)) (l1 : List (S45)) (a2 : Int) : Option ((List (S45)) × List Int × Int) := (impl_ValidJoins.f k l0).bind fun t243 => (if t243 = true then (impl_LongestLine.l0 k l0 l1 a2 (([] : List (S45))) l1 (l1.length : Int) 0) else (some (([] : List (S45)), ([] : List Int), 1)))
theorem impl_LongestLine.mono_l : ∀ k, (∀ y0 y1 y2 y3 y4 y5 y6, LeO (impl_LongestLine.l0 k y0 y1 y2 y3 y4 y5 y6) (impl_LongestLine.l0 (k + 1) y0 y1 y2 y3 y4 y5 y6)) ∧ (∀ y0 y1 y2 y3, LeO (impl_LongestLine.j1 k y0 y1 y2 y3) (impl_LongestLine.j1 (k + 1) y0 y1 y2 y3)) ∧ (∀ y0 y1 y2 y3 y4 y5 y6, LeO (impl_LongestLine.l1 k y0 y1 y2 y3 y4 y5 y6) (impl_LongestLine.l1 (k + 1) y0 y1 y2 y3 y4 y5 y6))
 | 0 => by refine ⟨?_, ?_, ?_⟩ <;> (intros; intro r h; simp [impl_LongestLine.l0, impl_LongestLine.j1, impl_LongestLine.l1] at h)
 | k + 1 => by
  obtain ⟨ih0, ih1, ih2⟩ := impl_LongestLine.mono_l k
  refine ⟨?_, ?_, ?_⟩ <;> (intros; (first | unfold impl_LongestLine.l0 | unfold impl_LongestLine.j1 | unfold impl_LongestLine.l1); repeat' first | (with_reducible first | exact ih0 _ _ _ _ _ _ _ | exact ih1 _ _ _ _ | exact ih2 _ _ _ _ _ _ _ | exact impl_LinePiece_51.mono _ _ _ | exact impl_ValidJoins.mono _ _ | exact impl_bestJoin.mono _ _ _ _ _ _ _ | exact LeO.refl _ | exact LeO.none _ | refine LeO.ite ?_ ?_ | refine LeO.bind ?_ (fun _ => ?_)) | refine LeO.ite ?_ ?_ | refine LeO.bind ?_ (fun _ => ?_))
theorem impl_LongestLine.mono : ∀ a0 a1 a2 k, LeO (impl_LongestLine.f k a0 a1 a2) (impl_LongestLine.f (k + 1) a0 a1 a2) := by
 intro a0 a1 a2 k
 obtain ⟨ih0, ih1, ih2⟩ := impl_LongestLine.mono_l k
 unfold impl_LongestLine.f
 repeat' first | (with_reducible first | exact ih0 _ _ _ _ _ _ _ | exact ih1 _ _ _ _ | exact ih2 _ _ _ _ _ _ _ | exact impl_LinePiece_51.mono _ _ _ | exact impl_ValidJoins.mono _ _ | exact impl_bestJoin.mono _ _ _ _ _ _ _ | exact LeO.refl _ | exact LeO.none _ | refine LeO.ite ?_ ?_ | refine LeO.bind ?_ (fun _ => ?_)) | refine LeO.ite ?_ ?_ | refine LeO.bind ?_ (fun _ => ?_)
def impl_LongestLine.T21 : Bool × List (List Nat × List Nat) := (true, [([], []), ([], []), ([1], [1]), ([], []), ([3], [3]), ([4], [4]), ([5], [5]), ([2, 6], [2, 6]), ([7], [7]), ([], []), ([], []), ([0, 8, 9, 10], [0, 8, 9, 10]), ([11, 11, 0, 1, 2, 3, 4, 5, 6, 7, 8, 9, 10, 11], [11])])
def impl_LongestLine.B21 : List Nat := [0, 0, 2, 0, 8, 24, 56, 126, 254, 0, 0, 2047, 4095]
theorem impl_LongestLine.tab21 : rtab .any (opsOf Try.f12 21) = impl_LongestLine.T21 := by kernel_rfl
theorem impl_LongestLine.bits21 : waitsOk impl_LongestLine.T21.2 impl_LongestLine.B21 = true := by kernel_rfl
def impl_LongestLine.T22 : Bool × List (List Nat × List Nat) := (true, [([], []), ([0], [0]), ([1], [1]), ([2], [2]), ([2], [2]), ([3, 4, 2], [2, 3, 4]), ([5, 2], [2, 5]), ([6, 2], [2, 6]), ([2], [2]), ([8, 2], [2, 8]), ([7, 9, 2], [2, 7, 9]), ([2, 10], [2, 10])])
def impl_LongestLine.B22 : List Nat := [0, 1, 3, 7, 7, 31, 63, 127, 7, 263, 1023, 2047]
theorem impl_LongestLine.tab22 : rtab .any (opsOf Try.f12 22) = impl_LongestLine.T22 := by kernel_rfl
theorem impl_LongestLine.bits22 : waitsOk impl_LongestLine.T22.2 impl_LongestLine.B22 = true := by kernel_rfl
def impl_LongestLine.bF (n k : Nat) : Array Bool := ((List.range n).map fun i => k.testBit i).toArray
set_option maxHeartbeats 8000000 in
set_option maxRecDepth 100000 in
theorem impl_LongestLine.calls (k : Nat) (A0 : Option Addr) (c0 : Nat) (l0 : List (S61)) (A1 : Option Addr) (c1 : Nat) (l1 : List (S45)) (a2 : Int) (r1 : List (S45)) (r2 : List Int) (r3 : Int) (w : World) (hr0 : Kd.C k61 w A0 l0.length l0) (hc0 : l0.length ≤ c0) (hr1 : Kd.C k45 w A1 l1.length l1) (hc1 : l1.length ≤ c1) (h : impl_LongestLine.f k l0 l1 a2 = some (r1, r2, r3)) :
  Calls Try.prog 12 #[.slice A0 l0.length c0, .slice A1 l1.length c1, .int .i64 a2] w fun e w' => ∃ v0_ v1_ : Value, e = .returned (.tuple #[.agg #[v0_, v1_], .int .i64 r3]) ∧ Kd.R k45 45 w' w.heap.size (fun _ => True) v0_ r1 ∧ Kd.R (Kd.int .i64) 2 w' w.heap.size (fun _ => True) v1_ r2 ∧ Below w.heap.size w w' := by
 have hu29 := Try.underlying29
 have hu45 := Try.underlying45
 have HR0 := aS hr0
 have HC0 := aS hc0
 clear hr0 hc0
 have HR1 := aS hr1
 have HC1 := aS hc1
 clear hr1 hc1
 have HB := aS (Below.refl w.heap.size w)
 have H := h
 clear h
 unfold impl_LongestLine.f at H
 replace H := Option.bind_eq_some_iff.mp H
 obtain ⟨t243, A40, H⟩ := H
 replace H : (if t243 = true then (impl_LongestLine.l0 k l0 l1 a2 (([] : List (S45))) l1 (l1.length : Int) 0) else (some (([] : List (S45)), ([] : List Int), 1))) = some (r1, r2, r3) := H
 have A4 := aS A40
 clear A40
 have HC5 := aS H
 clear H
 go_enter Try.func12, Try.ntmps12
 go_upto_if 17 with (first | ((with_reducible refine gate_dst (N := 6) rfl ?_); (try (refine gate_guard (by rfl) ?_; dsimp only)); refine bx 6 #[.slice none 0 0, .slice none 0 0] 29 ?_; intro gb242 hg w6 hbox hb; have BK242 := aS (hbox); have GW242 := aS (gW hg (sW HB.out)); have GE242 := aS (gW hg (sW HB.out)); replace HB := aS (below_step (sW HB.out) hb); clear hb hbox hg) | ((with_reducible refine gate_callee (f := 48) rfl ?_); refine goesL_ (some 16) rfl rfl Try.func48 (by kernel_rfl) rfl #[.slice A0 l0.length c0] rfl sG ?_; (with_reducible refine (impl_ValidJoins.calls k _ _ l0 t243 _ ?side1 ?side2 A4.out).mono ?_); (case side1 => exact sC (Kd.C_below HR0.out HB.out)); (case side2 => exact HC0.out); rintro e w7 ⟨rfl, hb⟩; refine ⟨_, rfl, ?_⟩; replace BK242 := aS (blk_below (sB BK242.out) hb); replace HB := aS (below_step (sW HB.out) hb)))
 (try simp only [Act.put, List.setIfInBounds_toArray, List.set_cons_zero, List.set_cons_succ])
 have H := HC5.out
 clear HC5
 by_cases c8 : t243 = true
 ·
  subst c8
  have H1 : (impl_LongestLine.l0 k l0 l1 a2 (([] : List (S45))) l1 (l1.length : Int) 0) = some (r1, r2, r3) := by rw [if_pos rfl] at H; exact H
  clear H
  have H := H1
  clear H1
  obtain ⟨y244, hy244⟩ : ∃ y_ : List (S45), y_ = (([] : List (S45))) := ⟨_, rfl⟩
  replace H : (impl_LongestLine.l0 k l0 l1 a2 y244 l1 (l1.length : Int) 0) = some (r1, r2, r3) := by first | (rw [hy244]; with_reducible exact H) | (have H2_ := (Option.bind_some _ _).symm.trans H; rw [hy244]; with_reducible exact H2_) | (have H2_ := (Option.bind_some _ _).symm.trans H; with_reducible exact H2_) | with_reducible exact H | (rw [hy244]; exact H) | exact H
  have Ny244 := aS hy244
  clear hy244
  have H' := aS H
  clear H
  go_wp2_with (first | ((with_reducible refine gate_dst (N := 19) rfl ?_); (try (refine gate_guard (by rfl) ?_; dsimp only)); refine Kd.R_lit k45 _ 45 ?hg (N := 19) ?hd (xs := ([] : List (S45))) (inner := []) (ok := fun _ => True) (okp := fun _ => True) ?hr ?hp (fun _ hk => hk) trivial (Below.refl _ _) (Nat.le_refl _) (by simp) ?_; (case hd => rfl); (case hg => rfl); (case hr => first | (go_simp; done) | (go_simp; rfl)); (case hp => exact (Reps.none _ _)); intro v245 w9 ho10 hb hg_ hnew_; clear hg_ hnew_; (first | rw [← Ny244.out] at ho10 | (simp only [Int.reduceToNat] at ho10; rw [← Ny244.out] at ho10)); have HO246 := aS (Kd.R_lower ho10 (below_size (sW HB.out))); replace BK242 := aS (blk_below (sB BK242.out) hb); replace HB := aS (below_step (sW HB.out) hb); clear hb ho10))
  go_loopg [8, 22] k (fun kq v8 v22 w' => ∃ (x8_1 : List (S45)) (x22_1 : Int), v22 = .int .i64 x22_1 ∧ Aside0 (impl_LongestLine.l0 kq l0 l1 a2 x8_1 l1 (l1.length : Int) x22_1 = some (r1, r2, r3)) ∧ Aside0 (kq ≤ k) ∧ Aside0 (Kd.R k45 45 w' w.heap.size (fun _ => True) v8 x8_1) ∧ Aside0 (w'.heap[gb242]? = some (.cells #[(.slice none 0 0), (.slice none 0 0)] 29 (0, 0))) ∧ Aside0 (Below w.heap.size w w'))
  case atStart => exact ⟨(y244), (0), eV, H', ⟨Nat.le_refl _⟩, (aS (sR HO246.out)), (aS (sB BK242.out)), (aS (sW HB.out))⟩
  case round =>
   clear H'
   obtain ⟨x8_1, x22_1, rfl, HA, HK1, HO_8, BK242, HB⟩ := hrel
   cases gk with
   | zero => exact absurd HA.out (by simp [impl_LongestLine.l0])
   | succ k1 =>
    have H := HA.out
    clear HA
    simp only [impl_LongestLine.l0] at H
    replace H := iE H; rcases H with ⟨c11, H⟩ | ⟨c11, H⟩
    ·
     have c11b0 := decide_eq_true c11
     clear c11
     (first | rw [c11b0] | (simp only [i64_w, i32_w]; rw [c11b0]) | (rw [c11b2]; simp only [Bool.not_false, Bool.not_true]) | skip)
     replace H := iN H
     obtain ⟨c12, H⟩ := H
     have c12b0 := decide_eq_true c12
     clear c12
     replace H := iN H
     obtain ⟨c13, H⟩ := H
     have c13b0 := decide_eq_true c13
     clear c13
     replace H := Option.bind_eq_some_iff.mp H
     obtain ⟨t249, A140, H⟩ := H
     replace H : (if t249 = true then (if ((rd_T45 l1 x22_1).f0) ≥ a2 then (if x8_1.length < 8796093022208 then (impl_LongestLine.l0 k1 l0 l1 a2 (x8_1 ++ [(⟨(rd_T45 l1 x22_1).f0, (rd_T45 l1 x22_1).f1⟩ : S45)]) l1 (l1.length : Int) (wrap64 (x22_1 + 1))) else (none)) else (impl_LongestLine.l0 k1 l0 l1 a2 x8_1 l1 (l1.length : Int) (wrap64 (x22_1 + 1)))) else (some (([] : List (S45)), ([] : List Int), 1))) = some (r1, r2, r3) := H
     have A14 := aS A140
     clear A140
     have HC15 := aS H
     clear H
     have p247 : 0 ≤ (x22_1 : Int) := sD
     have q247 : x22_1 < (l1.length : Int) := sD
     obtain ⟨ad247, e247, hx247_0, hx247_1⟩ := at_T45 HR1.out x22_1 p247 q247
     cases e247
     replace hx247_0 := bC HB.out hx247_0
     replace hx247_1 := bC HB.out hx247_1
     replace p247 := eq_true p247
     replace q247 := eq_true q247
     go_upto_if 28 with (first | ((with_reducible refine gate_dst (N := 10) rfl ?_); (try (refine gate_guard (by rfl) ?_; dsimp only)); refine bx 10 #[.int .i64 0, .int .i64 0] 45 ?_; intro gb248 hg w16 hbox hb; replace HO_8 := aS (Kd.R_below (Kd.R_elderB (sR HO_8.out) gb248 (Nat.le_of_eq hg.symm)) hb); have BK248 := aS (hbox); have GW248 := aS (gW hg (sW HB.out)); have GE248 := aS (gW hg (sW HB.out)); replace HB := aS (below_step (sW HB.out) hb); have NB242_248 := aS (nL hg (sB BK242.out)); have NB248_242 := aS (nG hg (sB BK242.out)); replace BK242 := aS (blk_below (sB BK242.out) hb); clear hb hbox hg; have hnb17 := NB248_242.out; have hnc17 := NB242_248.out; obtain ⟨hcz18_0, hcz18_1, hfz18_0, hfz18_1⟩ := z2 BK248.out) | ((with_reducible refine gate_callee (f := 49) rfl ?_); refine goesL_ (some 27) rfl rfl Try.func49 (by kernel_rfl) rfl #[.agg #[.int .i64 ((rd_T45 l1 x22_1).f0), .int .i64 ((rd_T45 l1 x22_1).f1)]] rfl sG ?_; (with_reducible refine (impl_validPiece.calls ((rd_T45 l1 x22_1).f0) ((rd_T45 l1 x22_1).f1) t249 _ A14.out).mono ?_); rintro e w19 ⟨rfl, hb⟩; refine ⟨_, rfl, ?_⟩; replace HO_8 := aS (Kd.R_below (sR (Kd.R_mono (rG (g := gb248) (Kd.R_mono HO_8.out (fun k_ hk => (⟨hk, hk.2⟩ : _ ∧ k_ ≠ gb248))) (fun _ hk => hk.2)) (fun _ h_ => h_.1))) hb); replace BK242 := aS (blk_below (sF BK242.out NB242_248.out) hb); replace BK248 := aS (blk_below (sB (put2 BK248.out)) hb); replace HB := aS (below_step (sW HB.out) hb)))
     (try simp only [Act.put, List.setIfInBounds_toArray, List.set_cons_zero, List.set_cons_succ])
     have H := HC15.out
     clear HC15
     by_cases c20 : t249 = true
     rotate_left
     ·
      replace c20 := Bool.eq_false_iff.mpr c20
      subst c20
      have H1 : (some (([] : List (S45)), ([] : List Int), 1)) = some (r1, r2, r3) := by rw [if_neg (show ¬ (false = true) by decide)] at H; exact H
      clear H
      have H := H1
      clear H1
      simp only [Option.some.injEq, Prod.mk.injEq] at H
      obtain ⟨rfl, rfl, rfl⟩ := H
      have hnb28 := NB242_248.out
      have hnc28 := NB248_242.out
      obtain ⟨hcz29_0, hcz29_1, hfz29_0, hfz29_1⟩ := z2 BK242.out
      go_wp2
      refine bodyPost_ret (results_ct rfl _ _ gb242 29 #[.slice none 0 0, .slice none 0 0] (0, 0) _ rfl (sB (put2 BK242.out)) Try.underlying29 rfl (by kernel_rfl)) rfl ?_
      exact ⟨_, _, eE, eN, eN, sW HB.out⟩
     subst c20
     have H1 : (if ((rd_T45 l1 x22_1).f0) ≥ a2 then (if x8_1.length < 8796093022208 then (impl_LongestLine.l0 k1 l0 l1 a2 (x8_1 ++ [(⟨(rd_T45 l1 x22_1).f0, (rd_T45 l1 x22_1).f1⟩ : S45)]) l1 (l1.length : Int) (wrap64 (x22_1 + 1))) else (none)) else (impl_LongestLine.l0 k1 l0 l1 a2 x8_1 l1 (l1.length : Int) (wrap64 (x22_1 + 1)))) = some (r1, r2, r3) := by rw [if_pos rfl] at H; exact H
     clear H
     have H := H1
     clear H1
     replace H := iE H; rcases H with ⟨c21, H⟩ | ⟨c21, H⟩
     rotate_left
     ·
      have c21b0 : decide (a2 ≤ ((rd_T45 l1 x22_1).f0)) = false := decide_eq_false c21
      clear c21
      (first | rw [c21b0] | (simp only [i64_w, i32_w]; rw [c21b0]) | (rw [c21b2]; simp only [Bool.not_false, Bool.not_true]) | skip)
      have H' := aS H
      clear H
      have hnb26 := NB248_242.out
      have hnc26 := NB242_248.out
      obtain ⟨hcz27_0, hcz27_1, hfz27_0, hfz27_1⟩ := z2 BK248.out
      go_wp2
      go_roundg k1
      case measure => have := HK1.out; omega
      case rel => exact ⟨(x8_1), (wrap64 (x22_1 + 1)), eV, H', ⟨by have := HK1.out; omega⟩, (aS (sR (Kd.R_mono HO_8.out (fun _ hk => trivial)))), (aS (sB BK242.out)), (aS (sW HB.out))⟩
     have c21b0 : decide (a2 ≤ ((rd_T45 l1 x22_1).f0)) = true := decide_eq_true c21
     clear c21
     (first | rw [c21b0] | (simp only [i64_w, i32_w]; rw [c21b0]) | (rw [c21b2]; simp only [Bool.not_false, Bool.not_true]) | skip)
     replace H := iN H
     obtain ⟨c22, H⟩ := H
     have LMc22 := aS c22
     clear c22
     obtain ⟨y250, hy250⟩ : ∃ y_ : List (S45), y_ = (x8_1 ++ [(⟨(rd_T45 l1 x22_1).f0, (rd_T45 l1 x22_1).f1⟩ : S45)]) := ⟨_, rfl⟩
     replace H : (impl_LongestLine.l0 k1 l0 l1 a2 y250 l1 (l1.length : Int) (wrap64 (x22_1 + 1))) = some (r1, r2, r3) := by first | (rw [hy250]; with_reducible exact H) | (have H2_ := (Option.bind_some _ _).symm.trans H; rw [hy250]; with_reducible exact H2_) | (have H2_ := (Option.bind_some _ _).symm.trans H; with_reducible exact H2_) | with_reducible exact H | (rw [hy250]; exact H) | exact H
     have Ny250 := aS hy250
     clear hy250
     have H' := aS H
     clear H
     have hnb23 := NB248_242.out
     have hnc23 := NB242_248.out
     obtain ⟨hcz24_0, hcz24_1, hfz24_0, hfz24_1⟩ := z2 BK248.out
     go_wp2_with (first | ((with_reducible refine gate_builtin (b := .append) (xs := #[.tmp 34, .tmp 36]) rfl ?_); (try (refine gate_guard (by rfl) ?_; dsimp only)); at_builtin; refine Kd.R_append k45 (w0 := w) w.heap.size rfl (.tmp 34) (.tmp 36) 26 45 (.agg #[(.int .i64 0), (.int .i64 0)]) 16 rfl Try.underlying26 info45 rfl (by decide) (by omega) u8 x8_1 (⟨(rd_T45 l1 x22_1).f0, (rd_T45 l1 x22_1).f1⟩ : S45) [.int .i64 ((rd_T45 l1 x22_1).f0), .int .i64 ((rd_T45 l1 x22_1).f1)] (fun k_ => k_ ≠ gb248) (fun _ => False) rfl rfl ?aP (fun _ hk => hk.elim) ?aF ?aO ?aB ?aS ?aL ?_; (case aP => exact k45_mkM _ _ _ (⟨(rd_T45 l1 x22_1).f0, (rd_T45 l1 x22_1).f1⟩ : S45)); (case aB => exact (sW HB.out)); (case aF => exact (fun k_ hk => Kd.freshB (g := gb248) (o := .cells #[.int .i64 ((rd_T45 l1 x22_1).f0), .int .i64 ((rd_T45 l1 x22_1).f1)] 45 (0, 0)) (sB BK248.out) k_ hk)); (case aO => exact (sR (Kd.R_mono HO_8.out (fun _ hk => hk.2)))); (case aS => exact (below_size (sW HB.out))); (case aL => have := LMc22.out; omega); intro v251 w25 ho hb hg hat; rw [← Ny250.out] at ho; replace BK242 := aS (blk_grown (sB BK242.out) hg (Kd.R_ne HO_8.out BK242.out (by decide))); replace BK248 := aS (blk_grown (sB BK248.out) hg (Kd.R_away HO_8.out (fun _ hk => hk.2))); replace HB := aS (hb); have HO252 := aS (ho); clear HO_8; clear ho hb hg hat))
     go_roundg k1
     case measure => have := HK1.out; omega
     case rel => exact ⟨(y250), (wrap64 (x22_1 + 1)), eV, H', ⟨by have := HK1.out; omega⟩, (aS (sR (Kd.R_mono HO252.out (fun _ hk => trivial)))), (aS (sB BK242.out)), (aS (sW HB.out))⟩
    have c11b0 := decide_eq_false c11
    clear c11
    (first | rw [c11b0] | (simp only [i64_w, i32_w]; rw [c11b0]) | (rw [c11b2]; simp only [Bool.not_false, Bool.not_true]) | skip)
    have HC30 := aS H
    clear H
    go_upto_region 12 with (fail)
    go_cut [46] (fun v46 wc => ∃ (kq : Nat) (x46_29 : Bool), v46 = .bool x46_29 ∧ Aside0 (impl_LongestLine.j1 kq l0 a2 x8_1 x46_29 = some (r1, r2, r3)) ∧ Aside0 (kq ≤ k1) ∧ Aside0 (Kd.R k45 45 wc w.heap.size (fun _ => True) u8 x8_1) ∧ Aside0 (wc.heap[gb242]? = some (.cells #[(.slice none 0 0), (.slice none 0 0)] 29 (0, 0))) ∧ Aside0 (Below w.heap.size w wc))
    case first =>
     have H := HC30.out
     clear HC30
     replace H := Option.bind_eq_some_iff.mp H
     obtain ⟨t253, A310, H⟩ := H
     replace H : (if t253 = true then (impl_LongestLine.j1 k1 l0 a2 x8_1 (decide ((l1.length : Int) > 12))) else (impl_LongestLine.j1 k1 l0 a2 x8_1 true)) = some (r1, r2, r3) := H
     have A31 := aS A310
     clear A310
     by_cases c32 : t253 = true
     ·
      subst c32
      have H1 : (impl_LongestLine.j1 k1 l0 a2 x8_1 (decide ((l1.length : Int) > 12))) = some (r1, r2, r3) := by rw [if_pos rfl] at H; exact H
      clear H
      have H := H1
      clear H1
      have H' := aS H
      clear H
      go_wp2_with (first | ((with_reducible refine gate_callee (f := 50) rfl ?_); refine goesL_ (some 40) rfl rfl Try.func50 (by kernel_rfl) rfl #[.int .i64 a2, .int .i64 0, .int .i64 1000000] rfl sG ?_; (with_reducible refine (impl_within.calls a2 0 1000000 true _ A31.out).mono ?_); rintro e w' ⟨rfl, ⟨nd, rfl⟩⟩; refine ⟨_, rfl, ?_⟩))
      go_meet
      case rel => exact ⟨_, (decide ((l1.length : Int) > 12)), eV, H', ⟨by have := HK1.out; first | omega | exact Nat.le_refl _⟩, (aS (sR HO_8.out)), (aS (sB BK242.out)), (aS (sW HB.out))⟩
     replace c32 := Bool.eq_false_iff.mpr c32
     subst c32
     have H1 : (impl_LongestLine.j1 k1 l0 a2 x8_1 true) = some (r1, r2, r3) := by rw [if_neg (show ¬ (false = true) by decide)] at H; exact H
     clear H
     have H := H1
     clear H1
     have H' := aS H
     clear H
     go_wp2_with (first | ((with_reducible refine gate_callee (f := 50) rfl ?_); refine goesL_ (some 40) rfl rfl Try.func50 (by kernel_rfl) rfl #[.int .i64 a2, .int .i64 0, .int .i64 1000000] rfl sG ?_; (with_reducible refine (impl_within.calls a2 0 1000000 false _ A31.out).mono ?_); rintro e w' ⟨rfl, ⟨nd, rfl⟩⟩; refine ⟨_, rfl, ?_⟩))
     go_meet
     case rel => exact ⟨_, (true), eV, H', ⟨by have := HK1.out; first | omega | exact Nat.le_refl _⟩, (aS (sR HO_8.out)), (aS (sB BK242.out)), (aS (sW HB.out))⟩
    case rest =>
     clear HC30
     (try clear hx2); (try clear hx24); (try clear hx247_0); (try clear hx247_1)
     obtain ⟨kq, x46_29, rfl, HA, HJ29, HO_8, BK242, HB⟩ := hcut
     cases kq with
     | zero => exact absurd HA.out (by simp [impl_LongestLine.j1])
     | succ kj29 =>
      have H := HA.out
      clear HA
      simp only [impl_LongestLine.j1] at H
      by_cases c33 : x46_29 = true
      ·
       subst c33
       have H1 : (some (([] : List (S45)), ([] : List Int), 2)) = some (r1, r2, r3) := by rw [if_pos rfl] at H; exact H
       clear H
       have H := H1
       clear H1
       simp only [Option.some.injEq, Prod.mk.injEq] at H
       obtain ⟨rfl, rfl, rfl⟩ := H
       obtain ⟨hcz34_0, hcz34_1, hfz34_0, hfz34_1⟩ := z2 BK242.out
       go_wp2
       refine bodyPost_ret (results_ct rfl _ _ gb242 29 #[.slice none 0 0, .slice none 0 0] (0, 0) _ rfl (sB (put2 BK242.out)) Try.underlying29 rfl (by kernel_rfl)) rfl ?_
       exact ⟨_, _, eE, eN, eN, sW HB.out⟩
      replace c33 := Bool.eq_false_iff.mpr c33
      subst c33
      have H1 : (if (x8_1.length : Int) = 0 then (some (([] : List (S45)), ([] : List Int), 3)) else ((impl_LinePiece_51.f kj29 x8_1 0).bind fun t254 => (if 0 < (x8_1.length : Int) then (if 1 ≤ (x8_1.length : Int) then ((some (t254.drop (1 : Int).toNat : List (S45))).bind fun y260 => (impl_LongestLine.l1 kj29 l0 a2 y260 (y260.length : Int) 0 (([(⟨(rd_T45 t254 0).f0, (rd_T45 t254 0).f1⟩ : S45)] : List (S45))) ([] : List Int))) else (none)) else (none)))) = some (r1, r2, r3) := by rw [if_neg (show ¬ (false = true) by decide)] at H; exact H
      clear H
      have H := H1
      clear H1
      replace H := iE H; rcases H with ⟨c35, H⟩ | ⟨c35, H⟩
      ·
       have c35b0 := beq_iff_eq.mpr c35
       have c35b1 := bne_eq_false_iff_eq.mpr c35
       clear c35
       simp only [Option.some.injEq, Prod.mk.injEq] at H
       obtain ⟨rfl, rfl, rfl⟩ := H
       obtain ⟨Ao36, co36, eo36⟩ := Kd.R_slice HO_8.out
       subst eo36
       obtain ⟨hcz37_0, hcz37_1, hfz37_0, hfz37_1⟩ := z2 BK242.out
       go_wp2
       refine bodyPost_ret (results_ct rfl _ _ gb242 29 #[.slice none 0 0, .slice none 0 0] (0, 0) _ rfl (sB (put2 BK242.out)) Try.underlying29 rfl (by kernel_rfl)) rfl ?_
       exact ⟨_, _, eE, eN, eN, sW HB.out⟩
      have c35b0 := beq_eq_false_iff_ne.mpr c35
      have c35b1 := bne_iff_ne.mpr c35
      have c35b2 : ¬ (x8_1 = []) := fun h_ => c35 (by rw [h_]; rfl)
      replace H := Option.bind_eq_some_iff.mp H
      obtain ⟨t254, A380, H⟩ := H
      replace H : (if 0 < (x8_1.length : Int) then (if 1 ≤ (x8_1.length : Int) then ((some (t254.drop (1 : Int).toNat : List (S45))).bind fun y260 => (impl_LongestLine.l1 kj29 l0 a2 y260 (y260.length : Int) 0 (([(⟨(rd_T45 t254 0).f0, (rd_T45 t254 0).f1⟩ : S45)] : List (S45))) ([] : List Int))) else (none)) else (none)) = some (r1, r2, r3) := H
      have A38 := aS A380
      clear A380
      replace H := iN H
      obtain ⟨c39, H⟩ := H
      have c39b0 := decide_eq_true c39
      have c39b1 : decide (0 < x8_1.length) = true := decide_eq_true (by omega)
      clear c39
      obtain ⟨y256, hy256⟩ : ∃ y_ : List (S45), y_ = (([(⟨(rd_T45 t254 0).f0, (rd_T45 t254 0).f1⟩ : S45)] : List (S45))) := ⟨_, rfl⟩
      replace H : (if 1 ≤ (x8_1.length : Int) then ((some (t254.drop (1 : Int).toNat : List (S45))).bind fun y260 => (impl_LongestLine.l1 kj29 l0 a2 y260 (y260.length : Int) 0 y256 ([] : List Int))) else (none)) = some (r1, r2, r3) := by first | (rw [hy256]; with_reducible exact H) | (have H2_ := (Option.bind_some _ _).symm.trans H; rw [hy256]; with_reducible exact H2_) | (have H2_ := (Option.bind_some _ _).symm.trans H; with_reducible exact H2_) | with_reducible exact H | (rw [hy256]; exact H) | exact H
      have Ny256 := aS hy256
      clear hy256
      replace H := iN H
      obtain ⟨c40, H⟩ := H
      have c40b0 := eq_true c40
      have c40b1 := decide_eq_true c40
      clear c40
      obtain ⟨y260, hy260⟩ : ∃ y_ : List (S45), y_ = (t254.drop (1 : Int).toNat) := ⟨_, rfl⟩
      replace H : (impl_LongestLine.l1 kj29 l0 a2 y260 (y260.length : Int) 0 y256 ([] : List Int)) = some (r1, r2, r3) := by first | (rw [hy260]; with_reducible exact H) | (have H2_ := (Option.bind_some _ _).symm.trans H; rw [hy260]; with_reducible exact H2_) | (have H2_ := (Option.bind_some _ _).symm.trans H; with_reducible exact H2_) | with_reducible exact H | (rw [hy260]; exact H) | exact H
      have Ny260 := aS hy260
      clear hy260
      have H' := aS H
      clear H
      obtain ⟨Ao41, co41, eo41⟩ := Kd.R_slice HO_8.out
      subst eo41
      go_wp2_with (first | ((with_reducible refine gate_callee (f := 51) rfl ?_); refine goesL_ (some 53) rfl rfl Try.func51 (by kernel_rfl) rfl #[.slice Ao41 x8_1.length co41, .func (.func 52) #[] #[]] rfl sG ?_; (with_reducible refine (impl_LinePiece_51.calls kj29 (fun k_ => some k_ = (.slice Ao41 x8_1.length co41 : Value).ownBlock) (.slice Ao41 x8_1.length co41) x8_1 0 t254 w _ ?side1 ?side2 A38.out).mono ?_); (case side1 => exact sW HB.out); (case side2 => exact Kd.R_tight rfl HO_8.out); rintro e w42 ⟨rfl, hy0, hb, hkp⟩; refine ⟨_, rfl, ?_⟩; replace BK242 := aS (blk_kept (sB BK242.out) hkp (fun hs_ => (fun e_ => (Kd.R_ne HO_8.out BK242.out (by decide)) e_) hs_)); replace HO_8 := aS (Kd.R_reok rfl hy0 (fun k_ e_ => HO_8.out.1 k_ e_)); replace HB := aS (hb); (try clear hb); (try clear hkp); (try clear hy0); have p255 : 0 ≤ (0 : Int) := (by omega); have q255 : 0 < (t254.length : Int) := (by have h_ : (0 : Int) < ((x8_1.length : Int) : Int) := sD; have e_ := (Kd.R_reads' HO_8.out).1; omega); have ql255 : ((0 : Int) < ((x8_1.length : Int) : Int)) = True := eq_true (sD); (try have qn255 : (0 < x8_1.length) = True := eq_true (by have h_ : (0 : Int) < ((x8_1.length : Int) : Int) := sD; omega)); obtain ⟨ad255, e255, hx255_0, hx255_1⟩ := at_T45 (Kd.R_reads' HO_8.out).2.2 0 p255 q255; cases e255; have qi255 : (0 < t254.length) = True := eq_true (by omega); (try rw [show ((0 : Int)).toNat = 0 from rfl] at hx255_0); (try rw [show 0 * 2 = 0 from rfl] at hx255_0); (try rw [Addr.add_zero'] at hx255_0); (try rw [show ((0 : Int)).toNat = 0 from rfl] at hx255_1); (try rw [show 0 * 2 = 0 from rfl] at hx255_1); (try rw [Addr.add_zero'] at hx255_1); replace p255 := eq_true p255; replace q255 := eq_true q255) | ((with_reducible refine gate_dst (N := 57) rfl ?_); (try (refine gate_guard (by rfl) ?_; dsimp only)); refine Kd.R_lit k45 _ 45 ?hg (N := 57) ?hd (xs := ([(⟨(rd_T45 t254 0).f0, (rd_T45 t254 0).f1⟩ : S45)] : List (S45))) (inner := [.int .i64 ((rd_T45 t254 0).f0), .int .i64 ((rd_T45 t254 0).f1)]) (ok := fun _ => True) (okp := fun _ => True) ?hr ?hp (fun _ hk => hk) trivial (Below.refl _ _) (Nat.le_refl _) (by simp) ?_; (case hd => rfl); (case hg => rfl); (case hr => first | (go_simp; done) | (go_simp; rfl)); (case hp => exact (Reps.c2 (show Kd.M k45 _ _ _ (⟨(rd_T45 t254 0).f0, (rd_T45 t254 0).f1⟩ : S45) [.int .i64 ((rd_T45 t254 0).f0), .int .i64 ((rd_T45 t254 0).f1)] from (k45_mkM _ _ _ (⟨(rd_T45 t254 0).f0, (rd_T45 t254 0).f1⟩ : S45) )) (Reps.none _ _))); intro v257 w43 ho44 hb hg_ hnew_; clear hg_ hnew_; (first | rw [← Ny256.out] at ho44 | (simp only [Int.reduceToNat] at ho44; rw [← Ny256.out] at ho44)); have HO258 := aS (Kd.R_lower (Kd.R_new' ho44 (Kd.R_lt (sR HO_8.out))) (below_size (sW HB.out))); replace HO_8 := aS (Kd.R_elder' (sR HO_8.out) (Kd.R_base ho44) hb); replace BK242 := aS (blk_below (sB BK242.out) hb); replace HB := aS (below_step (sW HB.out) hb); clear hb ho44; obtain ⟨Ao45, co45, eo45⟩ := Kd.R_slice HO258.out; subst eo45) | ((with_reducible refine gate_dst (N := 11) rfl ?_); (try (refine gate_guard (by rfl) ?_; dsimp only)); refine bx 11 #[.slice none 0 0, .slice none 0 0] 29 ?_; intro gb259 hg w46 hbox hb; replace HO_8 := aS (Kd.R_below (sR HO_8.out) hb); replace HO258 := aS (Kd.R_below (sR HO258.out) hb); have BK259 := aS (hbox); have GW259 := aS (gW hg (sW HB.out)); have GE259 := aS (gW hg (sW HB.out)); replace HB := aS (below_step (sW HB.out) hb); have NB242_259 := aS (nL hg (sB BK242.out)); have NB259_242 := aS (nG hg (sB BK242.out)); replace BK242 := aS (blk_below (sB BK242.out) hb); clear hb hbox hg; have hnb47 := NB259_242.out; have hnc47 := NB242_259.out; obtain ⟨hcz48_0, hcz48_1, hfz48_0, hfz48_1⟩ := z2 BK259.out) | ((with_reducible refine gate_store (t := 29) (p := 11) rfl ?_); refine store_event (t := 29) (p := 11) (v := ?vo_w49) (w1 := ((w46.setCell ⟨gb259, 0, none⟩ (.slice Ao45 y256.length co45)).setCell ⟨gb259, 1, none⟩ (.slice none 0 0))) ?hg ?ho ?hn ?hr ?_; (case ho => rfl); (case hg => rfl); (case hn => rfl); (case hr => first | (go_simp; done) | (go_simp; rfl)); intro w49 hw; have n0_ : Aside0 (Kd.R k45 45 w49 w.heap.size (fun k_ => some k_ ≠ (.slice Ao45 y256.length co45 : Value).ownBlock) (.slice (some ad255) x8_1.length co41) t254) := ⟨(by rw [hw]; exact (sR (Kd.R_mono (rG (g := gb259) (Kd.R_types HO_8.out BK259.out (by decide)) (fun _ hk => hk.2)) (fun _ hk => hk.1.2))))⟩; have n1_ : Aside0 (Kd.R k45 45 w49 w.heap.size (fun k_ => some k_ ≠ (.slice (some ad255) x8_1.length co41 : Value).ownBlock) (.slice Ao45 y256.length co45) y256) := ⟨(by rw [hw]; exact (sR (Kd.R_mono (rG (g := gb259) (Kd.R_types HO258.out BK259.out (by decide)) (fun _ hk => hk.2)) (fun _ hk => hk.1.2))))⟩; have n2_ : Aside0 (w49.heap[gb242]? = some (.cells #[.slice none 0 0, .slice none 0 0] 29 (0, 0))) := ⟨(by rw [hw]; exact (sF BK242.out NB242_259.out))⟩; have n3_ : Aside0 (w49.heap[gb259]? = some (.cells #[.slice Ao45 y256.length co45, .slice none 0 0] 29 (0, 0))) := ⟨(by rw [hw]; exact (sB (put2 BK259.out)))⟩; have n4_ : Aside0 (Below w.heap.size w w49) := ⟨(by rw [hw]; exact (sW HB.out))⟩; clear hw HO_8 HO258 BK242 BK259 HB; have HO_8 := n0_; have HO258 := n1_; have BK242 := n2_; have BK259 := n3_; have HB := n4_; clear n0_ n1_ n2_ n3_ n4_; have q50 : (1 : Int) ≤ ((x8_1.length : Int) : Int) := sD; obtain ⟨i050, hi050, _, hsz50, _⟩ := info_parts info45; have hcut50 := cut_from (P := Try.prog) 26 45 .i64 Try.underlying26 hi050 2 hsz50 (some ad255) x8_1.length co41 1 (by omega) q50; have hr50 := Kd.Q_drop (k := (1 : Int).toNat) (Kd.Q_of_R HO_8.out) (by first | omega | (have hl_ := (Kd.R_reads' HO_8.out).1; omega)); obtain ⟨A50, hA50⟩ : ∃ A1, A1 = (if co41 = (1 : Int).toNat then (some ad255) else ((some ad255) : Option Addr).map (·.add ((1 : Int).toNat * 2))) := ⟨_, rfl⟩; obtain ⟨c50, hc50⟩ : ∃ c1, c1 = co41 - (1 : Int).toNat := ⟨_, rfl⟩; have hy50 : y260.length = x8_1.length - (1 : Int).toNat := (by first | (rw [Ny260.out, List.length_drop]; done) | (have hl_ := (Kd.R_reads' HO_8.out).1; rw [Ny260.out, List.length_drop]; omega)); rw [← Ny260.out] at hr50; rw [← hy50, ← hA50, ← hc50] at hcut50; replace hr50 : Kd.Q k45 45 w49 w.heap.size (fun k_ => some k_ ≠ (.slice Ao45 y256.length co45 : Value).ownBlock) (.slice A50 y260.length c50) y260 := (by rw [hA50, hc50, hy50]; exact hr50); have HE50 : Aside0 ((Value.slice A50 y260.length c50).ownBlock = (.slice (some ad255) x8_1.length co41 : Value).ownBlock) := ⟨by rw [hA50]; split <;> (cases ((some ad255) : Option Addr) <;> rfl)⟩; clear hy50 hi050 hsz50 HO_8 hA50 hc50; have HO262 := aS hr50; clear hr50; replace q50 := eq_true q50; have n_ := aS (Kd.R_mono (ok' := fun k_ => some k_ ≠ (.slice A50 y260.length c50 : Value).ownBlock) HO258.out (fun k_ hk => (by rw [HE50.out]; exact hk))); clear HO258; have HO258 := n_; clear n_))
      (try simp only [Act.put, List.setIfInBounds_toArray, List.set_cons_zero, List.set_cons_succ])
      go_loopg [62] kj29 (fun kq v62 w' => ∃ (x62_3 : Int) (x260000_3 : List (S45)) (x260001_3 : List Int) (u260000 : Value) (u260001 : Value), v62 = .int .i64 x62_3 ∧ Aside0 (impl_LongestLine.l1 kq l0 a2 y260 (y260.length : Int) x62_3 x260000_3 x260001_3 = some (r1, r2, r3)) ∧ Aside0 (kq ≤ kj29) ∧ Aside0 (Kd.Q k45 45 w' w.heap.size (fun k_ => some k_ ≠ (u260000 : Value).ownBlock) (.slice A50 y260.length c50) y260) ∧ Aside0 (Kd.R k45 45 w' w.heap.size (fun k_ => some k_ ≠ ((.slice A50 y260.length c50) : Value).ownBlock) u260000 x260000_3) ∧ Aside0 (Kd.R (Kd.int .i64) 2 w' w.heap.size (fun _ => True) u260001 x260001_3) ∧ Aside0 (w'.heap[gb242]? = some (.cells #[(.slice none 0 0), (.slice none 0 0)] 29 (0, 0))) ∧ Aside0 (w'.heap[gb259]? = some (.cells #[u260000, u260001] 29 (0, 0))) ∧ Aside0 (Below w.heap.size w w'))
      case atStart => exact ⟨(0), (y256), (([] : List Int)), (.slice Ao45 y256.length co45), (.slice none 0 0), eV, H', ⟨Nat.le_refl _⟩, ⟨by (with_reducible repeat (first | apply Kd.Q_alloc | apply Kd.Q_drewN | apply Kd.Q_drew)); exact HO262.out⟩, (aS (sR HO258.out)), ⟨eN⟩, (aS (sB BK242.out)), (aS (sB BK259.out)), (aS (sW HB.out))⟩
      case round =>
       clear H'
       (try clear hx2); (try clear hx24); (try clear hx25); (try clear hx247_0); (try clear hx247_1); (try clear hx255_0); (try clear hx255_1)
       obtain ⟨x62_3, x260000_3, x260001_3, u260000, u260001, rfl, HA, HK3, HO_60, HO_260000, HO_260001, BK242, BK259, HB⟩ := hrel
       cases gk with
       | zero => exact absurd HA.out (by simp [impl_LongestLine.l1])
       | succ k3 =>
        have H := HA.out
        clear HA
        simp only [impl_LongestLine.l1] at H
        replace H := iE H; rcases H with ⟨c51, H⟩ | ⟨c51, H⟩
        rotate_left
        ·
         have c51b0 := decide_eq_false c51
         clear c51
         simp only [Option.some.injEq, Prod.mk.injEq] at H
         obtain ⟨rfl, rfl, rfl⟩ := H
         have hnb94 := NB259_242.out
         have hnc94 := NB242_259.out
         obtain ⟨hcz95_0, hcz95_1, hfz95_0, hfz95_1⟩ := z2 BK259.out
         obtain ⟨Ao96, co96, eo96⟩ := Kd.R_slice HO_260000.out
         subst eo96
         obtain ⟨hcz97_0, hcz97_1, hfz97_0, hfz97_1⟩ := z2 BK242.out
         obtain ⟨Ao98, co98, eo98⟩ := Kd.R_slice HO_260001.out
         subst eo98
         go_wp2
         refine bodyPost_ret (results_ct rfl _ _ gb242 29 #[.slice Ao96 x260000_3.length co96, .slice Ao98 x260001_3.length co98] (0, 0) _ rfl (sB (put2 BK242.out)) Try.underlying29 rfl (by kernel_rfl)) rfl ?_
         exact ⟨_, _, eE, sR (Kd.R_mono (rG (g := gb242) (Kd.R_types HO_260000.out BK242.out (by decide)) (fun _ hk => hk.2)) (fun _ hk => trivial)), sR (Kd.R_mono (rG (g := gb242) (Kd.R_types HO_260001.out BK242.out (by decide)) (fun _ hk => hk.2)) (fun _ hk => trivial)), sW HB.out⟩
        have c51b0 := decide_eq_true c51
        clear c51
        replace H := iN H
        obtain ⟨c52, H⟩ := H
        have c52b0 := decide_eq_true c52
        clear c52
        replace H := iN H
        obtain ⟨c53, H⟩ := H
        have c53b0 := decide_eq_true c53
        clear c53
        obtain ⟨ji54, hji54⟩ : ∃ j_ : Int, (wrap64 ((x260000_3.length : Int) - 1)) = j_ := ⟨_, rfl⟩
        replace H : (if 0 ≤ (ji54) then (if (ji54) < (x260000_3.length : Int) then ((impl_bestJoin.f k3 l0 ((rd_T45 x260000_3 (ji54)).f0) ((rd_T45 x260000_3 (ji54)).f1) ((rd_T45 y260 x62_3).f0) ((rd_T45 y260 x62_3).f1) a2).bind fun t266 => (if t266 ≥ 0 then (if 0 ≤ t266 then (if t266 < (l0.length : Int) then (if ((rd_T61 l0 t266).f2) < ((rd_T45 y260 x62_3).f1) then (if x260000_3.length < 8796093022208 then (if x260001_3.length < 17592186044416 then (impl_LongestLine.l1 k3 l0 a2 y260 (y260.length : Int) (wrap64 (x62_3 + 1)) (x260000_3 ++ [(⟨(rd_T45 y260 x62_3).f0, (rd_T45 y260 x62_3).f1⟩ : S45)]) (x260001_3 ++ [t266])) else (none)) else (none)) else (impl_LongestLine.l1 k3 l0 a2 y260 (y260.length : Int) (wrap64 (x62_3 + 1)) x260000_3 x260001_3)) else (none)) else (none)) else (impl_LongestLine.l1 k3 l0 a2 y260 (y260.length : Int) (wrap64 (x62_3 + 1)) x260000_3 x260001_3))) else (none)) else (none)) = some (r1, r2, r3) := by first | (rw [hji54] at H; exact H) | (simp only [hji54] at H ⊢; exact H)
        have hji54w : (IntKind.i64.wrap ((x260000_3.length : Int) - 1)) = ji54 := (i64_w _).trans hji54
        replace H := iN H
        obtain ⟨c55, H⟩ := H
        have c55b0 := decide_eq_true c55
        clear c55
        replace H := iN H
        obtain ⟨c56, H⟩ := H
        have c56b0 := decide_eq_true c56
        clear c56
        replace H := Option.bind_eq_some_iff.mp H
        obtain ⟨t266, A570, H⟩ := H
        replace H : (if t266 ≥ 0 then (if 0 ≤ t266 then (if t266 < (l0.length : Int) then (if ((rd_T61 l0 t266).f2) < ((rd_T45 y260 x62_3).f1) then (if x260000_3.length < 8796093022208 then (if x260001_3.length < 17592186044416 then (impl_LongestLine.l1 k3 l0 a2 y260 (y260.length : Int) (wrap64 (x62_3 + 1)) (x260000_3 ++ [(⟨(rd_T45 y260 x62_3).f0, (rd_T45 y260 x62_3).f1⟩ : S45)]) (x260001_3 ++ [t266])) else (none)) else (none)) else (impl_LongestLine.l1 k3 l0 a2 y260 (y260.length : Int) (wrap64 (x62_3 + 1)) x260000_3 x260001_3)) else (none)) else (none)) else (impl_LongestLine.l1 k3 l0 a2 y260 (y260.length : Int) (wrap64 (x62_3 + 1)) x260000_3 x260001_3)) = some (r1, r2, r3) := H
        have A57 := aS A570
        clear A570
        replace H := iE H; rcases H with ⟨c58, H⟩ | ⟨c58, H⟩
        rotate_left
        ·
         have c58b0 : decide (0 ≤ t266) = false := decide_eq_false c58
         clear c58
         have H' := aS H
         clear H
         have p263 : 0 ≤ (x62_3 : Int) := sD
         have q263 : x62_3 < (y260.length : Int) := sD
         obtain ⟨ad263, e263, hx263_0, hx263_1⟩ := at_T45 (Kd.Q_reads' HO_60.out).2.2 x62_3 p263 q263
         cases e263
         replace p263 := eq_true p263
         replace q263 := eq_true q263
         try go_wp2_with (first | ((with_reducible refine gate_dst (N := 13) rfl ?_); (try (refine gate_guard (by rfl) ?_; dsimp only)); refine bx 13 #[.int .i64 0, .int .i64 0] 45 ?_; intro gb264 hg w85 hbox hb; replace HO_60 := aS (Kd.Q_below (Kd.Q_elderB (by (with_reducible repeat (first | apply Kd.Q_alloc | apply Kd.Q_drewN | apply Kd.Q_drew)); exact HO_60.out) gb264 (Nat.le_of_eq hg.symm)) hb); replace HO_260000 := aS (Kd.R_below (Kd.R_elderB (sR HO_260000.out) gb264 (Nat.le_of_eq hg.symm)) hb); replace HO_260001 := aS (Kd.R_below (sR HO_260001.out) hb); have BK264 := aS (hbox); have GW264 := aS (gW hg (sW HB.out)); have GE264 := aS (gW hg (sW HB.out)); replace HB := aS (below_step (sW HB.out) hb); have NB242_264 := aS (nL hg (sB BK242.out)); have NB264_242 := aS (nG hg (sB BK242.out)); replace BK242 := aS (blk_below (sB BK242.out) hb); have NB259_264 := aS (nL hg (sB BK259.out)); have NB264_259 := aS (nG hg (sB BK259.out)); replace BK259 := aS (blk_below (sB BK259.out) hb); clear hb hbox hg; have hnb86 := NB264_242.out; have hnc86 := NB242_264.out; have hnb87 := NB264_259.out; have hnc87 := NB259_264.out; obtain ⟨hcz88_0, hcz88_1, hfz88_0, hfz88_1⟩ := z2 BK264.out))
         have n0_ : Aside0 (Kd.Q k45 45 ((w85.setCell ⟨gb264, 0, none⟩ (.int .i64 ((rd_T45 y260 x62_3).f0))).setCell ⟨gb264, 1, none⟩ (.int .i64 ((rd_T45 y260 x62_3).f1))) w.heap.size (fun k_ => some k_ ≠ (u260000 : Value).ownBlock ∧ k_ ≠ gb264) (.slice (some ad263) y260.length c50) y260) := ⟨by (with_reducible repeat (first | apply Kd.Q_alloc | apply Kd.Q_drewN | apply Kd.Q_drew)); exact Kd.Q_mono (Kd.Q_far (p := ⟨gb264, 1, none⟩) (Kd.Q_far (p := ⟨gb264, 0, none⟩) (Kd.Q_mono HO_60.out (fun k_ hk => (⟨hk, hk.2⟩ : _ ∧ k_ ≠ gb264))) (fun _ hk => hk.2) (.int .i64 ((rd_T45 y260 x62_3).f0))) (fun _ hk => hk.2) (.int .i64 ((rd_T45 y260 x62_3).f1))) (fun _ hk => ⟨hk.1.1, hk.1.2⟩)⟩
         have n1_ : Aside0 (Kd.R k45 45 ((w85.setCell ⟨gb264, 0, none⟩ (.int .i64 ((rd_T45 y260 x62_3).f0))).setCell ⟨gb264, 1, none⟩ (.int .i64 ((rd_T45 y260 x62_3).f1))) w.heap.size (fun k_ => some k_ ≠ (.slice (some ad263) y260.length c50 : Value).ownBlock ∧ k_ ≠ gb264) u260000 x260000_3) := (aS (sR (Kd.R_mono (rG (g := gb264) (Kd.R_mono HO_260000.out (fun k_ hk => (⟨hk, hk.2⟩ : _ ∧ k_ ≠ gb264))) (fun _ hk => hk.2)) (fun _ hk => ⟨hk.1.1, hk.1.2⟩))))
         have n2_ : Aside0 (Kd.R (Kd.int .i64) 2 ((w85.setCell ⟨gb264, 0, none⟩ (.int .i64 ((rd_T45 y260 x62_3).f0))).setCell ⟨gb264, 1, none⟩ (.int .i64 ((rd_T45 y260 x62_3).f1))) w.heap.size (fun _ => True) u260001 x260001_3) := (aS (sR (Kd.R_mono (rG (g := gb264) (Kd.R_types HO_260001.out BK264.out (by decide)) (fun _ hk => hk.2)) (fun _ hk => trivial))))
         have n3_ : Aside0 (((w85.setCell ⟨gb264, 0, none⟩ (.int .i64 ((rd_T45 y260 x62_3).f0))).setCell ⟨gb264, 1, none⟩ (.int .i64 ((rd_T45 y260 x62_3).f1))).heap[gb242]? = some (.cells #[.slice none 0 0, .slice none 0 0] 29 (0, 0))) := (aS (sF BK242.out NB242_264.out))
         have n4_ : Aside0 (((w85.setCell ⟨gb264, 0, none⟩ (.int .i64 ((rd_T45 y260 x62_3).f0))).setCell ⟨gb264, 1, none⟩ (.int .i64 ((rd_T45 y260 x62_3).f1))).heap[gb259]? = some (.cells #[u260000, u260001] 29 (0, 0))) := (aS (sF BK259.out NB259_264.out))
         have n5_ : Aside0 (((w85.setCell ⟨gb264, 0, none⟩ (.int .i64 ((rd_T45 y260 x62_3).f0))).setCell ⟨gb264, 1, none⟩ (.int .i64 ((rd_T45 y260 x62_3).f1))).heap[gb264]? = some (.cells #[.int .i64 ((rd_T45 y260 x62_3).f0), .int .i64 ((rd_T45 y260 x62_3).f1)] 45 (0, 0))) := (aS (sB (put2 BK264.out)))
         have n6_ : Aside0 (Below w.heap.size w ((w85.setCell ⟨gb264, 0, none⟩ (.int .i64 ((rd_T45 y260 x62_3).f0))).setCell ⟨gb264, 1, none⟩ (.int .i64 ((rd_T45 y260 x62_3).f1)))) := (aS (sW HB.out))
         generalize ((w85.setCell ⟨gb264, 0, none⟩ (.int .i64 ((rd_T45 y260 x62_3).f0))).setCell ⟨gb264, 1, none⟩ (.int .i64 ((rd_T45 y260 x62_3).f1))) = w89 at n0_ n1_ n2_ n3_ n4_ n5_ n6_ ⊢
         have HO_60 := n0_; have HO_260000 := n1_; have HO_260001 := n2_; have BK242 := n3_; have BK259 := n4_; have BK264 := n5_; have HB := n6_
         clear n0_ n1_ n2_ n3_ n4_ n5_ n6_
         replace HO_60 := aS (Kd.Q_drew HO_60.out); replace HO_260000 := aS (Kd.R_drew HO_260000.out); replace HO_260001 := aS (Kd.R_drew HO_260001.out); replace BK242 := aS (blk_drew BK242.out); replace BK259 := aS (blk_drew BK259.out); replace BK264 := aS (blk_drew BK264.out); replace HB := aS (below_drew1 HB.out)
         obtain ⟨Ao91, co91, eo91⟩ := Kd.R_slice HO_260000.out
         (first | subst eo91 | (injection eo91 with f1_ f2_ f3_; have f4_ := f1_.symm; have f5_ := f3_.symm; clear f1_ f2_ f3_; subst f4_; subst f5_))
         have p265 : 0 ≤ ((ji54) : Int) := sD
         have q265 : (ji54) < (x260000_3.length : Int) := sD
         obtain ⟨ad265, e265, hx265_0, hx265_1⟩ := at_T45 (Kd.R_reads' HO_260000.out).2.2 (ji54) p265 q265
         cases e265
         replace p265 := eq_true p265
         replace q265 := eq_true q265
         refine start_ (n := 13) (S := fun w' => w'.cell? ⟨gb259, 0, none⟩ = some (.slice (some ad265) x260000_3.length co91) ∧ w'.cell? ⟨gb259, 1, none⟩ = some (u260001) ∧ w'.cell? ⟨gb264, 0, none⟩ = some (.int .i64 ((rd_T45 y260 x62_3).f0)) ∧ w'.cell? ⟨gb264, 1, none⟩ = some (.int .i64 ((rd_T45 y260 x62_3).f1)) ∧ w'.cell? (ad265.add (((ji54)).toNat * 2)) = some (.int .i64 ((rd_T45 x260000_3 (ji54)).f0)) ∧ w'.cell? ⟨(ad265.add (((ji54)).toNat * 2)).block, (ad265.add (((ji54)).toNat * 2)).off + 1, none⟩ = some (.int .i64 ((rd_T45 x260000_3 (ji54)).f1))) (ds := []) _ (by kernel_rfl) rfl rfl ⟨bq BK259.out 0, bq BK259.out 1, bq BK264.out 0, bq BK264.out 1, hx265_0, hx265_1⟩ (fun hHeld => ?_); refine with_tabW impl_LongestLine.tab21 impl_LongestLine.bits21 (fun HT_ HW_ => ?_)
         generalize w89.drew = w90 at HO_60 HO_260000 HO_260001 BK242 BK259 BK264 HB hx265_0 hx265_1 hHeld ⊢
         refine pX 0 66 ?_; refine pX 1 67 ?_; refine pX 3 69 ?_; refine pX 10 76 ?_; refine tX 2 68 ?_; refine tX 4 70 ?_; refine pX 5 71 ?_; refine pX 6 72 ?_; refine pX 7 73 ?_; refine tX 8 74 ?_; refine tX 9 75 ?_
         refine oX 11 (some 77) fun K hK => ?_
         refine goes_ Try.func55 (by kernel_rfl) rfl #[.slice A0 l0.length c0, .agg #[.int .i64 ((rd_T45 x260000_3 (ji54)).f0), .int .i64 ((rd_T45 x260000_3 (ji54)).f1)], .agg #[.int .i64 ((rd_T45 y260 x62_3).f0), .int .i64 ((rd_T45 y260 x62_3).f1)], .int .i64 a2] (by rfl) rfl rfl (by (try simp only [List.map_toArray, List.map_cons, List.map_nil]); first | done | (simp only [hji54]; rfl) | rfl | (simp only [List.length_drop, List.length_take]; rfl)) ?_
         with_reducible refine (impl_bestJoin.calls k3 _ _ l0 ((rd_T45 x260000_3 (ji54)).f0) ((rd_T45 x260000_3 (ji54)).f1) ((rd_T45 y260 x62_3).f0) ((rd_T45 y260 x62_3).f1) a2 t266 _ ?side1 ?side2 A57.out).mono ?_
         (case side1 => exact sC (Kd.C_below HR0.out HB.out))
         (case side2 => exact HC0.out)
         rintro e w92 ⟨rfl, hb⟩
         have HS4_ := (hb.cell (World.block_lt_of_cell? _ _ (hHeld.2.2.2.2.1))).trans (hHeld.2.2.2.2.1)
         have HS5_ := (hb.cell (World.block_lt_of_cell? _ _ (hHeld.2.2.2.2.2))).trans (hHeld.2.2.2.2.2)
         refine ⟨_, rfl, ?_⟩
         replace HO_60 := aS (Kd.Q_below (by (with_reducible repeat (first | apply Kd.Q_alloc | apply Kd.Q_drewN | apply Kd.Q_drew)); exact HO_60.out) hb); replace HO_260000 := aS (Kd.R_below (sR HO_260000.out) hb); replace HO_260001 := aS (Kd.R_below (sR HO_260001.out) hb); replace BK242 := aS (blk_below (sB BK242.out) hb); replace BK259 := aS (blk_below (sB BK259.out) hb); replace BK264 := aS (blk_below (sB BK264.out) hb); replace HB := aS (below_step (sW HB.out) hb)
         refine hK.out _ _ ⟨bq BK259.out 0, bq BK259.out 1, bq BK264.out 0, bq BK264.out 1, HS4_, HS5_⟩ (fun hHeld => ?_)
         clear hK K
         refine nX 77 ?_
         refine pX 12 14 ?_
         refine dX ?_
         try go_wp2
         replace HO_60 := aS (Kd.Q_drew HO_60.out); replace HO_260000 := aS (Kd.R_drew HO_260000.out); replace HO_260001 := aS (Kd.R_drew HO_260001.out); replace BK242 := aS (blk_drew BK242.out); replace BK259 := aS (blk_drew BK259.out); replace BK264 := aS (blk_drew BK264.out); replace HB := aS (below_drew1 HB.out)
         refine start_ (n := 12) (S := fun w' => True) (ds := []) _ (by kernel_rfl) rfl rfl trivial (fun hHeld => ?_); refine with_tabW impl_LongestLine.tab22 impl_LongestLine.bits22 (fun HT_ HW_ => ?_)
         generalize w92.drew = w93 at HO_60 HO_260000 HO_260001 BK242 BK259 BK264 HB hHeld ⊢
         refine pX 0 78 ?_; refine pX 1 79 ?_; refine pX 2 80 ?_; refine pU 3 81 ?_; refine pU 4 82 ?_; refine pU 5 83 ?_; refine pU 6 84 ?_; refine pU 7 85 ?_; refine pU 8 86 ?_; refine pU 9 87 ?_; refine pU 10 88 ?_; refine pX 11 89 ?_
         refine dX ?_
         try go_wp2
         go_roundg k3
         case measure => have := HK1.out; have := HJ29.out; have := HK3.out; omega
         case rel => exact ⟨(wrap64 (x62_3 + 1)), (x260000_3), (x260001_3), (.slice (some ad265) x260000_3.length co91), (u260001), eV, H', ⟨by have := HK1.out; have := HJ29.out; have := HK3.out; omega⟩, ⟨by (with_reducible repeat (first | apply Kd.Q_alloc | apply Kd.Q_drewN | apply Kd.Q_drew)); exact Kd.Q_mono HO_60.out (fun _ hk => hk.1)⟩, (aS (sR (Kd.R_mono HO_260000.out (fun _ hk => hk.1)))), (aS (sR HO_260001.out)), (aS (sB BK242.out)), (aS (sB BK259.out)), (aS (sW HB.out))⟩
        have c58b0 : decide (0 ≤ t266) = true := decide_eq_true c58
        clear c58
        replace H := iN H
        obtain ⟨c59, H⟩ := H
        have c59b0 := decide_eq_true c59
        clear c59
        replace H := iN H
        obtain ⟨c60, H⟩ := H
        have c60b0 := decide_eq_true c60
        clear c60
        have HC61 := aS H
        clear H
        have p263 : 0 ≤ (x62_3 : Int) := sD
        have q263 : x62_3 < (y260.length : Int) := sD
        obtain ⟨ad263, e263, hx263_0, hx263_1⟩ := at_T45 (Kd.Q_reads' HO_60.out).2.2 x62_3 p263 q263
        cases e263
        replace p263 := eq_true p263
        replace q263 := eq_true q263
        try go_wp2_with (first | ((with_reducible refine gate_dst (N := 13) rfl ?_); (try (refine gate_guard (by rfl) ?_; dsimp only)); refine bx 13 #[.int .i64 0, .int .i64 0] 45 ?_; intro gb264 hg w62 hbox hb; replace HO_60 := aS (Kd.Q_below (Kd.Q_elderB (by (with_reducible repeat (first | apply Kd.Q_alloc | apply Kd.Q_drewN | apply Kd.Q_drew)); exact HO_60.out) gb264 (Nat.le_of_eq hg.symm)) hb); replace HO_260000 := aS (Kd.R_below (Kd.R_elderB (sR HO_260000.out) gb264 (Nat.le_of_eq hg.symm)) hb); replace HO_260001 := aS (Kd.R_below (sR HO_260001.out) hb); have BK264 := aS (hbox); have GW264 := aS (gW hg (sW HB.out)); have GE264 := aS (gW hg (sW HB.out)); replace HB := aS (below_step (sW HB.out) hb); have NB242_264 := aS (nL hg (sB BK242.out)); have NB264_242 := aS (nG hg (sB BK242.out)); replace BK242 := aS (blk_below (sB BK242.out) hb); have NB259_264 := aS (nL hg (sB BK259.out)); have NB264_259 := aS (nG hg (sB BK259.out)); replace BK259 := aS (blk_below (sB BK259.out) hb); clear hb hbox hg; have hnb63 := NB264_242.out; have hnc63 := NB242_264.out; have hnb64 := NB264_259.out; have hnc64 := NB259_264.out; obtain ⟨hcz65_0, hcz65_1, hfz65_0, hfz65_1⟩ := z2 BK264.out))
        have n0_ : Aside0 (Kd.Q k45 45 ((w62.setCell ⟨gb264, 0, none⟩ (.int .i64 ((rd_T45 y260 x62_3).f0))).setCell ⟨gb264, 1, none⟩ (.int .i64 ((rd_T45 y260 x62_3).f1))) w.heap.size (fun k_ => some k_ ≠ (u260000 : Value).ownBlock ∧ k_ ≠ gb264) (.slice (some ad263) y260.length c50) y260) := ⟨by (with_reducible repeat (first | apply Kd.Q_alloc | apply Kd.Q_drewN | apply Kd.Q_drew)); exact Kd.Q_mono (Kd.Q_far (p := ⟨gb264, 1, none⟩) (Kd.Q_far (p := ⟨gb264, 0, none⟩) (Kd.Q_mono HO_60.out (fun k_ hk => (⟨hk, hk.2⟩ : _ ∧ k_ ≠ gb264))) (fun _ hk => hk.2) (.int .i64 ((rd_T45 y260 x62_3).f0))) (fun _ hk => hk.2) (.int .i64 ((rd_T45 y260 x62_3).f1))) (fun _ hk => ⟨hk.1.1, hk.1.2⟩)⟩
        have n1_ : Aside0 (Kd.R k45 45 ((w62.setCell ⟨gb264, 0, none⟩ (.int .i64 ((rd_T45 y260 x62_3).f0))).setCell ⟨gb264, 1, none⟩ (.int .i64 ((rd_T45 y260 x62_3).f1))) w.heap.size (fun k_ => some k_ ≠ (.slice (some ad263) y260.length c50 : Value).ownBlock ∧ k_ ≠ gb264) u260000 x260000_3) := (aS (sR (Kd.R_mono (rG (g := gb264) (Kd.R_mono HO_260000.out (fun k_ hk => (⟨hk, hk.2⟩ : _ ∧ k_ ≠ gb264))) (fun _ hk => hk.2)) (fun _ hk => ⟨hk.1.1, hk.1.2⟩))))
        have n2_ : Aside0 (Kd.R (Kd.int .i64) 2 ((w62.setCell ⟨gb264, 0, none⟩ (.int .i64 ((rd_T45 y260 x62_3).f0))).setCell ⟨gb264, 1, none⟩ (.int .i64 ((rd_T45 y260 x62_3).f1))) w.heap.size (fun _ => True) u260001 x260001_3) := (aS (sR (Kd.R_mono (rG (g := gb264) (Kd.R_types HO_260001.out BK264.out (by decide)) (fun _ hk => hk.2)) (fun _ hk => trivial))))
        have n3_ : Aside0 (((w62.setCell ⟨gb264, 0, none⟩ (.int .i64 ((rd_T45 y260 x62_3).f0))).setCell ⟨gb264, 1, none⟩ (.int .i64 ((rd_T45 y260 x62_3).f1))).heap[gb242]? = some (.cells #[.slice none 0 0, .slice none 0 0] 29 (0, 0))) := (aS (sF BK242.out NB242_264.out))
        have n4_ : Aside0 (((w62.setCell ⟨gb264, 0, none⟩ (.int .i64 ((rd_T45 y260 x62_3).f0))).setCell ⟨gb264, 1, none⟩ (.int .i64 ((rd_T45 y260 x62_3).f1))).heap[gb259]? = some (.cells #[u260000, u260001] 29 (0, 0))) := (aS (sF BK259.out NB259_264.out))
        have n5_ : Aside0 (((w62.setCell ⟨gb264, 0, none⟩ (.int .i64 ((rd_T45 y260 x62_3).f0))).setCell ⟨gb264, 1, none⟩ (.int .i64 ((rd_T45 y260 x62_3).f1))).heap[gb264]? = some (.cells #[.int .i64 ((rd_T45 y260 x62_3).f0), .int .i64 ((rd_T45 y260 x62_3).f1)] 45 (0, 0))) := (aS (sB (put2 BK264.out)))
        have n6_ : Aside0 (Below w.heap.size w ((w62.setCell ⟨gb264, 0, none⟩ (.int .i64 ((rd_T45 y260 x62_3).f0))).setCell ⟨gb264, 1, none⟩ (.int .i64 ((rd_T45 y260 x62_3).f1)))) := (aS (sW HB.out))
        generalize ((w62.setCell ⟨gb264, 0, none⟩ (.int .i64 ((rd_T45 y260 x62_3).f0))).setCell ⟨gb264, 1, none⟩ (.int .i64 ((rd_T45 y260 x62_3).f1))) = w66 at n0_ n1_ n2_ n3_ n4_ n5_ n6_ ⊢
        have HO_60 := n0_; have HO_260000 := n1_; have HO_260001 := n2_; have BK242 := n3_; have BK259 := n4_; have BK264 := n5_; have HB := n6_
        clear n0_ n1_ n2_ n3_ n4_ n5_ n6_
        replace HO_60 := aS (Kd.Q_drew HO_60.out); replace HO_260000 := aS (Kd.R_drew HO_260000.out); replace HO_260001 := aS (Kd.R_drew HO_260001.out); replace BK242 := aS (blk_drew BK242.out); replace BK259 := aS (blk_drew BK259.out); replace BK264 := aS (blk_drew BK264.out); replace HB := aS (below_drew1 HB.out)
        obtain ⟨Ao68, co68, eo68⟩ := Kd.R_slice HO_260000.out
        (first | subst eo68 | (injection eo68 with f1_ f2_ f3_; have f4_ := f1_.symm; have f5_ := f3_.symm; clear f1_ f2_ f3_; subst f4_; subst f5_))
        have p265 : 0 ≤ ((ji54) : Int) := sD
        have q265 : (ji54) < (x260000_3.length : Int) := sD
        obtain ⟨ad265, e265, hx265_0, hx265_1⟩ := at_T45 (Kd.R_reads' HO_260000.out).2.2 (ji54) p265 q265
        cases e265
        replace p265 := eq_true p265
        replace q265 := eq_true q265
        refine start_ (n := 13) (S := fun w' => w'.cell? ⟨gb259, 0, none⟩ = some (.slice (some ad265) x260000_3.length co68) ∧ w'.cell? ⟨gb259, 1, none⟩ = some (u260001) ∧ w'.cell? ⟨gb264, 0, none⟩ = some (.int .i64 ((rd_T45 y260 x62_3).f0)) ∧ w'.cell? ⟨gb264, 1, none⟩ = some (.int .i64 ((rd_T45 y260 x62_3).f1)) ∧ w'.cell? (ad265.add (((ji54)).toNat * 2)) = some (.int .i64 ((rd_T45 x260000_3 (ji54)).f0)) ∧ w'.cell? ⟨(ad265.add (((ji54)).toNat * 2)).block, (ad265.add (((ji54)).toNat * 2)).off + 1, none⟩ = some (.int .i64 ((rd_T45 x260000_3 (ji54)).f1))) (ds := []) _ (by kernel_rfl) rfl rfl ⟨bq BK259.out 0, bq BK259.out 1, bq BK264.out 0, bq BK264.out 1, hx265_0, hx265_1⟩ (fun hHeld => ?_); refine with_tabW impl_LongestLine.tab21 impl_LongestLine.bits21 (fun HT_ HW_ => ?_)
        generalize w66.drew = w67 at HO_60 HO_260000 HO_260001 BK242 BK259 BK264 HB hx265_0 hx265_1 hHeld ⊢
        refine pX 0 66 ?_; refine pX 1 67 ?_; refine pX 3 69 ?_; refine pX 10 76 ?_; refine tX 2 68 ?_; refine tX 4 70 ?_; refine pX 5 71 ?_; refine pX 6 72 ?_; refine pX 7 73 ?_; refine tX 8 74 ?_; refine tX 9 75 ?_
        refine oX 11 (some 77) fun K hK => ?_
        refine goes_ Try.func55 (by kernel_rfl) rfl #[.slice A0 l0.length c0, .agg #[.int .i64 ((rd_T45 x260000_3 (ji54)).f0), .int .i64 ((rd_T45 x260000_3 (ji54)).f1)], .agg #[.int .i64 ((rd_T45 y260 x62_3).f0), .int .i64 ((rd_T45 y260 x62_3).f1)], .int .i64 a2] (by rfl) rfl rfl (by (try simp only [List.map_toArray, List.map_cons, List.map_nil]); first | done | (simp only [hji54]; rfl) | rfl | (simp only [List.length_drop, List.length_take]; rfl)) ?_
        with_reducible refine (impl_bestJoin.calls k3 _ _ l0 ((rd_T45 x260000_3 (ji54)).f0) ((rd_T45 x260000_3 (ji54)).f1) ((rd_T45 y260 x62_3).f0) ((rd_T45 y260 x62_3).f1) a2 t266 _ ?side1 ?side2 A57.out).mono ?_
        (case side1 => exact sC (Kd.C_below HR0.out HB.out))
        (case side2 => exact HC0.out)
        rintro e w69 ⟨rfl, hb⟩
        have HS4_ := (hb.cell (World.block_lt_of_cell? _ _ (hHeld.2.2.2.2.1))).trans (hHeld.2.2.2.2.1)
        have HS5_ := (hb.cell (World.block_lt_of_cell? _ _ (hHeld.2.2.2.2.2))).trans (hHeld.2.2.2.2.2)
        refine ⟨_, rfl, ?_⟩
        replace HO_60 := aS (Kd.Q_below (by (with_reducible repeat (first | apply Kd.Q_alloc | apply Kd.Q_drewN | apply Kd.Q_drew)); exact HO_60.out) hb); replace HO_260000 := aS (Kd.R_below (sR HO_260000.out) hb); replace HO_260001 := aS (Kd.R_below (sR HO_260001.out) hb); replace BK242 := aS (blk_below (sB BK242.out) hb); replace BK259 := aS (blk_below (sB BK259.out) hb); replace BK264 := aS (blk_below (sB BK264.out) hb); replace HB := aS (below_step (sW HB.out) hb)
        refine hK.out _ _ ⟨bq BK259.out 0, bq BK259.out 1, bq BK264.out 0, bq BK264.out 1, HS4_, HS5_⟩ (fun hHeld => ?_)
        clear hK K
        refine nX 77 ?_
        refine pX 12 14 ?_
        refine dX ?_
        try go_wp2
        replace HO_60 := aS (Kd.Q_drew HO_60.out); replace HO_260000 := aS (Kd.R_drew HO_260000.out); replace HO_260001 := aS (Kd.R_drew HO_260001.out); replace BK242 := aS (blk_drew BK242.out); replace BK259 := aS (blk_drew BK259.out); replace BK264 := aS (blk_drew BK264.out); replace HB := aS (below_drew1 HB.out)
        have p267 : 0 ≤ (t266 : Int) := sD
        have q267 : t266 < (l0.length : Int) := sD
        obtain ⟨ad267, e267, hx267_0, hx267_1, hx267_2⟩ := at_T61 HR0.out t266 p267 q267
        have hw267_2 := hx267_2
        have hw267_1 := hx267_1
        have hw267_0 := hx267_0
        cases e267
        replace hx267_0 := bC HB.out hx267_0
        replace hx267_1 := bC HB.out hx267_1
        replace hx267_2 := bC HB.out hx267_2
        replace p267 := eq_true p267
        replace q267 := eq_true q267
        refine start_ (n := 12) (S := fun w' => w'.cell? ⟨gb264, 0, none⟩ = some (.int .i64 ((rd_T45 y260 x62_3).f0)) ∧ w'.cell? ⟨gb264, 1, none⟩ = some (.int .i64 ((rd_T45 y260 x62_3).f1)) ∧ w'.cell? (ad267.add ((t266).toNat * 3)) = some (.string ((rd_T61 l0 t266).f0)) ∧ w'.cell? ⟨(ad267.add ((t266).toNat * 3)).block, (ad267.add ((t266).toNat * 3)).off + 1, none⟩ = some (.int .i64 ((rd_T61 l0 t266).f1)) ∧ w'.cell? ⟨(ad267.add ((t266).toNat * 3)).block, (ad267.add ((t266).toNat * 3)).off + 2, none⟩ = some (.int .i64 ((rd_T61 l0 t266).f2))) (ds := []) _ (by kernel_rfl) rfl rfl ⟨bq BK264.out 0, bq BK264.out 1, ((HB.out.cell (World.block_lt_of_cell? w _ hw267_0)).trans hw267_0), ((HB.out.cell (World.block_lt_of_cell? w _ hw267_1)).trans hw267_1), ((HB.out.cell (World.block_lt_of_cell? w _ hw267_2)).trans hw267_2)⟩ (fun hHeld => ?_); refine with_tabW impl_LongestLine.tab22 impl_LongestLine.bits22 (fun HT_ HW_ => ?_)
        generalize w69.drew = w70 at HO_60 HO_260000 HO_260001 BK242 BK259 BK264 HB hx267_0 hx267_1 hx267_2 hHeld ⊢
        refine pX 0 78 ?_; refine pX 1 79 ?_; refine pX 2 80 ?_; refine pX 3 81 ?_; refine pX 4 82 ?_; refine pX 5 83 ?_; refine pX 6 84 ?_; refine pX 8 86 ?_; refine tX 7 85 ?_; refine tX 9 87 ?_; refine pX 10 88 ?_; refine pX 11 89 ?_
        refine dX ?_
        go_upto_if 89 with (fail)
        have H := HC61.out
        clear HC61
        replace H := iE H; rcases H with ⟨c71, H⟩ | ⟨c71, H⟩
        rotate_left
        ·
         have c71b0 := decide_eq_false c71
         clear c71
         (first | rw [c71b0] | (simp only [i64_w, i32_w]; rw [c71b0]) | (rw [c71b2]; simp only [Bool.not_false, Bool.not_true]) | skip)
         have H' := aS H
         clear H
         go_wp2
         go_roundg k3
         case measure => have := HK1.out; have := HJ29.out; have := HK3.out; omega
         case rel => exact ⟨(wrap64 (x62_3 + 1)), (x260000_3), (x260001_3), (.slice (some ad265) x260000_3.length co68), (u260001), eV, H', ⟨by have := HK1.out; have := HJ29.out; have := HK3.out; omega⟩, ⟨by (with_reducible repeat (first | apply Kd.Q_alloc | apply Kd.Q_drewN | apply Kd.Q_drew)); exact Kd.Q_mono HO_60.out (fun _ hk => hk.1)⟩, (aS (sR (Kd.R_mono HO_260000.out (fun _ hk => hk.1)))), (aS (sR HO_260001.out)), (aS (sB BK242.out)), (aS (sB BK259.out)), (aS (sW HB.out))⟩
        have c71b0 := decide_eq_true c71
        clear c71
        (first | rw [c71b0] | (simp only [i64_w, i32_w]; rw [c71b0]) | (rw [c71b2]; simp only [Bool.not_false, Bool.not_true]) | skip)
        replace H := iN H
        obtain ⟨c72, H⟩ := H
        have LMc72 := aS c72
        clear c72
        obtain ⟨y268, hy268⟩ : ∃ y_ : List (S45), y_ = (x260000_3 ++ [(⟨(rd_T45 y260 x62_3).f0, (rd_T45 y260 x62_3).f1⟩ : S45)]) := ⟨_, rfl⟩
        replace H : (if x260001_3.length < 17592186044416 then (impl_LongestLine.l1 k3 l0 a2 y260 (y260.length : Int) (wrap64 (x62_3 + 1)) y268 (x260001_3 ++ [t266])) else (none)) = some (r1, r2, r3) := by first | (rw [hy268]; with_reducible exact H) | (have H2_ := (Option.bind_some _ _).symm.trans H; rw [hy268]; with_reducible exact H2_) | (have H2_ := (Option.bind_some _ _).symm.trans H; with_reducible exact H2_) | with_reducible exact H | (rw [hy268]; exact H) | exact H
        have Ny268 := aS hy268
        clear hy268
        replace H := iN H
        obtain ⟨c73, H⟩ := H
        have LMc73 := aS c73
        clear c73
        obtain ⟨y271, hy271⟩ : ∃ y_ : List Int, y_ = (x260001_3 ++ [t266]) := ⟨_, rfl⟩
        replace H : (impl_LongestLine.l1 k3 l0 a2 y260 (y260.length : Int) (wrap64 (x62_3 + 1)) y268 y271) = some (r1, r2, r3) := by first | (rw [hy271]; with_reducible exact H) | (have H2_ := (Option.bind_some _ _).symm.trans H; rw [hy271]; with_reducible exact H2_) | (have H2_ := (Option.bind_some _ _).symm.trans H; with_reducible exact H2_) | with_reducible exact H | (rw [hy271]; exact H) | exact H
        have Ny271 := aS hy271
        clear hy271
        have H' := aS H
        clear H
        have hnb74 := NB259_242.out
        have hnc74 := NB242_259.out
        have hnb75 := NB259_264.out
        have hnc75 := NB264_259.out
        obtain ⟨hcz76_0, hcz76_1, hfz76_0, hfz76_1⟩ := z2 BK259.out
        have hnb77 := NB264_242.out
        have hnc77 := NB242_264.out
        obtain ⟨hcz78_0, hcz78_1, hfz78_0, hfz78_1⟩ := z2 BK264.out
        go_wp2_with (first | ((with_reducible refine gate_builtin (b := .append) (xs := #[.tmp 91, .tmp 93]) rfl ?_); (try (refine gate_guard (by rfl) ?_; dsimp only)); at_builtin; refine Kd.R_append k45 (w0 := w) w.heap.size rfl (.tmp 91) (.tmp 93) 26 45 (.agg #[(.int .i64 0), (.int .i64 0)]) 16 rfl Try.underlying26 info45 rfl (by decide) (by omega) (.slice (some ad265) x260000_3.length co68) x260000_3 (⟨(rd_T45 y260 x62_3).f0, (rd_T45 y260 x62_3).f1⟩ : S45) [.int .i64 ((rd_T45 y260 x62_3).f0), .int .i64 ((rd_T45 y260 x62_3).f1)] (fun k_ => some k_ ≠ (.slice (some ad263) y260.length c50 : Value).ownBlock ∧ k_ ≠ gb264) (fun _ => False) rfl rfl ?aP (fun _ hk => hk.elim) ?aF ?aO ?aB ?aS ?aL ?_; (case aP => exact k45_mkM _ _ _ (⟨(rd_T45 y260 x62_3).f0, (rd_T45 y260 x62_3).f1⟩ : S45)); (case aB => exact (sW HB.out)); (case aF => exact (fun k_ hk => ⟨Kd.fresh' (Kd.Q_lt (by (with_reducible repeat (first | apply Kd.Q_alloc | apply Kd.Q_drewN | apply Kd.Q_drew)); exact HO_60.out)) k_ hk, Kd.freshB (g := gb264) (o := .cells #[.int .i64 ((rd_T45 y260 x62_3).f0), .int .i64 ((rd_T45 y260 x62_3).f1)] 45 (0, 0)) (sB BK264.out) k_ hk⟩)); (case aO => exact (sR HO_260000.out)); (case aS => exact (below_size (sW HB.out))); (case aL => have := LMc72.out; omega); intro v269 w79 ho hb hg hat; rw [← Ny268.out] at ho; replace HO_60 := aS (Kd.Q_after (ok := (fun k_ => k_ ≠ gb264)) (by (with_reducible repeat (first | apply Kd.Q_alloc | apply Kd.Q_drewN | apply Kd.Q_drew)); exact Kd.Q_mono HO_60.out (fun _ hk => ⟨hk.2, hk.1⟩)) hg hat); replace HO_260001 := aS (Kd.R_over' (sR HO_260001.out) (Kd.R_typed (sR HO_260000.out)) (by decide) hg); replace BK242 := aS (blk_grown (sB BK242.out) hg (Kd.R_ne HO_260000.out BK242.out (by decide))); replace BK259 := aS (blk_grown (sB BK259.out) hg (Kd.R_ne HO_260000.out BK259.out (by decide))); replace BK264 := aS (blk_grown (sB BK264.out) hg (Kd.R_away HO_260000.out (fun _ hk => hk.2))); replace HB := aS (hb); have HO270 := aS (ho); clear HO_260000; clear ho hb hg hat; obtain ⟨Ao80, co80, eo80⟩ := Kd.R_slice HO270.out; subst eo80; obtain ⟨hcz81_0, hcz81_1, hfz81_0, hfz81_1⟩ := z2 BK259.out) | ((with_reducible refine gate_builtin (b := .append) (xs := #[.tmp 97, .tmp 99]) rfl ?_); (try (refine gate_guard (by rfl) ?_; dsimp only)); at_builtin; refine Kd.R_append (Kd.int .i64) (w0 := w) w.heap.size rfl (.tmp 97) (.tmp 99) 27 2 (.int .i64 0) 8 rfl Try.underlying27 info2 rfl (by decide) (by omega) u260001 x260001_3 t266 [.int .i64 t266] (fun _ => True) (fun _ => False) rfl (by first | (go_simp; done) | (go_simp; rfl)) ?aP (fun _ hk => hk.elim) ?aF ?aO ?aB ?aS ?aL ?_; (case aP => exact rfl); (case aB => exact (sW HB.out)); (case aF => exact (fun _ _ => trivial)); (case aO => exact (sR (Kd.R_mono (Kd.R_far (p := ⟨gb259, 0, none⟩) (Kd.R_types HO_260001.out BK259.out (by decide)) (fun _ hk => hk.2) (.slice Ao80 y268.length co80)) (fun _ hk => trivial)))); (case aS => exact (below_size (sW HB.out))); (case aL => have := LMc73.out; omega); intro v272 w82 ho hb hg hat; rw [← Ny271.out] at ho; replace HO_60 := aS (Kd.Q_over' (by (with_reducible repeat (first | apply Kd.Q_alloc | apply Kd.Q_drewN | apply Kd.Q_drew)); exact (Kd.Q_mono (Kd.Q_far (p := ⟨gb259, 0, none⟩) (Kd.Q_types HO_60.out BK259.out (by decide)) (fun _ hk => hk.2) (.slice Ao80 y268.length co80)) (fun _ h_ => h_.1))) (Kd.R_typed (sR (Kd.R_mono (Kd.R_far (p := ⟨gb259, 0, none⟩) (Kd.R_types HO_260001.out BK259.out (by decide)) (fun _ hk => hk.2) (.slice Ao80 y268.length co80)) (fun _ h_ => h_.1)))) (by decide) hg); replace BK242 := aS (blk_grown (sF BK242.out NB242_259.out) hg (Kd.R_ne HO_260001.out BK242.out (by decide))); replace BK264 := aS (blk_grown (sF BK264.out NB264_259.out) hg (Kd.R_ne HO_260001.out BK264.out (by decide))); replace HO270 := aS (Kd.R_over' (sR (Kd.R_mono (Kd.R_far (p := ⟨gb259, 0, none⟩) (Kd.R_types HO270.out BK259.out (by decide)) (fun _ hk => hk.2) (.slice Ao80 y268.length co80)) (fun _ h_ => h_.1))) (Kd.R_typed (sR (Kd.R_mono (Kd.R_far (p := ⟨gb259, 0, none⟩) (Kd.R_types HO_260001.out BK259.out (by decide)) (fun _ hk => hk.2) (.slice Ao80 y268.length co80)) (fun _ h_ => h_.1)))) (by decide) hg); replace BK259 := aS (blk_grown (g := gb259) (o := .cells #[.slice Ao80 y268.length co80, u260001] 29 (0, 0)) (by exact sZ BK259.out) hg (Kd.R_ne HO_260001.out BK259.out (by decide))); replace HB := aS (hb); have HO273 := aS (ho); clear HO_260001; clear ho hb hg hat; obtain ⟨Ao83, co83, eo83⟩ := Kd.R_slice HO273.out; subst eo83; obtain ⟨hcz84_0, hcz84_1, hfz84_0, hfz84_1⟩ := z2 BK259.out))
        go_roundg k3
        case measure => have := HK1.out; have := HJ29.out; have := HK3.out; omega
        case rel => exact ⟨(wrap64 (x62_3 + 1)), (y268), (y271), (.slice Ao80 y268.length co80), (.slice Ao83 y271.length co83), eV, H', ⟨by have := HK1.out; have := HJ29.out; have := HK3.out; omega⟩, ⟨by (with_reducible repeat (first | apply Kd.Q_alloc | apply Kd.Q_drewN | apply Kd.Q_drew)); exact Kd.Q_mono (Kd.Q_far (p := ⟨gb259, 1, none⟩) (Kd.Q_types HO_60.out BK259.out (by decide)) (fun _ hk => hk.2) (.slice Ao83 y271.length co83)) (fun _ hk => hk.1.2)⟩, (aS (sR (Kd.R_mono (Kd.R_far (p := ⟨gb259, 1, none⟩) (Kd.R_types HO270.out BK259.out (by decide)) (fun _ hk => hk.2) (.slice Ao83 y271.length co83)) (fun _ hk => hk.1.1)))), (aS (sR (Kd.R_mono (Kd.R_far (p := ⟨gb259, 1, none⟩) (Kd.R_types HO273.out BK259.out (by decide)) (fun _ hk => hk.2) (.slice Ao83 y271.length co83)) (fun _ hk => trivial)))), (aS (sF BK242.out NB242_259.out)), (aS (sZ BK259.out)), (aS (sW HB.out))⟩
 ·
  replace c8 := Bool.eq_false_iff.mpr c8
  subst c8
  have H1 : (some (([] : List (S45)), ([] : List Int), 1)) = some (r1, r2, r3) := by rw [if_neg (show ¬ (false = true) by decide)] at H; exact H
  clear H
  have H := H1
  clear H1
  simp only [Option.some.injEq, Prod.mk.injEq] at H
  obtain ⟨rfl, rfl, rfl⟩ := H
  obtain ⟨hcz99_0, hcz99_1, hfz99_0, hfz99_1⟩ := z2 BK242.out
  go_wp2
  refine bodyPost_ret (results_ct rfl _ _ gb242 29 #[.slice none 0 0, .slice none 0 0] (0, 0) _ rfl (sB (put2 BK242.out)) Try.underlying29 rfl (by kernel_rfl)) rfl ?_
  exact ⟨_, _, eE, eN, eN, sW HB.out⟩

end Go.Proofs.Ytginmioklkcgbaa.QFnBestJoins

/- What the Go functions of this law compute, each as a Lean function, and that each call comes to that answer; written by a program of this session. No condition. -/
import Derived.Test.YtginmioklkcgbaaVShn
import Derived.Test.YtginmioklkcgbaaVQFnBestJoinsx0
import Derived.Test.YtginmioklkcgbaaVQFnBestJoinsx8
namespace Go.Proofs.Ytginmioklkcgbaa.QFnBestJoins
open Go.RowKit Go.Proofs.YtginmioklkcgbaaW.PrintWords Go.Proofs.YtginmioklkcgbaaW.PrintLast Go.Proofs.YtginmioklkcgbaaW.PrintMore
attribute [local go_sem] max2_int min2_int max_two min_two max_three min_three max_four min_four   -- for this text's walks alone
set_option linter.unusedVariables false
set_option linter.unusedSimpArgs false

/-! ### impl_LinePiece_114: function 114 -/
mutual
def impl_LinePiece_114.l0 : Nat → List (S45) → Int → Int → Int → Option ((List (S45)))
 | 0, _, _, _, _ => none
 | k + 1, x0, x1, x2, x8 => if x8 < x2 then (impl_LinePiece_114.l1 k x0 x1 x2 x8 x8) else (some x0)
def impl_LinePiece_114.l1 : Nat → List (S45) → Int → Int → Int → Int → Option ((List (S45)))
 | 0, _, _, _, _, _ => none
 | k + 1, x0, x1, x2, x8, x9 => if x9 > x1 then (if 0 ≤ x9 then (if x9 < (x0.length : Int) then (if 0 ≤ (wrap64 (x9 - 1)) then (if (wrap64 (x9 - 1)) < (x0.length : Int) then ((impl_LongestLine_1.f k ((rd_T45 x0 x9).f0) ((rd_T45 x0 x9).f1) ((rd_T45 x0 (wrap64 (x9 - 1))).f0) ((rd_T45 x0 (wrap64 (x9 - 1))).f1)).bind fun t229 => (if t229 < 0 then (impl_LinePiece_114.l1 k ((x0.set (x9 : Int).toNat (⟨(rd_T45 x0 (wrap64 (x9 - 1))).f0, (rd_T45 x0 (wrap64 (x9 - 1))).f1⟩ : S45)).set ((wrap64 (x9 - 1)) : Int).toNat (⟨(rd_T45 x0 x9).f0, (rd_T45 x0 x9).f1⟩ : S45)) x1 x2 x8 (wrap64 (x9 - 1))) else (impl_LinePiece_114.l0 k x0 x1 x2 (wrap64 (x8 + 1))))) else (none)) else (none)) else (none)) else (none)) else (impl_LinePiece_114.l0 k x0 x1 x2 (wrap64 (x8 + 1)))
end
def impl_LinePiece_114.f (k : Nat) (l0 : List (S45)) (a1 : Int) (a2 : Int) (a3 : Int) : Option ((List (S45))) := impl_LinePiece_114.l0 k l0 a1 a2 (wrap64 (a1 + 1))
theorem impl_LinePiece_114.mono_l : ∀ k, (∀ y0 y1 y2 y3, LeO (impl_LinePiece_114.l0 k y0 y1 y2 y3) (impl_LinePiece_114.l0 (k + 1) y0 y1 y2 y3)) ∧ (∀ y0 y1 y2 y3 y4, LeO (impl_LinePiece_114.l1 k y0 y1 y2 y3 y4) (impl_LinePiece_114.l1 (k + 1) y0 y1 y2 y3 y4))
 | 0 => by refine ⟨?_, ?_⟩ <;> (intros; intro r h; simp [impl_LinePiece_114.l0, impl_LinePiece_114.l1] at h)
 | k + 1 => by
  obtain ⟨ih0, ih1⟩ := impl_LinePiece_114.mono_l k
  refine ⟨?_, ?_⟩ <;> (intros; (first | unfold impl_LinePiece_114.l0 | unfold impl_LinePiece_114.l1); repeat' first | (with_reducible first | exact ih0 _ _ _ _ | exact ih1 _ _ _ _ _ | exact impl_LongestLine_1.mono _ _ _ _ _ | exact LeO.refl _ | exact LeO.none _ | refine LeO.ite ?_ ?_ | refine LeO.bind ?_ (fun _ => ?_)) | refine LeO.ite ?_ ?_ | refine LeO.bind ?_ (fun _ => ?_))
theorem impl_LinePiece_114.mono : ∀ a0 a1 a2 a3 k, LeO (impl_LinePiece_114.f k a0 a1 a2 a3) (impl_LinePiece_114.f (k + 1) a0 a1 a2 a3) := by
 intro a0 a1 a2 a3 k
 obtain ⟨ih0, ih1⟩ := impl_LinePiece_114.mono_l k
 unfold impl_LinePiece_114.f
 repeat' first | (with_reducible first | exact ih0 _ _ _ _ | exact ih1 _ _ _ _ _ | exact impl_LongestLine_1.mono _ _ _ _ _ | exact LeO.refl _ | exact LeO.none _ | refine LeO.ite ?_ ?_ | refine LeO.bind ?_ (fun _ => ?_)) | refine LeO.ite ?_ ?_ | refine LeO.bind ?_ (fun _ => ?_)
def impl_LinePiece_114.T4 : Bool × List (List Nat × List Nat) := (true, [([], []), ([], []), ([0, 1], [0, 1]), ([2], [2]), ([3], [3]), ([3], [3]), ([3], [3]), ([5, 6, 3], [3, 5, 6]), ([7, 3], [3, 7]), ([3], [3]), ([3], [3]), ([10, 3], [3, 10]), ([9, 11, 3], [3, 9, 11]), ([12, 3], [3, 12]), ([4, 8, 13, 3, 3], [3, 4, 8, 13]), ([14, 3], [3, 14]), ([3, 15], [3, 15])])
def impl_LinePiece_114.B4 : List Nat := [0, 0, 3, 7, 15, 15, 15, 111, 239, 15, 15, 1039, 3599, 7695, 16383, 32767, 65535]
theorem impl_LinePiece_114.tab4 : rtab .any (opsOf Try.f114 4) = impl_LinePiece_114.T4 := by kernel_rfl
theorem impl_LinePiece_114.bits4 : waitsOk impl_LinePiece_114.T4.2 impl_LinePiece_114.B4 = true := by kernel_rfl
def impl_LinePiece_114.T6 : Bool × List (List Nat × List Nat) := (true, [([], []), ([], []), ([], []), ([], []), ([3], [3]), ([], []), ([], []), ([6], [6]), ([5, 7], [5, 7]), ([8], [8]), ([], []), ([], []), ([10, 11], [10, 11]), ([12], [12]), ([0, 1, 0, 1, 5, 6, 7, 8, 9, 13], [0, 1]), ([14, 9, 0, 1, 5, 6, 7, 8, 9, 13], [9, 14]), ([2, 4, 0, 1, 2, 3, 4, 5, 6, 7, 8, 9, 10, 11, 12, 13, 14, 15], [2, 4]), ([16, 13, 15, 0, 1, 2, 3, 4, 5, 6, 7, 8, 9, 10, 11, 12, 13, 14, 15], [13, 16])])
def impl_LinePiece_114.B6 : List Nat := [0, 0, 0, 0, 8, 0, 0, 64, 224, 480, 0, 0, 3072, 7168, 16355, 32739, 65535, 131071]
theorem impl_LinePiece_114.tab6 : rtab .any (opsOf Try.f114 6) = impl_LinePiece_114.T6 := by kernel_rfl
theorem impl_LinePiece_114.bits6 : waitsOk impl_LinePiece_114.T6.2 impl_LinePiece_114.B6 = true := by kernel_rfl
set_option maxHeartbeats 8000000 in
set_option maxRecDepth 100000 in
theorem impl_LinePiece_114.calls (k : Nat) (P0_ : Nat → Prop) (u9000_ : Value) (l0 : List (S45)) (a1 : Int) (a2 : Int) (a3 : Int) (r : List (S45)) (w0 w : World) (hB : Below w0.heap.size w0 w) (ho0 : Kd.R k45 45 w w0.heap.size P0_ u9000_ l0) (h : impl_LinePiece_114.f k l0 a1 a2 a3 = some r) :
  Calls Try.prog 114 #[u9000_, .int .i64 a1, .int .i64 a2, .func (.func 52) #[] #[]] w fun e w' => e = .returned (.tuple #[]) ∧ Kd.R k45 45 w' w0.heap.size (fun k_ => (P0_ k_ ∨ w.heap.size ≤ k_)) u9000_ r ∧ Below w0.heap.size w0 w' ∧ Kept w w' (fun k_ => P0_ k_) := by
 have hu45 := Try.underlying45
 have HO0 := aS (show Kd.R k45 45 w w0.heap.size (fun k_ => (P0_ k_ ∨ w.heap.size ≤ k_)) u9000_ l0 from Kd.R_mono ho0 (fun k_ hk => (.inl hk)))
 have HK := aS (Kept.refl w (fun k_ => P0_ k_))
 have HW0 := aS hB.size
 have HB := aS hB
 clear hB
 have H := h
 clear h
 unfold impl_LinePiece_114.f at H
 have H' := aS H
 clear H
 go_enter Try.func114, Try.ntmps114
 go_wp2
 go_loopg [8] k (fun kq v8 w' => ∃ (x0_1 : List (S45)) (x8_1 : Int), v8 = .int .i64 x8_1 ∧ Aside0 (impl_LinePiece_114.l0 kq x0_1 a1 a2 x8_1 = some r) ∧ Aside0 (kq ≤ k) ∧ Aside0 (Kd.R k45 45 w' w0.heap.size (fun k_ => (P0_ k_ ∨ w.heap.size ≤ k_)) u9000_ x0_1) ∧ Aside0 (Kept w w' (fun k_ => P0_ k_)) ∧ Aside0 (Below w0.heap.size w0 w'))
 case atStart => exact ⟨(l0), (wrap64 (a1 + 1)), eV, H', ⟨Nat.le_refl _⟩, (aS (sR HO0.out)), (aS (sKp HK.out)), (aS (sW HB.out))⟩
 case round =>
  clear H'
  obtain ⟨x0_1, x8_1, rfl, HA, HK1, HO_0, HK, HB⟩ := hrel
  cases gk with
  | zero => exact absurd HA.out (by simp [impl_LinePiece_114.l0])
  | succ k1 =>
   have H := HA.out
   clear HA
   simp only [impl_LinePiece_114.l0] at H
   replace H := iE H; rcases H with ⟨c5, H⟩ | ⟨c5, H⟩
   ·
    have c5b0 := decide_eq_true c5
    clear c5
    have H' := aS H
    clear H
    go_wp2
    go_loopg [9] k1 (fun kq v9 w' => ∃ (x0_2 : List (S45)) (x9_2 : Int), v9 = .int .i64 x9_2 ∧ Aside0 (impl_LinePiece_114.l1 kq x0_2 a1 a2 x8_1 x9_2 = some r) ∧ Aside0 (kq ≤ k1) ∧ Aside0 (Kd.R k45 45 w' w0.heap.size (fun k_ => (P0_ k_ ∨ w.heap.size ≤ k_)) u9000_ x0_2) ∧ Aside0 (Kept w w' (fun k_ => P0_ k_)) ∧ Aside0 (Below w0.heap.size w0 w'))
    case atStart => exact ⟨(x0_1), (x8_1), eV, H', ⟨Nat.le_refl _⟩, (aS (sR HO_0.out)), (aS (sKp HK.out)), (aS (sW HB.out))⟩
    case round =>
     clear H'
     obtain ⟨x0_2, x9_2, rfl, HA, HK2, HO_0, HK, HB⟩ := hrel
     cases gk with
     | zero => exact absurd HA.out (by simp [impl_LinePiece_114.l1])
     | succ k2 =>
      have H := HA.out
      clear HA
      simp only [impl_LinePiece_114.l1] at H
      replace H := iE H; rcases H with ⟨c6, H⟩ | ⟨c6, H⟩
      ·
       have c6b0 : decide (a1 < x9_2) = true := decide_eq_true c6
       clear c6
       replace H := iE H; rcases H with ⟨c7, H⟩ | ⟨c7, H⟩
       ·
        have c7b0 := decide_eq_true c7
        clear c7
        replace H := iE H; rcases H with ⟨c8, H⟩ | ⟨c8, H⟩
        ·
         have c8b0 := decide_eq_true c8
         clear c8
         obtain ⟨ji9, hji9⟩ : ∃ j_ : Int, (wrap64 (x9_2 - 1)) = j_ := ⟨_, rfl⟩
         replace H : (if 0 ≤ (ji9) then (if (ji9) < (x0_2.length : Int) then ((impl_LongestLine_1.f k2 ((rd_T45 x0_2 x9_2).f0) ((rd_T45 x0_2 x9_2).f1) ((rd_T45 x0_2 (ji9)).f0) ((rd_T45 x0_2 (ji9)).f1)).bind fun t229 => (if t229 < 0 then (impl_LinePiece_114.l1 k2 ((x0_2.set (x9_2 : Int).toNat (⟨(rd_T45 x0_2 (ji9)).f0, (rd_T45 x0_2 (ji9)).f1⟩ : S45)).set ((ji9) : Int).toNat (⟨(rd_T45 x0_2 x9_2).f0, (rd_T45 x0_2 x9_2).f1⟩ : S45)) a1 a2 x8_1 ji9) else (impl_LinePiece_114.l0 k2 x0_2 a1 a2 (wrap64 (x8_1 + 1))))) else (none)) else (none)) = some r := by first | (rw [hji9] at H; exact H) | (simp only [hji9] at H ⊢; exact H)
         have hji9w : (IntKind.i64.wrap (x9_2 - 1)) = ji9 := (i64_w _).trans hji9
         replace H := iE H; rcases H with ⟨c10, H⟩ | ⟨c10, H⟩
         ·
          have c10b0 := decide_eq_true c10
          clear c10
          replace H := iE H; rcases H with ⟨c11, H⟩ | ⟨c11, H⟩
          ·
           have c11b0 := decide_eq_true c11
           clear c11
           replace H := bE H; obtain ⟨t229, A12, H⟩ := H; try dsimp only at H
           have HC13 := aS H
           clear H
           try go_wp2
           replace HO_0 := aS (Kd.R_drew HO_0.out); replace HK := aS (Kept.drew HK.out); replace HB := aS (below_drew1 HB.out)
           obtain ⟨Ao15, co15, eo15⟩ := Kd.R_slice HO_0.out
           (first | subst eo15 | (injection eo15 with f1_ f2_ f3_; have f4_ := f1_.symm; have f5_ := f3_.symm; clear f1_ f2_ f3_; subst f4_; subst f5_))
           have p227 : 0 ≤ (x9_2 : Int) := sD
           have q227 : x9_2 < (x0_2.length : Int) := sD
           obtain ⟨ad227, e227, hx227_0, hx227_1⟩ := at_T45 (Kd.R_reads' HO_0.out).2.2 x9_2 p227 q227
           cases e227
           replace p227 := eq_true p227
           replace q227 := eq_true q227
           have p228 : 0 ≤ ((ji9) : Int) := sD
           have q228 : (ji9) < (x0_2.length : Int) := sD
           obtain ⟨ad228, e228, hx228_0, hx228_1⟩ := at_T45 (Kd.R_reads' HO_0.out).2.2 (ji9) p228 q228
           obtain rfl : ad227 = ad228 := (by injection e228)
           replace p228 := eq_true p228
           replace q228 := eq_true q228
           refine start_ (n := 17) (S := fun w' => w'.cell? (ad227.add ((x9_2).toNat * 2)) = some (.int .i64 ((rd_T45 x0_2 x9_2).f0)) ∧ w'.cell? ⟨(ad227.add ((x9_2).toNat * 2)).block, (ad227.add ((x9_2).toNat * 2)).off + 1, none⟩ = some (.int .i64 ((rd_T45 x0_2 x9_2).f1)) ∧ w'.cell? (ad227.add (((ji9)).toNat * 2)) = some (.int .i64 ((rd_T45 x0_2 (ji9)).f0)) ∧ w'.cell? ⟨(ad227.add (((ji9)).toNat * 2)).block, (ad227.add (((ji9)).toNat * 2)).off + 1, none⟩ = some (.int .i64 ((rd_T45 x0_2 (ji9)).f1))) (ds := []) _ (by kernel_rfl) rfl rfl ⟨hx227_0, hx227_1, hx228_0, hx228_1⟩ (fun hHeld => ?_); refine with_tabW impl_LinePiece_114.tab4 impl_LinePiece_114.bits4 (fun HT_ HW_ => ?_)
           generalize wr.drew = w14 at HO_0 HK HB hx227_0 hx227_1 hx228_0 hx228_1 hHeld ⊢
           refine pX 0 18 ?_; refine pX 1 19 ?_; refine pX 2 20 ?_; refine pX 3 21 ?_; refine pX 4 22 ?_; refine pX 5 23 ?_; refine pX 6 24 ?_; refine pX 7 25 ?_; refine pX 9 27 ?_; refine pX 10 28 ?_; refine pX 11 29 ?_; refine pX 12 30 ?_; refine tX 8 26 ?_; refine tX 13 31 ?_
           refine oX 14 (some 32) fun K hK => ?_
           refine goesK_ Try.func52 (by kernel_rfl) rfl #[.agg #[.int .i64 ((rd_T45 x0_2 x9_2).f0), .int .i64 ((rd_T45 x0_2 x9_2).f1)], .agg #[.int .i64 ((rd_T45 x0_2 (ji9)).f0), .int .i64 ((rd_T45 x0_2 (ji9)).f1)]] (by rfl) rfl rfl rfl (by (try simp only [List.map_toArray, List.map_cons, List.map_nil]); first | done | (simp only [hji9]; rfl) | rfl | (simp only [List.length_drop, List.length_take]; rfl)) ?_
           with_reducible refine (impl_LongestLine_1.calls k2 ((rd_T45 x0_2 x9_2).f0) ((rd_T45 x0_2 x9_2).f1) ((rd_T45 x0_2 (ji9)).f0) ((rd_T45 x0_2 (ji9)).f1) t229 _ A12.out).mono ?_
           rintro e w16 ⟨rfl, hb⟩
           have HS0_ := (hb.cell (World.block_lt_of_cell? _ _ (hHeld.1))).trans (hHeld.1)
           have HS1_ := (hb.cell (World.block_lt_of_cell? _ _ (hHeld.2.1))).trans (hHeld.2.1)
           have HS2_ := (hb.cell (World.block_lt_of_cell? _ _ (hHeld.2.2.1))).trans (hHeld.2.2.1)
           have HS3_ := (hb.cell (World.block_lt_of_cell? _ _ (hHeld.2.2.2))).trans (hHeld.2.2.2)
           refine ⟨_, rfl, ?_⟩
           replace HO_0 := aS (Kd.R_below (sR HO_0.out) hb); replace HK := aS (Kept.below (S := (fun k_ => P0_ k_)) (sKp HK.out) hb); replace HB := aS (below_step (sW HB.out) hb)
           refine hK.out _ _ ⟨HS0_, HS1_, HS2_, HS3_⟩ (fun hHeld => ?_)
           clear hK K
           refine nX 32 ?_
           refine pX 15 33 ?_; refine pX 16 34 ?_
           refine dX ?_
           go_upto_if 34 with (fail)
           have H := HC13.out
           clear HC13
           replace H := iE H; rcases H with ⟨c17, H⟩ | ⟨c17, H⟩
           ·
            have c17b0 := decide_eq_true c17
            clear c17
            (first | rw [c17b0] | (simp only [i64_w, i32_w]; rw [c17b0]) | (rw [c17b2]; simp only [Bool.not_false, Bool.not_true]) | skip)
            obtain ⟨y232, hy232⟩ : ∃ y_ : List (S45), y_ = (x0_2.set (x9_2 : Int).toNat (⟨(rd_T45 x0_2 (ji9)).f0, (rd_T45 x0_2 (ji9)).f1⟩ : S45)) := ⟨_, rfl⟩
            replace H : (impl_LinePiece_114.l1 k2 (y232.set ((ji9) : Int).toNat (⟨(rd_T45 x0_2 x9_2).f0, (rd_T45 x0_2 x9_2).f1⟩ : S45)) a1 a2 x8_1 ji9) = some r := by first | (rw [hy232]; with_reducible exact H) | (have H2_ := (Option.bind_some _ _).symm.trans H; rw [hy232]; with_reducible exact H2_) | (have H2_ := (Option.bind_some _ _).symm.trans H; with_reducible exact H2_) | with_reducible exact H | (rw [hy232]; exact H) | exact H
            have Ny232 := aS hy232
            clear hy232
            obtain ⟨y233, hy233⟩ : ∃ y_ : List (S45), y_ = (y232.set ((ji9) : Int).toNat (⟨(rd_T45 x0_2 x9_2).f0, (rd_T45 x0_2 x9_2).f1⟩ : S45)) := ⟨_, rfl⟩
            replace H : (impl_LinePiece_114.l1 k2 y233 a1 a2 x8_1 ji9) = some r := by first | (rw [hy233]; with_reducible exact H) | (have H2_ := (Option.bind_some _ _).symm.trans H; rw [hy233]; with_reducible exact H2_) | (have H2_ := (Option.bind_some _ _).symm.trans H; with_reducible exact H2_) | with_reducible exact H | (rw [hy233]; exact H) | exact H
            have Ny233 := aS hy233
            clear hy233
            have H' := aS H
            clear H
            try go_wp2
            replace HO_0 := aS (Kd.R_drew HO_0.out); replace HK := aS (Kept.drew HK.out); replace HB := aS (below_drew1 HB.out)
            have p230 : 0 ≤ ((ji9) : Int) := sD
            have q230 : (ji9) < (x0_2.length : Int) := sD
            obtain ⟨ad230, e230, hx230_0, hx230_1⟩ := at_T45 (Kd.R_reads' HO_0.out).2.2 (ji9) p230 q230
            obtain rfl : ad227 = ad230 := (by injection e230)
            replace p230 := eq_true p230
            replace q230 := eq_true q230
            have p231 : 0 ≤ (x9_2 : Int) := sD
            have q231 : x9_2 < (x0_2.length : Int) := sD
            obtain ⟨ad231, e231, hx231_0, hx231_1⟩ := at_T45 (Kd.R_reads' HO_0.out).2.2 x9_2 p231 q231
            obtain rfl : ad227 = ad231 := (by injection e231)
            replace p231 := eq_true p231
            replace q231 := eq_true q231
            have p18 : 0 ≤ (x9_2 : Int) := sD
            have q18 : (x9_2 : Int) < ((x0_2.length : Int) : Int) := sD
            obtain ⟨go18, co18, eo18, gb18, gl18, cl18, HG18⟩ := Kd.R_form HO_0.out (by omega)
            (first | cases eo18 | (injection eo18 with ea_ en_ ec_; (first | subst ea_ | (injection ea_ with ea_; subst ea_)); subst ec_; clear en_))
            have GB18 := aS gb18
            have GG18 := aS HG18
            clear gb18 gl18 HG18
            have HMgo18 := aS (show (P0_ go18 ∨ w.heap.size ≤ go18) from (HO_0.out.1 _ rfl))
            (first | simp only [add_plain] at hx227_0 | skip)
            (first | simp only [add_plain] at hx227_1 | skip)
            (first | simp only [add_plain] at hx228_0 | skip)
            (first | simp only [add_plain] at hx228_1 | skip)
            (first | simp only [add_plain] at hx230_0 | skip)
            (first | simp only [add_plain] at hx230_1 | skip)
            (first | simp only [add_plain] at hx231_0 | skip)
            (first | simp only [add_plain] at hx231_1 | skip)
            obtain ⟨ce18, hcl18, hM18, hcc18, hfr18⟩ := Kd.R_elem HO_0.out z45 (x9_2 : Int) p18 q18
            obtain rfl := k45_openM hM18
            have hx18_0 : World.cell? _ ⟨go18, (x9_2 : Int).toNat * 2, none⟩ = some (.int .i64 ((rd_T45 x0_2 x9_2).f0)) := hcc18 0 _ rfl
            have hx18_1 : World.cell? _ ⟨go18, (x9_2 : Int).toNat * 2 + 1, none⟩ = some (.int .i64 ((rd_T45 x0_2 x9_2).f1)) := hcc18 1 _ rfl
            have hf18_0 : World.frozen? _ ⟨go18, (x9_2 : Int).toNat * 2, none⟩ = false := hfr18 0
            have hf18_1 : World.frozen? _ ⟨go18, (x9_2 : Int).toNat * 2 + 1, none⟩ = false := hfr18 1
            clear hcl18 hcc18 hfr18 hM18
            replace p18 := eq_true p18
            replace q18 := eq_true q18
            obtain ⟨ce21, hcl21, hM21, hcc21, hfr21⟩ := Kd.R_elem HO_0.out z45 (x9_2 : Int) (sD) (by have h_ : (x9_2 : Int) < ((x0_2.length : Int) : Int) := sD; first | exact h_ | (have e_ := (Kd.R_reads' HO_0.out).1; omega) | simpa using h_)
            obtain rfl := k45_openM hM21
            have HP21 := (Kd.R_seg HO_0.out (x9_2 : Int) (sD) (by have h_ : (x9_2 : Int) < ((x0_2.length : Int) : Int) := sD; first | exact h_ | (have e_ := (Kd.R_reads' HO_0.out).1; omega) | simpa using h_) (seg := [.int .i64 ((rd_T45 x0_2 (ji9)).f0), .int .i64 ((rd_T45 x0_2 (ji9)).f1)]) (j := 0) hcl21 hcc21 (show 2 ≤ 2 from by decide) (x' := (⟨(rd_T45 x0_2 (ji9)).f0, (rd_T45 x0_2 (ji9)).f1⟩ : S45)) (k45_mkM _ _ _ (⟨(rd_T45 x0_2 (ji9)).f0, (rd_T45 x0_2 (ji9)).f1⟩ : S45) ) (fun _ hk => hk)).1
            rw [← Ny232.out] at HP21
            have HQ21 := aS HP21
            clear hcl21 hcc21 hfr21 hM21 HP21
            have p19 : 0 ≤ ((ji9) : Int) := sD
            have q19 : ((ji9) : Int) < ((x0_2.length : Int) : Int) := sD
            obtain ⟨ce19, hcl19, hM19, hcc19, hfr19⟩ := Kd.R_elem HQ21.out z45 ((ji9) : Int) p19 q19
            obtain rfl := k45_openM hM19
            have hx19_0 : World.cell? _ ⟨go18, ((ji9) : Int).toNat * 2, none⟩ = some (.int .i64 ((rd_T45 y232 (ji9)).f0)) := hcc19 0 _ rfl
            have hx19_1 : World.cell? _ ⟨go18, ((ji9) : Int).toNat * 2 + 1, none⟩ = some (.int .i64 ((rd_T45 y232 (ji9)).f1)) := hcc19 1 _ rfl
            have hf19_0 : World.frozen? _ ⟨go18, ((ji9) : Int).toNat * 2, none⟩ = false := hfr19 0
            have hf19_1 : World.frozen? _ ⟨go18, ((ji9) : Int).toNat * 2 + 1, none⟩ = false := hfr19 1
            clear hcl19 hcc19 hfr19 hM19
            replace p19 := eq_true p19
            replace q19 := eq_true q19
            obtain ⟨ce22, hcl22, hM22, hcc22, hfr22⟩ := Kd.R_elem HQ21.out z45 ((ji9) : Int) (sD) (by have h_ : ((ji9) : Int) < ((x0_2.length : Int) : Int) := sD; first | exact h_ | (have e_ := (Kd.R_reads' HO_0.out).1; omega) | simpa using h_)
            obtain rfl := k45_openM hM22
            have HP22 := (Kd.R_seg HQ21.out ((ji9) : Int) (sD) (by have h_ : ((ji9) : Int) < ((x0_2.length : Int) : Int) := sD; first | exact h_ | (have e_ := (Kd.R_reads' HO_0.out).1; omega) | simpa using h_) (seg := [.int .i64 ((rd_T45 x0_2 x9_2).f0), .int .i64 ((rd_T45 x0_2 x9_2).f1)]) (j := 0) hcl22 hcc22 (show 2 ≤ 2 from by decide) (x' := (⟨(rd_T45 x0_2 x9_2).f0, (rd_T45 x0_2 x9_2).f1⟩ : S45)) (k45_mkM _ _ _ (⟨(rd_T45 x0_2 x9_2).f0, (rd_T45 x0_2 x9_2).f1⟩ : S45) ) (fun _ hk => hk)).1
            rw [← Ny233.out] at HP22
            have HQ22 := aS HP22
            clear hcl22 hcc22 hfr22 hM22 HP22
            (try (have hne_x9_2_ji9 : ¬ ((x9_2 : Int).toNat = (ji9 : Int).toNat) ∧ ¬ ((ji9 : Int).toNat = (x9_2 : Int).toNat) := (by first | ((have h1 : x9_2 < ji9 := of_decide_eq_true (by assumption)); (have h2 : 0 ≤ x9_2 := by first | exact of_decide_eq_true (by assumption) | exact of_eq_true (by assumption)); omega) | ((have h1 : 0 ≤ x9_2 := by first | exact of_decide_eq_true (by assumption) | exact of_eq_true (by assumption)); (have h2 : 0 ≤ ji9 := by first | exact of_decide_eq_true (by assumption) | exact of_eq_true (by assumption)); (have hj_ji9 := hji9); (unfold wrap64 at hj_ji9); omega)); obtain ⟨hnea_x9_2_ji9, hneb_x9_2_ji9⟩ := hne_x9_2_ji9))
            (try (have hne_ji9_x9_2 : ¬ ((ji9 : Int).toNat = (x9_2 : Int).toNat) ∧ ¬ ((x9_2 : Int).toNat = (ji9 : Int).toNat) := (by first | ((have h1 : ji9 < x9_2 := of_decide_eq_true (by assumption)); (have h2 : 0 ≤ ji9 := by first | exact of_decide_eq_true (by assumption) | exact of_eq_true (by assumption)); omega) | ((have h1 : 0 ≤ ji9 := by first | exact of_decide_eq_true (by assumption) | exact of_eq_true (by assumption)); (have h2 : 0 ≤ x9_2 := by first | exact of_decide_eq_true (by assumption) | exact of_eq_true (by assumption)); (have hj_ji9 := hji9); (unfold wrap64 at hj_ji9); omega)); obtain ⟨hnea_ji9_x9_2, hneb_ji9_x9_2⟩ := hne_ji9_x9_2))
            refine start_ (n := 18) (S := fun w' => w'.cell? ⟨go18, (((ji9)).toNat * 2), none⟩ = some (.int .i64 ((rd_T45 x0_2 (ji9)).f0)) ∧ w'.cell? ⟨go18, (((ji9)).toNat * 2) + 1, none⟩ = some (.int .i64 ((rd_T45 x0_2 (ji9)).f1)) ∧ w'.cell? ⟨go18, ((x9_2).toNat * 2), none⟩ = some (.int .i64 ((rd_T45 x0_2 x9_2).f0)) ∧ w'.cell? ⟨go18, ((x9_2).toNat * 2) + 1, none⟩ = some (.int .i64 ((rd_T45 x0_2 x9_2).f1))) (ds := [15, 17]) _ (by kernel_rfl) rfl rfl ⟨hx230_0, hx230_1, hx231_0, hx231_1⟩ (fun hHeld => ?_); refine with_tabW impl_LinePiece_114.tab6 impl_LinePiece_114.bits6 (fun HT_ HW_ => ?_)
            generalize w16.drew = w20 at HO_0 HK HB GG18 HQ21 HQ22 hf18_0 hf18_1 hf19_0 hf19_1 hx18_0 hx18_1 hx19_0 hx19_1 hx227_0 hx227_1 hx228_0 hx228_1 hx230_0 hx230_1 hx231_0 hx231_1 hHeld ⊢
            (try (have hf18_0z := (World.frozen?_setCells _ _ _ _ _).symm.trans hf18_0))
            (try (have hf18_1z := (World.frozen?_setCells _ _ _ _ _).symm.trans hf18_1))
            (try (have hf19_0z := (World.frozen?_setCells _ _ _ _ _).symm.trans hf19_0))
            (try (have hf19_1z := (World.frozen?_setCells _ _ _ _ _).symm.trans hf19_1))
            refine pX 0 37 ?_; refine pX 1 38 ?_; refine pX 2 39 ?_; refine pX 3 40 ?_; refine pX 4 41 ?_; refine pX 5 42 ?_; refine pX 6 43 ?_; refine pX 7 44 ?_; refine pX 8 45 ?_; refine pX 10 47 ?_; refine pX 11 48 ?_; refine pX 12 49 ?_; refine tX 9 46 ?_; refine tX 13 50 ?_; refine pX 14 51 ?_
            refine lX 15 none fun K hK => ?_
            refine skip_ (w1 := ?_) (by rfl) rfl ?_ ?_
            rotate_left
            ·
             go_simp
             rfl
            refine hK.out _ _ ?_
            clear hK K
            refine pX 16 52 ?_
            refine lX 17 none fun K hK => ?_
            refine skip_ (w1 := ?_) (by rfl) rfl ?_ ?_
            rotate_left
            ·
             go_simp
             rfl
            refine hK.out _ _ ?_
            clear hK K
            refine dX ?_
            try go_wp2
            go_roundg k2
            case measure => have := HK1.out; have := HK2.out; omega
            case rel => exact ⟨(y233), (ji9), (by first | rfl | (simp; done) | (simp only [← hji9] <;> (first | rfl | simp)) | (simp [*]; done) | (simp only [i64_w]; done) | (simp [i64_w]; done)), H', ⟨by have := HK1.out; have := HK2.out; omega⟩, (aS (sR HQ22.out)), ⟨by repeat (first | (with_reducible first | exact HK.out | apply Kept.alloc | apply Kept.drewN | apply Kept.drew | refine Kept.setCell ?_ HMgo18.out _ | refine Kept.setCell ?_ HMgo18.out _ | refine Kept.setCell ?_ HMgo18.out _ | refine Kept.setCell ?_ HMgo18.out _) | exact HK.out)⟩, (aS (sW HB.out))⟩
           ·
            have c17b0 := decide_eq_false c17
            clear c17
            (first | rw [c17b0] | (simp only [i64_w, i32_w]; rw [c17b0]) | (rw [c17b2]; simp only [Bool.not_false, Bool.not_true]) | skip)
            have H' := aS H
            clear H
            go_wp2
            go_roundg k2
            case measure => have := HK1.out; have := HK2.out; omega
            case rel => exact ⟨(x0_2), (wrap64 (x8_1 + 1)), eV, H', ⟨by have := HK1.out; have := HK2.out; omega⟩, (aS (sR HO_0.out)), (aS (sKp HK.out)), (aS (sW HB.out))⟩
          ·
           exact absurd H (by simp)
         ·
          exact absurd H (by simp)
        ·
         exact absurd H (by simp)
       ·
        exact absurd H (by simp)
      ·
       have c6b0 : decide (a1 < x9_2) = false := decide_eq_false c6
       clear c6
       have H' := aS H
       clear H
       try go_wp2
       replace HO_0 := aS (Kd.R_drew HO_0.out); replace HK := aS (Kept.drew HK.out); replace HB := aS (below_drew1 HB.out)
       refine start_ (n := 17) (S := fun w' => True) (ds := []) _ (by kernel_rfl) rfl rfl trivial (fun hHeld => ?_); refine with_tabW impl_LinePiece_114.tab4 impl_LinePiece_114.bits4 (fun HT_ HW_ => ?_)
       generalize wr.drew = w23 at HO_0 HK HB hHeld ⊢
       refine pX 0 18 ?_; refine pX 1 19 ?_; refine pX 2 20 ?_; refine pX 3 21 ?_; refine pU 4 22 ?_; refine pU 5 23 ?_; refine pU 6 24 ?_; refine pU 7 25 ?_; refine pU 8 26 ?_; refine pU 9 27 ?_; refine pU 10 28 ?_; refine pU 11 29 ?_; refine pU 12 30 ?_; refine pU 13 31 ?_; refine pU 14 32 ?_; refine pU 15 33 ?_; refine pX 16 34 ?_
       refine dX ?_
       try go_wp2
       go_roundg k2
       case measure => have := HK1.out; have := HK2.out; omega
       case rel => exact ⟨(x0_2), (wrap64 (x8_1 + 1)), eV, H', ⟨by have := HK1.out; have := HK2.out; omega⟩, (aS (sR HO_0.out)), (aS (sKp HK.out)), (aS (sW HB.out))⟩
   ·
    have c5b0 := decide_eq_false c5
    clear c5
    obtain rfl := Option.some.inj H
    go_wp2
    first | go_end0 | ((try simp only [Exit.inBlock, Exit.then]); refine bodyPost_ret (results_none rfl _ _ _) rfl ?_)
    exact ⟨eE, sR HO_0.out, sW HB.out, sKp HK.out⟩

end Go.Proofs.Ytginmioklkcgbaa.QFnBestJoins

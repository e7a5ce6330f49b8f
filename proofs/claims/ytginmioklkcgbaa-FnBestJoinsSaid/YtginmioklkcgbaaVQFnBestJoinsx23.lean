/- What the Go functions of this law compute, each as a Lean function, and that each call comes to that answer; written by a program of this session. No condition. -/
import Derived.Test.YtginmioklkcgbaaVShn
import Derived.Test.YtginmioklkcgbaaVQFnBestJoinsx0
import Derived.Test.YtginmioklkcgbaaVQFnBestJoinsx8
import Derived.Test.YtginmioklkcgbaaVQFnBestJoinsx17
import Derived.Test.YtginmioklkcgbaaVQFnBestJoinsx18
import Derived.Test.YtginmioklkcgbaaVQFnBestJoinsx22
namespace Go.Proofs.Ytginmioklkcgbaa.QFnBestJoins
open Go.RowKit Go.Proofs.YtginmioklkcgbaaW.PrintWords Go.Proofs.YtginmioklkcgbaaW.PrintLast Go.Proofs.YtginmioklkcgbaaW.PrintMore
attribute [local go_sem] max2_int min2_int max_two min_two max_three min_three max_four min_four   -- for this text's walks alone
set_option linter.unusedVariables false
set_option linter.unusedSimpArgs false

/-! ### impl_compareFractions: function 104 -/
def impl_compareFractions.f (k : Nat) (a0_0 : Int) (a0_1 : Int) (a1_0 : Int) (a1_1 : Int) : Option (Int) := (impl_sign.f a0_0).bind fun t688 => ((impl_sign.f a1_0).bind fun t689 => ((cmp_Compare_int64.f t688 t689).bind fun t690 => ((impl_sign.f a0_0).bind fun t691 => ((impl_size.f a0_0).bind fun t692 => ((impl_size.f a1_1).bind fun t693 => ((impl_size.f a1_0).bind fun t694 => ((impl_size.f a0_1).bind fun t695 => ((impl_compareProducts.f k t692 t693 t694 t695).bind fun t696 => ((cmp_Or_int.f k (([t690, wrap64 (t691 * t696)] : List Int))).bind fun t700 => (some t700))))))))))
theorem impl_compareFractions.mono : ∀ a0 a1 a2 a3 k, LeO (impl_compareFractions.f k a0 a1 a2 a3) (impl_compareFractions.f (k + 1) a0 a1 a2 a3) := by
 intro a0 a1 a2 a3 k
 unfold impl_compareFractions.f
 repeat' first | (with_reducible first | exact cmp_Or_int.mono _ _ | exact impl_compareProducts.mono _ _ _ _ _ | exact LeO.refl _ | exact LeO.none _ | refine LeO.ite ?_ ?_ | refine LeO.bind ?_ (fun _ => ?_)) | refine LeO.ite ?_ ?_ | refine LeO.bind ?_ (fun _ => ?_)
def impl_compareFractions.T1 : Bool × List (List Nat × List Nat) := (true, [([], []), ([0], [0]), ([1], [1]), ([], []), ([3], [3]), ([4, 2], [4]), ([2, 5, 5], [2, 5]), ([], []), ([7], [7]), ([8, 6], [8]), ([], []), ([10], [10]), ([11, 9], [11]), ([], []), ([13], [13]), ([14, 12], [14]), ([], []), ([16], [16]), ([17, 15], [17]), ([], []), ([19], [19]), ([20, 18], [20]), ([12, 15, 18, 21, 21], [12, 15, 18, 21]), ([9, 22], [9, 22]), ([6, 23], [6, 23]), ([24, 22], [24]), ([25, 25, 0, 1, 2, 3, 4, 5, 6, 7, 8, 9, 10, 11, 12, 13, 14, 15, 16, 17, 18, 19, 20, 21, 22, 23, 24, 25], [25])])
def impl_compareFractions.B1 : List Nat := [0, 1, 3, 0, 8, 31, 63, 0, 128, 511, 0, 1024, 4095, 0, 8192, 32767, 0, 65536, 262143, 0, 524288, 2097151, 4194303, 8388607, 16777215, 33554431, 67108863]
theorem impl_compareFractions.tab1 : rtab .any (opsOf Try.f104 1) = impl_compareFractions.T1 := by kernel_rfl
theorem impl_compareFractions.bits1 : waitsOk impl_compareFractions.T1.2 impl_compareFractions.B1 = true := by kernel_rfl
set_option maxHeartbeats 8000000 in
set_option maxRecDepth 100000 in
theorem impl_compareFractions.calls (k : Nat) (a0_0 : Int) (a0_1 : Int) (a1_0 : Int) (a1_1 : Int) (r : Int) (w : World) (h : impl_compareFractions.f k a0_0 a0_1 a1_0 a1_1 = some r) :
  Calls Try.prog 104 #[.agg #[.int .i64 a0_0, .int .i64 a0_1], .agg #[.int .i64 a1_0, .int .i64 a1_1]] w fun e w' => e = .returned (.int .i64 r) ∧ Below w.heap.size w w' := by
 have hu55 := Try.underlying55
 have HB := aS (Below.refl w.heap.size w)
 have H := h
 clear h
 unfold impl_compareFractions.f at H
 replace H := bE H; obtain ⟨t688, A3, H⟩ := H; try dsimp only at H
 replace H := bE H; obtain ⟨t689, A4, H⟩ := H; try dsimp only at H
 replace H := bE H; obtain ⟨t690, A5, H⟩ := H; try dsimp only at H
 replace H := bE H; obtain ⟨t691, A6, H⟩ := H; try dsimp only at H
 replace H := bE H; obtain ⟨t692, A7, H⟩ := H; try dsimp only at H
 replace H := bE H; obtain ⟨t693, A8, H⟩ := H; try dsimp only at H
 replace H := bE H; obtain ⟨t694, A9, H⟩ := H; try dsimp only at H
 replace H := bE H; obtain ⟨t695, A10, H⟩ := H; try dsimp only at H
 replace H := bE H; obtain ⟨t696, A11, H⟩ := H; try dsimp only at H
 obtain ⟨y697, hy697⟩ : ∃ y_ : List Int, y_ = (([t690, wrap64 (t691 * t696)] : List Int)) := ⟨_, rfl⟩
 replace H : ((cmp_Or_int.f k y697).bind fun t700 => (some t700)) = some r := by first | (rw [hy697]; with_reducible exact H) | (have H2_ := (Option.bind_some _ _).symm.trans H; rw [hy697]; with_reducible exact H2_) | (have H2_ := (Option.bind_some _ _).symm.trans H; with_reducible exact H2_) | with_reducible exact H | (rw [hy697]; exact H) | exact H
 have Ny697 := aS hy697
 clear hy697
 replace H := bE H; obtain ⟨t700, A12, H⟩ := H; try dsimp only at H
 obtain rfl := Option.some.inj H
 go_enter Try.func104, Try.ntmps104
 try go_wp2_with (first | ((with_reducible refine gate_dst (N := 2) rfl ?_); refine bx 2 #[.int .i64 a0_0, .int .i64 a0_1] 55 ?_; intro gb686 hg w13 hbox hb; have BK686 := aS (hbox); have GW686 := aS (gW hg (sW HB.out)); have GE686 := aS (gW hg (sW HB.out)); replace HB := aS (below_step (sW HB.out) hb); clear hb hbox hg) | ((with_reducible refine gate_dst (N := 3) rfl ?_); refine bx 3 #[.int .i64 a1_0, .int .i64 a1_1] 55 ?_; intro gb687 hg w14 hbox hb; have BK687 := aS (hbox); have GW687 := aS (gW hg (sW HB.out)); have GE687 := aS (gW hg (sW HB.out)); replace HB := aS (below_step (sW HB.out) hb); have NB686_687 := aS (nL hg (sB BK686.out)); have NB687_686 := aS (nG hg (sB BK686.out)); replace BK686 := aS (blk_below (sB BK686.out) hb); clear hb hbox hg))
 replace BK686 := aS (blk_drew BK686.out); replace BK687 := aS (blk_drew BK687.out); replace HB := aS (below_drew1 HB.out)
 refine start_ (n := 27) (S := fun w' => w'.cell? ⟨gb686, 0, none⟩ = some (.int .i64 a0_0) ∧ w'.cell? ⟨gb686, 1, none⟩ = some (.int .i64 a0_1) ∧ w'.cell? ⟨gb687, 0, none⟩ = some (.int .i64 a1_0) ∧ w'.cell? ⟨gb687, 1, none⟩ = some (.int .i64 a1_1)) (ds := []) _ (by kernel_rfl) rfl rfl ⟨bq BK686.out 0, bq BK686.out 1, bq BK687.out 0, bq BK687.out 1⟩ (fun hHeld => ?_); refine with_tabW impl_compareFractions.tab1 impl_compareFractions.bits1 (fun HT_ HW_ => ?_)
 generalize w14.drew = w15 at BK686 BK687 HB hHeld ⊢
 refine pX 0 5 ?_; refine pX 3 8 ?_; refine pX 7 12 ?_; refine pX 10 15 ?_; refine pX 13 18 ?_; refine pX 16 21 ?_; refine pX 19 24 ?_; refine tX 1 6 ?_; refine tX 4 9 ?_; refine tX 8 13 ?_; refine tX 11 16 ?_; refine tX 14 19 ?_; refine tX 17 22 ?_; refine tX 20 25 ?_
 refine oX 2 (some 7) fun K hK => ?_
 refine goes_ Try.func117 (by kernel_rfl) rfl #[.int .i64 a0_0] (by rfl) rfl rfl sG ?_
 with_reducible refine (impl_sign.calls a0_0 t688 _ A3.out).mono ?_
 rintro e w' ⟨rfl, ⟨nd, rfl⟩⟩
 refine ⟨_, rfl, ?_⟩
 refine hK.out _ _ ⟨bq BK686.out 0, bq BK686.out 1, bq BK687.out 0, bq BK687.out 1⟩ (fun hHeld => ?_)
 clear hK K
 refine nX 7 ?_
 refine oX 5 (some 10) fun K hK => ?_
 refine goes_ Try.func117 (by kernel_rfl) rfl #[.int .i64 a1_0] (by rfl) rfl rfl sG ?_
 with_reducible refine (impl_sign.calls a1_0 t689 _ A4.out).mono ?_
 rintro e w' ⟨rfl, ⟨nd, rfl⟩⟩
 refine ⟨_, rfl, ?_⟩
 refine hK.out _ _ ⟨bq BK686.out 0, bq BK686.out 1, bq BK687.out 0, bq BK687.out 1⟩ (fun hHeld => ?_)
 clear hK K
 refine nX 10 ?_
 refine oX 6 (some 11) fun K hK => ?_
 refine goes_ Try.func54 (by kernel_rfl) rfl #[.int .i64 t688, .int .i64 t689] (by rfl) rfl rfl sG ?_
 with_reducible refine (cmp_Compare_int64.calls t688 t689 t690 _ A5.out).mono ?_
 rintro e w' ⟨rfl, ⟨nd, rfl⟩⟩
 refine ⟨_, rfl, ?_⟩
 refine hK.out _ _ ⟨bq BK686.out 0, bq BK686.out 1, bq BK687.out 0, bq BK687.out 1⟩ (fun hHeld => ?_)
 clear hK K
 refine nX 11 ?_
 refine oX 9 (some 14) fun K hK => ?_
 refine goes_ Try.func117 (by kernel_rfl) rfl #[.int .i64 a0_0] (by rfl) rfl rfl sG ?_
 with_reducible refine (impl_sign.calls a0_0 t691 _ A6.out).mono ?_
 rintro e w' ⟨rfl, ⟨nd, rfl⟩⟩
 refine ⟨_, rfl, ?_⟩
 refine hK.out _ _ ⟨bq BK686.out 0, bq BK686.out 1, bq BK687.out 0, bq BK687.out 1⟩ (fun hHeld => ?_)
 clear hK K
 refine nX 14 ?_
 refine oX 12 (some 17) fun K hK => ?_
 refine goes_ Try.func119 (by kernel_rfl) rfl #[.int .i64 a0_0] (by rfl) rfl rfl sG ?_
 with_reducible refine (impl_size.calls a0_0 t692 _ A7.out).mono ?_
 rintro e w' ⟨rfl, ⟨nd, rfl⟩⟩
 refine ⟨_, rfl, ?_⟩
 refine hK.out _ _ ⟨bq BK686.out 0, bq BK686.out 1, bq BK687.out 0, bq BK687.out 1⟩ (fun hHeld => ?_)
 clear hK K
 refine nX 17 ?_
 refine oX 15 (some 20) fun K hK => ?_
 refine goes_ Try.func119 (by kernel_rfl) rfl #[.int .i64 a1_1] (by rfl) rfl rfl sG ?_
 with_reducible refine (impl_size.calls a1_1 t693 _ A8.out).mono ?_
 rintro e w' ⟨rfl, ⟨nd, rfl⟩⟩
 refine ⟨_, rfl, ?_⟩
 refine hK.out _ _ ⟨bq BK686.out 0, bq BK686.out 1, bq BK687.out 0, bq BK687.out 1⟩ (fun hHeld => ?_)
 clear hK K
 refine nX 20 ?_
 refine oX 18 (some 23) fun K hK => ?_
 refine goes_ Try.func119 (by kernel_rfl) rfl #[.int .i64 a1_0] (by rfl) rfl rfl sG ?_
 with_reducible refine (impl_size.calls a1_0 t694 _ A9.out).mono ?_
 rintro e w' ⟨rfl, ⟨nd, rfl⟩⟩
 refine ⟨_, rfl, ?_⟩
 refine hK.out _ _ ⟨bq BK686.out 0, bq BK686.out 1, bq BK687.out 0, bq BK687.out 1⟩ (fun hHeld => ?_)
 clear hK K
 refine nX 23 ?_
 refine oX 21 (some 26) fun K hK => ?_
 refine goes_ Try.func119 (by kernel_rfl) rfl #[.int .i64 a0_1] (by rfl) rfl rfl sG ?_
 with_reducible refine (impl_size.calls a0_1 t695 _ A10.out).mono ?_
 rintro e w' ⟨rfl, ⟨nd, rfl⟩⟩
 refine ⟨_, rfl, ?_⟩
 refine hK.out _ _ ⟨bq BK686.out 0, bq BK686.out 1, bq BK687.out 0, bq BK687.out 1⟩ (fun hHeld => ?_)
 clear hK K
 refine nX 26 ?_
 refine oX 22 (some 27) fun K hK => ?_
 refine goes_ Try.func118 (by kernel_rfl) rfl #[.int .u64 t692, .int .u64 t693, .int .u64 t694, .int .u64 t695] (by rfl) rfl rfl sG ?_
 with_reducible refine (impl_compareProducts.calls k t692 t693 t694 t695 t696 _ A11.out).mono ?_
 rintro e w16 ⟨rfl, hb⟩
 refine ⟨_, rfl, ?_⟩
 replace BK686 := aS (blk_below (sB BK686.out) hb); replace BK687 := aS (blk_below (sB BK687.out) hb); replace HB := aS (below_step (sW HB.out) hb)
 refine hK.out _ _ ⟨bq BK686.out 0, bq BK686.out 1, bq BK687.out 0, bq BK687.out 1⟩ (fun hHeld => ?_)
 clear hK K
 refine nX 27 ?_
 refine pX 23 28 ?_
 refine oX 24 (some 29) fun K hK => ?_
 refine Kd.R_lit_step (Kd.int .i64) _ 3 ?hg (N := 29) ?hd (xs := ([t690, wrap64 (t691 * t696)] : List Int)) (inner := [.int .i64 t690, .int .i64 (wrap64 (t691 * t696))]) (ok := fun _ => True) (okp := fun _ => True) ?hr ?hp (fun _ hk => hk) trivial (Below.refl _ _) (Nat.le_refl _) (by simp) ?_; (case hd => rfl); (case hg => rfl); (case hr => first | (go_simp; done) | (go_simp; rfl)); (case hp => exact (Reps.one (show Kd.M (Kd.int .i64) _ _ _ t690 [.int .i64 t690] from rfl) (Reps.one (show Kd.M (Kd.int .i64) _ _ _ (wrap64 (t691 * t696)) [.int .i64 (wrap64 (t691 * t696))] from rfl) (Reps.none _ _))))
 intro v698 w17 ho18 hb hg_ hnew_
 clear hg_ hnew_
 (first | rw [← Ny697.out] at ho18 | (simp only [Int.reduceToNat] at ho18; rw [← Ny697.out] at ho18))
 have HO699 := aS (Kd.R_lower ho18 (below_size (sW HB.out))); replace BK686 := aS (blk_below (sB BK686.out) hb); replace BK687 := aS (blk_below (sB BK687.out) hb); replace HB := aS (below_step (sW HB.out) hb)
 clear hb ho18
 obtain ⟨Ao19, co19, eo19⟩ := Kd.R_slice HO699.out
 (first | subst eo19 | (injection eo19 with f1_ f2_ f3_; have f4_ := f1_.symm; have f5_ := f3_.symm; clear f1_ f2_ f3_; subst f4_; subst f5_))
 refine hK.out _ _ ⟨bq BK686.out 0, bq BK686.out 1, bq BK687.out 0, bq BK687.out 1⟩ (fun hHeld => ?_)
 clear hK K
 refine nX 29 ?_
 refine oX 25 (some 30) fun K hK => ?_
 refine goes_ Try.func53 (by kernel_rfl) rfl #[.slice Ao19 y697.length co19] (by rfl) rfl rfl sG ?_
 with_reducible refine (cmp_Or_int.calls k _ _ y697 t700 _ ?side1 ?side2 A12.out).mono ?_
 (case side1 => exact sC (Kd.R_reads' HO699.out).2.2)
 (case side2 => exact (Kd.R_reads' HO699.out).2.1)
 rintro e w' ⟨rfl, ⟨nd, rfl⟩⟩
 refine ⟨_, rfl, ?_⟩
 refine hK.out _ _ ⟨bq BK686.out 0, bq BK686.out 1, bq BK687.out 0, bq BK687.out 1⟩ (fun hHeld => ?_)
 clear hK K
 refine nX 30 ?_
 refine pX 26 4 ?_
 refine dX ?_
 try go_wp2
 go_ret
 exact ⟨eE, sW HB.out⟩

/-! ### impl_lineStrength: function 78 -/
mutual
def impl_lineStrength.l0 : Nat → List (S61) → List (S45) → Int → Int → List (S45) → List Int → Int → Int → Option (Int × Int)
 | 0, _, _, _, _, _, _, _, _ => none
 | k + 1, x0, x17, x18, x19, x702000, x702001, x707000, x707001 => if x19 < x18 then (if 0 ≤ x19 then (if x19 < (x17.length : Int) then ((impl_fraction.f k (mn x707000 ((rd_T45 x17 x19).f0)) 1).bind fun bt709 => (impl_lineStrength.l0 k x0 x17 x18 (wrap64 (x19 + 1)) x702000 x702001 bt709.1 bt709.2)) else (none)) else (none)) else (impl_lineStrength.l1 k x0 (x702001.length : Int) 0 x702000 x702001 x707000 x707001)
def impl_lineStrength.l1 : Nat → List (S61) → Int → Int → List (S45) → List Int → Int → Int → Option (Int × Int)
 | 0, _, _, _, _, _, _, _ => none
 | k + 1, x0, x32, x33, x702000, x702001, x707000, x707001 => if x33 < x32 then ((impl_strengthAt.f k x0 x702000 x702001 x33).bind fun bt711 => ((impl_compareFractions.f k bt711.1 bt711.2 x707000 x707001).bind fun t714 => (if t714 < 0 then (impl_lineStrength.l1 k x0 x32 (wrap64 (x33 + 1)) x702000 x702001 bt711.1 bt711.2) else (impl_lineStrength.l1 k x0 x32 (wrap64 (x33 + 1)) x702000 x702001 x707000 x707001)))) else (some (x707000, x707001))
end
def impl_lineStrength.f (k : Nat) (l0 : List (S61)) (l1_0 : List (S45)) (l1_1 : List Int) : Option (Int × Int) := if 0 < (l1_0.length : Int) then ((impl_fraction.f k ((rd_T45 l1_0 0).f0) 1).bind fun bt704 => (impl_lineStrength.l0 k l0 l1_0 (l1_0.length : Int) 0 l1_0 l1_1 bt704.1 bt704.2)) else (none)
theorem impl_lineStrength.mono_l : ∀ k, (∀ y0 y1 y2 y3 y4 y5 y6 y7, LeO (impl_lineStrength.l0 k y0 y1 y2 y3 y4 y5 y6 y7) (impl_lineStrength.l0 (k + 1) y0 y1 y2 y3 y4 y5 y6 y7)) ∧ (∀ y0 y1 y2 y3 y4 y5 y6, LeO (impl_lineStrength.l1 k y0 y1 y2 y3 y4 y5 y6) (impl_lineStrength.l1 (k + 1) y0 y1 y2 y3 y4 y5 y6))
 | 0 => by refine ⟨?_, ?_⟩ <;> (intros; intro r h; simp [impl_lineStrength.l0, impl_lineStrength.l1] at h)
 | k + 1 => by
  obtain ⟨ih0, ih1⟩ := impl_lineStrength.mono_l k
  refine ⟨?_, ?_⟩ <;> (intros; (first | unfold impl_lineStrength.l0 | unfold impl_lineStrength.l1); repeat' first | (with_reducible first | exact ih0 _ _ _ _ _ _ _ _ | exact ih1 _ _ _ _ _ _ _ | exact impl_compareFractions.mono _ _ _ _ _ | exact impl_fraction.mono _ _ _ | exact impl_strengthAt.mono _ _ _ _ _ | exact LeO.refl _ | exact LeO.none _ | refine LeO.ite ?_ ?_ | refine LeO.bind ?_ (fun _ => ?_)) | refine LeO.ite ?_ ?_ | refine LeO.bind ?_ (fun _ => ?_))
theorem impl_lineStrength.mono : ∀ a0 a1 a2 k, LeO (impl_lineStrength.f k a0 a1 a2) (impl_lineStrength.f (k + 1) a0 a1 a2) := by
 intro a0 a1 a2 k
 obtain ⟨ih0, ih1⟩ := impl_lineStrength.mono_l k
 unfold impl_lineStrength.f
 repeat' first | (with_reducible first | exact ih0 _ _ _ _ _ _ _ _ | exact ih1 _ _ _ _ _ _ _ | exact impl_compareFractions.mono _ _ _ _ _ | exact impl_fraction.mono _ _ _ | exact impl_strengthAt.mono _ _ _ _ _ | exact LeO.refl _ | exact LeO.none _ | refine LeO.ite ?_ ?_ | refine LeO.bind ?_ (fun _ => ?_)) | refine LeO.ite ?_ ?_ | refine LeO.bind ?_ (fun _ => ?_)
set_option maxHeartbeats 8000000 in
set_option maxRecDepth 100000 in
theorem impl_lineStrength.calls (k : Nat) (A0 : Option Addr) (c0 : Nat) (l0 : List (S61)) (A1_0 : Option Addr) (c1_0 : Nat) (l1_0 : List (S45)) (A1_1 : Option Addr) (c1_1 : Nat) (l1_1 : List Int) (r1 : Int) (r2 : Int) (w : World) (hr0 : Kd.C k61 w A0 l0.length l0) (hc0 : l0.length ≤ c0) (hr1_0 : Kd.C k45 w A1_0 l1_0.length l1_0) (hc1_0 : l1_0.length ≤ c1_0) (hr1_1 : Kd.C (Kd.int .i64) w A1_1 l1_1.length l1_1) (hc1_1 : l1_1.length ≤ c1_1) (h : impl_lineStrength.f k l0 l1_0 l1_1 = some (r1, r2)) :
  Calls Try.prog 78 #[.slice A0 l0.length c0, .agg #[.slice A1_0 l1_0.length c1_0, .slice A1_1 l1_1.length c1_1]] w fun e w' => e = .returned (.agg #[.int .i64 r1, .int .i64 r2]) ∧ Below w.heap.size w w' := by
 have hu29 := Try.underlying29
 have hu55 := Try.underlying55
 have hu45 := Try.underlying45
 have HR0 := aS hr0
 have HC0 := aS hc0
 clear hr0 hc0
 have HR1_0 := aS hr1_0
 have HC1_0 := aS hc1_0
 clear hr1_0 hc1_0
 have HR1_1 := aS hr1_1
 have HC1_1 := aS hc1_1
 clear hr1_1 hc1_1
 have HB := aS (Below.refl w.heap.size w)
 have H := h
 clear h
 unfold impl_lineStrength.f at H
 replace H := iE H; rcases H with ⟨c3, H⟩ | ⟨c3, H⟩
 ·
  have c3b0 := decide_eq_true c3
  have c3b1 : decide (0 < l1_0.length) = true := decide_eq_true (by omega)
  clear c3
  replace H := Option.bind_eq_some_iff.mp H
  obtain ⟨⟨t704, t705⟩, A40, H⟩ := H
  replace H : (impl_lineStrength.l0 k l0 l1_0 (l1_0.length : Int) 0 l1_0 l1_1 t704 t705) = some (r1, r2) := H
  have A4 := aS A40
  clear A40
  have H' := aS H
  clear H
  go_enter Try.func78, Try.ntmps78
  go_wp2_with (first | ((with_reducible refine gate_dst (N := 3) rfl ?_); refine bx 3 #[.slice A1_0 l1_0.length c1_0, .slice A1_1 l1_1.length c1_1] 29 ?_; intro gb701 hg w5 hbox hb; have BK701 := aS (hbox); have GW701 := aS (gW hg (sW HB.out)); have GE701 := aS (gW hg (sW HB.out)); replace HB := aS (below_step (sW HB.out) hb); clear hb hbox hg) | ((with_reducible refine gate_dst (N := 4) rfl ?_); refine bx 4 #[.int .i64 0, .int .i64 0] 55 ?_; intro gb702 hg w6 hbox hb; have BK702 := aS (hbox); have GW702 := aS (gW hg (sW HB.out)); have GE702 := aS (gW hg (sW HB.out)); replace HB := aS (below_step (sW HB.out) hb); have NB701_702 := aS (nL hg (sB BK701.out)); have NB702_701 := aS (nG hg (sB BK701.out)); replace BK701 := aS (blk_below (sB BK701.out) hb); clear hb hbox hg; have hnb7 := NB701_702.out; have hnc7 := NB702_701.out; obtain ⟨hcz8_0, hcz8_1, hfz8_0, hfz8_1⟩ := z2 BK701.out; have p703 : 0 ≤ (0 : Int) := (by omega); have q703 : 0 < (l1_0.length : Int) := sD; obtain ⟨ad703, e703, hx703_0, hx703_1⟩ := at_T45 HR1_0.out 0 p703 q703; cases e703; have qi703 : (0 < l1_0.length) = True := eq_true (by omega); (try rw [show ((0 : Int)).toNat = 0 from rfl] at hx703_0); (try rw [show 0 * 2 = 0 from rfl] at hx703_0); (try rw [Addr.add_zero'] at hx703_0); (try rw [show ((0 : Int)).toNat = 0 from rfl] at hx703_1); (try rw [show 0 * 2 = 0 from rfl] at hx703_1); (try rw [Addr.add_zero'] at hx703_1); replace hx703_0 := bC HB.out hx703_0; replace hx703_1 := bC HB.out hx703_1; replace p703 := eq_true p703; replace q703 := eq_true q703) | ((with_reducible refine gate_callee (f := 100) rfl ?_); refine goesL_ (some 15) rfl rfl Try.func100 (by kernel_rfl) rfl #[.int .i64 ((rd_T45 l1_0 0).f0), .int .i64 1] rfl sG ?_; (with_reducible refine (impl_fraction.calls k ((rd_T45 l1_0 0).f0) 1 t704 t705 _ A4.out).mono ?_); rintro e w9 ⟨rfl, hb⟩; refine ⟨_, rfl, ?_⟩; replace BK701 := aS (blk_below (sB BK701.out) hb); replace BK702 := aS (blk_below (sB BK702.out) hb); replace HB := aS (below_step (sW HB.out) hb)) | ((with_reducible refine gate_dst (N := 5) rfl ?_); refine bx 5 #[.int .i64 0, .int .i64 0] 55 ?_; intro gb706 hg w10 hbox hb; have BK706 := aS (hbox); have GW706 := aS (gW hg (sW HB.out)); have GE706 := aS (gW hg (sW HB.out)); replace HB := aS (below_step (sW HB.out) hb); have NB701_706 := aS (nL hg (sB BK701.out)); have NB706_701 := aS (nG hg (sB BK701.out)); replace BK701 := aS (blk_below (sB BK701.out) hb); have NB702_706 := aS (nL hg (sB BK702.out)); have NB706_702 := aS (nG hg (sB BK702.out)); replace BK702 := aS (blk_below (sB BK702.out) hb); clear hb hbox hg; have hnb11 := NB706_701.out; have hnc11 := NB701_706.out; have hnb12 := NB706_702.out; have hnc12 := NB702_706.out; obtain ⟨hcz13_0, hcz13_1, hfz13_0, hfz13_1⟩ := z2 BK706.out; obtain ⟨hcz14_0, hcz14_1, hfz14_0, hfz14_1⟩ := z2 BK701.out))
  (try simp only [Act.put, List.setIfInBounds_toArray, List.set_cons_zero, List.set_cons_succ])
  go_loopg [19] k (fun kq v19 w' => ∃ (x19_1 : Int) (x707000_1 : Int) (x707001_1 : Int), v19 = .int .i64 x19_1 ∧ Aside0 (impl_lineStrength.l0 kq l0 l1_0 (l1_0.length : Int) x19_1 l1_0 l1_1 x707000_1 x707001_1 = some (r1, r2)) ∧ Aside0 (kq ≤ k) ∧ Aside0 (w'.heap[gb701]? = some (.cells #[(.slice (some ad703) l1_0.length c1_0), (.slice A1_1 l1_1.length c1_1)] 29 (0, 0))) ∧ Aside0 (w'.heap[gb702]? = some (.cells #[.int .i64 0, .int .i64 0] 55 (0, 0))) ∧ Aside0 (w'.heap[gb706]? = some (.cells #[.int .i64 x707000_1, .int .i64 x707001_1] 55 (0, 0))) ∧ Aside0 (Below w.heap.size w w'))
  case atStart => exact ⟨(0), (t704), (t705), eV, H', ⟨Nat.le_refl _⟩, (aS (sF BK701.out NB701_706.out)), (aS (sF BK702.out NB702_706.out)), (aS (sB (put2 BK706.out))), (aS (sW HB.out))⟩
  case round =>
   clear H'
   (try clear hx7); (try clear hx703_0); (try clear hx703_1)
   obtain ⟨x19_1, x707000_1, x707001_1, rfl, HA, HK1, BK701, BK702, BK706, HB⟩ := hrel
   cases gk with
   | zero => exact absurd HA.out (by simp [impl_lineStrength.l0])
   | succ k1 =>
    have H := HA.out
    clear HA
    simp only [impl_lineStrength.l0] at H
    replace H := iE H; rcases H with ⟨c15, H⟩ | ⟨c15, H⟩
    ·
     have c15b0 := decide_eq_true c15
     clear c15
     replace H := iE H; rcases H with ⟨c16, H⟩ | ⟨c16, H⟩
     ·
      have c16b0 := decide_eq_true c16
      clear c16
      replace H := iE H; rcases H with ⟨c17, H⟩ | ⟨c17, H⟩
      ·
       have c17b0 := decide_eq_true c17
       clear c17
       obtain ⟨ji18, hji18⟩ : ∃ j_ : Int, (mn x707000_1 ((rd_T45 l1_0 x19_1).f0)) = j_ := ⟨_, rfl⟩
       replace H : ((impl_fraction.f k1 (ji18) 1).bind fun bt709 => (impl_lineStrength.l0 k1 l0 l1_0 (l1_0.length : Int) (wrap64 (x19_1 + 1)) l1_0 l1_1 bt709.1 bt709.2)) = some (r1, r2) := by first | (rw [hji18] at H; exact H) | (simp only [hji18] at H ⊢; exact H)
       have hji18_ : (if ((rd_T45 l1_0 x19_1).f0) < x707000_1 then ((rd_T45 l1_0 x19_1).f0) else x707000_1) = ji18 := hji18
       replace H := Option.bind_eq_some_iff.mp H
       obtain ⟨⟨t709, t710⟩, A190, H⟩ := H
       replace H : (impl_lineStrength.l0 k1 l0 l1_0 (l1_0.length : Int) (wrap64 (x19_1 + 1)) l1_0 l1_1 t709 t710) = some (r1, r2) := H
       have A19 := aS A190
       clear A190
       have H' := aS H
       clear H
       have p707 : 0 ≤ (x19_1 : Int) := sD
       have q707 : x19_1 < (l1_0.length : Int) := sD
       obtain ⟨ad707, e707, hx707_0, hx707_1⟩ := at_T45 HR1_0.out x19_1 p707 q707
       obtain rfl : ad703 = ad707 := (by injection e707)
       replace hx707_0 := bC HB.out hx707_0
       replace hx707_1 := bC HB.out hx707_1
       replace p707 := eq_true p707
       replace q707 := eq_true q707
       go_wp2_with (first | ((with_reducible refine gate_dst (N := 7) rfl ?_); refine bx 7 #[.int .i64 0, .int .i64 0] 45 ?_; intro gb708 hg w20 hbox hb; have BK708 := aS (hbox); have GW708 := aS (gW hg (sW HB.out)); have GE708 := aS (gW hg (sW HB.out)); replace HB := aS (below_step (sW HB.out) hb); have NB701_708 := aS (nL hg (sB BK701.out)); have NB708_701 := aS (nG hg (sB BK701.out)); replace BK701 := aS (blk_below (sB BK701.out) hb); have NB702_708 := aS (nL hg (sB BK702.out)); have NB708_702 := aS (nG hg (sB BK702.out)); replace BK702 := aS (blk_below (sB BK702.out) hb); have NB706_708 := aS (nL hg (sB BK706.out)); have NB708_706 := aS (nG hg (sB BK706.out)); replace BK706 := aS (blk_below (sB BK706.out) hb); clear hb hbox hg; have hnb21 := NB708_701.out; have hnc21 := NB701_708.out; have hnb22 := NB708_702.out; have hnc22 := NB702_708.out; have hnb23 := NB708_706.out; have hnc23 := NB706_708.out; obtain ⟨hcz24_0, hcz24_1, hfz24_0, hfz24_1⟩ := z2 BK708.out; have hnb25 := NB706_701.out; have hnc25 := NB701_706.out; have hnb26 := NB706_702.out; have hnc26 := NB702_706.out; obtain ⟨hcz27_0, hcz27_1, hfz27_0, hfz27_1⟩ := z2 BK706.out) | ((with_reducible refine gate_callee (f := 100) rfl ?_); refine goesL_ (some 28) rfl rfl Try.func100 (by kernel_rfl) rfl #[.int .i64 ji18, .int .i64 1] rfl (by (try simp only [List.map_toArray, List.map_cons, List.map_nil]); first | done | (simp only [hji18]; rfl) | rfl | (simp only [List.length_drop, List.length_take]; rfl)) ?_; (with_reducible refine (impl_fraction.calls k1 ji18 1 t709 t710 _ A19.out).mono ?_); rintro e w28 ⟨rfl, hb⟩; refine ⟨_, rfl, ?_⟩; replace BK701 := aS (blk_below (sF BK701.out NB701_708.out) hb); replace BK702 := aS (blk_below (sF BK702.out NB702_708.out) hb); replace BK706 := aS (blk_below (sF BK706.out NB706_708.out) hb); replace BK708 := aS (blk_below (sB (put2 BK708.out)) hb); replace HB := aS (below_step (sW HB.out) hb); (try clear hb); (try clear hb2); (try clear hk); (try clear hi); obtain ⟨hcz29_0, hcz29_1, hfz29_0, hfz29_1⟩ := z2 BK706.out))
       go_roundg k1
       case measure => have := HK1.out; omega
       case rel => exact ⟨(wrap64 (x19_1 + 1)), (t709), (t710), eV, H', ⟨by have := HK1.out; omega⟩, (aS (sF BK701.out NB701_706.out)), (aS (sF BK702.out NB702_706.out)), (aS (sB (put2 BK706.out))), (aS (sW HB.out))⟩
      ·
       exact absurd H (by simp)
     ·
      exact absurd H (by simp)
    ·
     have c15b0 := decide_eq_false c15
     clear c15
     have H' := aS H
     clear H
     have hnb30 := NB701_702.out
     have hnc30 := NB702_701.out
     have hnb31 := NB701_706.out
     have hnc31 := NB706_701.out
     obtain ⟨hcz32_0, hcz32_1, hfz32_0, hfz32_1⟩ := z2 BK701.out
     go_wp2
     go_loopg [33] k1 (fun kq v33 w' => ∃ (x33_2 : Int) (x707000_2 : Int) (x707001_2 : Int), v33 = .int .i64 x33_2 ∧ Aside0 (impl_lineStrength.l1 kq l0 (l1_1.length : Int) x33_2 l1_0 l1_1 x707000_2 x707001_2 = some (r1, r2)) ∧ Aside0 (kq ≤ k1) ∧ Aside0 (w'.heap[gb701]? = some (.cells #[(.slice (some ad703) l1_0.length c1_0), (.slice A1_1 l1_1.length c1_1)] 29 (0, 0))) ∧ Aside0 (w'.heap[gb702]? = some (.cells #[.int .i64 0, .int .i64 0] 55 (0, 0))) ∧ Aside0 (w'.heap[gb706]? = some (.cells #[.int .i64 x707000_2, .int .i64 x707001_2] 55 (0, 0))) ∧ Aside0 (Below w.heap.size w w'))
     case atStart => exact ⟨(0), (x707000_1), (x707001_1), eV, H', ⟨Nat.le_refl _⟩, (aS (sB BK701.out)), (aS (sB BK702.out)), (aS (sB BK706.out)), (aS (sW HB.out))⟩
     case round =>
      clear H'
      (try clear hx7); (try clear hx703_0); (try clear hx703_1); (try clear hx707_0); (try clear hx707_1)
      obtain ⟨x33_2, x707000_2, x707001_2, rfl, HA, HK2, BK701, BK702, BK706, HB⟩ := hrel
      cases gk with
      | zero => exact absurd HA.out (by simp [impl_lineStrength.l1])
      | succ k2 =>
       have H := HA.out
       clear HA
       simp only [impl_lineStrength.l1] at H
       replace H := iE H; rcases H with ⟨c33, H⟩ | ⟨c33, H⟩
       ·
        have c33b0 := decide_eq_true c33
        clear c33
        replace H := Option.bind_eq_some_iff.mp H
        obtain ⟨⟨t711, t712⟩, A340, H⟩ := H
        replace H : ((impl_compareFractions.f k2 t711 t712 x707000_2 x707001_2).bind fun t714 => (if t714 < 0 then (impl_lineStrength.l1 k2 l0 (l1_1.length : Int) (wrap64 (x33_2 + 1)) l1_0 l1_1 t711 t712) else (impl_lineStrength.l1 k2 l0 (l1_1.length : Int) (wrap64 (x33_2 + 1)) l1_0 l1_1 x707000_2 x707001_2))) = some (r1, r2) := H
        have A34 := aS A340
        clear A340
        replace H := Option.bind_eq_some_iff.mp H
        obtain ⟨t714, A350, H⟩ := H
        replace H : (if t714 < 0 then (impl_lineStrength.l1 k2 l0 (l1_1.length : Int) (wrap64 (x33_2 + 1)) l1_0 l1_1 t711 t712) else (impl_lineStrength.l1 k2 l0 (l1_1.length : Int) (wrap64 (x33_2 + 1)) l1_0 l1_1 x707000_2 x707001_2)) = some (r1, r2) := H
        have A35 := aS A350
        clear A350
        have HC36 := aS H
        clear H
        have hnb37 := NB701_702.out
        have hnc37 := NB702_701.out
        have hnb38 := NB701_706.out
        have hnc38 := NB706_701.out
        obtain ⟨hcz39_0, hcz39_1, hfz39_0, hfz39_1⟩ := z2 BK701.out
        go_upto_if 43 with (first | ((with_reducible refine gate_callee (f := 73) rfl ?_); refine goesL_ (some 39) rfl rfl Try.func73 (by kernel_rfl) rfl #[.slice A0 l0.length c0, .agg #[.slice (some ad703) l1_0.length c1_0, .slice A1_1 l1_1.length c1_1], .int .i64 x33_2] rfl sG ?_; (with_reducible refine (impl_strengthAt.calls k2 _ _ l0 _ _ l1_0 _ _ l1_1 x33_2 t711 t712 _ ?side1 ?side2 ?side3 ?side4 ?side5 ?side6 A34.out).mono ?_); (case side1 => exact sC (Kd.C_below HR0.out HB.out)); (case side2 => exact HC0.out); (case side3 => exact sC (Kd.C_below HR1_0.out HB.out)); (case side4 => exact HC1_0.out); (case side5 => exact sC (Kd.C_below HR1_1.out HB.out)); (case side6 => exact HC1_1.out); rintro e w40 ⟨rfl, hb⟩; refine ⟨_, rfl, ?_⟩; replace BK701 := aS (blk_below (sB BK701.out) hb); replace BK702 := aS (blk_below (sB BK702.out) hb); replace BK706 := aS (blk_below (sB BK706.out) hb); replace HB := aS (below_step (sW HB.out) hb)) | ((with_reducible refine gate_dst (N := 9) rfl ?_); refine bx 9 #[.int .i64 0, .int .i64 0] 55 ?_; intro gb713 hg w41 hbox hb; have BK713 := aS (hbox); have GW713 := aS (gW hg (sW HB.out)); have GE713 := aS (gW hg (sW HB.out)); replace HB := aS (below_step (sW HB.out) hb); have NB701_713 := aS (nL hg (sB BK701.out)); have NB713_701 := aS (nG hg (sB BK701.out)); replace BK701 := aS (blk_below (sB BK701.out) hb); have NB702_713 := aS (nL hg (sB BK702.out)); have NB713_702 := aS (nG hg (sB BK702.out)); replace BK702 := aS (blk_below (sB BK702.out) hb); have NB706_713 := aS (nL hg (sB BK706.out)); have NB713_706 := aS (nG hg (sB BK706.out)); replace BK706 := aS (blk_below (sB BK706.out) hb); clear hb hbox hg; have hnb42 := NB713_701.out; have hnc42 := NB701_713.out; have hnb43 := NB713_702.out; have hnc43 := NB702_713.out; have hnb44 := NB713_706.out; have hnc44 := NB706_713.out; obtain ⟨hcz45_0, hcz45_1, hfz45_0, hfz45_1⟩ := z2 BK713.out; have hnb46 := NB706_702.out; have hnc46 := NB702_706.out; obtain ⟨hcz47_0, hcz47_1, hfz47_0, hfz47_1⟩ := z2 BK706.out) | ((with_reducible refine gate_callee (f := 104) rfl ?_); refine goesL_ (some 42) rfl rfl Try.func104 (by kernel_rfl) rfl #[.agg #[.int .i64 t711, .int .i64 t712], .agg #[.int .i64 x707000_2, .int .i64 x707001_2]] rfl sG ?_; (with_reducible refine (impl_compareFractions.calls k2 t711 t712 x707000_2 x707001_2 t714 _ A35.out).mono ?_); rintro e w48 ⟨rfl, hb⟩; refine ⟨_, rfl, ?_⟩; replace BK701 := aS (blk_below (sF BK701.out NB701_713.out) hb); replace BK702 := aS (blk_below (sF BK702.out NB702_713.out) hb); replace BK706 := aS (blk_below (sF BK706.out NB706_713.out) hb); replace BK713 := aS (blk_below (sB (put2 BK713.out)) hb); replace HB := aS (below_step (sW HB.out) hb)))
        (try simp only [Act.put, List.setIfInBounds_toArray, List.set_cons_zero, List.set_cons_succ])
        have H := HC36.out
        clear HC36
        replace H := iE H; rcases H with ⟨c49, H⟩ | ⟨c49, H⟩
        ·
         have c49b0 := decide_eq_true c49
         clear c49
         (first | rw [c49b0] | (simp only [i64_w, i32_w]; rw [c49b0]) | (rw [c49b2]; simp only [Bool.not_false, Bool.not_true]) | skip)
         have H' := aS H
         clear H
         have hnb50 := NB713_701.out
         have hnc50 := NB701_713.out
         have hnb51 := NB713_702.out
         have hnc51 := NB702_713.out
         have hnb52 := NB713_706.out
         have hnc52 := NB706_713.out
         obtain ⟨hcz53_0, hcz53_1, hfz53_0, hfz53_1⟩ := z2 BK713.out
         have hnb54 := NB706_701.out
         have hnc54 := NB701_706.out
         have hnb55 := NB706_702.out
         have hnc55 := NB702_706.out
         obtain ⟨hcz56_0, hcz56_1, hfz56_0, hfz56_1⟩ := z2 BK706.out
         go_wp2
         go_roundg k2
         case measure => have := HK1.out; have := HK2.out; omega
         case rel => exact ⟨(wrap64 (x33_2 + 1)), (t711), (t712), eV, H', ⟨by have := HK1.out; have := HK2.out; omega⟩, (aS (sF BK701.out NB701_706.out)), (aS (sF BK702.out NB702_706.out)), (aS (sB (put2 BK706.out))), (aS (sW HB.out))⟩
        ·
         have c49b0 := decide_eq_false c49
         clear c49
         (first | rw [c49b0] | (simp only [i64_w, i32_w]; rw [c49b0]) | (rw [c49b2]; simp only [Bool.not_false, Bool.not_true]) | skip)
         have H' := aS H
         clear H
         go_wp2
         go_roundg k2
         case measure => have := HK1.out; have := HK2.out; omega
         case rel => exact ⟨(wrap64 (x33_2 + 1)), (x707000_2), (x707001_2), eV, H', ⟨by have := HK1.out; have := HK2.out; omega⟩, (aS (sB BK701.out)), (aS (sB BK702.out)), (aS (sB BK706.out)), (aS (sW HB.out))⟩
       ·
        have c33b0 := decide_eq_false c33
        clear c33
        simp only [Option.some.injEq, Prod.mk.injEq] at H
        obtain ⟨rfl, rfl⟩ := H
        have hnb57 := NB706_701.out
        have hnc57 := NB701_706.out
        have hnb58 := NB706_702.out
        have hnc58 := NB702_706.out
        obtain ⟨hcz59_0, hcz59_1, hfz59_0, hfz59_1⟩ := z2 BK706.out
        have hnb60 := NB702_701.out
        have hnc60 := NB701_702.out
        obtain ⟨hcz61_0, hcz61_1, hfz61_0, hfz61_1⟩ := z2 BK702.out
        go_wp2
        refine bodyPost_ret (results_cell_row rfl _ _ gb702 55 #[.int .i64 x707000_2, .int .i64 x707001_2] (0, 0) _ rfl (sB (put2 BK702.out)) Try.underlying55 rfl (by kernel_rfl)) rfl ?_
        exact ⟨eE, sW HB.out⟩
 ·
  exact absurd H (by simp)

/-! ### impl_LineStrength: function 29 -/
def impl_LineStrength.f (k : Nat) (l0 : List (S61)) (l1_0 : List (S45)) (l1_1 : List Int) : Option (Int × Int × Int) := (impl_ValidJoins.f k l0).bind fun t717 => (if t717 = true then ((impl_validLine.f k l0 l1_0 l1_1).bind fun t718 => (if t718 = true then ((impl_lineStrength.f k l0 l1_0 l1_1).bind fun bt719 => (some (bt719.1, bt719.2, 0))) else (some (0, 0, 1)))) else (some (0, 0, 1)))
theorem impl_LineStrength.mono : ∀ a0 a1 a2 k, LeO (impl_LineStrength.f k a0 a1 a2) (impl_LineStrength.f (k + 1) a0 a1 a2) := by
 intro a0 a1 a2 k
 unfold impl_LineStrength.f
 repeat' first | (with_reducible first | exact impl_ValidJoins.mono _ _ | exact impl_lineStrength.mono _ _ _ _ | exact impl_validLine.mono _ _ _ _ | exact LeO.refl _ | exact LeO.none _ | refine LeO.ite ?_ ?_ | refine LeO.bind ?_ (fun _ => ?_)) | refine LeO.ite ?_ ?_ | refine LeO.bind ?_ (fun _ => ?_)
set_option maxHeartbeats 8000000 in
set_option maxRecDepth 100000 in
theorem impl_LineStrength.calls (k : Nat) (A0 : Option Addr) (c0 : Nat) (l0 : List (S61)) (A1_0 : Option Addr) (c1_0 : Nat) (l1_0 : List (S45)) (A1_1 : Option Addr) (c1_1 : Nat) (l1_1 : List Int) (r1 : Int) (r2 : Int) (r3 : Int) (w : World) (hr0 : Kd.C k61 w A0 l0.length l0) (hc0 : l0.length ≤ c0) (hr1_0 : Kd.C k45 w A1_0 l1_0.length l1_0) (hc1_0 : l1_0.length ≤ c1_0) (hr1_1 : Kd.C (Kd.int .i64) w A1_1 l1_1.length l1_1) (hc1_1 : l1_1.length ≤ c1_1) (h : impl_LineStrength.f k l0 l1_0 l1_1 = some (r1, r2, r3)) :
  Calls Try.prog 29 #[.slice A0 l0.length c0, .agg #[.slice A1_0 l1_0.length c1_0, .slice A1_1 l1_1.length c1_1]] w fun e w' => e = .returned (.tuple #[.agg #[.int .i64 r1, .int .i64 r2], .int .i64 r3]) ∧ Below w.heap.size w w' := by
 have hu29 := Try.underlying29
 have hu55 := Try.underlying55
 have HR0 := aS hr0
 have HC0 := aS hc0
 clear hr0 hc0
 have HR1_0 := aS hr1_0
 have HC1_0 := aS hc1_0
 clear hr1_0 hc1_0
 have HR1_1 := aS hr1_1
 have HC1_1 := aS hc1_1
 clear hr1_1 hc1_1
 have HB := aS (Below.refl w.heap.size w)
 have H := h
 clear h
 unfold impl_LineStrength.f at H
 replace H := Option.bind_eq_some_iff.mp H
 obtain ⟨t717, A30, H⟩ := H
 replace H : (if t717 = true then ((impl_validLine.f k l0 l1_0 l1_1).bind fun t718 => (if t718 = true then ((impl_lineStrength.f k l0 l1_0 l1_1).bind fun bt719 => (some (bt719.1, bt719.2, 0))) else (some (0, 0, 1)))) else (some (0, 0, 1))) = some (r1, r2, r3) := H
 have A3 := aS A30
 clear A30
 by_cases c4 : t717 = true
 ·
  subst c4
  have H1 : ((impl_validLine.f k l0 l1_0 l1_1).bind fun t718 => (if t718 = true then ((impl_lineStrength.f k l0 l1_0 l1_1).bind fun bt719 => (some (bt719.1, bt719.2, 0))) else (some (0, 0, 1)))) = some (r1, r2, r3) := by rw [if_pos rfl] at H; exact H
  clear H
  have H := H1
  clear H1
  replace H := Option.bind_eq_some_iff.mp H
  obtain ⟨t718, A50, H⟩ := H
  replace H : (if t718 = true then ((impl_lineStrength.f k l0 l1_0 l1_1).bind fun bt719 => (some (bt719.1, bt719.2, 0))) else (some (0, 0, 1))) = some (r1, r2, r3) := H
  have A5 := aS A50
  clear A50
  have HC6 := aS H
  clear H
  go_enter Try.func29, Try.ntmps29
  go_upto_if 14 with (first | ((with_reducible refine gate_dst (N := 3) rfl ?_); refine bx 3 #[.slice A1_0 l1_0.length c1_0, .slice A1_1 l1_1.length c1_1] 29 ?_; intro gb715 hg w7 hbox hb; have BK715 := aS (hbox); have GW715 := aS (gW hg (sW HB.out)); have GE715 := aS (gW hg (sW HB.out)); replace HB := aS (below_step (sW HB.out) hb); clear hb hbox hg) | ((with_reducible refine gate_dst (N := 4) rfl ?_); refine bx 4 #[.int .i64 0, .int .i64 0] 55 ?_; intro gb716 hg w8 hbox hb; have BK716 := aS (hbox); have GW716 := aS (gW hg (sW HB.out)); have GE716 := aS (gW hg (sW HB.out)); replace HB := aS (below_step (sW HB.out) hb); have NB715_716 := aS (nL hg (sB BK715.out)); have NB716_715 := aS (nG hg (sB BK715.out)); replace BK715 := aS (blk_below (sB BK715.out) hb); clear hb hbox hg) | ((with_reducible refine gate_callee (f := 48) rfl ?_); refine goesL_ (some 7) rfl rfl Try.func48 (by kernel_rfl) rfl #[.slice A0 l0.length c0] rfl sG ?_; (with_reducible refine (impl_ValidJoins.calls k _ _ l0 true _ ?side1 ?side2 A3.out).mono ?_); (case side1 => exact sC (Kd.C_below HR0.out HB.out)); (case side2 => exact HC0.out); rintro e w9 ⟨rfl, hb⟩; refine ⟨_, rfl, ?_⟩; replace BK715 := aS (blk_below (sB BK715.out) hb); replace BK716 := aS (blk_below (sB BK716.out) hb); replace HB := aS (below_step (sW HB.out) hb); (try clear hb); (try clear hb2); (try clear hk); (try clear hi); have hnb10 := NB715_716.out; have hnc10 := NB716_715.out; obtain ⟨hcz11_0, hcz11_1, hfz11_0, hfz11_1⟩ := z2 BK715.out) | (go_at_call 72; (with_reducible refine (impl_validLine.calls k _ _ l0 _ _ l1_0 _ _ l1_1 t718 _ ?side1 ?side2 ?side3 ?side4 ?side5 ?side6 A5.out).mono ?_); (case side1 => exact sC (Kd.C_below HR0.out HB.out)); (case side2 => exact HC0.out); (case side3 => exact sC (Kd.C_below HR1_0.out HB.out)); (case side4 => exact HC1_0.out); (case side5 => exact sC (Kd.C_below HR1_1.out HB.out)); (case side6 => exact HC1_1.out); rintro e w12 ⟨rfl, hb⟩; replace BK715 := aS (blk_below (sB BK715.out) hb); replace BK716 := aS (blk_below (sB BK716.out) hb); replace HB := aS (below_step (sW HB.out) hb)))
  (try simp only [Act.put, List.setIfInBounds_toArray, List.set_cons_zero, List.set_cons_succ])
  have H := HC6.out
  clear HC6
  by_cases c13 : t718 = true
  ·
   subst c13
   have H1 : ((impl_lineStrength.f k l0 l1_0 l1_1).bind fun bt719 => (some (bt719.1, bt719.2, 0))) = some (r1, r2, r3) := by rw [if_pos rfl] at H; exact H
   clear H
   have H := H1
   clear H1
   replace H := Option.bind_eq_some_iff.mp H
   obtain ⟨⟨t719, t720⟩, A140, H⟩ := H
   replace H : (some (t719, t720, 0)) = some (r1, r2, r3) := H
   have A14 := aS A140
   clear A140
   simp only [Option.some.injEq, Prod.mk.injEq] at H
   obtain ⟨rfl, rfl, rfl⟩ := H
   have hnb15 := NB715_716.out
   have hnc15 := NB716_715.out
   obtain ⟨hcz16_0, hcz16_1, hfz16_0, hfz16_1⟩ := z2 BK715.out
   go_wp2_with (first | ((with_reducible refine gate_callee (f := 78) rfl ?_); refine goesL_ (some 18) rfl rfl Try.func78 (by kernel_rfl) rfl #[.slice A0 l0.length c0, .agg #[.slice A1_0 l1_0.length c1_0, .slice A1_1 l1_1.length c1_1]] rfl sG ?_; (with_reducible refine (impl_lineStrength.calls k _ _ l0 _ _ l1_0 _ _ l1_1 t719 t720 _ ?side1 ?side2 ?side3 ?side4 ?side5 ?side6 A14.out).mono ?_); (case side1 => exact sC (Kd.C_below HR0.out HB.out)); (case side2 => exact HC0.out); (case side3 => exact sC (Kd.C_below HR1_0.out HB.out)); (case side4 => exact HC1_0.out); (case side5 => exact sC (Kd.C_below HR1_1.out HB.out)); (case side6 => exact HC1_1.out); rintro e w17 ⟨rfl, hb⟩; refine ⟨_, rfl, ?_⟩; replace BK715 := aS (blk_below (sB BK715.out) hb); replace BK716 := aS (blk_below (sB BK716.out) hb); replace HB := aS (below_step (sW HB.out) hb); (try clear hb); (try clear hb2); (try clear hk); (try clear hi); obtain ⟨hcz18_0, hcz18_1, hfz18_0, hfz18_1⟩ := z2 BK716.out))
   refine bodyPost_ret (results_ct rfl _ _ gb716 55 #[.int .i64 t719, .int .i64 t720] (0, 0) _ rfl (sB (put2 BK716.out)) Try.underlying55 rfl (by kernel_rfl)) rfl ?_
   exact ⟨eE, sW HB.out⟩
  ·
   replace c13 := Bool.eq_false_iff.mpr c13
   subst c13
   have H1 : (some (0, 0, 1)) = some (r1, r2, r3) := by rw [if_neg (show ¬ (false = true) by decide)] at H; exact H
   clear H
   have H := H1
   clear H1
   simp only [Option.some.injEq, Prod.mk.injEq] at H
   obtain ⟨rfl, rfl, rfl⟩ := H
   have hnb19 := NB716_715.out
   have hnc19 := NB715_716.out
   obtain ⟨hcz20_0, hcz20_1, hfz20_0, hfz20_1⟩ := z2 BK716.out
   go_wp2
   refine bodyPost_ret (results_ct rfl _ _ gb716 55 #[.int .i64 0, .int .i64 0] (0, 0) _ rfl (sB (put2 BK716.out)) Try.underlying55 rfl (by kernel_rfl)) rfl ?_
   exact ⟨eE, sW HB.out⟩
 ·
  replace c4 := Bool.eq_false_iff.mpr c4
  subst c4
  have H1 : (some (0, 0, 1)) = some (r1, r2, r3) := by rw [if_neg (show ¬ (false = true) by decide)] at H; exact H
  clear H
  have H := H1
  clear H1
  simp only [Option.some.injEq, Prod.mk.injEq] at H
  obtain ⟨rfl, rfl, rfl⟩ := H
  go_enter Try.func29, Try.ntmps29
  go_wp2_with (first | ((with_reducible refine gate_dst (N := 3) rfl ?_); refine bx 3 #[.slice A1_0 l1_0.length c1_0, .slice A1_1 l1_1.length c1_1] 29 ?_; intro gb715 hg w21 hbox hb; have BK715 := aS (hbox); have GW715 := aS (gW hg (sW HB.out)); have GE715 := aS (gW hg (sW HB.out)); replace HB := aS (below_step (sW HB.out) hb); clear hb hbox hg) | ((with_reducible refine gate_dst (N := 4) rfl ?_); refine bx 4 #[.int .i64 0, .int .i64 0] 55 ?_; intro gb716 hg w22 hbox hb; have BK716 := aS (hbox); have GW716 := aS (gW hg (sW HB.out)); have GE716 := aS (gW hg (sW HB.out)); replace HB := aS (below_step (sW HB.out) hb); have NB715_716 := aS (nL hg (sB BK715.out)); have NB716_715 := aS (nG hg (sB BK715.out)); replace BK715 := aS (blk_below (sB BK715.out) hb); clear hb hbox hg) | ((with_reducible refine gate_callee (f := 48) rfl ?_); refine goesL_ (some 7) rfl rfl Try.func48 (by kernel_rfl) rfl #[.slice A0 l0.length c0] rfl sG ?_; (with_reducible refine (impl_ValidJoins.calls k _ _ l0 false _ ?side1 ?side2 A3.out).mono ?_); (case side1 => exact sC (Kd.C_below HR0.out HB.out)); (case side2 => exact HC0.out); rintro e w23 ⟨rfl, hb⟩; refine ⟨_, rfl, ?_⟩; replace BK715 := aS (blk_below (sB BK715.out) hb); replace BK716 := aS (blk_below (sB BK716.out) hb); replace HB := aS (below_step (sW HB.out) hb); (try clear hb); (try clear hb2); (try clear hk); (try clear hi); have hnb24 := NB716_715.out; have hnc24 := NB715_716.out; obtain ⟨hcz25_0, hcz25_1, hfz25_0, hfz25_1⟩ := z2 BK716.out))
  refine bodyPost_ret (results_ct rfl _ _ gb716 55 #[.int .i64 0, .int .i64 0] (0, 0) _ rfl (sB (put2 BK716.out)) Try.underlying55 rfl (by kernel_rfl)) rfl ?_
  exact ⟨eE, sW HB.out⟩

/-! ### impl_ValidLine: function 30 -/
def impl_ValidLine.f (k : Nat) (l0 : List (S61)) (l1_0 : List (S45)) (l1_1 : List Int) : Option (Bool) := (impl_ValidJoins.f k l0).bind fun t722 => (if t722 = true then ((impl_validLine.f k l0 l1_0 l1_1).bind fun t723 => (some t723)) else (some false))
theorem impl_ValidLine.mono : ∀ a0 a1 a2 k, LeO (impl_ValidLine.f k a0 a1 a2) (impl_ValidLine.f (k + 1) a0 a1 a2) := by
 intro a0 a1 a2 k
 unfold impl_ValidLine.f
 repeat' first | (with_reducible first | exact impl_ValidJoins.mono _ _ | exact impl_validLine.mono _ _ _ _ | exact LeO.refl _ | exact LeO.none _ | refine LeO.ite ?_ ?_ | refine LeO.bind ?_ (fun _ => ?_)) | refine LeO.ite ?_ ?_ | refine LeO.bind ?_ (fun _ => ?_)
set_option maxHeartbeats 8000000 in
set_option maxRecDepth 100000 in
theorem impl_ValidLine.calls (k : Nat) (A0 : Option Addr) (c0 : Nat) (l0 : List (S61)) (A1_0 : Option Addr) (c1_0 : Nat) (l1_0 : List (S45)) (A1_1 : Option Addr) (c1_1 : Nat) (l1_1 : List Int) (r : Bool) (w : World) (hr0 : Kd.C k61 w A0 l0.length l0) (hc0 : l0.length ≤ c0) (hr1_0 : Kd.C k45 w A1_0 l1_0.length l1_0) (hc1_0 : l1_0.length ≤ c1_0) (hr1_1 : Kd.C (Kd.int .i64) w A1_1 l1_1.length l1_1) (hc1_1 : l1_1.length ≤ c1_1) (h : impl_ValidLine.f k l0 l1_0 l1_1 = some r) :
  Calls Try.prog 30 #[.slice A0 l0.length c0, .agg #[.slice A1_0 l1_0.length c1_0, .slice A1_1 l1_1.length c1_1]] w fun e w' => e = .returned (.bool r) ∧ Below w.heap.size w w' := by
 have hu29 := Try.underlying29
 have HR0 := aS hr0
 have HC0 := aS hc0
 clear hr0 hc0
 have HR1_0 := aS hr1_0
 have HC1_0 := aS hc1_0
 clear hr1_0 hc1_0
 have HR1_1 := aS hr1_1
 have HC1_1 := aS hc1_1
 clear hr1_1 hc1_1
 have HB := aS (Below.refl w.heap.size w)
 have H := h
 clear h
 unfold impl_ValidLine.f at H
 replace H := bE H; obtain ⟨t722, A3, H⟩ := H; try dsimp only at H
 replace H := iE H; rcases H with ⟨c4, H⟩ | ⟨c4, H⟩
 ·
  subst c4
  replace H := bE H; obtain ⟨t723, A5, H⟩ := H; try dsimp only at H
  obtain rfl := Option.some.inj H
  go_enter Try.func30, Try.ntmps30
  go_wp2_with (first | ((with_reducible refine gate_dst (N := 3) rfl ?_); refine bx 3 #[.slice A1_0 l1_0.length c1_0, .slice A1_1 l1_1.length c1_1] 29 ?_; intro gb721 hg w6 hbox hb; have BK721 := aS (hbox); have GW721 := aS (gW hg (sW HB.out)); have GE721 := aS (gW hg (sW HB.out)); replace HB := aS (below_step (sW HB.out) hb); clear hb hbox hg) | ((with_reducible refine gate_callee (f := 48) rfl ?_); refine goesL_ (some 6) rfl rfl Try.func48 (by kernel_rfl) rfl #[.slice A0 l0.length c0] rfl sG ?_; (with_reducible refine (impl_ValidJoins.calls k _ _ l0 true _ ?side1 ?side2 A3.out).mono ?_); (case side1 => exact sC (Kd.C_below HR0.out HB.out)); (case side2 => exact HC0.out); rintro e w7 ⟨rfl, hb⟩; refine ⟨_, rfl, ?_⟩; replace BK721 := aS (blk_below (sB BK721.out) hb); replace HB := aS (below_step (sW HB.out) hb); (try clear hb); (try clear hb2); (try clear hk); (try clear hi); obtain ⟨hcz8_0, hcz8_1, hfz8_0, hfz8_1⟩ := z2 BK721.out) | (go_at_call 72; (with_reducible refine (impl_validLine.calls k _ _ l0 _ _ l1_0 _ _ l1_1 t723 _ ?side1 ?side2 ?side3 ?side4 ?side5 ?side6 A5.out).mono ?_); (case side1 => exact sC (Kd.C_below HR0.out HB.out)); (case side2 => exact HC0.out); (case side3 => exact sC (Kd.C_below HR1_0.out HB.out)); (case side4 => exact HC1_0.out); (case side5 => exact sC (Kd.C_below HR1_1.out HB.out)); (case side6 => exact HC1_1.out); rintro e w9 ⟨rfl, hb⟩; replace BK721 := aS (blk_below (sB BK721.out) hb); replace HB := aS (below_step (sW HB.out) hb)))
  go_ret
  exact ⟨eE, sW HB.out⟩
 ·
  replace c4 := Bool.eq_false_iff.mpr c4
  subst c4
  obtain rfl := Option.some.inj H
  go_enter Try.func30, Try.ntmps30
  go_wp2_with (first | ((with_reducible refine gate_dst (N := 3) rfl ?_); refine bx 3 #[.slice A1_0 l1_0.length c1_0, .slice A1_1 l1_1.length c1_1] 29 ?_; intro gb721 hg w10 hbox hb; have BK721 := aS (hbox); have GW721 := aS (gW hg (sW HB.out)); have GE721 := aS (gW hg (sW HB.out)); replace HB := aS (below_step (sW HB.out) hb); clear hb hbox hg) | ((with_reducible refine gate_callee (f := 48) rfl ?_); refine goesL_ (some 6) rfl rfl Try.func48 (by kernel_rfl) rfl #[.slice A0 l0.length c0] rfl sG ?_; (with_reducible refine (impl_ValidJoins.calls k _ _ l0 false _ ?side1 ?side2 A3.out).mono ?_); (case side1 => exact sC (Kd.C_below HR0.out HB.out)); (case side2 => exact HC0.out); rintro e w11 ⟨rfl, hb⟩; refine ⟨_, rfl, ?_⟩; replace BK721 := aS (blk_below (sB BK721.out) hb); replace HB := aS (below_step (sW HB.out) hb)))
  go_ret
  exact ⟨eE, sW HB.out⟩

end Go.Proofs.Ytginmioklkcgbaa.QFnBestJoins

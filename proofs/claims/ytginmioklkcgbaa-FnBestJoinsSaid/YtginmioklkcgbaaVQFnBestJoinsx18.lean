/- What the Go functions of this law compute, each as a Lean function, and that each call comes to that answer; written by a program of this session. No condition. -/
import Derived.Test.YtginmioklkcgbaaVShn
import Derived.Test.YtginmioklkcgbaaVQFnBestJoinsx0
namespace Go.Proofs.Ytginmioklkcgbaa.QFnBestJoins
open Go.RowKit Go.Proofs.YtginmioklkcgbaaW.PrintWords Go.Proofs.YtginmioklkcgbaaW.PrintLast Go.Proofs.YtginmioklkcgbaaW.PrintMore
attribute [local go_sem] max2_int min2_int max_two min_two max_three min_three max_four min_four   -- for this text's walks alone
set_option linter.unusedVariables false
set_option linter.unusedSimpArgs false

/-! ### impl_gcd: function 116 -/
mutual
def impl_gcd.j0 : Nat → Int → Int → Option (Int)
 | 0, _, _ => none
 | k + 1, x0, x1 => impl_gcd.l0 k x0 x1
def impl_gcd.l0 : Nat → Int → Int → Option (Int)
 | 0, _, _ => none
 | k + 1, x0, x1 => if x1 = 0 then (some x0) else (impl_gcd.l0 k x1 (Int.tmod x0 x1))
end
def impl_gcd.f (k : Nat) (a0 : Int) (a1 : Int) : Option (Int) := if a0 < 0 then (impl_gcd.j0 k (wrap64 (-a0)) a1) else (impl_gcd.j0 k a0 a1)
theorem impl_gcd.mono_l : ∀ k, (∀ y0 y1, LeO (impl_gcd.j0 k y0 y1) (impl_gcd.j0 (k + 1) y0 y1)) ∧ (∀ y0 y1, LeO (impl_gcd.l0 k y0 y1) (impl_gcd.l0 (k + 1) y0 y1))
 | 0 => by refine ⟨?_, ?_⟩ <;> (intros; intro r h; simp [impl_gcd.j0, impl_gcd.l0] at h)
 | k + 1 => by
  obtain ⟨ih0, ih1⟩ := impl_gcd.mono_l k
  refine ⟨?_, ?_⟩ <;> (intros; (first | unfold impl_gcd.j0 | unfold impl_gcd.l0); repeat' first | (with_reducible first | exact ih0 _ _ | exact ih1 _ _ | exact LeO.refl _ | exact LeO.none _ | refine LeO.ite ?_ ?_ | refine LeO.bind ?_ (fun _ => ?_)) | refine LeO.ite ?_ ?_ | refine LeO.bind ?_ (fun _ => ?_))
theorem impl_gcd.mono : ∀ a0 a1 k, LeO (impl_gcd.f k a0 a1) (impl_gcd.f (k + 1) a0 a1) := by
 intro a0 a1 k
 obtain ⟨ih0, ih1⟩ := impl_gcd.mono_l k
 unfold impl_gcd.f
 repeat' first | (with_reducible first | exact ih0 _ _ | exact ih1 _ _ | exact LeO.refl _ | exact LeO.none _ | refine LeO.ite ?_ ?_ | refine LeO.bind ?_ (fun _ => ?_)) | refine LeO.ite ?_ ?_ | refine LeO.bind ?_ (fun _ => ?_)
set_option maxHeartbeats 8000000 in
set_option maxRecDepth 100000 in
theorem impl_gcd.calls (k : Nat) (a0 : Int) (a1 : Int) (r : Int) (w : World) (h : impl_gcd.f k a0 a1 = some r) :
  Calls Try.prog 116 #[.int .i64 a0, .int .i64 a1] w fun e w' => e = .returned (.int .i64 r) ∧ Drawn0 w w' := by
 have H := h
 clear h
 unfold impl_gcd.f at H
 have HC3 := aS H
 clear H
 go_enter Try.func116, Try.ntmps116
 go_upto_if 6 with (first | ((with_reducible refine gR ?_); go_quiet (fail)))
 go_cut [0] (fun v0 wc => ∃ (kq : Nat) (x0_2 : Int), v0 = .int .i64 x0_2 ∧ Aside0 (impl_gcd.j0 kq x0_2 a1 = some r) ∧ Aside0 (kq ≤ k) ∧ Drawn0 w wc)
 case first =>
  have H := HC3.out
  clear HC3
  replace H := iE H; rcases H with ⟨c4, H⟩ | ⟨c4, H⟩
  ·
   have c4b0 := decide_eq_true c4
   clear c4
   (first | rw [c4b0] | (simp only [i64_w, i32_w]; rw [c4b0]) | (rw [c4b2]; simp only [Bool.not_false, Bool.not_true]) | skip)
   have H' := aS H
   clear H
   go_wp2
   repeat (go_quiet (fail); try go_wp2)
   go_meet
   case rel => exact ⟨_, (wrap64 (-a0)), eV, H', ⟨by first | omega | exact Nat.le_refl _⟩, eD⟩
  ·
   have c4b0 := decide_eq_false c4
   clear c4
   (first | rw [c4b0] | (simp only [i64_w, i32_w]; rw [c4b0]) | (rw [c4b2]; simp only [Bool.not_false, Bool.not_true]) | skip)
   have H' := aS H
   clear H
   go_wp2
   repeat (go_quiet (fail); try go_wp2)
   go_meet
   case rel => exact ⟨_, (a0), eV, H', ⟨by first | omega | exact Nat.le_refl _⟩, eD⟩
 case rest =>
  clear HC3
  obtain ⟨kq, x0_2, rfl, HA, HJ2, ⟨mc2, rfl⟩⟩ := hcut
  cases kq with
  | zero => exact absurd HA.out (by simp [impl_gcd.j0])
  | succ kj2 =>
   have H := HA.out
   clear HA
   simp only [impl_gcd.j0] at H
   have H' := aS H
   clear H
   go_wp2
   repeat (go_quiet (fail); try go_wp2)
   go_loopg [0, 1] kj2 (fun kq v0 v1 w' => ∃ (x0_2 : Int) (x1_2 : Int), v0 = .int .i64 x0_2 ∧ v1 = .int .i64 x1_2 ∧ Aside0 (impl_gcd.l0 kq x0_2 x1_2 = some r) ∧ Aside0 (kq ≤ kj2) ∧ Drawn0 w w')
   case atStart => exact ⟨(x0_2), (a1), eV, eV, H', ⟨Nat.le_refl _⟩, eD⟩
   case round =>
    clear H'
    obtain ⟨x0_2, x1_2, rfl, rfl, HA, HK2, ⟨m2, rfl⟩⟩ := hrel
    cases gk with
    | zero => exact absurd HA.out (by simp [impl_gcd.l0])
    | succ k2 =>
     have H := HA.out
     clear HA
     simp only [impl_gcd.l0] at H
     replace H := iE H; rcases H with ⟨c5, H⟩ | ⟨c5, H⟩
     ·
      have c5b0 := beq_iff_eq.mpr c5
      have c5b1 := bne_eq_false_iff_eq.mpr c5
      clear c5
      obtain rfl := Option.some.inj H
      go_wp2
      repeat (go_quiet (fail); try go_wp2)
      go_ret
      exact ⟨eV, eD⟩
     ·
      have c5b0 := beq_eq_false_iff_ne.mpr c5
      have c5b1 := bne_iff_ne.mpr c5
      have H' := aS H
      clear H
      go_wp2
      repeat (go_quiet (fail); try go_wp2)
      go_roundg k2
      case measure => have := HJ2.out; have := HK2.out; omega
      case rel => exact ⟨(x1_2), (Int.tmod x0_2 x1_2), eV, eV, H', ⟨by have := HJ2.out; have := HK2.out; omega⟩, eD⟩

/-! ### impl_fraction: function 100 -/
def impl_fraction.f (k : Nat) (a0 : Int) (a1 : Int) : Option (Int × Int) := if a1 < 0 then ((impl_gcd.f k (wrap64 (-a0)) (wrap64 (-a1))).bind fun t605 => (if t605 = 0 then (none) else (some (wrap64 (Int.tdiv (wrap64 (-a0)) t605), wrap64 (Int.tdiv (wrap64 (-a1)) t605))))) else ((impl_gcd.f k a0 a1).bind fun t606 => (if t606 = 0 then (none) else (some (wrap64 (Int.tdiv a0 t606), wrap64 (Int.tdiv a1 t606)))))
theorem impl_fraction.mono : ∀ a0 a1 k, LeO (impl_fraction.f k a0 a1) (impl_fraction.f (k + 1) a0 a1) := by
 intro a0 a1 k
 unfold impl_fraction.f
 repeat' first | (with_reducible first | exact impl_gcd.mono _ _ _ | exact LeO.refl _ | exact LeO.none _ | refine LeO.ite ?_ ?_ | refine LeO.bind ?_ (fun _ => ?_)) | refine LeO.ite ?_ ?_ | refine LeO.bind ?_ (fun _ => ?_)
def impl_fraction.T4 : Bool × List (List Nat × List Nat) := (true, [([], []), ([], []), ([0, 1], [0, 1]), ([], []), ([], []), ([3, 4], [3, 4]), ([2, 5], [2, 5]), ([6, 0, 1, 2, 3, 4, 5, 6], [6])])
def impl_fraction.B4 : List Nat := [0, 0, 3, 0, 0, 24, 63, 127]
theorem impl_fraction.tab4 : rtab .any (opsOf Try.f100 4) = impl_fraction.T4 := by kernel_rfl
theorem impl_fraction.bits4 : waitsOk impl_fraction.T4.2 impl_fraction.B4 = true := by kernel_rfl
set_option maxHeartbeats 8000000 in
set_option maxRecDepth 100000 in
theorem impl_fraction.calls (k : Nat) (a0 : Int) (a1 : Int) (r1 : Int) (r2 : Int) (w : World) (h : impl_fraction.f k a0 a1 = some (r1, r2)) :
  Calls Try.prog 100 #[.int .i64 a0, .int .i64 a1] w fun e w' => e = .returned (.agg #[.int .i64 r1, .int .i64 r2]) ∧ Below w.heap.size w w' := by
 have hu55 := Try.underlying55
 have HB := aS (Below.refl w.heap.size w)
 have H := h
 clear h
 unfold impl_fraction.f at H
 have HC3 := aS H
 clear H
 go_enter Try.func100, Try.ntmps100
 go_upto_if 7 with (first | ((with_reducible refine gate_dst (N := 4) rfl ?_); refine bx 4 #[.int .i64 0, .int .i64 0] 55 ?_; intro gb604 hg w4 hbox hb; have BK604 := aS (hbox); have GW604 := aS (gW hg (sW HB.out)); have GE604 := aS (gW hg (sW HB.out)); replace HB := aS (below_step (sW HB.out) hb); clear hb hbox hg))
 (try simp only [Act.put, List.setIfInBounds_toArray, List.set_cons_zero, List.set_cons_succ])
 have H := HC3.out
 clear HC3
 replace H := iE H; rcases H with ⟨c5, H⟩ | ⟨c5, H⟩
 ·
  have c5b0 := decide_eq_true c5
  clear c5
  (first | rw [c5b0] | (simp only [i64_w, i32_w]; rw [c5b0]) | (rw [c5b2]; simp only [Bool.not_false, Bool.not_true]) | skip)
  replace H := Option.bind_eq_some_iff.mp H
  obtain ⟨t605, A60, H⟩ := H
  replace H : (if t605 = 0 then (none) else (some (wrap64 (Int.tdiv (wrap64 (-a0)) t605), wrap64 (Int.tdiv (wrap64 (-a1)) t605)))) = some (r1, r2) := H
  have A6 := aS A60
  clear A60
  replace H := iE H; rcases H with ⟨c7, H⟩ | ⟨c7, H⟩
  ·
   exact absurd H (by simp)
  ·
   have c7b0 := beq_eq_false_iff_ne.mpr c7
   have c7b1 := bne_iff_ne.mpr c7
   simp only [Option.some.injEq, Prod.mk.injEq] at H
   obtain ⟨rfl, rfl⟩ := H
   try go_wp2_with (first | ((with_reducible refine gate_callee (f := 116) rfl ?_); refine goesL_ (some 14) rfl rfl Try.func116 (by kernel_rfl) rfl #[.int .i64 (wrap64 (-a0)), .int .i64 (wrap64 (-a1))] rfl sG ?_; (with_reducible refine (impl_gcd.calls k (wrap64 (-a0)) (wrap64 (-a1)) t605 _ A6.out).mono ?_); rintro e w' ⟨rfl, ⟨nd, rfl⟩⟩; refine ⟨_, rfl, ?_⟩; (try (rw [drewN_self w4]; generalize hq_ : World.drewN w4 _ = w4; have n0_ : Aside0 (w4.heap[gb604]? = some (.cells #[.int .i64 0, .int .i64 0] 55 (0, 0))) := ⟨by rw [← hq_]; exact (sB BK604.out)⟩; have n1_ : Aside0 (Below w.heap.size w w4) := ⟨by rw [← hq_]; exact (sW HB.out)⟩; clear BK604 HB hq_; have BK604 := n0_; have HB := n1_; clear n0_ n1_)); (try (have hcu8_0 : w4.cell? ⟨gb604, 0, none⟩ = some (.int .i64 0) := bq BK604.out 0; have hfu8_0 := blk_frozen BK604.out 0; have hcu8_1 : w4.cell? ⟨gb604, 1, none⟩ = some (.int .i64 0) := bq BK604.out 1; have hfu8_1 := blk_frozen BK604.out 1))))
   replace BK604 := aS (blk_drew BK604.out); replace HB := aS (below_drew1 HB.out)
   refine start_ (n := 8) (S := fun w' => True) (ds := []) _ (by kernel_rfl) rfl rfl trivial (fun hHeld => ?_); refine with_tabW impl_fraction.tab4 impl_fraction.bits4 (fun HT_ HW_ => ?_)
   generalize w4.drew = w9 at BK604 HB hHeld ⊢
   refine pX 0 15 ?_; refine pX 1 16 ?_; refine pX 2 17 ?_; refine pX 3 18 ?_; refine pX 4 19 ?_; refine pX 5 20 ?_; refine pX 6 21 ?_
   refine oX 7 none fun K hK => ?_
   have hs10 : w9.cell? ⟨gb604, 0, none⟩ = some (.int .i64 0) := bq BK604.out 0
   have hfs10 := blk_frozen BK604.out 0
   have hs11 : w9.cell? ⟨gb604, 1, none⟩ = some (.int .i64 0) := bq BK604.out 1
   have hfs11 := blk_frozen BK604.out 1
   refine skip_ (w1 := ?_) (by rfl) rfl ?_ ?_
   rotate_left
   ·
    go_simp
    rfl
   refine hK.out _ _ trivial (fun hHeld => ?_)
   clear hK K
   refine dX ?_
   try go_wp2
   refine bodyPost_ret (results_cell_row rfl _ _ gb604 55 #[.int .i64 (wrap64 (Int.tdiv (wrap64 (-a0)) t605)), .int .i64 (wrap64 (Int.tdiv (wrap64 (-a1)) t605))] (0, 0) _ rfl (sB (put2 BK604.out)) Try.underlying55 rfl (by kernel_rfl)) rfl ?_
   exact ⟨eE, sW HB.out⟩
 ·
  have c5b0 := decide_eq_false c5
  clear c5
  (first | rw [c5b0] | (simp only [i64_w, i32_w]; rw [c5b0]) | (rw [c5b2]; simp only [Bool.not_false, Bool.not_true]) | skip)
  replace H := Option.bind_eq_some_iff.mp H
  obtain ⟨t606, A120, H⟩ := H
  replace H : (if t606 = 0 then (none) else (some (wrap64 (Int.tdiv a0 t606), wrap64 (Int.tdiv a1 t606)))) = some (r1, r2) := H
  have A12 := aS A120
  clear A120
  replace H := iE H; rcases H with ⟨c13, H⟩ | ⟨c13, H⟩
  ·
   exact absurd H (by simp)
  ·
   have c13b0 := beq_eq_false_iff_ne.mpr c13
   have c13b1 := bne_iff_ne.mpr c13
   simp only [Option.some.injEq, Prod.mk.injEq] at H
   obtain ⟨rfl, rfl⟩ := H
   try go_wp2_with (first | ((with_reducible refine gate_callee (f := 116) rfl ?_); refine goesL_ (some 14) rfl rfl Try.func116 (by kernel_rfl) rfl #[.int .i64 a0, .int .i64 a1] rfl sG ?_; (with_reducible refine (impl_gcd.calls k a0 a1 t606 _ A12.out).mono ?_); rintro e w' ⟨rfl, ⟨nd, rfl⟩⟩; refine ⟨_, rfl, ?_⟩; (try (rw [drewN_self w4]; generalize hq_ : World.drewN w4 _ = w4; have n0_ : Aside0 (w4.heap[gb604]? = some (.cells #[.int .i64 0, .int .i64 0] 55 (0, 0))) := ⟨by rw [← hq_]; exact (sB BK604.out)⟩; have n1_ : Aside0 (Below w.heap.size w w4) := ⟨by rw [← hq_]; exact (sW HB.out)⟩; clear BK604 HB hq_; have BK604 := n0_; have HB := n1_; clear n0_ n1_)); (try (have hcu14_0 : w4.cell? ⟨gb604, 0, none⟩ = some (.int .i64 0) := bq BK604.out 0; have hfu14_0 := blk_frozen BK604.out 0; have hcu14_1 : w4.cell? ⟨gb604, 1, none⟩ = some (.int .i64 0) := bq BK604.out 1; have hfu14_1 := blk_frozen BK604.out 1))))
   replace BK604 := aS (blk_drew BK604.out); replace HB := aS (below_drew1 HB.out)
   refine start_ (n := 8) (S := fun w' => True) (ds := []) _ (by kernel_rfl) rfl rfl trivial (fun hHeld => ?_); refine with_tabW impl_fraction.tab4 impl_fraction.bits4 (fun HT_ HW_ => ?_)
   generalize w4.drew = w15 at BK604 HB hHeld ⊢
   refine pX 0 15 ?_; refine pX 1 16 ?_; refine pX 2 17 ?_; refine pX 3 18 ?_; refine pX 4 19 ?_; refine pX 5 20 ?_; refine pX 6 21 ?_
   refine oX 7 none fun K hK => ?_
   have hs16 : w15.cell? ⟨gb604, 0, none⟩ = some (.int .i64 0) := bq BK604.out 0
   have hfs16 := blk_frozen BK604.out 0
   have hs17 : w15.cell? ⟨gb604, 1, none⟩ = some (.int .i64 0) := bq BK604.out 1
   have hfs17 := blk_frozen BK604.out 1
   refine skip_ (w1 := ?_) (by rfl) rfl ?_ ?_
   rotate_left
   ·
    go_simp
    rfl
   refine hK.out _ _ trivial (fun hHeld => ?_)
   clear hK K
   refine dX ?_
   try go_wp2
   refine bodyPost_ret (results_cell_row rfl _ _ gb604 55 #[.int .i64 (wrap64 (Int.tdiv a0 t606)), .int .i64 (wrap64 (Int.tdiv a1 t606))] (0, 0) _ rfl (sB (put2 BK604.out)) Try.underlying55 rfl (by kernel_rfl)) rfl ?_
   exact ⟨eE, sW HB.out⟩

/-! ### impl_strengthAt: function 73 -/
def impl_strengthAt.f (k : Nat) (l0 : List (S61)) (l1_0 : List (S45)) (l1_1 : List Int) (a2 : Int) : Option (Int × Int) := if 0 ≤ a2 then (if a2 < (l1_0.length : Int) then (if 0 ≤ (wrap64 (a2 + 1)) then (if (wrap64 (a2 + 1)) < (l1_0.length : Int) then (if a2 < (l1_1.length : Int) then (if 0 ≤ (rd l1_1 a2) then (if (rd l1_1 a2) < (l0.length : Int) then ((impl_fraction.f k (wrap64 ((mn ((rd_T45 l1_0 a2).f0) ((rd_T45 l1_0 (wrap64 (a2 + 1))).f0)) * ((rd_T61 l0 (rd l1_1 a2)).f1))) 1000).bind fun bt613 => (some (bt613.1, bt613.2))) else (none)) else (none)) else (none)) else (none)) else (none)) else (none)) else (none)
theorem impl_strengthAt.mono : ∀ a0 a1 a2 a3 k, LeO (impl_strengthAt.f k a0 a1 a2 a3) (impl_strengthAt.f (k + 1) a0 a1 a2 a3) := by
 intro a0 a1 a2 a3 k
 unfold impl_strengthAt.f
 repeat' first | (with_reducible first | exact impl_fraction.mono _ _ _ | exact LeO.refl _ | exact LeO.none _ | refine LeO.ite ?_ ?_ | refine LeO.bind ?_ (fun _ => ?_)) | refine LeO.ite ?_ ?_ | refine LeO.bind ?_ (fun _ => ?_)
def impl_strengthAt.T1 : Bool × List (List Nat × List Nat) := (true, [([], []), ([0], [0]), ([], []), ([1, 2], [1, 2]), ([3], [3]), ([4], [4]), ([], []), ([6], [6]), ([], []), ([8], [8]), ([7, 9], [7, 9]), ([10], [10]), ([11], [11]), ([5, 12], [5, 12]), ([], []), ([], []), ([15], [15]), ([], []), ([16, 17], [16, 17]), ([18], [18]), ([14, 19], [14, 19]), ([20], [20]), ([21], [21]), ([13, 22], [13, 22]), ([23], [23]), ([24, 24, 0, 1, 2, 3, 4, 5, 6, 7, 8, 9, 10, 11, 12, 13, 14, 15, 16, 17, 18, 19, 20, 21, 22, 23, 24], [24])])
def impl_strengthAt.B1 : List Nat := [0, 1, 0, 7, 15, 31, 0, 64, 0, 256, 960, 1984, 4032, 8191, 0, 0, 32768, 0, 229376, 491520, 1032192, 2080768, 4177920, 8388607, 16777215, 33554431]
theorem impl_strengthAt.tab1 : rtab .any (opsOf Try.f73 1) = impl_strengthAt.T1 := by kernel_rfl
theorem impl_strengthAt.bits1 : waitsOk impl_strengthAt.T1.2 impl_strengthAt.B1 = true := by kernel_rfl
set_option maxHeartbeats 8000000 in
set_option maxRecDepth 100000 in
theorem impl_strengthAt.calls (k : Nat) (A0 : Option Addr) (c0 : Nat) (l0 : List (S61)) (A1_0 : Option Addr) (c1_0 : Nat) (l1_0 : List (S45)) (A1_1 : Option Addr) (c1_1 : Nat) (l1_1 : List Int) (a2 : Int) (r1 : Int) (r2 : Int) (w : World) (hr0 : Kd.C k61 w A0 l0.length l0) (hc0 : l0.length ≤ c0) (hr1_0 : Kd.C k45 w A1_0 l1_0.length l1_0) (hc1_0 : l1_0.length ≤ c1_0) (hr1_1 : Kd.C (Kd.int .i64) w A1_1 l1_1.length l1_1) (hc1_1 : l1_1.length ≤ c1_1) (h : impl_strengthAt.f k l0 l1_0 l1_1 a2 = some (r1, r2)) :
  Calls Try.prog 73 #[.slice A0 l0.length c0, .agg #[.slice A1_0 l1_0.length c1_0, .slice A1_1 l1_1.length c1_1], .int .i64 a2] w fun e w' => e = .returned (.agg #[.int .i64 r1, .int .i64 r2]) ∧ Below w.heap.size w w' := by
 have hu29 := Try.underlying29
 have hu55 := Try.underlying55
 have HR0 := aS hr0
 have HC0 := aS hc0
 clear hr0 hc0
 have HR1_0 := aS hr1_0
 have HC1_0 := aS hc1_0
 clear hr1_0 hc1_0
 have HR1_1 := aS hr1_1
 have HC1_1 := aS hc1_1
 clear hr1_1 hc1_1
 have HB := aS (Below.refl w.heap.size w)
 have H := h
 clear h
 unfold impl_strengthAt.f at H
 replace H := iE H; rcases H with ⟨c4, H⟩ | ⟨c4, H⟩
 ·
  have c4b0 := decide_eq_true c4
  clear c4
  replace H := iE H; rcases H with ⟨c5, H⟩ | ⟨c5, H⟩
  ·
   have c5b0 := decide_eq_true c5
   clear c5
   obtain ⟨ji6, hji6⟩ : ∃ j_ : Int, (wrap64 (a2 + 1)) = j_ := ⟨_, rfl⟩
   replace H : (if 0 ≤ (ji6) then (if (ji6) < (l1_0.length : Int) then (if a2 < (l1_1.length : Int) then (if 0 ≤ (rd l1_1 a2) then (if (rd l1_1 a2) < (l0.length : Int) then ((impl_fraction.f k (wrap64 ((mn ((rd_T45 l1_0 a2).f0) ((rd_T45 l1_0 (ji6)).f0)) * ((rd_T61 l0 (rd l1_1 a2)).f1))) 1000).bind fun bt613 => (some (bt613.1, bt613.2))) else (none)) else (none)) else (none)) else (none)) else (none)) = some (r1, r2) := by first | (rw [hji6] at H; exact H) | (simp only [hji6] at H ⊢; exact H)
   have hji6w : (IntKind.i64.wrap (a2 + 1)) = ji6 := (i64_w _).trans hji6
   replace H := iE H; rcases H with ⟨c7, H⟩ | ⟨c7, H⟩
   ·
    have c7b0 := decide_eq_true c7
    clear c7
    replace H := iE H; rcases H with ⟨c8, H⟩ | ⟨c8, H⟩
    ·
     have c8b0 := decide_eq_true c8
     clear c8
     obtain ⟨ji9, hji9⟩ : ∃ j_ : Int, (mn ((rd_T45 l1_0 a2).f0) ((rd_T45 l1_0 (ji6)).f0)) = j_ := ⟨_, rfl⟩
     replace H : (if a2 < (l1_1.length : Int) then (if 0 ≤ (rd l1_1 a2) then (if (rd l1_1 a2) < (l0.length : Int) then ((impl_fraction.f k (wrap64 ((ji9) * ((rd_T61 l0 (rd l1_1 a2)).f1))) 1000).bind fun bt613 => (some (bt613.1, bt613.2))) else (none)) else (none)) else (none)) = some (r1, r2) := by first | (rw [hji9] at H; exact H) | (simp only [hji9] at H ⊢; exact H)
     have hji9_ : (if ((rd_T45 l1_0 (ji6)).f0) < ((rd_T45 l1_0 a2).f0) then ((rd_T45 l1_0 (ji6)).f0) else ((rd_T45 l1_0 a2).f0)) = ji9 := hji9
     replace H := iE H; rcases H with ⟨c10, H⟩ | ⟨c10, H⟩
     ·
      have c10b0 := decide_eq_true c10
      clear c10
      replace H := iE H; rcases H with ⟨c11, H⟩ | ⟨c11, H⟩
      ·
       have c11b0 := decide_eq_true c11
       clear c11
       replace H := iE H; rcases H with ⟨c12, H⟩ | ⟨c12, H⟩
       ·
        have c12b0 := decide_eq_true c12
        clear c12
        replace H := Option.bind_eq_some_iff.mp H
        obtain ⟨⟨t613, t614⟩, A130, H⟩ := H
        replace H : (some (t613, t614)) = some (r1, r2) := H
        have A13 := aS A130
        clear A130
        simp only [Option.some.injEq, Prod.mk.injEq] at H
        obtain ⟨rfl, rfl⟩ := H
        go_enter Try.func73, Try.ntmps73
        try go_wp2_with (first | ((with_reducible refine gate_dst (N := 4) rfl ?_); refine bx 4 #[.slice A1_0 l1_0.length c1_0, .slice A1_1 l1_1.length c1_1] 29 ?_; intro gb607 hg w14 hbox hb; have BK607 := aS (hbox); have GW607 := aS (gW hg (sW HB.out)); have GE607 := aS (gW hg (sW HB.out)); replace HB := aS (below_step (sW HB.out) hb); clear hb hbox hg) | ((with_reducible refine gate_dst (N := 6) rfl ?_); refine bx 6 #[.int .i64 0, .int .i64 0] 55 ?_; intro gb608 hg w15 hbox hb; have BK608 := aS (hbox); have GW608 := aS (gW hg (sW HB.out)); have GE608 := aS (gW hg (sW HB.out)); replace HB := aS (below_step (sW HB.out) hb); have NB607_608 := aS (nL hg (sB BK607.out)); have NB608_607 := aS (nG hg (sB BK607.out)); replace BK607 := aS (blk_below (sB BK607.out) hb); clear hb hbox hg))
        replace BK607 := aS (blk_drew BK607.out); replace BK608 := aS (blk_drew BK608.out); replace HB := aS (below_drew1 HB.out)
        have p609 : 0 ≤ (a2 : Int) := sD
        have q609 : a2 < (l1_0.length : Int) := sD
        obtain ⟨ad609, e609, hx609_0, hx609_1⟩ := at_T45 HR1_0.out a2 p609 q609
        have hw609_1 := hx609_1
        have hw609_0 := hx609_0
        cases e609
        replace hx609_0 := bC HB.out hx609_0
        replace hx609_1 := bC HB.out hx609_1
        replace p609 := eq_true p609
        replace q609 := eq_true q609
        have p610 : 0 ≤ ((ji6) : Int) := sD
        have q610 : (ji6) < (l1_0.length : Int) := sD
        obtain ⟨ad610, e610, hx610_0, hx610_1⟩ := at_T45 HR1_0.out (ji6) p610 q610
        have hw610_1 := hx610_1
        have hw610_0 := hx610_0
        obtain rfl : ad609 = ad610 := (by injection e610)
        replace hx610_0 := bC HB.out hx610_0
        replace hx610_1 := bC HB.out hx610_1
        replace p610 := eq_true p610
        replace q610 := eq_true q610
        have p611 : 0 ≤ (a2 : Int) := sD
        have q611 : a2 < (l1_1.length : Int) := sD
        obtain ⟨ad611, e611, hx611_0⟩ := Kd.at_int HR1_1.out a2 p611 q611
        have hw611_0 := hx611_0
        cases e611
        replace hx611_0 := bC HB.out hx611_0
        replace p611 := eq_true p611
        replace q611 := eq_true q611
        have p612 : 0 ≤ ((rd l1_1 a2) : Int) := sD
        have q612 : (rd l1_1 a2) < (l0.length : Int) := sD
        obtain ⟨ad612, e612, hx612_0, hx612_1, hx612_2⟩ := at_T61 HR0.out (rd l1_1 a2) p612 q612
        have hw612_2 := hx612_2
        have hw612_1 := hx612_1
        have hw612_0 := hx612_0
        cases e612
        replace hx612_0 := bC HB.out hx612_0
        replace hx612_1 := bC HB.out hx612_1
        replace hx612_2 := bC HB.out hx612_2
        replace p612 := eq_true p612
        replace q612 := eq_true q612
        refine start_ (n := 26) (S := fun w' => w'.cell? ⟨gb607, 0, none⟩ = some (.slice (some ad609) l1_0.length c1_0) ∧ w'.cell? ⟨gb607, 1, none⟩ = some (.slice (some ad611) l1_1.length c1_1) ∧ w'.cell? (ad609.add ((a2).toNat * 2)) = some (.int .i64 ((rd_T45 l1_0 a2).f0)) ∧ w'.cell? ⟨(ad609.add ((a2).toNat * 2)).block, (ad609.add ((a2).toNat * 2)).off + 1, none⟩ = some (.int .i64 ((rd_T45 l1_0 a2).f1)) ∧ w'.cell? (ad609.add (((ji6)).toNat * 2)) = some (.int .i64 ((rd_T45 l1_0 (ji6)).f0)) ∧ w'.cell? ⟨(ad609.add (((ji6)).toNat * 2)).block, (ad609.add (((ji6)).toNat * 2)).off + 1, none⟩ = some (.int .i64 ((rd_T45 l1_0 (ji6)).f1)) ∧ w'.cell? (ad611.add (a2).toNat) = some (.int .i64 (rd l1_1 a2)) ∧ w'.cell? (ad612.add (((rd l1_1 a2)).toNat * 3)) = some (.string ((rd_T61 l0 (rd l1_1 a2)).f0)) ∧ w'.cell? ⟨(ad612.add (((rd l1_1 a2)).toNat * 3)).block, (ad612.add (((rd l1_1 a2)).toNat * 3)).off + 1, none⟩ = some (.int .i64 ((rd_T61 l0 (rd l1_1 a2)).f1)) ∧ w'.cell? ⟨(ad612.add (((rd l1_1 a2)).toNat * 3)).block, (ad612.add (((rd l1_1 a2)).toNat * 3)).off + 2, none⟩ = some (.int .i64 ((rd_T61 l0 (rd l1_1 a2)).f2))) (ds := []) _ (by kernel_rfl) rfl rfl ⟨bq BK607.out 0, bq BK607.out 1, ((HB.out.cell (World.block_lt_of_cell? w _ hw609_0)).trans hw609_0), ((HB.out.cell (World.block_lt_of_cell? w _ hw609_1)).trans hw609_1), ((HB.out.cell (World.block_lt_of_cell? w _ hw610_0)).trans hw610_0), ((HB.out.cell (World.block_lt_of_cell? w _ hw610_1)).trans hw610_1), ((HB.out.cell (World.block_lt_of_cell? w _ hw611_0)).trans hw611_0), ((HB.out.cell (World.block_lt_of_cell? w _ hw612_0)).trans hw612_0), ((HB.out.cell (World.block_lt_of_cell? w _ hw612_1)).trans hw612_1), ((HB.out.cell (World.block_lt_of_cell? w _ hw612_2)).trans hw612_2)⟩ (fun hHeld => ?_); refine with_tabW impl_strengthAt.tab1 impl_strengthAt.bits1 (fun HT_ HW_ => ?_)
        generalize w15.drew = w16 at BK607 BK608 HB hx609_0 hx609_1 hx610_0 hx610_1 hx611_0 hx612_0 hx612_1 hx612_2 hHeld ⊢
        refine pX 0 7 ?_; refine pX 2 9 ?_; refine pX 6 13 ?_; refine pX 8 15 ?_; refine pX 9 16 ?_; refine pX 14 21 ?_; refine pX 15 22 ?_; refine pX 17 24 ?_; refine tX 1 8 ?_; refine pX 3 10 ?_; refine pX 4 11 ?_; refine tX 5 12 ?_; refine tX 7 14 ?_; refine pX 10 17 ?_; refine pX 11 18 ?_; refine tX 12 19 ?_; refine pX 13 20 ?_; refine tX 16 23 ?_; refine pX 18 25 ?_; refine tX 19 26 ?_; refine pX 20 27 ?_; refine pX 21 28 ?_; refine tX 22 29 ?_; refine pX 23 30 ?_
        refine oX 24 (some 31) fun K hK => ?_
        refine goes_ Try.func100 (by kernel_rfl) rfl #[.int .i64 (wrap64 ((ji9) * ((rd_T61 l0 (rd l1_1 a2)).f1))), .int .i64 1000] (by rfl) rfl rfl (by (try simp only [List.map_toArray, List.map_cons, List.map_nil]); first | done | (simp only [hji9]; rfl) | rfl | (simp only [List.length_drop, List.length_take]; rfl)) ?_
        with_reducible refine (impl_fraction.calls k (wrap64 ((ji9) * ((rd_T61 l0 (rd l1_1 a2)).f1))) 1000 t613 t614 _ A13.out).mono ?_
        rintro e w17 ⟨rfl, hb⟩
        refine ⟨_, rfl, ?_⟩
        replace BK607 := aS (blk_below (sB BK607.out) hb); replace BK608 := aS (blk_below (sB BK608.out) hb); replace HB := aS (below_step (sW HB.out) hb)
        refine hK.out _ _ ⟨bq BK607.out 0, bq BK607.out 1, ((HB.out.cell (World.block_lt_of_cell? w _ hw609_0)).trans hw609_0), ((HB.out.cell (World.block_lt_of_cell? w _ hw609_1)).trans hw609_1), ((HB.out.cell (World.block_lt_of_cell? w _ hw610_0)).trans hw610_0), ((HB.out.cell (World.block_lt_of_cell? w _ hw610_1)).trans hw610_1), ((HB.out.cell (World.block_lt_of_cell? w _ hw611_0)).trans hw611_0), ((HB.out.cell (World.block_lt_of_cell? w _ hw612_0)).trans hw612_0), ((HB.out.cell (World.block_lt_of_cell? w _ hw612_1)).trans hw612_1), ((HB.out.cell (World.block_lt_of_cell? w _ hw612_2)).trans hw612_2)⟩ (fun hHeld => ?_)
        clear hK K
        refine nX 31 ?_
        refine oX 25 none fun K hK => ?_
        have hs18 : w17.cell? ⟨gb608, 0, none⟩ = some (.int .i64 0) := bq BK608.out 0
        have hfs18 := blk_frozen BK608.out 0
        have hns18_0 := NB607_608.out
        have hms18_0 := NB608_607.out
        have hs19 : w17.cell? ⟨gb608, 1, none⟩ = some (.int .i64 0) := bq BK608.out 1
        have hfs19 := blk_frozen BK608.out 1
        have hns19_0 := NB607_608.out
        have hms19_0 := NB608_607.out
        refine skip_ (w1 := ?_) (by rfl) rfl ?_ ?_
        rotate_left
        ·
         go_simp
         rfl
        refine hK.out _ _ ⟨((cell_far (p := ⟨gb608, _, none⟩) NB607_608.out _).trans (((cell_far (p := ⟨gb608, _, none⟩) NB607_608.out _).trans (hHeld.1)))), ((cell_far (p := ⟨gb608, _, none⟩) NB607_608.out _).trans (((cell_far (p := ⟨gb608, _, none⟩) NB607_608.out _).trans (hHeld.2.1)))), ((cell_far (p := ⟨gb608, _, none⟩) (nF hw609_0 GW608.out) _).trans (((cell_far (p := ⟨gb608, _, none⟩) (nF hw609_0 GW608.out) _).trans (hHeld.2.2.1)))), ((cell_far (p := ⟨gb608, _, none⟩) (nF hw609_1 GW608.out) _).trans (((cell_far (p := ⟨gb608, _, none⟩) (nF hw609_1 GW608.out) _).trans (hHeld.2.2.2.1)))), ((cell_far (p := ⟨gb608, _, none⟩) (nF hw610_0 GW608.out) _).trans (((cell_far (p := ⟨gb608, _, none⟩) (nF hw610_0 GW608.out) _).trans (hHeld.2.2.2.2.1)))), ((cell_far (p := ⟨gb608, _, none⟩) (nF hw610_1 GW608.out) _).trans (((cell_far (p := ⟨gb608, _, none⟩) (nF hw610_1 GW608.out) _).trans (hHeld.2.2.2.2.2.1)))), ((cell_far (p := ⟨gb608, _, none⟩) (nF hw611_0 GW608.out) _).trans (((cell_far (p := ⟨gb608, _, none⟩) (nF hw611_0 GW608.out) _).trans (hHeld.2.2.2.2.2.2.1)))), ((cell_far (p := ⟨gb608, _, none⟩) (nF hw612_0 GW608.out) _).trans (((cell_far (p := ⟨gb608, _, none⟩) (nF hw612_0 GW608.out) _).trans (hHeld.2.2.2.2.2.2.2.1)))), ((cell_far (p := ⟨gb608, _, none⟩) (nF hw612_1 GW608.out) _).trans (((cell_far (p := ⟨gb608, _, none⟩) (nF hw612_1 GW608.out) _).trans (hHeld.2.2.2.2.2.2.2.2.1)))), ((cell_far (p := ⟨gb608, _, none⟩) (nF hw612_2 GW608.out) _).trans (((cell_far (p := ⟨gb608, _, none⟩) (nF hw612_2 GW608.out) _).trans (hHeld.2.2.2.2.2.2.2.2.2))))⟩ (fun hHeld => ?_)
        clear hK K
        refine dX ?_
        try go_wp2
        refine bodyPost_ret (results_cell_row rfl _ _ gb608 55 #[.int .i64 t613, .int .i64 t614] (0, 0) _ rfl (sB (put2 BK608.out)) Try.underlying55 rfl (by kernel_rfl)) rfl ?_
        exact ⟨by first | rfl | (simp [errW_none, errW_some, i64_w]; done) | (simp [errW_none, errW_some] <;> rfl) | (simp only [← hji6, ← hji9]; first | rfl | (simp [errW_none, errW_some] <;> rfl)) | (simp [*, errW_none, errW_some] <;> rfl), sW HB.out⟩
       ·
        exact absurd H (by simp)
      ·
       exact absurd H (by simp)
     ·
      exact absurd H (by simp)
    ·
     exact absurd H (by simp)
   ·
    exact absurd H (by simp)
  ·
   exact absurd H (by simp)
 ·
  exact absurd H (by simp)

end Go.Proofs.Ytginmioklkcgbaa.QFnBestJoins

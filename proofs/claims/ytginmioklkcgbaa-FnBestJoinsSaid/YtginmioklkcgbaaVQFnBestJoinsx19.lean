/- What the Go functions of this law compute, each as a Lean function, and that each call comes to that answer; written by a program of this session. No condition. -/
import Derived.Test.YtginmioklkcgbaaVShn
import Derived.Test.YtginmioklkcgbaaVQFnBestJoinsx0
import Derived.Test.YtginmioklkcgbaaVQFnBestJoinsx7
import Derived.Test.YtginmioklkcgbaaVQFnBestJoinsx8
import Derived.Test.YtginmioklkcgbaaVQFnBestJoinsx17
import Derived.Test.YtginmioklkcgbaaVQFnBestJoinsx18
namespace Go.Proofs.Ytginmioklkcgbaa.QFnBestJoins
open Go.RowKit Go.Proofs.YtginmioklkcgbaaW.PrintWords Go.Proofs.YtginmioklkcgbaaW.PrintLast Go.Proofs.YtginmioklkcgbaaW.PrintMore
attribute [local go_sem] max2_int min2_int max_two min_two max_three min_three max_four min_four   -- for this text's walks alone
set_option linter.unusedVariables false
set_option linter.unusedSimpArgs false

/-! ### impl_StrengthAt: function 26 -/
def impl_StrengthAt.j0 : Nat → List (S61) → Int → Bool → List (S45) → List Int → Option (Int × Int × Int)
 | 0, _, _, _, _, _ => none
 | k + 1, x0, x2, x16, x616000, x616001 => if x16 = true then (some (0, 0, 1)) else ((impl_within.f x2 0 (wrap64 ((x616001.length : Int) - 1))).bind fun t619 => (if t619 = true then ((impl_strengthAt.f k x0 x616000 x616001 x2).bind fun bt620 => (some (bt620.1, bt620.2, 0))) else (some (0, 0, 2))))
def impl_StrengthAt.f (k : Nat) (l0 : List (S61)) (l1_0 : List (S45)) (l1_1 : List Int) (a2 : Int) : Option (Int × Int × Int) := (impl_ValidJoins.f k l0).bind fun t617 => (if t617 = true then ((impl_validLine.f k l0 l1_0 l1_1).bind fun t618 => (impl_StrengthAt.j0 k l0 a2 (!t618) l1_0 l1_1)) else (impl_StrengthAt.j0 k l0 a2 true l1_0 l1_1))
theorem impl_StrengthAt.mono_l : ∀ k, (∀ y0 y1 y2 y3 y4, LeO (impl_StrengthAt.j0 k y0 y1 y2 y3 y4) (impl_StrengthAt.j0 (k + 1) y0 y1 y2 y3 y4))
 | 0 => fun _ _ _ _ _ r h => by simp [impl_StrengthAt.j0] at h
 | k + 1 => by
  have ih0 := impl_StrengthAt.mono_l k
  ·
   intro y0 y1 y2 y3 y4
   unfold impl_StrengthAt.j0
   repeat' first | (with_reducible first | exact ih0 _ _ _ _ _ | exact impl_ValidJoins.mono _ _ | exact impl_strengthAt.mono _ _ _ _ _ | exact impl_validLine.mono _ _ _ _ | exact LeO.refl _ | exact LeO.none _ | refine LeO.ite ?_ ?_ | refine LeO.bind ?_ (fun _ => ?_)) | refine LeO.ite ?_ ?_ | refine LeO.bind ?_ (fun _ => ?_)
theorem impl_StrengthAt.mono : ∀ a0 a1 a2 a3 k, LeO (impl_StrengthAt.f k a0 a1 a2 a3) (impl_StrengthAt.f (k + 1) a0 a1 a2 a3) := by
 intro a0 a1 a2 a3 k
 have ih0 := impl_StrengthAt.mono_l k
 unfold impl_StrengthAt.f
 repeat' first | (with_reducible first | exact ih0 _ _ _ _ _ | exact impl_ValidJoins.mono _ _ | exact impl_strengthAt.mono _ _ _ _ _ | exact impl_validLine.mono _ _ _ _ | exact LeO.refl _ | exact LeO.none _ | refine LeO.ite ?_ ?_ | refine LeO.bind ?_ (fun _ => ?_)) | refine LeO.ite ?_ ?_ | refine LeO.bind ?_ (fun _ => ?_)
set_option maxHeartbeats 8000000 in
set_option maxRecDepth 100000 in
theorem impl_StrengthAt.calls (k : Nat) (A0 : Option Addr) (c0 : Nat) (l0 : List (S61)) (A1_0 : Option Addr) (c1_0 : Nat) (l1_0 : List (S45)) (A1_1 : Option Addr) (c1_1 : Nat) (l1_1 : List Int) (a2 : Int) (r1 : Int) (r2 : Int) (r3 : Int) (w : World) (hr0 : Kd.C k61 w A0 l0.length l0) (hc0 : l0.length ≤ c0) (hr1_0 : Kd.C k45 w A1_0 l1_0.length l1_0) (hc1_0 : l1_0.length ≤ c1_0) (hr1_1 : Kd.C (Kd.int .i64) w A1_1 l1_1.length l1_1) (hc1_1 : l1_1.length ≤ c1_1) (h : impl_StrengthAt.f k l0 l1_0 l1_1 a2 = some (r1, r2, r3)) :
  Calls Try.prog 26 #[.slice A0 l0.length c0, .agg #[.slice A1_0 l1_0.length c1_0, .slice A1_1 l1_1.length c1_1], .int .i64 a2] w fun e w' => e = .returned (.tuple #[.agg #[.int .i64 r1, .int .i64 r2], .int .i64 r3]) ∧ Below w.heap.size w w' := by
 have hu29 := Try.underlying29
 have hu55 := Try.underlying55
 have HR0 := aS hr0
 have HC0 := aS hc0
 clear hr0 hc0
 have HR1_0 := aS hr1_0
 have HC1_0 := aS hc1_0
 clear hr1_0 hc1_0
 have HR1_1 := aS hr1_1
 have HC1_1 := aS hc1_1
 clear hr1_1 hc1_1
 have HB := aS (Below.refl w.heap.size w)
 have H := h
 clear h
 unfold impl_StrengthAt.f at H
 have HC4 := aS H
 clear H
 go_enter Try.func26, Try.ntmps26
 go_upto_region 1 with (first | ((with_reducible refine gate_dst (N := 4) rfl ?_); refine bx 4 #[.slice A1_0 l1_0.length c1_0, .slice A1_1 l1_1.length c1_1] 29 ?_; intro gb615 hg w5 hbox hb; have BK615 := aS (hbox); have GW615 := aS (gW hg (sW HB.out)); have GE615 := aS (gW hg (sW HB.out)); replace HB := aS (below_step (sW HB.out) hb); clear hb hbox hg) | ((with_reducible refine gate_dst (N := 6) rfl ?_); refine bx 6 #[.int .i64 0, .int .i64 0] 55 ?_; intro gb616 hg w6 hbox hb; have BK616 := aS (hbox); have GW616 := aS (gW hg (sW HB.out)); have GE616 := aS (gW hg (sW HB.out)); replace HB := aS (below_step (sW HB.out) hb); have NB615_616 := aS (nL hg (sB BK615.out)); have NB616_615 := aS (nG hg (sB BK615.out)); replace BK615 := aS (blk_below (sB BK615.out) hb); clear hb hbox hg))
 (try simp only [Act.put, List.setIfInBounds_toArray, List.set_cons_zero, List.set_cons_succ])
 go_cut [16] (fun v16 wc => ∃ (kq : Nat) (x16_3 : Bool), v16 = .bool x16_3 ∧ Aside0 (impl_StrengthAt.j0 kq l0 a2 x16_3 l1_0 l1_1 = some (r1, r2, r3)) ∧ Aside0 (kq ≤ k) ∧ Aside0 (wc.heap[gb615]? = some (.cells #[(.slice A1_0 l1_0.length c1_0), (.slice A1_1 l1_1.length c1_1)] 29 (0, 0))) ∧ Aside0 (wc.heap[gb616]? = some (.cells #[.int .i64 0, .int .i64 0] 55 (0, 0))) ∧ Aside0 (Below w.heap.size w wc))
 case first =>
  have H := HC4.out
  clear HC4
  replace H := Option.bind_eq_some_iff.mp H
  obtain ⟨t617, A70, H⟩ := H
  replace H : (if t617 = true then ((impl_validLine.f k l0 l1_0 l1_1).bind fun t618 => (impl_StrengthAt.j0 k l0 a2 (!t618) l1_0 l1_1)) else (impl_StrengthAt.j0 k l0 a2 true l1_0 l1_1)) = some (r1, r2, r3) := H
  have A7 := aS A70
  clear A70
  by_cases c8 : t617 = true
  ·
   subst c8
   have H1 : ((impl_validLine.f k l0 l1_0 l1_1).bind fun t618 => (impl_StrengthAt.j0 k l0 a2 (!t618) l1_0 l1_1)) = some (r1, r2, r3) := by rw [if_pos rfl] at H; exact H
   clear H
   have H := H1
   clear H1
   replace H := Option.bind_eq_some_iff.mp H
   obtain ⟨t618, A90, H⟩ := H
   replace H : (impl_StrengthAt.j0 k l0 a2 (!t618) l1_0 l1_1) = some (r1, r2, r3) := H
   have A9 := aS A90
   clear A90
   have H' := aS H
   clear H
   go_wp2_with (first | ((with_reducible refine gate_callee (f := 48) rfl ?_); refine goesL_ (some 9) rfl rfl Try.func48 (by kernel_rfl) rfl #[.slice A0 l0.length c0] rfl sG ?_; (with_reducible refine (impl_ValidJoins.calls k _ _ l0 true _ ?side1 ?side2 A7.out).mono ?_); (case side1 => exact sC (Kd.C_below HR0.out HB.out)); (case side2 => exact HC0.out); rintro e w10 ⟨rfl, hb⟩; refine ⟨_, rfl, ?_⟩; replace BK615 := aS (blk_below (sB BK615.out) hb); replace BK616 := aS (blk_below (sB BK616.out) hb); replace HB := aS (below_step (sW HB.out) hb); (try clear hb); (try clear hb2); (try clear hk); (try clear hi); have hnb11 := NB615_616.out; have hnc11 := NB616_615.out; obtain ⟨hcz12_0, hcz12_1, hfz12_0, hfz12_1⟩ := z2 BK615.out) | (go_at_call 72; (with_reducible refine (impl_validLine.calls k _ _ l0 _ _ l1_0 _ _ l1_1 t618 _ ?side1 ?side2 ?side3 ?side4 ?side5 ?side6 A9.out).mono ?_); (case side1 => exact sC (Kd.C_below HR0.out HB.out)); (case side2 => exact HC0.out); (case side3 => exact sC (Kd.C_below HR1_0.out HB.out)); (case side4 => exact HC1_0.out); (case side5 => exact sC (Kd.C_below HR1_1.out HB.out)); (case side6 => exact HC1_1.out); rintro e w13 ⟨rfl, hb⟩; replace BK615 := aS (blk_below (sB BK615.out) hb); replace BK616 := aS (blk_below (sB BK616.out) hb); replace HB := aS (below_step (sW HB.out) hb)))
   go_meet
   case rel => exact ⟨_, (!t618), eV, H', ⟨by first | omega | exact Nat.le_refl _⟩, (aS (sB BK615.out)), (aS (sB BK616.out)), (aS (sW HB.out))⟩
  ·
   replace c8 := Bool.eq_false_iff.mpr c8
   subst c8
   have H1 : (impl_StrengthAt.j0 k l0 a2 true l1_0 l1_1) = some (r1, r2, r3) := by rw [if_neg (show ¬ (false = true) by decide)] at H; exact H
   clear H
   have H := H1
   clear H1
   have H' := aS H
   clear H
   go_wp2_with (first | ((with_reducible refine gate_callee (f := 48) rfl ?_); refine goesL_ (some 9) rfl rfl Try.func48 (by kernel_rfl) rfl #[.slice A0 l0.length c0] rfl sG ?_; (with_reducible refine (impl_ValidJoins.calls k _ _ l0 false _ ?side1 ?side2 A7.out).mono ?_); (case side1 => exact sC (Kd.C_below HR0.out HB.out)); (case side2 => exact HC0.out); rintro e w14 ⟨rfl, hb⟩; refine ⟨_, rfl, ?_⟩; replace BK615 := aS (blk_below (sB BK615.out) hb); replace BK616 := aS (blk_below (sB BK616.out) hb); replace HB := aS (below_step (sW HB.out) hb)))
   go_meet
   case rel => exact ⟨_, (true), eV, H', ⟨by first | omega | exact Nat.le_refl _⟩, (aS (sB BK615.out)), (aS (sB BK616.out)), (aS (sW HB.out))⟩
 case rest =>
  clear HC4
  obtain ⟨kq, x16_3, rfl, HA, HJ3, BK615, BK616, HB⟩ := hcut
  cases kq with
  | zero => exact absurd HA.out (by simp [impl_StrengthAt.j0])
  | succ kj3 =>
   have H := HA.out
   clear HA
   simp only [impl_StrengthAt.j0] at H
   by_cases c15 : x16_3 = true
   ·
    subst c15
    have H1 : (some (0, 0, 1)) = some (r1, r2, r3) := by rw [if_pos rfl] at H; exact H
    clear H
    have H := H1
    clear H1
    simp only [Option.some.injEq, Prod.mk.injEq] at H
    obtain ⟨rfl, rfl, rfl⟩ := H
    have hnb16 := NB616_615.out
    have hnc16 := NB615_616.out
    obtain ⟨hcz17_0, hcz17_1, hfz17_0, hfz17_1⟩ := z2 BK616.out
    go_wp2
    refine bodyPost_ret (results_ct rfl _ _ gb616 55 #[.int .i64 0, .int .i64 0] (0, 0) _ rfl (sB (put2 BK616.out)) Try.underlying55 rfl (by kernel_rfl)) rfl ?_
    exact ⟨eE, sW HB.out⟩
   ·
    replace c15 := Bool.eq_false_iff.mpr c15
    subst c15
    have H1 : ((impl_within.f a2 0 (wrap64 ((l1_1.length : Int) - 1))).bind fun t619 => (if t619 = true then ((impl_strengthAt.f kj3 l0 l1_0 l1_1 a2).bind fun bt620 => (some (bt620.1, bt620.2, 0))) else (some (0, 0, 2)))) = some (r1, r2, r3) := by rw [if_neg (show ¬ (false = true) by decide)] at H; exact H
    clear H
    have H := H1
    clear H1
    replace H := Option.bind_eq_some_iff.mp H
    obtain ⟨t619, A180, H⟩ := H
    replace H : (if t619 = true then ((impl_strengthAt.f kj3 l0 l1_0 l1_1 a2).bind fun bt620 => (some (bt620.1, bt620.2, 0))) else (some (0, 0, 2))) = some (r1, r2, r3) := H
    have A18 := aS A180
    clear A180
    have HC19 := aS H
    clear H
    have hnb20 := NB615_616.out
    have hnc20 := NB616_615.out
    obtain ⟨hcz21_0, hcz21_1, hfz21_0, hfz21_1⟩ := z2 BK615.out
    go_upto_if 24 with (first | ((with_reducible refine gate_callee (f := 50) rfl ?_); refine goesL_ (some 23) rfl rfl Try.func50 (by kernel_rfl) rfl #[.int .i64 a2, .int .i64 0, .int .i64 (wrap64 ((l1_1.length : Int) - 1))] rfl sG ?_; (with_reducible refine (impl_within.calls a2 0 (wrap64 ((l1_1.length : Int) - 1)) t619 _ A18.out).mono ?_); rintro e w' ⟨rfl, ⟨nd, rfl⟩⟩; refine ⟨_, rfl, ?_⟩))
    (try simp only [Act.put, List.setIfInBounds_toArray, List.set_cons_zero, List.set_cons_succ])
    have H := HC19.out
    clear HC19
    by_cases c22 : t619 = true
    ·
     subst c22
     have H1 : ((impl_strengthAt.f kj3 l0 l1_0 l1_1 a2).bind fun bt620 => (some (bt620.1, bt620.2, 0))) = some (r1, r2, r3) := by rw [if_pos rfl] at H; exact H
     clear H
     have H := H1
     clear H1
     replace H := Option.bind_eq_some_iff.mp H
     obtain ⟨⟨t620, t621⟩, A230, H⟩ := H
     replace H : (some (t620, t621, 0)) = some (r1, r2, r3) := H
     have A23 := aS A230
     clear A230
     simp only [Option.some.injEq, Prod.mk.injEq] at H
     obtain ⟨rfl, rfl, rfl⟩ := H
     have hnb24 := NB615_616.out
     have hnc24 := NB616_615.out
     obtain ⟨hcz25_0, hcz25_1, hfz25_0, hfz25_1⟩ := z2 BK615.out
     go_wp2_with (first | ((with_reducible refine gate_callee (f := 73) rfl ?_); refine goesL_ (some 29) rfl rfl Try.func73 (by kernel_rfl) rfl #[.slice A0 l0.length c0, .agg #[.slice A1_0 l1_0.length c1_0, .slice A1_1 l1_1.length c1_1], .int .i64 a2] rfl sG ?_; (with_reducible refine (impl_strengthAt.calls kj3 _ _ l0 _ _ l1_0 _ _ l1_1 a2 t620 t621 _ ?side1 ?side2 ?side3 ?side4 ?side5 ?side6 A23.out).mono ?_); (case side1 => exact sC (Kd.C_below HR0.out HB.out)); (case side2 => exact HC0.out); (case side3 => exact sC (Kd.C_below HR1_0.out HB.out)); (case side4 => exact HC1_0.out); (case side5 => exact sC (Kd.C_below HR1_1.out HB.out)); (case side6 => exact HC1_1.out); rintro e w26 ⟨rfl, hb⟩; refine ⟨_, rfl, ?_⟩; replace BK615 := aS (blk_below (sB BK615.out) hb); replace BK616 := aS (blk_below (sB BK616.out) hb); replace HB := aS (below_step (sW HB.out) hb); (try clear hb); (try clear hb2); (try clear hk); (try clear hi); obtain ⟨hcz27_0, hcz27_1, hfz27_0, hfz27_1⟩ := z2 BK616.out))
     refine bodyPost_ret (results_ct rfl _ _ gb616 55 #[.int .i64 t620, .int .i64 t621] (0, 0) _ rfl (sB (put2 BK616.out)) Try.underlying55 rfl (by kernel_rfl)) rfl ?_
     exact ⟨eE, sW HB.out⟩
    ·
     replace c22 := Bool.eq_false_iff.mpr c22
     subst c22
     have H1 : (some (0, 0, 2)) = some (r1, r2, r3) := by rw [if_neg (show ¬ (false = true) by decide)] at H; exact H
     clear H
     have H := H1
     clear H1
     simp only [Option.some.injEq, Prod.mk.injEq] at H
     obtain ⟨rfl, rfl, rfl⟩ := H
     have hnb28 := NB616_615.out
     have hnc28 := NB615_616.out
     obtain ⟨hcz29_0, hcz29_1, hfz29_0, hfz29_1⟩ := z2 BK616.out
     go_wp2
     refine bodyPost_ret (results_ct rfl _ _ gb616 55 #[.int .i64 0, .int .i64 0] (0, 0) _ rfl (sB (put2 BK616.out)) Try.underlying55 rfl (by kernel_rfl)) rfl ?_
     exact ⟨eE, sW HB.out⟩

/-- A state of type 29 at block g of W; what its slices lead to came in by w0. -/
def IsS29 (w0 W : World) (g : Nat) (f0 : List (S45)) (f1 : List Int) : Prop := ∃ A0 c0, ∃ A1 c1, W.heap[g]? = some (.cells #[.slice A0 f0.length c0, .slice A1 f1.length c1] 29 (0, 0)) ∧ w0.heap.size ≤ g ∧ Kd.C k45 w0 A0 f0.length f0 ∧ Kd.C (Kd.int .i64) w0 A1 f1.length f1
theorem IsS29.grown {w0 W : World} {g : Nat} {f0 : List (S45)} {f1 : List Int} {W1 : World} {row : Option Nat} (h : IsS29 w0 W g f0 f1) (hw : W.grownBy W1 row) (hne : some g ≠ row) : IsS29 w0 W1 g f0 f1 := by
 obtain ⟨A0, c0, A1, c1, hb, hg, hr0, hr1⟩ := h
 exact ⟨A0, c0, A1, c1, blk_grown hb hw hne, hg, hr0, hr1⟩
theorem IsS29.own_neN {w0 W : World} {g : Nat} {f0 : List (S45)} {f1 : List Int} {α : Type} {d : Kd α} {e : Nat} {base : Nat} {ok : Nat → Prop} {v : Value} {xs : List α} (h : IsS29 w0 W g f0 f1) (ho : Kd.N d e W base ok v xs) (ht : e ≠ 29) : some g ≠ v.ownBlock := by
 obtain ⟨A0, c0, A1, c1, hb, hg, hr0, hr1⟩ := h
 exact Kd.N_ne ho hb ht
theorem IsS29.fresh {w0 W : World} {g : Nat} {f0 : List (S45)} {f1 : List Int} (h : IsS29 w0 W g f0 f1) : ∀ k, W.heap.size ≤ k → k ≠ g := by
 obtain ⟨A0, c0, A1, c1, hb, hg, hr0, hr1⟩ := h
 exact Kd.freshB hb
theorem IsS29.kept {w0 W : World} {g : Nat} {f0 : List (S45)} {f1 : List Int} {W1 : World} {S : Nat → Prop} (h : IsS29 w0 W g f0 f1) (hk : Kept W W1 S) (hne : ¬ S g) : IsS29 w0 W1 g f0 f1 := by
 obtain ⟨A0, c0, A1, c1, hb, hg, hr0, hr1⟩ := h
 exact ⟨A0, c0, A1, c1, blk_kept hb hk hne, hg, hr0, hr1⟩
theorem IsS29.below {w0 W : World} {g : Nat} {f0 : List (S45)} {f1 : List Int} {W1 : World} (h : IsS29 w0 W g f0 f1) (hw : Below W.heap.size W W1) : IsS29 w0 W1 g f0 f1 := h.grown (grown_of_below hw none) (by simp)
theorem IsS29.alloc {w0 W : World} {g : Nat} {f0 : List (S45)} {f1 : List Int} (h : IsS29 w0 W g f0 f1) (o : Obj) : IsS29 w0 (W.alloc o) g f0 f1 := h.below (below_alloc (Below.refl _ _) o)
theorem IsS29.drewN {w0 W : World} {g : Nat} {f0 : List (S45)} {f1 : List Int} (h : IsS29 w0 W g f0 f1) (m : Nat) : IsS29 w0 (W.drewN m) g f0 f1 := h
theorem IsS29.drew {w0 W : World} {g : Nat} {f0 : List (S45)} {f1 : List Int} (h : IsS29 w0 W g f0 f1) : IsS29 w0 W.drew g f0 f1 := h
theorem IsS29.at_ {w0 W : World} {g : Nat} {f0 : List (S45)} {f1 : List Int} {w' : World} {m : Nat} (hq : W.drewN m = w') (h : IsS29 w0 W g f0 f1) : IsS29 w0 w' g f0 f1 := by subst hq; exact IsS29.drewN h m
theorem IsS29.apart {w0 W : World} {g : Nat} {f0 : List (S45)} {f1 : List Int} {α : Type} {d : Kd α} {e : Nat} {base : Nat} {ok : Nat → Prop} {v : Value} {xs : List α} (h : IsS29 w0 W g f0 f1) (ho : d.R e W base ok v xs) (ht : ∀ q, q ∈ e :: d.E → q ≠ 29) : d.R e W base (fun k => ok k ∧ k ≠ g) v xs := by
 obtain ⟨A0, c0, A1, c1, hb, hg, hr0, hr1⟩ := h
 exact Kd.R_types ho hb ht
theorem IsS29.own_ne {w0 W : World} {g : Nat} {f0 : List (S45)} {f1 : List Int} {α : Type} {d : Kd α} {e : Nat} {base : Nat} {ok : Nat → Prop} {v : Value} {xs : List α} (h : IsS29 w0 W g f0 f1) (ho : d.R e W base ok v xs) (ht : e ≠ 29) : some g ≠ v.ownBlock := by
 obtain ⟨A0, c0, A1, c1, hb, hg, hr0, hr1⟩ := h
 exact Kd.R_ne ho hb ht
theorem IsS29.apartQ {w0 W : World} {g : Nat} {f0 : List (S45)} {f1 : List Int} {α : Type} {d : Kd α} {e : Nat} {base : Nat} {ok : Nat → Prop} {v : Value} {xs : List α} (h : IsS29 w0 W g f0 f1) (ho : d.Q e W base ok v xs) (ht : ∀ q, q ∈ e :: d.E → q ≠ 29) : d.Q e W base (fun k => ok k ∧ k ≠ g) v xs := by
 obtain ⟨A0, c0, A1, c1, hb, hg, hr0, hr1⟩ := h
 exact Kd.Q_types ho hb ht
theorem IsS29.own_neQ {w0 W : World} {g : Nat} {f0 : List (S45)} {f1 : List Int} {α : Type} {d : Kd α} {e : Nat} {base : Nat} {ok : Nat → Prop} {v : Value} {xs : List α} (h : IsS29 w0 W g f0 f1) (ho : d.Q e W base ok v xs) (ht : e ≠ 29) : some g ≠ v.ownBlock := by
 obtain ⟨A0, c0, A1, c1, hb, hg, hr0, hr1⟩ := h
 exact Kd.Q_ne ho hb ht
theorem IsS29.apartS {w0 W : World} {g : Nat} {f0 : List (S45)} {f1 : List Int} {α : Type} {d : Kd α} {e : Nat} {base : Nat} {ok : Nat → Prop} {v : Value} {xs : List α} (h : IsS29 w0 W g f0 f1) (ho : d.S e W base ok v xs) (ht : ∀ q, q ∈ e :: d.E → q ≠ 29) : d.S e W base (fun k => ok k ∧ k ≠ g) v xs := by
 obtain ⟨A0, c0, A1, c1, hb, hg, hr0, hr1⟩ := h
 exact Kd.S_types ho hb ht
theorem IsS29.own_neS {w0 W : World} {g : Nat} {f0 : List (S45)} {f1 : List Int} {α : Type} {d : Kd α} {e : Nat} {base : Nat} {ok : Nat → Prop} {v : Value} {xs : List α} (h : IsS29 w0 W g f0 f1) (ho : d.S e W base ok v xs) (ht : e ≠ 29) : some g ≠ v.ownBlock := by
 obtain ⟨A0, c0, A1, c1, hb, hg, hr0, hr1⟩ := h
 exact Kd.S_ne ho hb ht
theorem IsS29.lt {w0 W : World} {g : Nat} {f0 : List (S45)} {f1 : List Int} (h : IsS29 w0 W g f0 f1) : g < W.heap.size := by
 obtain ⟨A0, c0, A1, c1, hb, hg, hr0, hr1⟩ := h
 exact blk_lt hb
theorem IsS29.ge {w0 W : World} {g : Nat} {f0 : List (S45)} {f1 : List Int} (h : IsS29 w0 W g f0 f1) : w0.heap.size ≤ g := by
 obtain ⟨A0, c0, A1, c1, hb, hg, hr0, hr1⟩ := h
 exact hg
theorem IsS29.ne_blk {w0 W : World} {g : Nat} {f0 : List (S45)} {f1 : List Int} {a : Nat} {cs : Array Value} {t : TypeId} {fr : Nat × Nat} (h : IsS29 w0 W g f0 f1) (hb2 : W.heap[a]? = some (.cells cs t fr)) (ht : t ≠ 29) : g ≠ a := by
 obtain ⟨A0, c0, A1, c1, hb, hg, hr0, hr1⟩ := h
 rintro rfl
 rw [hb] at hb2
 injection hb2 with hb2
 injection hb2 with _ ht2
 exact ht ht2.symm
theorem IsS29.far {w0 W : World} {g : Nat} {f0 : List (S45)} {f1 : List Int} {p : Addr} (h : IsS29 w0 W g f0 f1) (hne : g ≠ p.block) (u : Value) : IsS29 w0 (W.setCell p u) g f0 f1 := by
 obtain ⟨A0, c0, A1, c1, hb, hg, hr0, hr1⟩ := h
 exact ⟨A0, c0, A1, c1, blk_far hb hne u, hg, hr0, hr1⟩
theorem cellS29_0 {W : World} {g : Nat} {A0 : Option Addr} {c0 : Nat} {A1 : Option Addr} {c1 : Nat} {f0 : List (S45)} {f1 : List Int} (h : W.heap[g]? = some (.cells #[.slice A0 f0.length c0, .slice A1 f1.length c1] 29 (0, 0))) : W.cell? ⟨g, 0, none⟩ = some (.slice A0 f0.length c0) := bq h 0
theorem cellS29_1 {W : World} {g : Nat} {A0 : Option Addr} {c0 : Nat} {A1 : Option Addr} {c1 : Nat} {f0 : List (S45)} {f1 : List Int} (h : W.heap[g]? = some (.cells #[.slice A0 f0.length c0, .slice A1 f1.length c1] 29 (0, 0))) : W.cell? ⟨g, 1, none⟩ = some (.slice A1 f1.length c1) := bq h 1
theorem IsS29.new (w0 W : World) (A0 : Option Addr) (c0 : Nat) (A1 : Option Addr) (c1 : Nat) (f0 : List (S45)) (f1 : List Int) (hB : Below w0.heap.size w0 W) (hr0 : Kd.C k45 w0 A0 f0.length f0) (hr1 : Kd.C (Kd.int .i64) w0 A1 f1.length f1) : IsS29 w0 (W.alloc (.cells #[.slice A0 f0.length c0, .slice A1 f1.length c1] 29)) W.heap.size f0 f1 := ⟨A0, c0, A1, c1, by simpa using heap_alloc_new W _, hB.size, hr0, hr1⟩

theorem IsS29.s {w0 W : World} {g : Nat} {f0 : List (S45)} {f1 : List Int} {p : Prop} (h : IsS29 w0 W g f0 f1) (k : IsS29 w0 W g f0 f1 → p := by (intro h; repeat (first | (with_reducible first | exact h | apply IsS29.alloc | apply IsS29.drewN | apply IsS29.drew) | refine IsS29.far ?_ (Aside0.out (by assumption)) _ | exact h))) : p := k h
/-! ### spec_l03LengthAt: function 101 -/
mutual
def spec_l03LengthAt.l0 : Nat → List (S61) → List (S29) → Int → Int → Option (Int)
 | 0, _, _, _, _ => none
 | k + 1, x0, x1, x5, x6 => if 0 < (x1.length : Int) then (if x6 < (((rd_T29 x1 0).f0).length : Int) then (if 0 ≤ x6 then (spec_l03LengthAt.l0 k x0 x1 (wrap64 (x5 + ((rd_T45 ((rd_T29 x1 0).f0) x6).f1))) (wrap64 (x6 + 1))) else (none)) else (spec_l03LengthAt.l1 k x0 x1 x5 0)) else (none)
def spec_l03LengthAt.l1 : Nat → List (S61) → List (S29) → Int → Int → Option (Int)
 | 0, _, _, _, _ => none
 | k + 1, x0, x1, x5, x7 => if 0 < (x1.length : Int) then (if x7 < (((rd_T29 x1 0).f1).length : Int) then (if 0 ≤ x7 then (if 0 ≤ (rd ((rd_T29 x1 0).f1) x7) then (if (rd ((rd_T29 x1 0).f1) x7) < (x0.length : Int) then (spec_l03LengthAt.l1 k x0 x1 (wrap64 (x5 - ((rd_T61 x0 (rd ((rd_T29 x1 0).f1) x7)).f2))) (wrap64 (x7 + 1))) else (none)) else (none)) else (none)) else (some x5)) else (none)
end
def spec_l03LengthAt.f (k : Nat) (l0 : List (S61)) (l1 : List (S29)) : Option (Int) := spec_l03LengthAt.l0 k l0 l1 0 0
theorem spec_l03LengthAt.mono_l : ∀ k, (∀ y0 y1 y2 y3, LeO (spec_l03LengthAt.l0 k y0 y1 y2 y3) (spec_l03LengthAt.l0 (k + 1) y0 y1 y2 y3)) ∧ (∀ y0 y1 y2 y3, LeO (spec_l03LengthAt.l1 k y0 y1 y2 y3) (spec_l03LengthAt.l1 (k + 1) y0 y1 y2 y3))
 | 0 => by refine ⟨?_, ?_⟩ <;> (intros; intro r h; simp [spec_l03LengthAt.l0, spec_l03LengthAt.l1] at h)
 | k + 1 => by
  obtain ⟨ih0, ih1⟩ := spec_l03LengthAt.mono_l k
  refine ⟨?_, ?_⟩ <;> (intros; (first | unfold spec_l03LengthAt.l0 | unfold spec_l03LengthAt.l1); repeat' first | (with_reducible first | exact ih0 _ _ _ _ | exact ih1 _ _ _ _ | exact LeO.refl _ | exact LeO.none _ | refine LeO.ite ?_ ?_ | refine LeO.bind ?_ (fun _ => ?_)) | refine LeO.ite ?_ ?_ | refine LeO.bind ?_ (fun _ => ?_))
theorem spec_l03LengthAt.mono : ∀ a0 a1 k, LeO (spec_l03LengthAt.f k a0 a1) (spec_l03LengthAt.f (k + 1) a0 a1) := by
 intro a0 a1 k
 obtain ⟨ih0, ih1⟩ := spec_l03LengthAt.mono_l k
 unfold spec_l03LengthAt.f
 repeat' first | (with_reducible first | exact ih0 _ _ _ _ | exact ih1 _ _ _ _ | exact LeO.refl _ | exact LeO.none _ | refine LeO.ite ?_ ?_ | refine LeO.bind ?_ (fun _ => ?_)) | refine LeO.ite ?_ ?_ | refine LeO.bind ?_ (fun _ => ?_)
set_option maxHeartbeats 8000000 in
set_option maxRecDepth 100000 in
theorem spec_l03LengthAt.calls (k : Nat) (A0 : Option Addr) (c0 : Nat) (l0 : List (S61)) (A1 : Option Addr) (c1 : Nat) (l1 : List (S29)) (r : Int) (w : World) (hr0 : Kd.C k61 w A0 l0.length l0) (hc0 : l0.length ≤ c0) (hr1 : Kd.C k29 w A1 l1.length l1) (hc1 : l1.length ≤ c1) (h : spec_l03LengthAt.f k l0 l1 = some r) :
  Calls Try.prog 101 #[.slice A0 l0.length c0, .pointer A1] w fun e w' => e = .returned (.int .i64 r) ∧ Drawn0 w w' := by
 have HR0 := aS hr0
 have HC0 := aS hc0
 clear hr0 hc0
 have HR1 := aS hr1
 have HC1 := aS hc1
 clear hr1 hc1
 have H := h
 clear h
 unfold spec_l03LengthAt.f at H
 have H' := aS H
 clear H
 go_enter Try.func101, Try.ntmps101
 go_wp2
 go_loopg [5, 6] k (fun kq v5 v6 w' => ∃ (x5_1 : Int) (x6_1 : Int), v5 = .int .i64 x5_1 ∧ v6 = .int .i64 x6_1 ∧ Aside0 (spec_l03LengthAt.l0 kq l0 l1 x5_1 x6_1 = some r) ∧ Aside0 (kq ≤ k) ∧ Drawn0 w w')
 case atStart => exact ⟨(0), (0), eV, eV, H', ⟨Nat.le_refl _⟩, eD⟩
 case round =>
  clear H'
  obtain ⟨x5_1, x6_1, rfl, rfl, HA, HK1, ⟨m1, rfl⟩⟩ := hrel
  cases gk with
  | zero => exact absurd HA.out (by simp [spec_l03LengthAt.l0])
  | succ k1 =>
   have H := HA.out
   clear HA
   simp only [spec_l03LengthAt.l0] at H
   replace H := iE H; rcases H with ⟨c3, H⟩ | ⟨c3, H⟩
   ·
    have c3b0 := decide_eq_true c3
    have c3b1 : decide (0 < l1.length) = true := decide_eq_true (by omega)
    clear c3
    replace H := iE H; rcases H with ⟨c4, H⟩ | ⟨c4, H⟩
    ·
     have c4b0 := decide_eq_true c4
     clear c4
     replace H := iE H; rcases H with ⟨c5, H⟩ | ⟨c5, H⟩
     ·
      have c5b0 := decide_eq_true c5
      clear c5
      have H' := aS H
      clear H
      have p625 : 0 ≤ (0 : Int) := (by omega)
      have q625 : 0 < (l1.length : Int) := sD
      obtain ⟨ad625, A625_0, c625_0, A625_1, c625_1, e625, hx625_0, hx625_1, hl625_0, hi625_0, hl625_1, hi625_1⟩ := at_T29 HR1.out 0 p625 q625
      cases e625
      have qi625 : (0 < l1.length) = True := eq_true (by omega)
      (try rw [show ((0 : Int)).toNat = 0 from rfl] at hx625_0)
      (try rw [show 0 * 2 = 0 from rfl] at hx625_0)
      (try rw [Addr.add_zero'] at hx625_0)
      (try rw [show ((0 : Int)).toNat = 0 from rfl] at hx625_1)
      (try rw [show 0 * 2 = 0 from rfl] at hx625_1)
      (try rw [Addr.add_zero'] at hx625_1)
      have HR625_0 := aS hi625_0
      have HC625_0 := aS hl625_0
      clear hi625_0 hl625_0
      have HR625_1 := aS hi625_1
      have HC625_1 := aS hl625_1
      clear hi625_1 hl625_1
      replace p625 := eq_true p625
      replace q625 := eq_true q625
      have p626 : 0 ≤ (0 : Int) := (by omega)
      have q626 : 0 < (l1.length : Int) := sD
      obtain ⟨ad626, A626_0, c626_0, A626_1, c626_1, e626, hx626_0, hx626_1, hl626_0, hi626_0, hl626_1, hi626_1⟩ := at_T29 HR1.out 0 p626 q626
      obtain rfl : ad625 = ad626 := (by injection e626)
      have qi626 : (0 < l1.length) = True := eq_true (by omega)
      (try rw [show ((0 : Int)).toNat = 0 from rfl] at hx626_0)
      (try rw [show 0 * 2 = 0 from rfl] at hx626_0)
      (try rw [Addr.add_zero'] at hx626_0)
      (try rw [show ((0 : Int)).toNat = 0 from rfl] at hx626_1)
      (try rw [show 0 * 2 = 0 from rfl] at hx626_1)
      (try rw [Addr.add_zero'] at hx626_1)
      have HR626_0 := aS hi626_0
      have HC626_0 := aS hl626_0
      clear hi626_0 hl626_0
      have HR626_1 := aS hi626_1
      have HC626_1 := aS hl626_1
      clear hi626_1 hl626_1
      replace p626 := eq_true p626
      replace q626 := eq_true q626
      have ea_ := Option.some.inj (hx625_0.symm.trans hx626_0)
      injection ea_ with ea_ en_ ec_
      subst ea_
      subst ec_
      clear en_
      have ea_ := Option.some.inj (hx625_1.symm.trans hx626_1)
      injection ea_ with ea_ en_ ec_
      subst ea_
      subst ec_
      clear en_
      have p627 : 0 ≤ (x6_1 : Int) := sD
      have q627 : x6_1 < (((rd_T29 l1 0).f0).length : Int) := sD
      obtain ⟨ad627, e627, hx627_0, hx627_1⟩ := at_T45 HR626_0.out x6_1 p627 q627
      cases e627
      replace p627 := eq_true p627
      replace q627 := eq_true q627
      go_wp2
      go_roundg k1
      case measure => have := HK1.out; omega
      case rel => exact ⟨(wrap64 (x5_1 + ((rd_T45 ((rd_T29 l1 0).f0) x6_1).f1))), (wrap64 (x6_1 + 1)), eV, eV, H', ⟨by have := HK1.out; omega⟩, eD⟩
     ·
      exact absurd H (by simp)
    ·
     have c4b0 := decide_eq_false c4
     clear c4
     have H' := aS H
     clear H
     have p625 : 0 ≤ (0 : Int) := (by omega)
     have q625 : 0 < (l1.length : Int) := sD
     obtain ⟨ad625, A625_0, c625_0, A625_1, c625_1, e625, hx625_0, hx625_1, hl625_0, hi625_0, hl625_1, hi625_1⟩ := at_T29 HR1.out 0 p625 q625
     cases e625
     have qi625 : (0 < l1.length) = True := eq_true (by omega)
     (try rw [show ((0 : Int)).toNat = 0 from rfl] at hx625_0)
     (try rw [show 0 * 2 = 0 from rfl] at hx625_0)
     (try rw [Addr.add_zero'] at hx625_0)
     (try rw [show ((0 : Int)).toNat = 0 from rfl] at hx625_1)
     (try rw [show 0 * 2 = 0 from rfl] at hx625_1)
     (try rw [Addr.add_zero'] at hx625_1)
     have HR625_0 := aS hi625_0
     have HC625_0 := aS hl625_0
     clear hi625_0 hl625_0
     have HR625_1 := aS hi625_1
     have HC625_1 := aS hl625_1
     clear hi625_1 hl625_1
     replace p625 := eq_true p625
     replace q625 := eq_true q625
     go_wp2
     go_loopg [5, 7] k1 (fun kq v5 v7 w' => ∃ (x5_2 : Int) (x7_2 : Int), v5 = .int .i64 x5_2 ∧ v7 = .int .i64 x7_2 ∧ Aside0 (spec_l03LengthAt.l1 kq l0 l1 x5_2 x7_2 = some r) ∧ Aside0 (kq ≤ k1) ∧ Drawn0 w w')
     case atStart => exact ⟨(x5_1), (0), eV, eV, H', ⟨Nat.le_refl _⟩, eD⟩
     case round =>
      clear H'
      (try clear hx625_0); (try clear hx625_1); (try clear hx626_0); (try clear hx626_1); (try clear hx627_0); (try clear hx627_1)
      obtain ⟨x5_2, x7_2, rfl, rfl, HA, HK2, ⟨m2, rfl⟩⟩ := hrel
      cases gk with
      | zero => exact absurd HA.out (by simp [spec_l03LengthAt.l1])
      | succ k2 =>
       have H := HA.out
       clear HA
       simp only [spec_l03LengthAt.l1] at H
       replace H := iE H; rcases H with ⟨c6, H⟩ | ⟨c6, H⟩
       ·
        have c6b0 := decide_eq_true c6
        have c6b1 : decide (0 < l1.length) = true := decide_eq_true (by omega)
        clear c6
        replace H := iE H; rcases H with ⟨c7, H⟩ | ⟨c7, H⟩
        ·
         have c7b0 := decide_eq_true c7
         clear c7
         replace H := iE H; rcases H with ⟨c8, H⟩ | ⟨c8, H⟩
         ·
          have c8b0 := decide_eq_true c8
          clear c8
          replace H := iE H; rcases H with ⟨c9, H⟩ | ⟨c9, H⟩
          ·
           have c9b0 := decide_eq_true c9
           clear c9
           replace H := iE H; rcases H with ⟨c10, H⟩ | ⟨c10, H⟩
           ·
            have c10b0 := decide_eq_true c10
            clear c10
            have H' := aS H
            clear H
            have p628 : 0 ≤ (0 : Int) := (by omega)
            have q628 : 0 < (l1.length : Int) := sD
            obtain ⟨ad628, A628_0, c628_0, A628_1, c628_1, e628, hx628_0, hx628_1, hl628_0, hi628_0, hl628_1, hi628_1⟩ := at_T29 HR1.out 0 p628 q628
            obtain rfl : ad625 = ad628 := (by injection e628)
            have qi628 : (0 < l1.length) = True := eq_true (by omega)
            (try rw [show ((0 : Int)).toNat = 0 from rfl] at hx628_0)
            (try rw [show 0 * 2 = 0 from rfl] at hx628_0)
            (try rw [Addr.add_zero'] at hx628_0)
            (try rw [show ((0 : Int)).toNat = 0 from rfl] at hx628_1)
            (try rw [show 0 * 2 = 0 from rfl] at hx628_1)
            (try rw [Addr.add_zero'] at hx628_1)
            have HR628_0 := aS hi628_0
            have HC628_0 := aS hl628_0
            clear hi628_0 hl628_0
            have HR628_1 := aS hi628_1
            have HC628_1 := aS hl628_1
            clear hi628_1 hl628_1
            replace p628 := eq_true p628
            replace q628 := eq_true q628
            have p629 : 0 ≤ (0 : Int) := (by omega)
            have q629 : 0 < (l1.length : Int) := sD
            obtain ⟨ad629, A629_0, c629_0, A629_1, c629_1, e629, hx629_0, hx629_1, hl629_0, hi629_0, hl629_1, hi629_1⟩ := at_T29 HR1.out 0 p629 q629
            obtain rfl : ad625 = ad629 := (by injection e629)
            have qi629 : (0 < l1.length) = True := eq_true (by omega)
            (try rw [show ((0 : Int)).toNat = 0 from rfl] at hx629_0)
            (try rw [show 0 * 2 = 0 from rfl] at hx629_0)
            (try rw [Addr.add_zero'] at hx629_0)
            (try rw [show ((0 : Int)).toNat = 0 from rfl] at hx629_1)
            (try rw [show 0 * 2 = 0 from rfl] at hx629_1)
            (try rw [Addr.add_zero'] at hx629_1)
            have HR629_0 := aS hi629_0
            have HC629_0 := aS hl629_0
            clear hi629_0 hl629_0
            have HR629_1 := aS hi629_1
            have HC629_1 := aS hl629_1
            clear hi629_1 hl629_1
            replace p629 := eq_true p629
            replace q629 := eq_true q629
            have ea_ := Option.some.inj (hx628_0.symm.trans hx629_0)
            injection ea_ with ea_ en_ ec_
            subst ea_
            subst ec_
            clear en_
            have ea_ := Option.some.inj (hx628_1.symm.trans hx629_1)
            injection ea_ with ea_ en_ ec_
            subst ea_
            subst ec_
            clear en_
            have p630 : 0 ≤ (x7_2 : Int) := sD
            have q630 : x7_2 < (((rd_T29 l1 0).f1).length : Int) := sD
            obtain ⟨ad630, e630, hx630_0⟩ := Kd.at_int HR629_1.out x7_2 p630 q630
            cases e630
            replace p630 := eq_true p630
            replace q630 := eq_true q630
            have p631 : 0 ≤ ((rd ((rd_T29 l1 0).f1) x7_2) : Int) := sD
            have q631 : (rd ((rd_T29 l1 0).f1) x7_2) < (l0.length : Int) := sD
            obtain ⟨ad631, e631, hx631_0, hx631_1, hx631_2⟩ := at_T61 HR0.out (rd ((rd_T29 l1 0).f1) x7_2) p631 q631
            cases e631
            replace p631 := eq_true p631
            replace q631 := eq_true q631
            go_wp2
            go_roundg k2
            case measure => have := HK1.out; have := HK2.out; omega
            case rel => exact ⟨(wrap64 (x5_2 - ((rd_T61 l0 (rd ((rd_T29 l1 0).f1) x7_2)).f2))), (wrap64 (x7_2 + 1)), eV, eV, H', ⟨by have := HK1.out; have := HK2.out; omega⟩, eD⟩
           ·
            exact absurd H (by simp)
          ·
           exact absurd H (by simp)
         ·
          exact absurd H (by simp)
        ·
         have c7b0 := decide_eq_false c7
         clear c7
         obtain rfl := Option.some.inj H
         have p628 : 0 ≤ (0 : Int) := (by omega)
         have q628 : 0 < (l1.length : Int) := sD
         obtain ⟨ad628, A628_0, c628_0, A628_1, c628_1, e628, hx628_0, hx628_1, hl628_0, hi628_0, hl628_1, hi628_1⟩ := at_T29 HR1.out 0 p628 q628
         obtain rfl : ad625 = ad628 := (by injection e628)
         have qi628 : (0 < l1.length) = True := eq_true (by omega)
         (try rw [show ((0 : Int)).toNat = 0 from rfl] at hx628_0)
         (try rw [show 0 * 2 = 0 from rfl] at hx628_0)
         (try rw [Addr.add_zero'] at hx628_0)
         (try rw [show ((0 : Int)).toNat = 0 from rfl] at hx628_1)
         (try rw [show 0 * 2 = 0 from rfl] at hx628_1)
         (try rw [Addr.add_zero'] at hx628_1)
         have HR628_0 := aS hi628_0
         have HC628_0 := aS hl628_0
         clear hi628_0 hl628_0
         have HR628_1 := aS hi628_1
         have HC628_1 := aS hl628_1
         clear hi628_1 hl628_1
         replace p628 := eq_true p628
         replace q628 := eq_true q628
         go_wp2
         go_ret
         exact ⟨eV, eD⟩
       ·
        exact absurd H (by simp)
   ·
    exact absurd H (by simp)

-- NOT PRINTED: function 74 (spec_l03Line)

end Go.Proofs.Ytginmioklkcgbaa.QFnBestJoins

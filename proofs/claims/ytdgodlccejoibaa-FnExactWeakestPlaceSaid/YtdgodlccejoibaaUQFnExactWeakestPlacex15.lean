/- What the Go functions of this law compute, each as a Lean function, and that each call comes to that answer; written by a program of this session. No condition. -/
import Derived.Test.YtdgodlccejoibaaUQFnExactWeakestPlacex0
import Derived.Test.YtdgodlccejoibaaUQFnExactWeakestPlacex1
import Derived.Test.YtdgodlccejoibaaUQFnExactWeakestPlacex11
import Derived.Test.YtdgodlccejoibaaUQFnExactWeakestPlacex12
import Derived.Test.YtdgodlccejoibaaUQFnExactWeakestPlacex13
import Derived.Test.YtdgodlccejoibaaUQFnExactWeakestPlacex14
namespace Go.Proofs.Ytdgodlccejoibaa.QFnExactWeakestPlace
open Go.RowKit Go.Proofs.YtdgodlccejoibaaW.PrintWords Go.Proofs.YtdgodlccejoibaaW.PrintLast Go.Proofs.YtdgodlccejoibaaW.PrintMore
attribute [local go_sem] max2_int min2_int max_two min_two max_three min_three max_four min_four   -- for this text's walks alone
set_option linter.unusedVariables false
set_option linter.unusedSimpArgs false

attribute [local go_sem high] eqA51
/-! ### impl_WeakestPlace: function 41 -/
mutual
def impl_WeakestPlace.j0 : Nat → List (S68) → Bool → List (S44) → List Int → Option (ByteArray × Int × Int)
 | 0, _, _, _, _ => none
 | k + 1, x0, x19, x332000, x332001 => if x19 = true then (some ((⟨#[]⟩ : ByteArray), 0, 1)) else ((impl_lineStrength.f k x0 x332000 x332001).bind fun bt334 => (impl_WeakestPlace.l0 k x0 x332000 (x332000.length : Int) 0 x332000 x332001 bt334.1 bt334.2))
def impl_WeakestPlace.l0 : Nat → List (S68) → List (S44) → Int → Int → List (S44) → List Int → Int → Int → Option (ByteArray × Int × Int)
 | 0, _, _, _, _, _, _, _, _ => none
 | k + 1, x0, x24, x25, x26, x332000, x332001, x337000, x337001 => if x26 < x25 then (if 0 ≤ x26 then (if x26 < (x24.length : Int) then ((impl_fraction.f k ((rd_T44 x24 x26).f0) 1).bind fun bt339 => (if (bt339.1 == x337000 && (bt339.2 == x337001)) = true then (some ((⟨#[112, 105, 101, 99, 101]⟩ : ByteArray), x26, 0)) else (impl_WeakestPlace.l0 k x0 x24 x25 (wrap64 (x26 + 1)) x332000 x332001 x337000 x337001))) else (none)) else (none)) else (impl_WeakestPlace.l1 k x0 (x332001.length : Int) 0 x332000 x332001 x337000 x337001)
def impl_WeakestPlace.l1 : Nat → List (S68) → Int → Int → List (S44) → List Int → Int → Int → Option (ByteArray × Int × Int)
 | 0, _, _, _, _, _, _, _ => none
 | k + 1, x0, x40, x41, x332000, x332001, x337000, x337001 => if x41 < x40 then ((impl_strengthAt.f k x0 x332000 x332001 x41).bind fun bt341 => (if (bt341.1 == x337000 && (bt341.2 == x337001)) = true then (some ((⟨#[106, 111, 105, 110]⟩ : ByteArray), x41, 0)) else (impl_WeakestPlace.l1 k x0 x40 (wrap64 (x41 + 1)) x332000 x332001 x337000 x337001))) else (some ((⟨#[]⟩ : ByteArray), 0, 1))
end
def impl_WeakestPlace.f (k : Nat) (l0 : List (S68)) (l1_0 : List (S44)) (l1_1 : List Int) : Option (ByteArray × Int × Int) := (impl_ValidJoins.f k l0).bind fun t332 => (if t332 = true then ((impl_validLine.f k l0 l1_0 l1_1).bind fun t333 => (impl_WeakestPlace.j0 k l0 (!t333) l1_0 l1_1)) else (impl_WeakestPlace.j0 k l0 true l1_0 l1_1))
theorem impl_WeakestPlace.mono_l : ∀ k, (∀ y0 y1 y2 y3, LeO (impl_WeakestPlace.j0 k y0 y1 y2 y3) (impl_WeakestPlace.j0 (k + 1) y0 y1 y2 y3)) ∧ (∀ y0 y1 y2 y3 y4 y5 y6 y7, LeO (impl_WeakestPlace.l0 k y0 y1 y2 y3 y4 y5 y6 y7) (impl_WeakestPlace.l0 (k + 1) y0 y1 y2 y3 y4 y5 y6 y7)) ∧ (∀ y0 y1 y2 y3 y4 y5 y6, LeO (impl_WeakestPlace.l1 k y0 y1 y2 y3 y4 y5 y6) (impl_WeakestPlace.l1 (k + 1) y0 y1 y2 y3 y4 y5 y6))
 | 0 => ⟨fun _ _ _ _ r h => by simp [impl_WeakestPlace.j0] at h, fun _ _ _ _ _ _ _ _ r h => by simp [impl_WeakestPlace.l0] at h, fun _ _ _ _ _ _ _ r h => by simp [impl_WeakestPlace.l1] at h⟩
 | k + 1 => by
  obtain ⟨ih0, ih1, ih2⟩ := impl_WeakestPlace.mono_l k
  refine ⟨?_, ?_, ?_⟩
  ·
   intro y0 y1 y2 y3
   unfold impl_WeakestPlace.j0
   repeat' first
   | (with_reducible exact ih0 _ _ _ _)
   | (with_reducible exact ih1 _ _ _ _ _ _ _ _)
   | (with_reducible exact ih2 _ _ _ _ _ _ _)
   | (with_reducible exact impl_ValidJoins.mono _ _)
   | (with_reducible exact impl_fraction.mono _ _ _)
   | (with_reducible exact impl_lineStrength.mono _ _ _ _)
   | (with_reducible exact impl_strengthAt.mono _ _ _ _ _)
   | (with_reducible exact impl_validLine.mono _ _ _ _)
   | (with_reducible exact LeO.refl _)
   | (with_reducible exact LeO.none _)
   | (with_reducible refine LeO.ite ?_ ?_)
   | (with_reducible refine LeO.bind ?_ (fun _ => ?_))
   | exact ih0 _ _ _ _
   | exact ih1 _ _ _ _ _ _ _ _
   | exact ih2 _ _ _ _ _ _ _
   | exact impl_ValidJoins.mono _ _
   | exact impl_fraction.mono _ _ _
   | exact impl_lineStrength.mono _ _ _ _
   | exact impl_strengthAt.mono _ _ _ _ _
   | exact impl_validLine.mono _ _ _ _
   | exact LeO.none _
   | refine LeO.ite ?_ ?_
   | refine LeO.bind ?_ (fun _ => ?_)
  ·
   intro y0 y1 y2 y3 y4 y5 y6 y7
   unfold impl_WeakestPlace.l0
   repeat' first
   | (with_reducible exact ih0 _ _ _ _)
   | (with_reducible exact ih1 _ _ _ _ _ _ _ _)
   | (with_reducible exact ih2 _ _ _ _ _ _ _)
   | (with_reducible exact impl_ValidJoins.mono _ _)
   | (with_reducible exact impl_fraction.mono _ _ _)
   | (with_reducible exact impl_lineStrength.mono _ _ _ _)
   | (with_reducible exact impl_strengthAt.mono _ _ _ _ _)
   | (with_reducible exact impl_validLine.mono _ _ _ _)
   | (with_reducible exact LeO.refl _)
   | (with_reducible exact LeO.none _)
   | (with_reducible refine LeO.ite ?_ ?_)
   | (with_reducible refine LeO.bind ?_ (fun _ => ?_))
   | exact ih0 _ _ _ _
   | exact ih1 _ _ _ _ _ _ _ _
   | exact ih2 _ _ _ _ _ _ _
   | exact impl_ValidJoins.mono _ _
   | exact impl_fraction.mono _ _ _
   | exact impl_lineStrength.mono _ _ _ _
   | exact impl_strengthAt.mono _ _ _ _ _
   | exact impl_validLine.mono _ _ _ _
   | exact LeO.none _
   | refine LeO.ite ?_ ?_
   | refine LeO.bind ?_ (fun _ => ?_)
  ·
   intro y0 y1 y2 y3 y4 y5 y6
   unfold impl_WeakestPlace.l1
   repeat' first
   | (with_reducible exact ih0 _ _ _ _)
   | (with_reducible exact ih1 _ _ _ _ _ _ _ _)
   | (with_reducible exact ih2 _ _ _ _ _ _ _)
   | (with_reducible exact impl_ValidJoins.mono _ _)
   | (with_reducible exact impl_fraction.mono _ _ _)
   | (with_reducible exact impl_lineStrength.mono _ _ _ _)
   | (with_reducible exact impl_strengthAt.mono _ _ _ _ _)
   | (with_reducible exact impl_validLine.mono _ _ _ _)
   | (with_reducible exact LeO.refl _)
   | (with_reducible exact LeO.none _)
   | (with_reducible refine LeO.ite ?_ ?_)
   | (with_reducible refine LeO.bind ?_ (fun _ => ?_))
   | exact ih0 _ _ _ _
   | exact ih1 _ _ _ _ _ _ _ _
   | exact ih2 _ _ _ _ _ _ _
   | exact impl_ValidJoins.mono _ _
   | exact impl_fraction.mono _ _ _
   | exact impl_lineStrength.mono _ _ _ _
   | exact impl_strengthAt.mono _ _ _ _ _
   | exact impl_validLine.mono _ _ _ _
   | exact LeO.none _
   | refine LeO.ite ?_ ?_
   | refine LeO.bind ?_ (fun _ => ?_)
theorem impl_WeakestPlace.mono : ∀ a0 a1 a2 k, LeO (impl_WeakestPlace.f k a0 a1 a2) (impl_WeakestPlace.f (k + 1) a0 a1 a2) := by
 intro a0 a1 a2 k
 obtain ⟨ih0, ih1, ih2⟩ := impl_WeakestPlace.mono_l k
 unfold impl_WeakestPlace.f
 repeat' first
   | (with_reducible exact ih0 _ _ _ _)
   | (with_reducible exact ih1 _ _ _ _ _ _ _ _)
   | (with_reducible exact ih2 _ _ _ _ _ _ _)
   | (with_reducible exact impl_ValidJoins.mono _ _)
   | (with_reducible exact impl_fraction.mono _ _ _)
   | (with_reducible exact impl_lineStrength.mono _ _ _ _)
   | (with_reducible exact impl_strengthAt.mono _ _ _ _ _)
   | (with_reducible exact impl_validLine.mono _ _ _ _)
   | (with_reducible exact LeO.refl _)
   | (with_reducible exact LeO.none _)
   | (with_reducible refine LeO.ite ?_ ?_)
   | (with_reducible refine LeO.bind ?_ (fun _ => ?_))
   | exact ih0 _ _ _ _
   | exact ih1 _ _ _ _ _ _ _ _
   | exact ih2 _ _ _ _ _ _ _
   | exact impl_ValidJoins.mono _ _
   | exact impl_fraction.mono _ _ _
   | exact impl_lineStrength.mono _ _ _ _
   | exact impl_strengthAt.mono _ _ _ _ _
   | exact impl_validLine.mono _ _ _ _
   | exact LeO.none _
   | refine LeO.ite ?_ ?_
   | refine LeO.bind ?_ (fun _ => ?_)
set_option maxHeartbeats 8000000 in
set_option maxRecDepth 100000 in
theorem impl_WeakestPlace.calls (k : Nat) (A0 : Option Addr) (c0 : Nat) (l0 : List (S68)) (A1_0 : Option Addr) (c1_0 : Nat) (l1_0 : List (S44)) (A1_1 : Option Addr) (c1_1 : Nat) (l1_1 : List Int) (r1 : ByteArray) (r2 : Int) (r3 : Int) (w : World) (hr0 : Kd.C k68 w A0 l0.length l0) (hc0 : l0.length ≤ c0) (hr1_0 : Kd.C k44 w A1_0 l1_0.length l1_0) (hc1_0 : l1_0.length ≤ c1_0) (hr1_1 : Kd.C (Kd.int .i64) w A1_1 l1_1.length l1_1) (hc1_1 : l1_1.length ≤ c1_1) (h : impl_WeakestPlace.f k l0 l1_0 l1_1 = some (r1, r2, r3)) :
  Calls Try.prog 41 #[.slice A0 l0.length c0, .agg #[.slice A1_0 l1_0.length c1_0, .slice A1_1 l1_1.length c1_1]] w fun e w' => e = .returned (.tuple #[.string r1, .int .i64 r2, .int .i64 r3]) ∧ Below w.heap.size w w' := by
 have hu37 := Try.underlying37
 have hu51 := Try.underlying51
 have hu44 := Try.underlying44
 have HR0 := aS hr0
 have HC0 := aS hc0
 clear hr0 hc0
 have HR1_0 := aS hr1_0
 have HC1_0 := aS hc1_0
 clear hr1_0 hc1_0
 have HR1_1 := aS hr1_1
 have HC1_1 := aS hc1_1
 clear hr1_1 hc1_1
 have HB := aS (Below.refl w.heap.size w)
 have H : ((impl_ValidJoins.f k l0).bind fun t332 => (if t332 = true then ((impl_validLine.f k l0 l1_0 l1_1).bind fun t333 => (impl_WeakestPlace.j0 k l0 (!t333) l1_0 l1_1)) else (impl_WeakestPlace.j0 k l0 true l1_0 l1_1))) = some (r1, r2, r3) := h
 clear h
 have HC3 := aS H
 clear H
 go_enter Try.func41, Try.ntmps41
 go_upto_region 1 with (first | ((with_reducible refine gate_dst (N := 3) rfl ?_); refine box_event ?hg (N := 3) ?hd (cs := #[.slice A1_0 l1_0.length c1_0, .slice A1_1 l1_1.length c1_1]) (t := 37) ?hr ?_; (case hd => rfl); (case hg => rfl); (case hr => first | (go_simp; done) | (go_simp; rfl)); intro gb331 hg w4 hbox hb; have n0_ := aS (below_step (sW HB.out) hb); have n1_ := aS (hbox); have n2_ := aS ((by rw [hg]; exact (below_size (sW HB.out)) : w.heap.size ≤ gb331)); have n3_ := aS ((by rw [hg]; exact (below_size (sW HB.out)) : w.heap.size ≤ gb331)); clear HB; have HB := n0_; have BK331 := n1_; have GW331 := n2_; have GE331 := n3_; clear n0_ n1_ n2_ n3_; clear hb hbox hg))
 (try simp only [Act.put, List.setIfInBounds_toArray, List.set_cons_zero, List.set_cons_succ])
 go_cut [19] (fun v19 wc => ∃ (kq : Nat) (x19_2 : Bool), v19 = .bool x19_2 ∧ Aside0 (impl_WeakestPlace.j0 kq l0 x19_2 l1_0 l1_1 = some (r1, r2, r3)) ∧ Aside0 (kq ≤ k) ∧ Aside0 (wc.heap[gb331]? = some (.cells #[(.slice A1_0 l1_0.length c1_0), (.slice A1_1 l1_1.length c1_1)] 37 (0, 0))) ∧ Aside0 (Below w.heap.size w wc))
 case first =>
  have H := HC3.out
  clear HC3
  replace H := Option.bind_eq_some_iff.mp H
  obtain ⟨t332, A50, H⟩ := H
  replace H : (if t332 = true then ((impl_validLine.f k l0 l1_0 l1_1).bind fun t333 => (impl_WeakestPlace.j0 k l0 (!t333) l1_0 l1_1)) else (impl_WeakestPlace.j0 k l0 true l1_0 l1_1)) = some (r1, r2, r3) := H
  have A5 := aS A50
  clear A50
  by_cases c6 : t332 = true
  ·
   subst c6
   have H1 : ((impl_validLine.f k l0 l1_0 l1_1).bind fun t333 => (impl_WeakestPlace.j0 k l0 (!t333) l1_0 l1_1)) = some (r1, r2, r3) := by rw [if_pos rfl] at H; exact H
   clear H
   have H := H1
   clear H1
   replace H := Option.bind_eq_some_iff.mp H
   obtain ⟨t333, A70, H⟩ := H
   replace H : (impl_WeakestPlace.j0 k l0 (!t333) l1_0 l1_1) = some (r1, r2, r3) := H
   have A7 := aS A70
   clear A70
   have H' := aS H
   clear H
   go_wp2_with (first | ((with_reducible refine gate_callee (f := 16) rfl ?_); refine goesL_ (some 12) rfl rfl Try.func16 (by kernel_rfl) rfl #[.slice A0 l0.length c0] rfl sG ?_; (with_reducible refine (impl_ValidJoins.calls k _ _ l0 true _ ?side1 ?side2 A5.out).mono ?_); (case side1 => exact sC (Kd.C_below HR0.out HB.out)); (case side2 => exact HC0.out); rintro e w8 ⟨rfl, hb⟩; refine ⟨_, rfl, ?_⟩; have n0_ := aS (blk_below (g := gb331) (o := .cells #[.slice A1_0 l1_0.length c1_0, .slice A1_1 l1_1.length c1_1] 37 (0, 0)) (sB BK331.out) hb); have n1_ := aS (below_step (sW HB.out) hb); clear BK331 HB; have BK331 := n0_; have HB := n1_; clear n0_ n1_; (try clear hb); (try clear hb2); (try clear hk); (try clear hi); have hcz9_0 : w8.cell? ⟨gb331, 0, none⟩ = some (.slice A1_0 l1_0.length c1_0) := (blk_cell BK331.out 0).trans rfl; have hcz9_1 : w8.cell? ⟨gb331, 1, none⟩ = some (.slice A1_1 l1_1.length c1_1) := (blk_cell BK331.out 1).trans rfl; have hfz9_0 := blk_frozen BK331.out 0; have hfz9_1 := blk_frozen BK331.out 1) | (go_at_call 67; (with_reducible refine (impl_validLine.calls k _ _ l0 _ _ l1_0 _ _ l1_1 t333 _ ?side1 ?side2 ?side3 ?side4 ?side5 ?side6 A7.out).mono ?_); (case side1 => exact sC (Kd.C_below HR0.out HB.out)); (case side2 => exact HC0.out); (case side3 => exact sC (Kd.C_below HR1_0.out HB.out)); (case side4 => exact HC1_0.out); (case side5 => exact sC (Kd.C_below HR1_1.out HB.out)); (case side6 => exact HC1_1.out); rintro e w10 ⟨rfl, hb⟩; have n0_ := aS (blk_below (g := gb331) (o := .cells #[.slice A1_0 l1_0.length c1_0, .slice A1_1 l1_1.length c1_1] 37 (0, 0)) (sB BK331.out) hb); have n1_ := aS (below_step (sW HB.out) hb); clear BK331 HB; have BK331 := n0_; have HB := n1_; clear n0_ n1_; (try clear hb); (try clear hb2); (try clear hk); (try clear hi)))
   go_meet
   case rel => exact ⟨_, (!t333), (by first | rfl | (simp; done) | (simp [*]; done) | (simp only [i64_w]; done) | (simp [i64_w]; done)), H', ⟨by first | omega | exact Nat.le_refl _⟩, ⟨by (with_reducible repeat (first | refine blk_drewN ?_ _ | refine blk_drew ?_ | refine blk_alloc ?_ _)); exact BK331.out⟩, ⟨by repeat (first | (with_reducible first | exact HB.out | apply below_alloc | apply pw_below_drewN | apply below_drew1 | refine below_set ?_ GE331.out) | exact HB.out)⟩⟩
  ·
   replace c6 := Bool.eq_false_iff.mpr c6
   subst c6
   have H1 : (impl_WeakestPlace.j0 k l0 true l1_0 l1_1) = some (r1, r2, r3) := by rw [if_neg (show ¬ (false = true) by decide)] at H; exact H
   clear H
   have H := H1
   clear H1
   have H' := aS H
   clear H
   go_wp2_with (first | ((with_reducible refine gate_callee (f := 16) rfl ?_); refine goesL_ (some 12) rfl rfl Try.func16 (by kernel_rfl) rfl #[.slice A0 l0.length c0] rfl sG ?_; (with_reducible refine (impl_ValidJoins.calls k _ _ l0 false _ ?side1 ?side2 A5.out).mono ?_); (case side1 => exact sC (Kd.C_below HR0.out HB.out)); (case side2 => exact HC0.out); rintro e w11 ⟨rfl, hb⟩; refine ⟨_, rfl, ?_⟩; have n0_ := aS (blk_below (g := gb331) (o := .cells #[.slice A1_0 l1_0.length c1_0, .slice A1_1 l1_1.length c1_1] 37 (0, 0)) (sB BK331.out) hb); have n1_ := aS (below_step (sW HB.out) hb); clear BK331 HB; have BK331 := n0_; have HB := n1_; clear n0_ n1_; (try clear hb); (try clear hb2); (try clear hk); (try clear hi)))
   go_meet
   case rel => exact ⟨_, (true), (by first | rfl | (simp; done) | (simp [*]; done) | (simp only [i64_w]; done) | (simp [i64_w]; done)), H', ⟨by first | omega | exact Nat.le_refl _⟩, ⟨by (with_reducible repeat (first | refine blk_drewN ?_ _ | refine blk_drew ?_ | refine blk_alloc ?_ _)); exact BK331.out⟩, ⟨by repeat (first | (with_reducible first | exact HB.out | apply below_alloc | apply pw_below_drewN | apply below_drew1 | refine below_set ?_ GE331.out) | exact HB.out)⟩⟩
 case rest =>
  clear HC3
  (try clear c1); (try clear p2); (try clear c4); (try clear c6); (try clear hcz9_0); (try clear hcz9_1); (try clear hfz9_0); (try clear hfz9_1)
  obtain ⟨kq, x19_2, rfl, HA, HJ2, BK331, HB⟩ := hcut
  cases kq with
  | zero => exact absurd HA.out (by simp [impl_WeakestPlace.j0])
  | succ kj2 =>
   have H := HA.out
   clear HA
   simp only [impl_WeakestPlace.j0] at H
   by_cases c12 : x19_2 = true
   ·
    subst c12
    have H1 : (some ((⟨#[]⟩ : ByteArray), 0, 1)) = some (r1, r2, r3) := by rw [if_pos rfl] at H; exact H
    clear H
    have H := H1
    clear H1
    simp only [Option.some.injEq, Prod.mk.injEq] at H
    obtain ⟨rfl, rfl, rfl⟩ := H
    go_wp2
    go_ret3
    exact ⟨by first | rfl | (simp [errW_none, errW_some, i64_w]; done) | (simp [errW_none, errW_some] <;> rfl) | (simp [*, errW_none, errW_some] <;> rfl), by repeat (first | (with_reducible first | exact HB.out | apply below_alloc | apply pw_below_drewN | apply below_drew1) | exact HB.out)⟩
   ·
    replace c12 := Bool.eq_false_iff.mpr c12
    subst c12
    have H1 : ((impl_lineStrength.f kj2 l0 l1_0 l1_1).bind fun bt334 => (impl_WeakestPlace.l0 kj2 l0 l1_0 (l1_0.length : Int) 0 l1_0 l1_1 bt334.1 bt334.2)) = some (r1, r2, r3) := by rw [if_neg (show ¬ (false = true) by decide)] at H; exact H
    clear H
    have H := H1
    clear H1
    replace H := Option.bind_eq_some_iff.mp H
    obtain ⟨⟨t334, t335⟩, A130, H⟩ := H
    replace H : (impl_WeakestPlace.l0 kj2 l0 l1_0 (l1_0.length : Int) 0 l1_0 l1_1 t334 t335) = some (r1, r2, r3) := H
    have A13 := aS A130
    clear A130
    have H' := aS H
    clear H
    have hcz14_0 : wc.cell? ⟨gb331, 0, none⟩ = some (.slice A1_0 l1_0.length c1_0) := (blk_cell BK331.out 0).trans rfl
    have hcz14_1 : wc.cell? ⟨gb331, 1, none⟩ = some (.slice A1_1 l1_1.length c1_1) := (blk_cell BK331.out 1).trans rfl
    have hfz14_0 := blk_frozen BK331.out 0
    have hfz14_1 := blk_frozen BK331.out 1
    go_wp2_with (first | ((with_reducible refine gate_callee (f := 82) rfl ?_); refine goesL_ (some 22) rfl rfl Try.func82 (by kernel_rfl) rfl #[.slice A0 l0.length c0, .agg #[.slice A1_0 l1_0.length c1_0, .slice A1_1 l1_1.length c1_1]] rfl sG ?_; (with_reducible refine (impl_lineStrength.calls kj2 _ _ l0 _ _ l1_0 _ _ l1_1 t334 t335 _ ?side1 ?side2 ?side3 ?side4 ?side5 ?side6 A13.out).mono ?_); (case side1 => exact sC (Kd.C_below HR0.out HB.out)); (case side2 => exact HC0.out); (case side3 => exact sC (Kd.C_below HR1_0.out HB.out)); (case side4 => exact HC1_0.out); (case side5 => exact sC (Kd.C_below HR1_1.out HB.out)); (case side6 => exact HC1_1.out); rintro e w15 ⟨rfl, hb⟩; refine ⟨_, rfl, ?_⟩; have n0_ := aS (blk_below (g := gb331) (o := .cells #[.slice A1_0 l1_0.length c1_0, .slice A1_1 l1_1.length c1_1] 37 (0, 0)) (sB BK331.out) hb); have n1_ := aS (below_step (sW HB.out) hb); clear BK331 HB; have BK331 := n0_; have HB := n1_; clear n0_ n1_; (try clear hb); (try clear hb2); (try clear hk); (try clear hi)) | ((with_reducible refine gate_dst (N := 7) rfl ?_); refine box_event ?hg (N := 7) ?hd (cs := #[.int .i64 0, .int .i64 0]) (t := 51) ?hr ?_; (case hd => rfl); (case hg => rfl); (case hr => first | (go_simp; done) | (go_simp; rfl)); intro gb336 hg w16 hbox hb; have n0_ := aS (blk_below (g := gb331) (o := .cells #[.slice A1_0 l1_0.length c1_0, .slice A1_1 l1_1.length c1_1] 37 (0, 0)) (sB BK331.out) hb); have n1_ := aS (below_step (sW HB.out) hb); have n2_ := aS (hbox); have n3_ := aS ((by rw [hg]; exact (below_size (sW HB.out)) : w.heap.size ≤ gb336)); have n4_ := aS ((by rw [hg]; exact (below_size (sW HB.out)) : w.heap.size ≤ gb336)); have n5_ := aS ((by rw [hg]; exact Nat.ne_of_lt (blk_lt (g := gb331) (o := .cells #[.slice A1_0 l1_0.length c1_0, .slice A1_1 l1_1.length c1_1] 37 (0, 0)) (sB BK331.out)) : gb331 ≠ gb336)); have n6_ := aS ((by rw [hg]; exact Nat.ne_of_gt (blk_lt (g := gb331) (o := .cells #[.slice A1_0 l1_0.length c1_0, .slice A1_1 l1_1.length c1_1] 37 (0, 0)) (sB BK331.out)) : gb336 ≠ gb331)); clear BK331 HB; have BK331 := n0_; have HB := n1_; have BK336 := n2_; have GW336 := n3_; have GE336 := n4_; have NB331_336 := n5_; have NB336_331 := n6_; clear n0_ n1_ n2_ n3_ n4_ n5_ n6_; clear hb hbox hg; have hnb17 := NB336_331.out; have hnc17 := NB331_336.out; have hcz18_0 : w16.cell? ⟨gb336, 0, none⟩ = some (.int .i64 0) := (blk_cell BK336.out 0).trans rfl; have hcz18_1 : w16.cell? ⟨gb336, 1, none⟩ = some (.int .i64 0) := (blk_cell BK336.out 1).trans rfl; have hfz18_0 := blk_frozen BK336.out 0; have hfz18_1 := blk_frozen BK336.out 1; have hcz19_0 : w16.cell? ⟨gb331, 0, none⟩ = some (.slice A1_0 l1_0.length c1_0) := (blk_cell BK331.out 0).trans rfl; have hcz19_1 : w16.cell? ⟨gb331, 1, none⟩ = some (.slice A1_1 l1_1.length c1_1) := (blk_cell BK331.out 1).trans rfl; have hfz19_0 := blk_frozen BK331.out 0; have hfz19_1 := blk_frozen BK331.out 1))
    go_loopg [26] kj2 (fun kq v26 w' => ∃ (x26_2 : Int), v26 = .int .i64 x26_2 ∧ Aside0 (impl_WeakestPlace.l0 kq l0 l1_0 (l1_0.length : Int) x26_2 l1_0 l1_1 t334 t335 = some (r1, r2, r3)) ∧ Aside0 (kq ≤ kj2) ∧ Aside0 (w'.heap[gb331]? = some (.cells #[(.slice A1_0 l1_0.length c1_0), (.slice A1_1 l1_1.length c1_1)] 37 (0, 0))) ∧ Aside0 (w'.heap[gb336]? = some (.cells #[.int .i64 t334, .int .i64 t335] 51 (0, 0))) ∧ Aside0 (Below w.heap.size w w'))
    case atStart => exact ⟨(0), (by first | rfl | (simp; done) | (simp [*]; done) | (simp only [i64_w]; done) | (simp [i64_w]; done)), H', ⟨Nat.le_refl _⟩, ⟨by (with_reducible repeat (first | refine blk_drewN ?_ _ | refine blk_drew ?_ | refine blk_alloc ?_ _)); refine blk_far ?_ NB331_336.out _; (with_reducible repeat (first | refine blk_drewN ?_ _ | refine blk_drew ?_ | refine blk_alloc ?_ _)); refine blk_far ?_ NB331_336.out _; (with_reducible repeat (first | refine blk_drewN ?_ _ | refine blk_drew ?_ | refine blk_alloc ?_ _)); exact BK331.out⟩, ⟨by (with_reducible repeat (first | refine blk_drewN ?_ _ | refine blk_drew ?_ | refine blk_alloc ?_ _)); refine blk_put (cs := #[.int .i64 t334, .int .i64 0]) ?_ 1 _ rfl; (with_reducible repeat (first | refine blk_drewN ?_ _ | refine blk_drew ?_ | refine blk_alloc ?_ _)); refine blk_put (cs := #[.int .i64 0, .int .i64 0]) ?_ 0 _ rfl; (with_reducible repeat (first | refine blk_drewN ?_ _ | refine blk_drew ?_ | refine blk_alloc ?_ _)); exact BK336.out⟩, ⟨by repeat (first | (with_reducible first | exact HB.out | apply below_alloc | apply pw_below_drewN | apply below_drew1 | refine below_set ?_ GE331.out | refine below_set ?_ GE336.out) | exact HB.out)⟩⟩
    case round =>
     clear H'
     (try clear c1); (try clear p2); (try clear c4); (try clear c6); (try clear c8); (try clear c12); (try clear c16); (try clear c17); (try clear hcz14_0); (try clear hcz14_1); (try clear hcz18_0); (try clear hcz18_1); (try clear hcz19_0); (try clear hcz19_1); (try clear hcz9_0); (try clear hcz9_1); (try clear hfz14_0); (try clear hfz14_1); (try clear hfz18_0); (try clear hfz18_1); (try clear hfz19_0); (try clear hfz19_1); (try clear hfz9_0); (try clear hfz9_1); (try clear p2)
     obtain ⟨x26_2, rfl, HA, HK2, BK331, BK336, HB⟩ := hrel
     cases gk with
     | zero => exact absurd HA.out (by simp [impl_WeakestPlace.l0])
     | succ k2 =>
      have H := HA.out
      clear HA
      simp only [impl_WeakestPlace.l0] at H
      by_cases c20 : x26_2 < (l1_0.length : Int)
      ·
       rw [if_pos c20] at H
       have c20b0 : decide (x26_2 < (l1_0.length : Int)) = true := decide_eq_true c20
       clear c20
       by_cases c21 : 0 ≤ x26_2
       ·
        rw [if_pos c21] at H
        have c21b0 : decide (0 ≤ x26_2) = true := decide_eq_true c21
        clear c21
        by_cases c22 : x26_2 < (l1_0.length : Int)
        ·
         rw [if_pos c22] at H
         have c22b0 : decide (x26_2 < (l1_0.length : Int)) = true := decide_eq_true c22
         clear c22
         replace H := Option.bind_eq_some_iff.mp H
         obtain ⟨⟨t339, t340⟩, A230, H⟩ := H
         replace H : (if (t339 == t334 && (t340 == t335)) = true then (some ((⟨#[112, 105, 101, 99, 101]⟩ : ByteArray), x26_2, 0)) else (impl_WeakestPlace.l0 k2 l0 l1_0 (l1_0.length : Int) (wrap64 (x26_2 + 1)) l1_0 l1_1 t334 t335)) = some (r1, r2, r3) := H
         have A23 := aS A230
         clear A230
         by_cases c24 : (t339 == t334 && (t340 == t335)) = true
         ·
          rw [if_pos c24] at H
          have c24b0 : (t339 == t334 && (t340 == t335)) = true := c24
          (try (have c24b1 : decide (t339 = t334 && (t340 == t335)) = true := by simpa using c24))
          (try (have c24b2 : (t339 == t334 && (t340 == t335)) = true := by simpa using c24))
          clear c24
          simp only [Option.some.injEq, Prod.mk.injEq] at H
          obtain ⟨rfl, rfl, rfl⟩ := H
          have p337 : 0 ≤ (x26_2 : Int) := of_decide_eq_true (by first | (with_reducible assumption) | assumption)
          have q337 : x26_2 < (l1_0.length : Int) := of_decide_eq_true (by first | (with_reducible assumption) | assumption)
          obtain ⟨ad337, e337, hx337_0, hx337_1⟩ := at_T44 HR1_0.out x26_2 p337 q337
          cases e337
          replace hx337_0 := (HB.out.cell (World.block_lt_of_cell? w _ hx337_0)).trans hx337_0
          replace hx337_1 := (HB.out.cell (World.block_lt_of_cell? w _ hx337_1)).trans hx337_1
          replace p337 := eq_true p337
          replace q337 := eq_true q337
          try go_wp2_with (first | ((with_reducible refine gate_dst (N := 9) rfl ?_); refine box_event ?hg (N := 9) ?hd (cs := #[.int .i64 0, .int .i64 0]) (t := 44) ?hr ?_; (case hd => rfl); (case hg => rfl); (case hr => first | (go_simp; done) | (go_simp; rfl)); intro gb338 hg w25 hbox hb; have n0_ := aS (blk_below (g := gb331) (o := .cells #[.slice (some ad337) l1_0.length c1_0, .slice A1_1 l1_1.length c1_1] 37 (0, 0)) (sB BK331.out) hb); have n1_ := aS (blk_below (g := gb336) (o := .cells #[.int .i64 t334, .int .i64 t335] 51 (0, 0)) (sB BK336.out) hb); have n2_ := aS (below_step (sW HB.out) hb); have n3_ := aS (hbox); have n4_ := aS ((by rw [hg]; exact (below_size (sW HB.out)) : w.heap.size ≤ gb338)); have n5_ := aS ((by rw [hg]; exact (below_size (sW HB.out)) : w.heap.size ≤ gb338)); have n6_ := aS ((by rw [hg]; exact Nat.ne_of_lt (blk_lt (g := gb331) (o := .cells #[.slice (some ad337) l1_0.length c1_0, .slice A1_1 l1_1.length c1_1] 37 (0, 0)) (sB BK331.out)) : gb331 ≠ gb338)); have n7_ := aS ((by rw [hg]; exact Nat.ne_of_gt (blk_lt (g := gb331) (o := .cells #[.slice (some ad337) l1_0.length c1_0, .slice A1_1 l1_1.length c1_1] 37 (0, 0)) (sB BK331.out)) : gb338 ≠ gb331)); have n8_ := aS ((by rw [hg]; exact Nat.ne_of_lt (blk_lt (g := gb336) (o := .cells #[.int .i64 t334, .int .i64 t335] 51 (0, 0)) (sB BK336.out)) : gb336 ≠ gb338)); have n9_ := aS ((by rw [hg]; exact Nat.ne_of_gt (blk_lt (g := gb336) (o := .cells #[.int .i64 t334, .int .i64 t335] 51 (0, 0)) (sB BK336.out)) : gb338 ≠ gb336)); clear BK331 BK336 HB; have BK331 := n0_; have BK336 := n1_; have HB := n2_; have BK338 := n3_; have GW338 := n4_; have GE338 := n5_; have NB331_338 := n6_; have NB338_331 := n7_; have NB336_338 := n8_; have NB338_336 := n9_; clear n0_ n1_ n2_ n3_ n4_ n5_ n6_ n7_ n8_ n9_; clear hb hbox hg; have hnb26 := NB338_331.out; have hnc26 := NB331_338.out; have hnb27 := NB338_336.out; have hnc27 := NB336_338.out; have hcz28_0 : w25.cell? ⟨gb338, 0, none⟩ = some (.int .i64 0) := (blk_cell BK338.out 0).trans rfl; have hcz28_1 : w25.cell? ⟨gb338, 1, none⟩ = some (.int .i64 0) := (blk_cell BK338.out 1).trans rfl; have hfz28_0 := blk_frozen BK338.out 0; have hfz28_1 := blk_frozen BK338.out 1))
          have n0_ : Aside0 (((w25.setCell ⟨gb338, 0, none⟩ (.int .i64 ((rd_T44 l1_0 x26_2).f0))).setCell ⟨gb338, 1, none⟩ (.int .i64 ((rd_T44 l1_0 x26_2).f1))).heap[gb331]? = some (.cells #[.slice (some ad337) l1_0.length c1_0, .slice A1_1 l1_1.length c1_1] 37 (0, 0))) := ⟨by (with_reducible repeat (first | refine blk_drewN ?_ _ | refine blk_drew ?_ | refine blk_alloc ?_ _)); refine blk_far ?_ NB331_338.out _; (with_reducible repeat (first | refine blk_drewN ?_ _ | refine blk_drew ?_ | refine blk_alloc ?_ _)); refine blk_far ?_ NB331_338.out _; (with_reducible repeat (first | refine blk_drewN ?_ _ | refine blk_drew ?_ | refine blk_alloc ?_ _)); exact BK331.out⟩
          have n1_ : Aside0 (((w25.setCell ⟨gb338, 0, none⟩ (.int .i64 ((rd_T44 l1_0 x26_2).f0))).setCell ⟨gb338, 1, none⟩ (.int .i64 ((rd_T44 l1_0 x26_2).f1))).heap[gb336]? = some (.cells #[.int .i64 t334, .int .i64 t335] 51 (0, 0))) := ⟨by (with_reducible repeat (first | refine blk_drewN ?_ _ | refine blk_drew ?_ | refine blk_alloc ?_ _)); refine blk_far ?_ NB336_338.out _; (with_reducible repeat (first | refine blk_drewN ?_ _ | refine blk_drew ?_ | refine blk_alloc ?_ _)); refine blk_far ?_ NB336_338.out _; (with_reducible repeat (first | refine blk_drewN ?_ _ | refine blk_drew ?_ | refine blk_alloc ?_ _)); exact BK336.out⟩
          have n2_ : Aside0 (((w25.setCell ⟨gb338, 0, none⟩ (.int .i64 ((rd_T44 l1_0 x26_2).f0))).setCell ⟨gb338, 1, none⟩ (.int .i64 ((rd_T44 l1_0 x26_2).f1))).heap[gb338]? = some (.cells #[.int .i64 ((rd_T44 l1_0 x26_2).f0), .int .i64 ((rd_T44 l1_0 x26_2).f1)] 44 (0, 0))) := ⟨by (with_reducible repeat (first | refine blk_drewN ?_ _ | refine blk_drew ?_ | refine blk_alloc ?_ _)); refine blk_put (cs := #[.int .i64 ((rd_T44 l1_0 x26_2).f0), .int .i64 0]) ?_ 1 _ rfl; (with_reducible repeat (first | refine blk_drewN ?_ _ | refine blk_drew ?_ | refine blk_alloc ?_ _)); refine blk_put (cs := #[.int .i64 0, .int .i64 0]) ?_ 0 _ rfl; (with_reducible repeat (first | refine blk_drewN ?_ _ | refine blk_drew ?_ | refine blk_alloc ?_ _)); exact BK338.out⟩
          have n3_ : Aside0 (Below w.heap.size w ((w25.setCell ⟨gb338, 0, none⟩ (.int .i64 ((rd_T44 l1_0 x26_2).f0))).setCell ⟨gb338, 1, none⟩ (.int .i64 ((rd_T44 l1_0 x26_2).f1)))) := ⟨by repeat (first | (with_reducible first | exact HB.out | apply below_alloc | apply pw_below_drewN | apply below_drew1 | refine below_set ?_ GE331.out | refine below_set ?_ GE336.out | refine below_set ?_ GE338.out) | exact HB.out)⟩
          (try clear BK331); (try clear BK336); (try clear BK338); (try clear HB)
          generalize ((w25.setCell ⟨gb338, 0, none⟩ (.int .i64 ((rd_T44 l1_0 x26_2).f0))).setCell ⟨gb338, 1, none⟩ (.int .i64 ((rd_T44 l1_0 x26_2).f1))) = w29 at n0_ n1_ n2_ n3_ ⊢
          have BK331 := n0_; have BK336 := n1_; have BK338 := n2_; have HB := n3_
          clear n0_ n1_ n2_ n3_
          have n0_ := aS (blk_drew BK331.out)
          have n1_ := aS (blk_drew BK336.out)
          have n2_ := aS (blk_drew BK338.out)
          have n3_ := aS (below_drew1 HB.out)
          clear BK331 BK336 BK338 HB
          have BK331 := n0_; have BK336 := n1_; have BK338 := n2_; have HB := n3_
          clear n0_ n1_ n2_ n3_
          refine start_ (n := 5) (S := fun w' => w'.cell? ⟨gb338, 0, none⟩ = some (.int .i64 ((rd_T44 l1_0 x26_2).f0)) ∧ w'.cell? ⟨gb338, 1, none⟩ = some (.int .i64 ((rd_T44 l1_0 x26_2).f1)) ∧ w'.cell? ⟨gb336, 0, none⟩ = some (.int .i64 t334) ∧ w'.cell? ⟨gb336, 1, none⟩ = some (.int .i64 t335)) (ds := []) #[false, false, false, false, false] (by kernel_rfl) rfl rfl ⟨(blk_cell BK338.out 0).trans rfl, (blk_cell BK338.out 1).trans rfl, (blk_cell BK336.out 0).trans rfl, (blk_cell BK336.out 1).trans rfl⟩ (fun hHeld => ?_)
          generalize w29.drew = w30 at BK331 BK336 BK338 HB hHeld ⊢
          refine pure_ (i := 0) (N := some 31) (v := ?_) (a' := ?_) #[true, false, false, false, false] rfl rfl (by kernel_rfl) (fun _ _ _ h => h) (Or.inl ⟨by rfl, ?_⟩) ?_ ?_
          rotate_left
          ·
           intro w'
           go_simp
           with_reducible rfl
          rotate_left
          ·
           simp only [Act.put, List.setIfInBounds_toArray, List.set_cons_zero, List.set_cons_succ, i64_w, i32_w]
           rfl
          refine take_ (i := 1) (N := some 32) (v := ?_) (a' := ?_) #[true, true, false, false, false] rfl rfl (by kernel_rfl) (fun _ _ _ h => h) (Or.inl ⟨by rfl, ?_⟩) hHeld ?_ ?_
          rotate_left
          ·
           rintro w' ⟨s0, s1, s2, s3⟩
           go_simp
           with_reducible rfl
          rotate_left
          ·
           simp only [Act.put, List.setIfInBounds_toArray, List.set_cons_zero, List.set_cons_succ, i64_w, i32_w]
           rfl
          refine take_ (i := 3) (N := some 34) (v := ?_) (a' := ?_) #[true, true, false, true, false] rfl rfl (by kernel_rfl) (fun _ _ _ h => h) (Or.inl ⟨by rfl, ?_⟩) hHeld ?_ ?_
          rotate_left
          ·
           rintro w' ⟨s0, s1, s2, s3⟩
           go_simp
           with_reducible rfl
          rotate_left
          ·
           simp only [Act.put, List.setIfInBounds_toArray, List.set_cons_zero, List.set_cons_succ, i64_w, i32_w]
           rfl
          refine one_ (i := 2) (N := some 33) #[true, true, true, true, false] rfl rfl (by kernel_rfl) (by decide) (fun K hK => ?_)
          refine goes_ Try.func83 (by kernel_rfl) rfl #[.int .i64 ((rd_T44 l1_0 x26_2).f0), .int .i64 1] (by rfl) rfl rfl sG ?_
          with_reducible refine (impl_fraction.calls k2 ((rd_T44 l1_0 x26_2).f0) 1 t339 t340 _ A23.out).mono ?_
          rintro e w31 ⟨rfl, hb⟩
          refine ⟨_, rfl, ?_⟩
          have n0_ := aS (blk_below (g := gb331) (o := .cells #[.slice (some ad337) l1_0.length c1_0, .slice A1_1 l1_1.length c1_1] 37 (0, 0)) (sB BK331.out) hb)
          have n1_ := aS (blk_below (g := gb336) (o := .cells #[.int .i64 t334, .int .i64 t335] 51 (0, 0)) (sB BK336.out) hb)
          have n2_ := aS (blk_below (g := gb338) (o := .cells #[.int .i64 ((rd_T44 l1_0 x26_2).f0), .int .i64 ((rd_T44 l1_0 x26_2).f1)] 44 (0, 0)) (sB BK338.out) hb)
          have n3_ := aS (below_step (sW HB.out) hb)
          clear BK331 BK336 BK338 HB
          have BK331 := n0_; have BK336 := n1_; have BK338 := n2_; have HB := n3_
          clear n0_ n1_ n2_ n3_
          (try clear hb); (try clear hb2); (try clear hk); (try clear hi)
          refine hK.out _ _ ⟨(blk_cell BK338.out 0).trans rfl, (blk_cell BK338.out 1).trans rfl, (blk_cell BK336.out 0).trans rfl, (blk_cell BK336.out 1).trans rfl⟩ (fun hHeld => ?_)
          clear hK K
          refine norm_ (a' := ?_) ?_ ?_
          rotate_left
          ·
           show Act.put _ (some 33) _ = _
           simp only [Act.put, List.setIfInBounds_toArray, List.set_cons_zero, List.set_cons_succ, i64_w, i32_w]
           rfl
          refine pure_ (i := 4) (N := some 35) (v := ?_) (a' := ?_) #[true, true, true, true, true] rfl rfl (by kernel_rfl) (fun _ _ _ h => h) (Or.inl ⟨by rfl, ?_⟩) ?_ ?_
          rotate_left
          ·
           intro w'
           go_simp
           with_reducible rfl
          rotate_left
          ·
           simp only [Act.put, List.setIfInBounds_toArray, List.set_cons_zero, List.set_cons_succ, i64_w, i32_w]
           rfl
          refine done_ (by kernel_rfl) ?_
          try go_wp2
          go_ret3
          exact ⟨by first | rfl | (simp [errW_none, errW_some, i64_w]; done) | (simp [errW_none, errW_some] <;> rfl) | (simp [*, errW_none, errW_some] <;> rfl), by repeat (first | (with_reducible first | exact HB.out | apply below_alloc | apply pw_below_drewN | apply below_drew1) | exact HB.out)⟩
         ·
          rw [if_neg c24] at H
          have c24b0 : (t339 == t334 && (t340 == t335)) = false := by simpa using c24
          (try (have c24b1 : decide (t339 = t334 && (t340 == t335)) = false := by simpa using c24))
          (try (have c24b2 : (t339 == t334 && (t340 == t335)) = false := by simpa using c24))
          (try (have c24b3 : ¬ (t339 = t334 && (t340 == t335)) := by simpa using c24))
          clear c24
          have H' := aS H
          clear H
          have p337 : 0 ≤ (x26_2 : Int) := of_decide_eq_true (by first | (with_reducible assumption) | assumption)
          have q337 : x26_2 < (l1_0.length : Int) := of_decide_eq_true (by first | (with_reducible assumption) | assumption)
          obtain ⟨ad337, e337, hx337_0, hx337_1⟩ := at_T44 HR1_0.out x26_2 p337 q337
          cases e337
          replace hx337_0 := (HB.out.cell (World.block_lt_of_cell? w _ hx337_0)).trans hx337_0
          replace hx337_1 := (HB.out.cell (World.block_lt_of_cell? w _ hx337_1)).trans hx337_1
          replace p337 := eq_true p337
          replace q337 := eq_true q337
          try go_wp2_with (first | ((with_reducible refine gate_dst (N := 9) rfl ?_); refine box_event ?hg (N := 9) ?hd (cs := #[.int .i64 0, .int .i64 0]) (t := 44) ?hr ?_; (case hd => rfl); (case hg => rfl); (case hr => first | (go_simp; done) | (go_simp; rfl)); intro gb338 hg w32 hbox hb; have n0_ := aS (blk_below (g := gb331) (o := .cells #[.slice (some ad337) l1_0.length c1_0, .slice A1_1 l1_1.length c1_1] 37 (0, 0)) (sB BK331.out) hb); have n1_ := aS (blk_below (g := gb336) (o := .cells #[.int .i64 t334, .int .i64 t335] 51 (0, 0)) (sB BK336.out) hb); have n2_ := aS (below_step (sW HB.out) hb); have n3_ := aS (hbox); have n4_ := aS ((by rw [hg]; exact (below_size (sW HB.out)) : w.heap.size ≤ gb338)); have n5_ := aS ((by rw [hg]; exact (below_size (sW HB.out)) : w.heap.size ≤ gb338)); have n6_ := aS ((by rw [hg]; exact Nat.ne_of_lt (blk_lt (g := gb331) (o := .cells #[.slice (some ad337) l1_0.length c1_0, .slice A1_1 l1_1.length c1_1] 37 (0, 0)) (sB BK331.out)) : gb331 ≠ gb338)); have n7_ := aS ((by rw [hg]; exact Nat.ne_of_gt (blk_lt (g := gb331) (o := .cells #[.slice (some ad337) l1_0.length c1_0, .slice A1_1 l1_1.length c1_1] 37 (0, 0)) (sB BK331.out)) : gb338 ≠ gb331)); have n8_ := aS ((by rw [hg]; exact Nat.ne_of_lt (blk_lt (g := gb336) (o := .cells #[.int .i64 t334, .int .i64 t335] 51 (0, 0)) (sB BK336.out)) : gb336 ≠ gb338)); have n9_ := aS ((by rw [hg]; exact Nat.ne_of_gt (blk_lt (g := gb336) (o := .cells #[.int .i64 t334, .int .i64 t335] 51 (0, 0)) (sB BK336.out)) : gb338 ≠ gb336)); clear BK331 BK336 HB; have BK331 := n0_; have BK336 := n1_; have HB := n2_; have BK338 := n3_; have GW338 := n4_; have GE338 := n5_; have NB331_338 := n6_; have NB338_331 := n7_; have NB336_338 := n8_; have NB338_336 := n9_; clear n0_ n1_ n2_ n3_ n4_ n5_ n6_ n7_ n8_ n9_; clear hb hbox hg; have hnb33 := NB338_331.out; have hnc33 := NB331_338.out; have hnb34 := NB338_336.out; have hnc34 := NB336_338.out; have hcz35_0 : w32.cell? ⟨gb338, 0, none⟩ = some (.int .i64 0) := (blk_cell BK338.out 0).trans rfl; have hcz35_1 : w32.cell? ⟨gb338, 1, none⟩ = some (.int .i64 0) := (blk_cell BK338.out 1).trans rfl; have hfz35_0 := blk_frozen BK338.out 0; have hfz35_1 := blk_frozen BK338.out 1))
          have n0_ : Aside0 (((w32.setCell ⟨gb338, 0, none⟩ (.int .i64 ((rd_T44 l1_0 x26_2).f0))).setCell ⟨gb338, 1, none⟩ (.int .i64 ((rd_T44 l1_0 x26_2).f1))).heap[gb331]? = some (.cells #[.slice (some ad337) l1_0.length c1_0, .slice A1_1 l1_1.length c1_1] 37 (0, 0))) := ⟨by (with_reducible repeat (first | refine blk_drewN ?_ _ | refine blk_drew ?_ | refine blk_alloc ?_ _)); refine blk_far ?_ NB331_338.out _; (with_reducible repeat (first | refine blk_drewN ?_ _ | refine blk_drew ?_ | refine blk_alloc ?_ _)); refine blk_far ?_ NB331_338.out _; (with_reducible repeat (first | refine blk_drewN ?_ _ | refine blk_drew ?_ | refine blk_alloc ?_ _)); exact BK331.out⟩
          have n1_ : Aside0 (((w32.setCell ⟨gb338, 0, none⟩ (.int .i64 ((rd_T44 l1_0 x26_2).f0))).setCell ⟨gb338, 1, none⟩ (.int .i64 ((rd_T44 l1_0 x26_2).f1))).heap[gb336]? = some (.cells #[.int .i64 t334, .int .i64 t335] 51 (0, 0))) := ⟨by (with_reducible repeat (first | refine blk_drewN ?_ _ | refine blk_drew ?_ | refine blk_alloc ?_ _)); refine blk_far ?_ NB336_338.out _; (with_reducible repeat (first | refine blk_drewN ?_ _ | refine blk_drew ?_ | refine blk_alloc ?_ _)); refine blk_far ?_ NB336_338.out _; (with_reducible repeat (first | refine blk_drewN ?_ _ | refine blk_drew ?_ | refine blk_alloc ?_ _)); exact BK336.out⟩
          have n2_ : Aside0 (((w32.setCell ⟨gb338, 0, none⟩ (.int .i64 ((rd_T44 l1_0 x26_2).f0))).setCell ⟨gb338, 1, none⟩ (.int .i64 ((rd_T44 l1_0 x26_2).f1))).heap[gb338]? = some (.cells #[.int .i64 ((rd_T44 l1_0 x26_2).f0), .int .i64 ((rd_T44 l1_0 x26_2).f1)] 44 (0, 0))) := ⟨by (with_reducible repeat (first | refine blk_drewN ?_ _ | refine blk_drew ?_ | refine blk_alloc ?_ _)); refine blk_put (cs := #[.int .i64 ((rd_T44 l1_0 x26_2).f0), .int .i64 0]) ?_ 1 _ rfl; (with_reducible repeat (first | refine blk_drewN ?_ _ | refine blk_drew ?_ | refine blk_alloc ?_ _)); refine blk_put (cs := #[.int .i64 0, .int .i64 0]) ?_ 0 _ rfl; (with_reducible repeat (first | refine blk_drewN ?_ _ | refine blk_drew ?_ | refine blk_alloc ?_ _)); exact BK338.out⟩
          have n3_ : Aside0 (Below w.heap.size w ((w32.setCell ⟨gb338, 0, none⟩ (.int .i64 ((rd_T44 l1_0 x26_2).f0))).setCell ⟨gb338, 1, none⟩ (.int .i64 ((rd_T44 l1_0 x26_2).f1)))) := ⟨by repeat (first | (with_reducible first | exact HB.out | apply below_alloc | apply pw_below_drewN | apply below_drew1 | refine below_set ?_ GE331.out | refine below_set ?_ GE336.out | refine below_set ?_ GE338.out) | exact HB.out)⟩
          (try clear BK331); (try clear BK336); (try clear BK338); (try clear HB)
          generalize ((w32.setCell ⟨gb338, 0, none⟩ (.int .i64 ((rd_T44 l1_0 x26_2).f0))).setCell ⟨gb338, 1, none⟩ (.int .i64 ((rd_T44 l1_0 x26_2).f1))) = w36 at n0_ n1_ n2_ n3_ ⊢
          have BK331 := n0_; have BK336 := n1_; have BK338 := n2_; have HB := n3_
          clear n0_ n1_ n2_ n3_
          have n0_ := aS (blk_drew BK331.out)
          have n1_ := aS (blk_drew BK336.out)
          have n2_ := aS (blk_drew BK338.out)
          have n3_ := aS (below_drew1 HB.out)
          clear BK331 BK336 BK338 HB
          have BK331 := n0_; have BK336 := n1_; have BK338 := n2_; have HB := n3_
          clear n0_ n1_ n2_ n3_
          refine start_ (n := 5) (S := fun w' => w'.cell? ⟨gb338, 0, none⟩ = some (.int .i64 ((rd_T44 l1_0 x26_2).f0)) ∧ w'.cell? ⟨gb338, 1, none⟩ = some (.int .i64 ((rd_T44 l1_0 x26_2).f1)) ∧ w'.cell? ⟨gb336, 0, none⟩ = some (.int .i64 t334) ∧ w'.cell? ⟨gb336, 1, none⟩ = some (.int .i64 t335)) (ds := []) #[false, false, false, false, false] (by kernel_rfl) rfl rfl ⟨(blk_cell BK338.out 0).trans rfl, (blk_cell BK338.out 1).trans rfl, (blk_cell BK336.out 0).trans rfl, (blk_cell BK336.out 1).trans rfl⟩ (fun hHeld => ?_)
          generalize w36.drew = w37 at BK331 BK336 BK338 HB hHeld ⊢
          refine pure_ (i := 0) (N := some 31) (v := ?_) (a' := ?_) #[true, false, false, false, false] rfl rfl (by kernel_rfl) (fun _ _ _ h => h) (Or.inl ⟨by rfl, ?_⟩) ?_ ?_
          rotate_left
          ·
           intro w'
           go_simp
           with_reducible rfl
          rotate_left
          ·
           simp only [Act.put, List.setIfInBounds_toArray, List.set_cons_zero, List.set_cons_succ, i64_w, i32_w]
           rfl
          refine take_ (i := 1) (N := some 32) (v := ?_) (a' := ?_) #[true, true, false, false, false] rfl rfl (by kernel_rfl) (fun _ _ _ h => h) (Or.inl ⟨by rfl, ?_⟩) hHeld ?_ ?_
          rotate_left
          ·
           rintro w' ⟨s0, s1, s2, s3⟩
           go_simp
           with_reducible rfl
          rotate_left
          ·
           simp only [Act.put, List.setIfInBounds_toArray, List.set_cons_zero, List.set_cons_succ, i64_w, i32_w]
           rfl
          refine take_ (i := 3) (N := some 34) (v := ?_) (a' := ?_) #[true, true, false, true, false] rfl rfl (by kernel_rfl) (fun _ _ _ h => h) (Or.inl ⟨by rfl, ?_⟩) hHeld ?_ ?_
          rotate_left
          ·
           rintro w' ⟨s0, s1, s2, s3⟩
           go_simp
           with_reducible rfl
          rotate_left
          ·
           simp only [Act.put, List.setIfInBounds_toArray, List.set_cons_zero, List.set_cons_succ, i64_w, i32_w]
           rfl
          refine one_ (i := 2) (N := some 33) #[true, true, true, true, false] rfl rfl (by kernel_rfl) (by decide) (fun K hK => ?_)
          refine goes_ Try.func83 (by kernel_rfl) rfl #[.int .i64 ((rd_T44 l1_0 x26_2).f0), .int .i64 1] (by rfl) rfl rfl sG ?_
          with_reducible refine (impl_fraction.calls k2 ((rd_T44 l1_0 x26_2).f0) 1 t339 t340 _ A23.out).mono ?_
          rintro e w38 ⟨rfl, hb⟩
          refine ⟨_, rfl, ?_⟩
          have n0_ := aS (blk_below (g := gb331) (o := .cells #[.slice (some ad337) l1_0.length c1_0, .slice A1_1 l1_1.length c1_1] 37 (0, 0)) (sB BK331.out) hb)
          have n1_ := aS (blk_below (g := gb336) (o := .cells #[.int .i64 t334, .int .i64 t335] 51 (0, 0)) (sB BK336.out) hb)
          have n2_ := aS (blk_below (g := gb338) (o := .cells #[.int .i64 ((rd_T44 l1_0 x26_2).f0), .int .i64 ((rd_T44 l1_0 x26_2).f1)] 44 (0, 0)) (sB BK338.out) hb)
          have n3_ := aS (below_step (sW HB.out) hb)
          clear BK331 BK336 BK338 HB
          have BK331 := n0_; have BK336 := n1_; have BK338 := n2_; have HB := n3_
          clear n0_ n1_ n2_ n3_
          (try clear hb); (try clear hb2); (try clear hk); (try clear hi)
          refine hK.out _ _ ⟨(blk_cell BK338.out 0).trans rfl, (blk_cell BK338.out 1).trans rfl, (blk_cell BK336.out 0).trans rfl, (blk_cell BK336.out 1).trans rfl⟩ (fun hHeld => ?_)
          clear hK K
          refine norm_ (a' := ?_) ?_ ?_
          rotate_left
          ·
           show Act.put _ (some 33) _ = _
           simp only [Act.put, List.setIfInBounds_toArray, List.set_cons_zero, List.set_cons_succ, i64_w, i32_w]
           rfl
          refine pure_ (i := 4) (N := some 35) (v := ?_) (a' := ?_) #[true, true, true, true, true] rfl rfl (by kernel_rfl) (fun _ _ _ h => h) (Or.inl ⟨by rfl, ?_⟩) ?_ ?_
          rotate_left
          ·
           intro w'
           go_simp
           with_reducible rfl
          rotate_left
          ·
           simp only [Act.put, List.setIfInBounds_toArray, List.set_cons_zero, List.set_cons_succ, i64_w, i32_w]
           rfl
          refine done_ (by kernel_rfl) ?_
          try go_wp2
          go_roundg k2
          case measure => have := HJ2.out; have := HK2.out; omega
          case rel => exact ⟨(wrap64 (x26_2 + 1)), (by first | rfl | (simp; done) | (simp [*]; done) | (simp only [i64_w]; done) | (simp [i64_w]; done)), H', ⟨by have := HJ2.out; have := HK2.out; omega⟩, ⟨by (with_reducible repeat (first | refine blk_drewN ?_ _ | refine blk_drew ?_ | refine blk_alloc ?_ _)); exact BK331.out⟩, ⟨by (with_reducible repeat (first | refine blk_drewN ?_ _ | refine blk_drew ?_ | refine blk_alloc ?_ _)); exact BK336.out⟩, ⟨by repeat (first | (with_reducible first | exact HB.out | apply below_alloc | apply pw_below_drewN | apply below_drew1 | refine below_set ?_ GE331.out | refine below_set ?_ GE336.out | refine below_set ?_ GE338.out) | exact HB.out)⟩⟩
        ·
         rw [if_neg c22] at H
         exact absurd H (by simp)
       ·
        rw [if_neg c21] at H
        exact absurd H (by simp)
      ·
       rw [if_neg c20] at H
       have c20b0 : decide (x26_2 < (l1_0.length : Int)) = false := decide_eq_false c20
       clear c20
       have H' := aS H
       clear H
       have hnb39 := NB331_336.out
       have hnc39 := NB336_331.out
       have hcz40_0 : wr.cell? ⟨gb331, 0, none⟩ = some (.slice A1_0 l1_0.length c1_0) := (blk_cell BK331.out 0).trans rfl
       have hcz40_1 : wr.cell? ⟨gb331, 1, none⟩ = some (.slice A1_1 l1_1.length c1_1) := (blk_cell BK331.out 1).trans rfl
       have hfz40_0 := blk_frozen BK331.out 0
       have hfz40_1 := blk_frozen BK331.out 1
       go_wp2
       go_loopg [41] k2 (fun kq v41 w' => ∃ (x41_3 : Int), v41 = .int .i64 x41_3 ∧ Aside0 (impl_WeakestPlace.l1 kq l0 (l1_1.length : Int) x41_3 l1_0 l1_1 t334 t335 = some (r1, r2, r3)) ∧ Aside0 (kq ≤ k2) ∧ Aside0 (w'.heap[gb331]? = some (.cells #[(.slice A1_0 l1_0.length c1_0), (.slice A1_1 l1_1.length c1_1)] 37 (0, 0))) ∧ Aside0 (w'.heap[gb336]? = some (.cells #[.int .i64 t334, .int .i64 t335] 51 (0, 0))) ∧ Aside0 (Below w.heap.size w w'))
       case atStart => exact ⟨(0), (by first | rfl | (simp; done) | (simp [*]; done) | (simp only [i64_w]; done) | (simp [i64_w]; done)), H', ⟨Nat.le_refl _⟩, ⟨by (with_reducible repeat (first | refine blk_drewN ?_ _ | refine blk_drew ?_ | refine blk_alloc ?_ _)); exact BK331.out⟩, ⟨by (with_reducible repeat (first | refine blk_drewN ?_ _ | refine blk_drew ?_ | refine blk_alloc ?_ _)); exact BK336.out⟩, ⟨by repeat (first | (with_reducible first | exact HB.out | apply below_alloc | apply pw_below_drewN | apply below_drew1 | refine below_set ?_ GE331.out | refine below_set ?_ GE336.out) | exact HB.out)⟩⟩
       case round =>
        clear H'
        (try clear c1); (try clear c2); (try clear p2); (try clear c3); (try clear p3); (try clear q3); (try clear hx3); (try clear c4); (try clear c6); (try clear p6); (try clear c8); (try clear c12); (try clear c16); (try clear c17); (try clear c20); (try clear c20b0); (try clear c21); (try clear c21b0); (try clear c22); (try clear c22b0); (try clear c24); (try clear c24b0); (try clear c24b1); (try clear c24b2); (try clear c26); (try clear c27); (try clear c33); (try clear p33); (try clear q33); (try clear hx33); (try clear c34); (try clear c39); (try clear hcz14_0); (try clear hcz14_1); (try clear hcz18_0); (try clear hcz18_1); (try clear hcz19_0); (try clear hcz19_1); (try clear hcz28_0); (try clear hcz28_1); (try clear hcz35_0); (try clear hcz35_1); (try clear hcz40_0); (try clear hcz40_1); (try clear hcz9_0); (try clear hcz9_1); (try clear hfz14_0); (try clear hfz14_1); (try clear hfz18_0); (try clear hfz18_1); (try clear hfz19_0); (try clear hfz19_1); (try clear hfz28_0); (try clear hfz28_1); (try clear hfz35_0); (try clear hfz35_1); (try clear hfz40_0); (try clear hfz40_1); (try clear hfz9_0); (try clear hfz9_1); (try clear hx337_0); (try clear hx337_1); (try clear p2); (try clear p337); (try clear q337)
        obtain ⟨x41_3, rfl, HA, HK3, BK331, BK336, HB⟩ := hrel
        cases gk with
        | zero => exact absurd HA.out (by simp [impl_WeakestPlace.l1])
        | succ k3 =>
         have H := HA.out
         clear HA
         simp only [impl_WeakestPlace.l1] at H
         by_cases c41 : x41_3 < (l1_1.length : Int)
         ·
          rw [if_pos c41] at H
          have c41b0 : decide (x41_3 < (l1_1.length : Int)) = true := decide_eq_true c41
          clear c41
          replace H := Option.bind_eq_some_iff.mp H
          obtain ⟨⟨t341, t342⟩, A420, H⟩ := H
          replace H : (if (t341 == t334 && (t342 == t335)) = true then (some ((⟨#[106, 111, 105, 110]⟩ : ByteArray), x41_3, 0)) else (impl_WeakestPlace.l1 k3 l0 (l1_1.length : Int) (wrap64 (x41_3 + 1)) l1_0 l1_1 t334 t335)) = some (r1, r2, r3) := H
          have A42 := aS A420
          clear A420
          by_cases c43 : (t341 == t334 && (t342 == t335)) = true
          ·
           rw [if_pos c43] at H
           have c43b0 : (t341 == t334 && (t342 == t335)) = true := c43
           (try (have c43b1 : decide (t341 = t334 && (t342 == t335)) = true := by simpa using c43))
           (try (have c43b2 : (t341 == t334 && (t342 == t335)) = true := by simpa using c43))
           clear c43
           simp only [Option.some.injEq, Prod.mk.injEq] at H
           obtain ⟨rfl, rfl, rfl⟩ := H
           try go_wp2
           have n0_ := aS (blk_drew BK331.out)
           have n1_ := aS (blk_drew BK336.out)
           have n2_ := aS (below_drew1 HB.out)
           clear BK331 BK336 HB
           have BK331 := n0_; have BK336 := n1_; have HB := n2_
           clear n0_ n1_ n2_
           refine start_ (n := 6) (S := fun w' => w'.cell? ⟨gb331, 0, none⟩ = some (.slice A1_0 l1_0.length c1_0) ∧ w'.cell? ⟨gb331, 1, none⟩ = some (.slice A1_1 l1_1.length c1_1) ∧ w'.cell? ⟨gb336, 0, none⟩ = some (.int .i64 t334) ∧ w'.cell? ⟨gb336, 1, none⟩ = some (.int .i64 t335)) (ds := []) #[false, false, false, false, false, false] (by kernel_rfl) rfl rfl ⟨(blk_cell BK331.out 0).trans rfl, (blk_cell BK331.out 1).trans rfl, (blk_cell BK336.out 0).trans rfl, (blk_cell BK336.out 1).trans rfl⟩ (fun hHeld => ?_)
           generalize wr.drew = w44 at BK331 BK336 HB hHeld ⊢
           refine pure_ (i := 0) (N := some 44) (v := ?_) (a' := ?_) #[true, false, false, false, false, false] rfl rfl (by kernel_rfl) (fun _ _ _ h => h) (Or.inl ⟨by rfl, ?_⟩) ?_ ?_
           rotate_left
           ·
            intro w'
            go_simp
            with_reducible rfl
           rotate_left
           ·
            simp only [Act.put, List.setIfInBounds_toArray, List.set_cons_zero, List.set_cons_succ, i64_w, i32_w]
            rfl
           refine pure_ (i := 2) (N := some 46) (v := ?_) (a' := ?_) #[true, false, true, false, false, false] rfl rfl (by kernel_rfl) (fun _ _ _ h => h) (Or.inl ⟨by rfl, ?_⟩) ?_ ?_
           rotate_left
           ·
            intro w'
            go_simp
            with_reducible rfl
           rotate_left
           ·
            simp only [Act.put, List.setIfInBounds_toArray, List.set_cons_zero, List.set_cons_succ, i64_w, i32_w]
            rfl
           refine take_ (i := 1) (N := some 45) (v := ?_) (a' := ?_) #[true, true, true, false, false, false] rfl rfl (by kernel_rfl) (fun _ _ _ h => h) (Or.inl ⟨by rfl, ?_⟩) hHeld ?_ ?_
           rotate_left
           ·
            rintro w' ⟨s0, s1, s2, s3⟩
            go_simp
            with_reducible rfl
           rotate_left
           ·
            simp only [Act.put, List.setIfInBounds_toArray, List.set_cons_zero, List.set_cons_succ, i64_w, i32_w]
            rfl
           refine take_ (i := 4) (N := some 48) (v := ?_) (a' := ?_) #[true, true, true, false, true, false] rfl rfl (by kernel_rfl) (fun _ _ _ h => h) (Or.inl ⟨by rfl, ?_⟩) hHeld ?_ ?_
           rotate_left
           ·
            rintro w' ⟨s0, s1, s2, s3⟩
            go_simp
            with_reducible rfl
           rotate_left
           ·
            simp only [Act.put, List.setIfInBounds_toArray, List.set_cons_zero, List.set_cons_succ, i64_w, i32_w]
            rfl
           refine one_ (i := 3) (N := some 47) #[true, true, true, true, true, false] rfl rfl (by kernel_rfl) (by decide) (fun K hK => ?_)
           refine goes_ Try.func72 (by kernel_rfl) rfl #[.slice A0 l0.length c0, .agg #[.slice A1_0 l1_0.length c1_0, .slice A1_1 l1_1.length c1_1], .int .i64 x41_3] (by rfl) rfl rfl sG ?_
           with_reducible refine (impl_strengthAt.calls k3 _ _ l0 _ _ l1_0 _ _ l1_1 x41_3 t341 t342 _ ?side1 ?side2 ?side3 ?side4 ?side5 ?side6 A42.out).mono ?_
           (case side1 => exact sC (Kd.C_below HR0.out HB.out))
           (case side2 => exact HC0.out)
           (case side3 => exact sC (Kd.C_below HR1_0.out HB.out))
           (case side4 => exact HC1_0.out)
           (case side5 => exact sC (Kd.C_below HR1_1.out HB.out))
           (case side6 => exact HC1_1.out)
           rintro e w45 ⟨rfl, hb⟩
           refine ⟨_, rfl, ?_⟩
           have n0_ := aS (blk_below (g := gb331) (o := .cells #[.slice A1_0 l1_0.length c1_0, .slice A1_1 l1_1.length c1_1] 37 (0, 0)) (sB BK331.out) hb)
           have n1_ := aS (blk_below (g := gb336) (o := .cells #[.int .i64 t334, .int .i64 t335] 51 (0, 0)) (sB BK336.out) hb)
           have n2_ := aS (below_step (sW HB.out) hb)
           clear BK331 BK336 HB
           have BK331 := n0_; have BK336 := n1_; have HB := n2_
           clear n0_ n1_ n2_
           (try clear hb); (try clear hb2); (try clear hk); (try clear hi)
           refine hK.out _ _ ⟨(blk_cell BK331.out 0).trans rfl, (blk_cell BK331.out 1).trans rfl, (blk_cell BK336.out 0).trans rfl, (blk_cell BK336.out 1).trans rfl⟩ (fun hHeld => ?_)
           clear hK K
           refine norm_ (a' := ?_) ?_ ?_
           rotate_left
           ·
            show Act.put _ (some 47) _ = _
            simp only [Act.put, List.setIfInBounds_toArray, List.set_cons_zero, List.set_cons_succ, i64_w, i32_w]
            rfl
           refine pure_ (i := 5) (N := some 49) (v := ?_) (a' := ?_) #[true, true, true, true, true, true] rfl rfl (by kernel_rfl) (fun _ _ _ h => h) (Or.inl ⟨by rfl, ?_⟩) ?_ ?_
           rotate_left
           ·
            intro w'
            go_simp
            with_reducible rfl
           rotate_left
           ·
            simp only [Act.put, List.setIfInBounds_toArray, List.set_cons_zero, List.set_cons_succ, i64_w, i32_w]
            rfl
           refine done_ (by kernel_rfl) ?_
           try go_wp2
           go_ret3
           exact ⟨by first | rfl | (simp [errW_none, errW_some, i64_w]; done) | (simp [errW_none, errW_some] <;> rfl) | (simp [*, errW_none, errW_some] <;> rfl), by repeat (first | (with_reducible first | exact HB.out | apply below_alloc | apply pw_below_drewN | apply below_drew1) | exact HB.out)⟩
          ·
           rw [if_neg c43] at H
           have c43b0 : (t341 == t334 && (t342 == t335)) = false := by simpa using c43
           (try (have c43b1 : decide (t341 = t334 && (t342 == t335)) = false := by simpa using c43))
           (try (have c43b2 : (t341 == t334 && (t342 == t335)) = false := by simpa using c43))
           (try (have c43b3 : ¬ (t341 = t334 && (t342 == t335)) := by simpa using c43))
           clear c43
           have H' := aS H
           clear H
           try go_wp2
           have n0_ := aS (blk_drew BK331.out)
           have n1_ := aS (blk_drew BK336.out)
           have n2_ := aS (below_drew1 HB.out)
           clear BK331 BK336 HB
           have BK331 := n0_; have BK336 := n1_; have HB := n2_
           clear n0_ n1_ n2_
           refine start_ (n := 6) (S := fun w' => w'.cell? ⟨gb331, 0, none⟩ = some (.slice A1_0 l1_0.length c1_0) ∧ w'.cell? ⟨gb331, 1, none⟩ = some (.slice A1_1 l1_1.length c1_1) ∧ w'.cell? ⟨gb336, 0, none⟩ = some (.int .i64 t334) ∧ w'.cell? ⟨gb336, 1, none⟩ = some (.int .i64 t335)) (ds := []) #[false, false, false, false, false, false] (by kernel_rfl) rfl rfl ⟨(blk_cell BK331.out 0).trans rfl, (blk_cell BK331.out 1).trans rfl, (blk_cell BK336.out 0).trans rfl, (blk_cell BK336.out 1).trans rfl⟩ (fun hHeld => ?_)
           generalize wr.drew = w46 at BK331 BK336 HB hHeld ⊢
           refine pure_ (i := 0) (N := some 44) (v := ?_) (a' := ?_) #[true, false, false, false, false, false] rfl rfl (by kernel_rfl) (fun _ _ _ h => h) (Or.inl ⟨by rfl, ?_⟩) ?_ ?_
           rotate_left
           ·
            intro w'
            go_simp
            with_reducible rfl
           rotate_left
           ·
            simp only [Act.put, List.setIfInBounds_toArray, List.set_cons_zero, List.set_cons_succ, i64_w, i32_w]
            rfl
           refine pure_ (i := 2) (N := some 46) (v := ?_) (a' := ?_) #[true, false, true, false, false, false] rfl rfl (by kernel_rfl) (fun _ _ _ h => h) (Or.inl ⟨by rfl, ?_⟩) ?_ ?_
           rotate_left
           ·
            intro w'
            go_simp
            with_reducible rfl
           rotate_left
           ·
            simp only [Act.put, List.setIfInBounds_toArray, List.set_cons_zero, List.set_cons_succ, i64_w, i32_w]
            rfl
           refine take_ (i := 1) (N := some 45) (v := ?_) (a' := ?_) #[true, true, true, false, false, false] rfl rfl (by kernel_rfl) (fun _ _ _ h => h) (Or.inl ⟨by rfl, ?_⟩) hHeld ?_ ?_
           rotate_left
           ·
            rintro w' ⟨s0, s1, s2, s3⟩
            go_simp
            with_reducible rfl
           rotate_left
           ·
            simp only [Act.put, List.setIfInBounds_toArray, List.set_cons_zero, List.set_cons_succ, i64_w, i32_w]
            rfl
           refine take_ (i := 4) (N := some 48) (v := ?_) (a' := ?_) #[true, true, true, false, true, false] rfl rfl (by kernel_rfl) (fun _ _ _ h => h) (Or.inl ⟨by rfl, ?_⟩) hHeld ?_ ?_
           rotate_left
           ·
            rintro w' ⟨s0, s1, s2, s3⟩
            go_simp
            with_reducible rfl
           rotate_left
           ·
            simp only [Act.put, List.setIfInBounds_toArray, List.set_cons_zero, List.set_cons_succ, i64_w, i32_w]
            rfl
           refine one_ (i := 3) (N := some 47) #[true, true, true, true, true, false] rfl rfl (by kernel_rfl) (by decide) (fun K hK => ?_)
           refine goes_ Try.func72 (by kernel_rfl) rfl #[.slice A0 l0.length c0, .agg #[.slice A1_0 l1_0.length c1_0, .slice A1_1 l1_1.length c1_1], .int .i64 x41_3] (by rfl) rfl rfl sG ?_
           with_reducible refine (impl_strengthAt.calls k3 _ _ l0 _ _ l1_0 _ _ l1_1 x41_3 t341 t342 _ ?side1 ?side2 ?side3 ?side4 ?side5 ?side6 A42.out).mono ?_
           (case side1 => exact sC (Kd.C_below HR0.out HB.out))
           (case side2 => exact HC0.out)
           (case side3 => exact sC (Kd.C_below HR1_0.out HB.out))
           (case side4 => exact HC1_0.out)
           (case side5 => exact sC (Kd.C_below HR1_1.out HB.out))
           (case side6 => exact HC1_1.out)
           rintro e w47 ⟨rfl, hb⟩
           refine ⟨_, rfl, ?_⟩
           have n0_ := aS (blk_below (g := gb331) (o := .cells #[.slice A1_0 l1_0.length c1_0, .slice A1_1 l1_1.length c1_1] 37 (0, 0)) (sB BK331.out) hb)
           have n1_ := aS (blk_below (g := gb336) (o := .cells #[.int .i64 t334, .int .i64 t335] 51 (0, 0)) (sB BK336.out) hb)
           have n2_ := aS (below_step (sW HB.out) hb)
           clear BK331 BK336 HB
           have BK331 := n0_; have BK336 := n1_; have HB := n2_
           clear n0_ n1_ n2_
           (try clear hb); (try clear hb2); (try clear hk); (try clear hi)
           refine hK.out _ _ ⟨(blk_cell BK331.out 0).trans rfl, (blk_cell BK331.out 1).trans rfl, (blk_cell BK336.out 0).trans rfl, (blk_cell BK336.out 1).trans rfl⟩ (fun hHeld => ?_)
           clear hK K
           refine norm_ (a' := ?_) ?_ ?_
           rotate_left
           ·
            show Act.put _ (some 47) _ = _
            simp only [Act.put, List.setIfInBounds_toArray, List.set_cons_zero, List.set_cons_succ, i64_w, i32_w]
            rfl
           refine pure_ (i := 5) (N := some 49) (v := ?_) (a' := ?_) #[true, true, true, true, true, true] rfl rfl (by kernel_rfl) (fun _ _ _ h => h) (Or.inl ⟨by rfl, ?_⟩) ?_ ?_
           rotate_left
           ·
            intro w'
            go_simp
            with_reducible rfl
           rotate_left
           ·
            simp only [Act.put, List.setIfInBounds_toArray, List.set_cons_zero, List.set_cons_succ, i64_w, i32_w]
            rfl
           refine done_ (by kernel_rfl) ?_
           try go_wp2
           go_roundg k3
           case measure => have := HJ2.out; have := HK2.out; have := HK3.out; omega
           case rel => exact ⟨(wrap64 (x41_3 + 1)), (by first | rfl | (simp; done) | (simp [*]; done) | (simp only [i64_w]; done) | (simp [i64_w]; done)), H', ⟨by have := HJ2.out; have := HK2.out; have := HK3.out; omega⟩, ⟨by (with_reducible repeat (first | refine blk_drewN ?_ _ | refine blk_drew ?_ | refine blk_alloc ?_ _)); exact BK331.out⟩, ⟨by (with_reducible repeat (first | refine blk_drewN ?_ _ | refine blk_drew ?_ | refine blk_alloc ?_ _)); exact BK336.out⟩, ⟨by repeat (first | (with_reducible first | exact HB.out | apply below_alloc | apply pw_below_drewN | apply below_drew1 | refine below_set ?_ GE331.out | refine below_set ?_ GE336.out) | exact HB.out)⟩⟩
         ·
          rw [if_neg c41] at H
          have c41b0 : decide (x41_3 < (l1_1.length : Int)) = false := decide_eq_false c41
          clear c41
          simp only [Option.some.injEq, Prod.mk.injEq] at H
          obtain ⟨rfl, rfl, rfl⟩ := H
          go_wp2
          go_ret3
          exact ⟨by first | rfl | (simp [errW_none, errW_some, i64_w]; done) | (simp [errW_none, errW_some] <;> rfl) | (simp [*, errW_none, errW_some] <;> rfl), by repeat (first | (with_reducible first | exact HB.out | apply below_alloc | apply pw_below_drewN | apply below_drew1) | exact HB.out)⟩

end Go.Proofs.Ytdgodlccejoibaa.QFnExactWeakestPlace

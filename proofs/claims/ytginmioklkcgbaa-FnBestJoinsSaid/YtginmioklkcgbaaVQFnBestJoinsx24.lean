/- What the Go functions of this law compute, each as a Lean function, and that each call comes to that answer; written by a program of this session. No condition. -/
import Derived.Test.YtginmioklkcgbaaVShn
import Derived.Test.YtginmioklkcgbaaVQFnBestJoinsx0
import Derived.Test.YtginmioklkcgbaaVQFnBestJoinsx2
import Derived.Test.YtginmioklkcgbaaVQFnBestJoinsx5
import Derived.Test.YtginmioklkcgbaaVQFnBestJoinsx6
import Derived.Test.YtginmioklkcgbaaVQFnBestJoinsx11
import Derived.Test.YtginmioklkcgbaaVQFnBestJoinsx12
import Derived.Test.YtginmioklkcgbaaVQFnBestJoinsx14
import Derived.Test.YtginmioklkcgbaaVQFnBestJoinsx15
import Derived.Test.YtginmioklkcgbaaVQFnBestJoinsx17
import Derived.Test.YtginmioklkcgbaaVQFnBestJoinsx19
import Derived.Test.YtginmioklkcgbaaVQFnBestJoinsx21
import Derived.Test.YtginmioklkcgbaaVQFnBestJoinsx22
import Derived.Test.YtginmioklkcgbaaVQFnBestJoinsx23
namespace Go.Proofs.Ytginmioklkcgbaa.QFnBestJoins
open Go.RowKit Go.Proofs.YtginmioklkcgbaaW.PrintWords Go.Proofs.YtginmioklkcgbaaW.PrintLast Go.Proofs.YtginmioklkcgbaaW.PrintMore
attribute [local go_sem] max2_int min2_int max_two min_two max_three min_three max_four min_four   -- for this text's walks alone
set_option linter.unusedVariables false
set_option linter.unusedSimpArgs false

attribute [local go_sem high] eqA55
/-! ### laws_FnBestJoins: function 4 -/
mutual
def laws_FnBestJoins.j0 : Nat → List (S61) → Int → Int → Int → List (S61) → List (S45) → Int → Int → Bool → Int → Int → Int → Int → List (S45) → List Int → List (S45) → List Int → Option (Bool)
 | 0, _, _, _, _, _, _, _, _, _, _, _, _, _, _, _, _, _ => none
 | k + 1, x3, x6, x8, x9, x11, x12, x13, x15, x124, x734000, x734001, x735000, x735001, x754000, x754001, x762000, x762001 => if x124 = true then (some false) else (if x15 = 0 then ((impl_LineStrength.f k x11 x754000 x754001).bind fun bt782 => ((impl_ValidLine.f k x11 x754000 x754001).bind fun t786 => (if t786 = true then (if bt782.2.2 = 0 then (if bt782.2.1 < 1 then (some false) else (if bt782.2.1 > 1000 then (some false) else (if bt782.1 < (wrap64 (x13 * bt782.2.1)) then (some false) else (if (x762000.length : Int) > (x12.length : Int) then (some false) else (laws_FnBestJoins.j1 k x3 x6 x8 x9 x734000 x734001 x735000 x735001))))) else (some false)) else (some false)))) else (laws_FnBestJoins.j1 k x3 x6 x8 x9 x734000 x734001 x735000 x735001))
def laws_FnBestJoins.j1 : Nat → List (S61) → Int → Int → Int → Int → Int → Int → Int → Option (Bool)
 | 0, _, _, _, _, _, _, _, _ => none
 | k + 1, x3, x6, x8, x9, x734000, x734001, x735000, x735001 => if x8 = 0 then (laws_FnBestJoins.l0 k x3 x6 x9 0 x734000 x734001 x735000 x735001) else (some true)
def laws_FnBestJoins.l0 : Nat → List (S61) → Int → Int → Int → Int → Int → Int → Int → Option (Bool)
 | 0, _, _, _, _, _, _, _, _ => none
 | k + 1, x3, x6, x9, x27, x734000, x734001, x735000, x735001 => if x27 < (x3.length : Int) then ((impl_StrengthAt.f k x3 (([(⟨x734000, 100000⟩ : S45), (⟨x735000, 100000⟩ : S45)] : List (S45))) (([x27] : List Int)) 0).bind fun bt793 => (if bt793.2.2 = 0 then (if bt793.2.1 < 1 then (laws_FnBestJoins.j3 k x3 x6 x9 x27 true x734000 x734001 x735000 x735001 bt793.1 bt793.2.1) else (laws_FnBestJoins.j3 k x3 x6 x9 x27 (decide (bt793.2.1 > 1000)) x734000 x734001 x735000 x735001 bt793.1 bt793.2.1)) else (laws_FnBestJoins.j3 k x3 x6 x9 x27 true x734000 x734001 x735000 x735001 bt793.1 bt793.2.1))) else (some true)
def laws_FnBestJoins.j3 : Nat → List (S61) → Int → Int → Int → Bool → Int → Int → Int → Int → Int → Int → Option (Bool)
 | 0, _, _, _, _, _, _, _, _, _, _, _ => none
 | k + 1, x3, x6, x9, x27, x202, x734000, x734001, x735000, x735001, x797000, x797001 => if x202 = true then (some false) else (if x27 = x9 then (if x797000 ≥ (wrap64 (x6 * x797001)) then (if 0 ≤ x27 then (if x27 < (x3.length : Int) then (if 0 ≤ x9 then (if x9 < (x3.length : Int) then (if ((rd_T61 x3 x27).f2) < ((rd_T61 x3 x9).f2) then (some false) else (laws_FnBestJoins.l0 k x3 x6 x9 (wrap64 (x27 + 1)) x734000 x734001 x735000 x735001)) else (none)) else (none)) else (none)) else (none)) else (some false)) else (if x797000 ≥ (wrap64 (x6 * x797001)) then (if 0 ≤ x27 then (if x27 < (x3.length : Int) then (if 0 ≤ x9 then (if x9 < (x3.length : Int) then (if ((rd_T61 x3 x27).f2) < ((rd_T61 x3 x9).f2) then (some false) else (laws_FnBestJoins.l0 k x3 x6 x9 (wrap64 (x27 + 1)) x734000 x734001 x735000 x735001)) else (none)) else (none)) else (none)) else (none)) else (laws_FnBestJoins.l0 k x3 x6 x9 (wrap64 (x27 + 1)) x734000 x734001 x735000 x735001)))
end
def laws_FnBestJoins.f (k : Nat) (l0 : List Int) : Option (Bool) := (laws_f6big.f l0).bind fun t724 => (if t724 = true then (some true) else ((spec_DrawBestJoin.f k l0).bind fun bt725 => ((impl_BestJoin.f k bt725.1 bt725.2.1 bt725.2.2.1 bt725.2.2.2.1 bt725.2.2.2.2.1 bt725.2.2.2.2.2).bind fun bt735 => ((spec_BestJoin.f k bt725.1 bt725.2.1 bt725.2.2.1 bt725.2.2.2.1 bt725.2.2.2.2.1 bt725.2.2.2.2.2).bind fun bt737 => ((spec_DrawLongestLine.f k l0).bind fun bt739 => ((impl_LongestLine.f k bt739.1 bt739.2.1 bt739.2.2).bind fun bt746 => ((spec_LongestLine.f k bt739.1 bt739.2.1 bt739.2.2).bind fun bt754 => ((spec_DrawStrengthAt.f k l0).bind fun bt762 => ((impl_StrengthAt.f k bt762.1 bt762.2.1 bt762.2.2.1 bt762.2.2.2).bind fun bt773 => ((spec_StrengthAt.f k bt762.1 bt762.2.1 bt762.2.2.1 bt762.2.2.2).bind fun bt777 => (if bt735.2 = bt737.2 then (if bt735.1 = bt737.1 then (if bt746.2.2 = bt754.2.2 then ((spec_SameLine.f k bt746.1 bt746.2.1 bt754.1 bt754.2.1).bind fun t781 => (if t781 = true then (if bt773.2.2 = bt777.2.2 then (laws_FnBestJoins.j0 k bt725.1 bt725.2.2.2.2.2 bt735.2 bt737.1 bt739.1 bt739.2.1 bt739.2.2 bt746.2.2 (!(bt773.1 == bt777.1) || (!(bt773.2.1 == bt777.2.1))) bt725.2.1 bt725.2.2.1 bt725.2.2.2.1 bt725.2.2.2.2.1 bt746.1 bt746.2.1 bt754.1 bt754.2.1) else (laws_FnBestJoins.j0 k bt725.1 bt725.2.2.2.2.2 bt735.2 bt737.1 bt739.1 bt739.2.1 bt739.2.2 bt746.2.2 true bt725.2.1 bt725.2.2.1 bt725.2.2.2.1 bt725.2.2.2.2.1 bt746.1 bt746.2.1 bt754.1 bt754.2.1)) else (laws_FnBestJoins.j0 k bt725.1 bt725.2.2.2.2.2 bt735.2 bt737.1 bt739.1 bt739.2.1 bt739.2.2 bt746.2.2 true bt725.2.1 bt725.2.2.1 bt725.2.2.2.1 bt725.2.2.2.2.1 bt746.1 bt746.2.1 bt754.1 bt754.2.1))) else (laws_FnBestJoins.j0 k bt725.1 bt725.2.2.2.2.2 bt735.2 bt737.1 bt739.1 bt739.2.1 bt739.2.2 bt746.2.2 true bt725.2.1 bt725.2.2.1 bt725.2.2.2.1 bt725.2.2.2.2.1 bt746.1 bt746.2.1 bt754.1 bt754.2.1)) else (laws_FnBestJoins.j0 k bt725.1 bt725.2.2.2.2.2 bt735.2 bt737.1 bt739.1 bt739.2.1 bt739.2.2 bt746.2.2 true bt725.2.1 bt725.2.2.1 bt725.2.2.2.1 bt725.2.2.2.2.1 bt746.1 bt746.2.1 bt754.1 bt754.2.1)) else (laws_FnBestJoins.j0 k bt725.1 bt725.2.2.2.2.2 bt735.2 bt737.1 bt739.1 bt739.2.1 bt739.2.2 bt746.2.2 true bt725.2.1 bt725.2.2.1 bt725.2.2.2.1 bt725.2.2.2.2.1 bt746.1 bt746.2.1 bt754.1 bt754.2.1))))))))))))
theorem laws_FnBestJoins.mono_l : ∀ k, (∀ y0 y1 y2 y3 y4 y5 y6 y7 y8 y9 y10 y11 y12 y13 y14 y15 y16, LeO (laws_FnBestJoins.j0 k y0 y1 y2 y3 y4 y5 y6 y7 y8 y9 y10 y11 y12 y13 y14 y15 y16) (laws_FnBestJoins.j0 (k + 1) y0 y1 y2 y3 y4 y5 y6 y7 y8 y9 y10 y11 y12 y13 y14 y15 y16)) ∧ (∀ y0 y1 y2 y3 y4 y5 y6 y7, LeO (laws_FnBestJoins.j1 k y0 y1 y2 y3 y4 y5 y6 y7) (laws_FnBestJoins.j1 (k + 1) y0 y1 y2 y3 y4 y5 y6 y7)) ∧ (∀ y0 y1 y2 y3 y4 y5 y6 y7, LeO (laws_FnBestJoins.l0 k y0 y1 y2 y3 y4 y5 y6 y7) (laws_FnBestJoins.l0 (k + 1) y0 y1 y2 y3 y4 y5 y6 y7)) ∧ (∀ y0 y1 y2 y3 y4 y5 y6 y7 y8 y9 y10, LeO (laws_FnBestJoins.j3 k y0 y1 y2 y3 y4 y5 y6 y7 y8 y9 y10) (laws_FnBestJoins.j3 (k + 1) y0 y1 y2 y3 y4 y5 y6 y7 y8 y9 y10))
 | 0 => by refine ⟨?_, ?_, ?_, ?_⟩ <;> (intros; intro r h; simp [laws_FnBestJoins.j0, laws_FnBestJoins.j1, laws_FnBestJoins.l0, laws_FnBestJoins.j3] at h)
 | k + 1 => by
  obtain ⟨ih0, ih1, ih2, ih3⟩ := laws_FnBestJoins.mono_l k
  refine ⟨?_, ?_, ?_, ?_⟩ <;> (intros; (first | unfold laws_FnBestJoins.j0 | unfold laws_FnBestJoins.j1 | unfold laws_FnBestJoins.l0 | unfold laws_FnBestJoins.j3); repeat' first | (with_reducible first | exact ih0 _ _ _ _ _ _ _ _ _ _ _ _ _ _ _ _ _ | exact ih1 _ _ _ _ _ _ _ _ | exact ih2 _ _ _ _ _ _ _ _ | exact ih3 _ _ _ _ _ _ _ _ _ _ _ | exact impl_BestJoin.mono _ _ _ _ _ _ _ | exact impl_LineStrength.mono _ _ _ _ | exact impl_LongestLine.mono _ _ _ _ | exact impl_StrengthAt.mono _ _ _ _ _ | exact impl_ValidLine.mono _ _ _ _ | exact spec_BestJoin.mono _ _ _ _ _ _ _ | exact spec_DrawBestJoin.mono _ _ | exact spec_DrawLongestLine.mono _ _ | exact spec_DrawStrengthAt.mono _ _ | exact spec_LongestLine.mono _ _ _ _ | exact spec_SameLine.mono _ _ _ _ _ | exact spec_StrengthAt.mono _ _ _ _ _ | exact LeO.refl _ | exact LeO.none _ | refine LeO.ite ?_ ?_ | refine LeO.bind ?_ (fun _ => ?_)) | refine LeO.ite ?_ ?_ | refine LeO.bind ?_ (fun _ => ?_))
theorem laws_FnBestJoins.mono : ∀ a0 k, LeO (laws_FnBestJoins.f k a0) (laws_FnBestJoins.f (k + 1) a0) := by
 intro a0 k
 obtain ⟨ih0, ih1, ih2, ih3⟩ := laws_FnBestJoins.mono_l k
 unfold laws_FnBestJoins.f
 repeat' first | (with_reducible first | exact ih0 _ _ _ _ _ _ _ _ _ _ _ _ _ _ _ _ _ | exact ih1 _ _ _ _ _ _ _ _ | exact ih2 _ _ _ _ _ _ _ _ | exact ih3 _ _ _ _ _ _ _ _ _ _ _ | exact impl_BestJoin.mono _ _ _ _ _ _ _ | exact impl_LineStrength.mono _ _ _ _ | exact impl_LongestLine.mono _ _ _ _ | exact impl_StrengthAt.mono _ _ _ _ _ | exact impl_ValidLine.mono _ _ _ _ | exact spec_BestJoin.mono _ _ _ _ _ _ _ | exact spec_DrawBestJoin.mono _ _ | exact spec_DrawLongestLine.mono _ _ | exact spec_DrawStrengthAt.mono _ _ | exact spec_LongestLine.mono _ _ _ _ | exact spec_SameLine.mono _ _ _ _ _ | exact spec_StrengthAt.mono _ _ _ _ _ | exact LeO.refl _ | exact LeO.none _ | refine LeO.ite ?_ ?_ | refine LeO.bind ?_ (fun _ => ?_)) | refine LeO.ite ?_ ?_ | refine LeO.bind ?_ (fun _ => ?_)
def laws_FnBestJoins.bF (n k : Nat) : Array Bool := ((List.range n).map fun i => k.testBit i).toArray
set_option maxHeartbeats 8000000 in
set_option maxRecDepth 100000 in
theorem laws_FnBestJoins.calls (k : Nat) (A0 : Option Addr) (c0 : Nat) (l0 : List Int) (w : World) (hr0 : Kd.C (Kd.int .u8) w A0 l0.length l0) (hc0 : l0.length ≤ c0) (h : laws_FnBestJoins.f k l0 = some true) :
  Calls Try.prog 4 #[.slice A0 l0.length c0] w fun e w' => e = .returned (.bool true) ∧ Below w.heap.size w w' := by
 have hu45 := Try.underlying45
 have hu29 := Try.underlying29
 have hu55 := Try.underlying55
 have HR0 := aS hr0
 have HC0 := aS hc0
 clear hr0 hc0
 have HB := aS (Below.refl w.heap.size w)
 have H := h
 clear h
 unfold laws_FnBestJoins.f at H
 replace H := bE H; obtain ⟨t724, A2, H⟩ := H; try dsimp only at H
 have HC3 := aS H
 clear H
 go_enter Try.func4, Try.ntmps4
 go_upto_if 32 with (first | (go_at_call 20; (with_reducible refine (laws_f6big.calls _ _ l0 t724 _ ?side1 ?side2 A2.out).mono ?_); (case side1 => exact sC HR0.out); (case side2 => exact HC0.out); rintro e w' ⟨rfl, ⟨nd, rfl⟩⟩; (try exact eW)) | ((with_reducible refine gR ?_); go_quiet (first | (go_at_call 20; (with_reducible refine (laws_f6big.calls _ _ l0 t724 _ ?side1 ?side2 A2.out).mono ?_); (case side1 => exact sC HR0.out); (case side2 => exact HC0.out); rintro e w' ⟨rfl, ⟨nd, rfl⟩⟩; (try exact eW)))))
 (try simp only [Act.put, List.setIfInBounds_toArray, List.set_cons_zero, List.set_cons_succ])
 have H := HC3.out
 clear HC3
 by_cases c4 : t724 = true
 ·
  subst c4
  have H1 : (some true) = some true := rfl
  clear H
  have H := H1
  clear H1 H
  go_wp2
  repeat (go_quiet (fail); try go_wp2)
  go_ret
  exact ⟨eE, sW HB.out⟩
 ·
  replace c4 := Bool.eq_false_iff.mpr c4
  subst c4
  rw [if_neg (show ¬ (false = true) by decide)] at H
  replace H := bE H; obtain ⟨⟨t725, t728, t729, t730, t731, t732⟩, A5, H⟩ := H; try dsimp only at H
  replace H := bE H; obtain ⟨⟨t735, t736⟩, A6, H⟩ := H; try dsimp only at H
  replace H := bE H; obtain ⟨⟨t737, t738⟩, A7, H⟩ := H; try dsimp only at H
  replace H := bE H; obtain ⟨⟨t739, t740, t741⟩, A8, H⟩ := H; try dsimp only at H
  replace H := bE H; obtain ⟨⟨t746, t749, t752⟩, A9, H⟩ := H; try dsimp only at H
  replace H := bE H; obtain ⟨⟨t754, t757, t760⟩, A10, H⟩ := H; try dsimp only at H
  replace H := bE H; obtain ⟨⟨t762, t765, t768, t771⟩, A11, H⟩ := H; try dsimp only at H
  replace H := bE H; obtain ⟨⟨t773, t774, t775⟩, A12, H⟩ := H; try dsimp only at H
  replace H := bE H; obtain ⟨⟨t777, t778, t779⟩, A13, H⟩ := H; try dsimp only at H
  have HC14 := aS H
  clear H
  go_upto_region 12 with (first | (go_at_call 21; (with_reducible refine (spec_DrawBestJoin.calls k _ _ l0 t725 t728 t729 t730 t731 t732 _ ?side1 ?side2 A5.out).mono ?_); (case side1 => exact sC (Kd.C_below HR0.out HB.out)); (case side2 => exact HC0.out); rintro e w15 ⟨v726, rfl, ho0, hb⟩; have HO727 := aS (Kd.R_lower ho0 (below_size (sW HB.out))); replace HB := aS (below_step (sW HB.out) hb)) | ((with_reducible refine gate_dst (N := 4) rfl ?_); (try (refine gate_guard (by rfl) ?_; dsimp only)); refine bx 4 #[.int .i64 0, .int .i64 0] 45 ?_; intro gb733 hg w16 hbox hb; replace HO727 := aS (Kd.R_below (sR HO727.out) hb); have BK733 := aS (hbox); have GW733 := aS (gW hg (sW HB.out)); have GE733 := aS (gW hg (sW HB.out)); replace HB := aS (below_step (sW HB.out) hb); clear hb hbox hg) | ((with_reducible refine gate_dst (N := 5) rfl ?_); (try (refine gate_guard (by rfl) ?_; dsimp only)); refine bx 5 #[.int .i64 0, .int .i64 0] 45 ?_; intro gb734 hg w17 hbox hb; replace HO727 := aS (Kd.R_below (sR HO727.out) hb); have BK734 := aS (hbox); have GW734 := aS (gW hg (sW HB.out)); have GE734 := aS (gW hg (sW HB.out)); replace HB := aS (below_step (sW HB.out) hb); have NB733_734 := aS (nL hg (sB BK733.out)); have NB734_733 := aS (nG hg (sB BK733.out)); replace BK733 := aS (blk_below (sB BK733.out) hb); clear hb hbox hg; have hnb18 := NB733_734.out; have hnc18 := NB734_733.out; obtain ⟨hcz19_0, hcz19_1, hfz19_0, hfz19_1⟩ := z2 BK733.out; obtain ⟨hcz20_0, hcz20_1, hfz20_0, hfz20_1⟩ := z2 BK734.out; obtain ⟨Ao21, co21, eo21⟩ := Kd.R_slice HO727.out; subst eo21) | (go_at_call 22; (with_reducible refine (impl_BestJoin.calls k _ _ t725 t728 t729 t730 t731 t732 t735 t736 _ ?side1 ?side2 A6.out).mono ?_); (case side1 => refine (Kd.R_reads' (e := 61) (base := w.heap.size) (ok := fun k_ => True) (n := t725.length) (c := co21) ?_).2.2; exact (sR (Kd.R_mono (Kd.R_mono (Kd.R_far (p := ⟨gb734, 1, none⟩) (Kd.R_far (p := ⟨gb734, 0, none⟩) (rG (g := gb733) (Kd.R_types (Kd.R_types HO727.out BK733.out (by decide)) BK734.out (by decide)) (fun _ hk => hk.1.2)) (fun _ hk => hk.2) (.int .i64 t730)) (fun _ hk => hk.2) (.int .i64 t731)) (fun _ h_ => h_.1)) (fun _ h_ => h_.1)))); (case side2 => exact (Kd.R_reads' HO727.out).2.1); rintro e w22 ⟨rfl, hb⟩; replace HO727 := aS (Kd.R_below (sR (Kd.R_mono (Kd.R_mono (Kd.R_far (p := ⟨gb734, 1, none⟩) (Kd.R_far (p := ⟨gb734, 0, none⟩) (rG (g := gb733) (Kd.R_types (Kd.R_types HO727.out BK733.out (by decide)) BK734.out (by decide)) (fun _ hk => hk.1.2)) (fun _ hk => hk.2) (.int .i64 t730)) (fun _ hk => hk.2) (.int .i64 t731)) (fun _ h_ => h_.1)) (fun _ h_ => h_.1))) hb); replace BK733 := aS (blk_below (g := gb733) (o := .cells #[.int .i64 t728, .int .i64 t729] 45 (0, 0)) (by exact sZ BK733.out) hb); replace BK734 := aS (blk_below (g := gb734) (o := .cells #[.int .i64 t730, .int .i64 t731] 45 (0, 0)) (by exact sZ BK734.out) hb); replace HB := aS (below_step (sW HB.out) hb); (try clear hb); (try clear hb2); (try clear hk); (try clear hi); obtain ⟨hcz23_0, hcz23_1, hfz23_0, hfz23_1⟩ := z2 BK733.out; obtain ⟨hcz24_0, hcz24_1, hfz24_0, hfz24_1⟩ := z2 BK734.out) | (go_at_call 23; (with_reducible refine (spec_BestJoin.calls k _ _ t725 t728 t729 t730 t731 t732 t737 t738 _ ?side1 ?side2 A7.out).mono ?_); (case side1 => exact sC (Kd.R_reads' HO727.out).2.2); (case side2 => exact (Kd.R_reads' HO727.out).2.1); rintro e w25 ⟨rfl, hb⟩; replace HO727 := aS (Kd.R_below (sR HO727.out) hb); replace BK733 := aS (blk_below (sB BK733.out) hb); replace BK734 := aS (blk_below (sB BK734.out) hb); replace HB := aS (below_step (sW HB.out) hb)) | (go_at_call 24; (with_reducible refine (spec_DrawLongestLine.calls k _ _ l0 t739 t740 t741 _ ?side1 ?side2 A8.out).mono ?_); (case side1 => exact sC (Kd.C_below HR0.out HB.out)); (case side2 => exact HC0.out); rintro e w26 ⟨v742, v744, rfl, ho0, ho1, hb⟩; have HO743 := aS (Kd.R_lower (Kd.R_new' ho0 (Kd.R_lt (sR HO727.out))) (below_size (sW HB.out))); replace HO727 := aS (Kd.R_elder' (sR HO727.out) (Kd.R_base ho0) hb); have HO745 := aS (Kd.R_lower (Kd.R_newB (Kd.R_newB ho1 (g := gb733) (o := .cells #[.int .i64 t728, .int .i64 t729] 45 (0, 0)) (sB BK733.out)) (g := gb734) (o := .cells #[.int .i64 t730, .int .i64 t731] 45 (0, 0)) (sB BK734.out)) (below_size (sW HB.out))); replace BK733 := aS (blk_below (sB BK733.out) hb); replace BK734 := aS (blk_below (sB BK734.out) hb); replace HB := aS (below_step (sW HB.out) hb); (try clear hb); (try clear hb2); (try clear hk); (try clear hi); (try clear ho0); (try clear ho1); obtain ⟨Ao27, co27, eo27⟩ := Kd.R_slice HO743.out; subst eo27; obtain ⟨Ao28, co28, eo28⟩ := Kd.R_slice HO745.out; subst eo28) | (go_at_call 12; (with_reducible refine (impl_LongestLine.calls k _ _ t739 _ _ t740 t741 t746 t749 t752 _ ?side1 ?side2 ?side3 ?side4 A9.out).mono ?_); (case side1 => exact sC (Kd.R_reads' HO743.out).2.2); (case side2 => exact (Kd.R_reads' HO743.out).2.1); (case side3 => exact sC (Kd.R_reads' HO745.out).2.2); (case side4 => exact (Kd.R_reads' HO745.out).2.1); rintro e w29 ⟨v747, v750, rfl, ho0, ho1, hb⟩; replace HO727 := aS (Kd.R_below (sR HO727.out) hb); replace HO743 := aS (Kd.R_below (sR HO743.out) hb); have HO748 := aS (Kd.R_lower (Kd.R_newB (Kd.R_newB (Kd.R_new' ho0 (Kd.R_lt (sR HO745.out))) (g := gb733) (o := .cells #[.int .i64 t728, .int .i64 t729] 45 (0, 0)) (sB BK733.out)) (g := gb734) (o := .cells #[.int .i64 t730, .int .i64 t731] 45 (0, 0)) (sB BK734.out)) (below_size (sW HB.out))); replace HO745 := aS (Kd.R_elder' (sR HO745.out) (Kd.R_base ho0) hb); have HO751 := aS (Kd.R_lower ho1 (below_size (sW HB.out))); replace BK733 := aS (blk_below (sB BK733.out) hb); replace BK734 := aS (blk_below (sB BK734.out) hb); replace HB := aS (below_step (sW HB.out) hb)) | ((with_reducible refine gate_dst (N := 14) rfl ?_); (try (refine gate_guard (by rfl) ?_; dsimp only)); refine bx 14 #[.slice none 0 0, .slice none 0 0] 29 ?_; intro gb753 hg w30 hbox hb; replace HO727 := aS (Kd.R_below (sR HO727.out) hb); replace HO743 := aS (Kd.R_below (sR HO743.out) hb); replace HO745 := aS (Kd.R_below (sR HO745.out) hb); replace HO748 := aS (Kd.R_below (sR HO748.out) hb); replace HO751 := aS (Kd.R_below (sR HO751.out) hb); have BK753 := aS (hbox); have GW753 := aS (gW hg (sW HB.out)); have GE753 := aS (gW hg (sW HB.out)); replace HB := aS (below_step (sW HB.out) hb); have NB733_753 := aS (nL hg (sB BK733.out)); have NB753_733 := aS (nG hg (sB BK733.out)); replace BK733 := aS (blk_below (sB BK733.out) hb); have NB734_753 := aS (nL hg (sB BK734.out)); have NB753_734 := aS (nG hg (sB BK734.out)); replace BK734 := aS (blk_below (sB BK734.out) hb); clear hb hbox hg; obtain ⟨Ao31, co31, eo31⟩ := Kd.R_slice HO748.out; subst eo31; have hnb32 := NB753_733.out; have hnc32 := NB733_753.out; have hnb33 := NB753_734.out; have hnc33 := NB734_753.out; obtain ⟨hcz34_0, hcz34_1, hfz34_0, hfz34_1⟩ := z2 BK753.out; obtain ⟨Ao35, co35, eo35⟩ := Kd.R_slice HO751.out; subst eo35) | (go_at_call 9; (with_reducible refine (spec_LongestLine.calls k _ _ t739 _ _ t740 t741 t754 t757 t760 _ ?side1 ?side2 ?side3 ?side4 A10.out).mono ?_); (case side1 => exact sRC (rF HO743.out BK753.out)); (case side2 => exact (Kd.R_reads' HO743.out).2.1); (case side3 => exact sRC (rF HO745.out BK753.out)); (case side4 => exact (Kd.R_reads' HO745.out).2.1); rintro e w36 ⟨v755, v758, rfl, ho0, ho1, hb⟩; replace HO727 := aS (Kd.R_below (sR (rF HO727.out BK753.out)) hb); replace HO743 := aS (Kd.R_below (sR (rF HO743.out BK753.out)) hb); have HO756 := aS (Kd.R_lower (Kd.R_newB (Kd.R_newB (Kd.R_new' (Kd.R_new' ho0 (Kd.R_lt (sR (rF HO745.out BK753.out)))) (Kd.R_lt (sR (rF HO748.out BK753.out)))) (g := gb733) (o := .cells #[.int .i64 t728, .int .i64 t729] 45 (0, 0)) (sF BK733.out NB733_753.out)) (g := gb734) (o := .cells #[.int .i64 t730, .int .i64 t731] 45 (0, 0)) (sF BK734.out NB734_753.out)) (below_size (sW HB.out))); replace HO745 := aS (Kd.R_elder' (sR (rF HO745.out BK753.out)) (Kd.R_base ho0) hb); replace HO748 := aS (Kd.R_elder' (sR (rF HO748.out BK753.out)) (Kd.R_base ho0) hb); have HO759 := aS (Kd.R_lower (Kd.R_new' ho1 (Kd.R_lt (sR (rF HO751.out BK753.out)))) (below_size (sW HB.out))); replace HO751 := aS (Kd.R_elder' (sR (rF HO751.out BK753.out)) (Kd.R_base ho1) hb); replace BK733 := aS (blk_below (sF BK733.out NB733_753.out) hb); replace BK734 := aS (blk_below (sF BK734.out NB734_753.out) hb); replace BK753 := aS (blk_below (sB (put2 BK753.out)) hb); replace HB := aS (below_step (sW HB.out) hb)) | ((with_reducible refine gate_dst (N := 16) rfl ?_); (try (refine gate_guard (by rfl) ?_; dsimp only)); refine bx 16 #[.slice none 0 0, .slice none 0 0] 29 ?_; intro gb761 hg w37 hbox hb; replace HO727 := aS (Kd.R_below (sR HO727.out) hb); replace HO743 := aS (Kd.R_below (sR HO743.out) hb); replace HO745 := aS (Kd.R_below (sR HO745.out) hb); replace HO748 := aS (Kd.R_below (sR HO748.out) hb); replace HO751 := aS (Kd.R_below (sR HO751.out) hb); replace HO756 := aS (Kd.R_below (sR HO756.out) hb); replace HO759 := aS (Kd.R_below (sR HO759.out) hb); have BK761 := aS (hbox); have GW761 := aS (gW hg (sW HB.out)); have GE761 := aS (gW hg (sW HB.out)); replace HB := aS (below_step (sW HB.out) hb); have NB733_761 := aS (nL hg (sB BK733.out)); have NB761_733 := aS (nG hg (sB BK733.out)); replace BK733 := aS (blk_below (sB BK733.out) hb); have NB734_761 := aS (nL hg (sB BK734.out)); have NB761_734 := aS (nG hg (sB BK734.out)); replace BK734 := aS (blk_below (sB BK734.out) hb); have NB753_761 := aS (nL hg (sB BK753.out)); have NB761_753 := aS (nG hg (sB BK753.out)); replace BK753 := aS (blk_below (sB BK753.out) hb); clear hb hbox hg; obtain ⟨Ao38, co38, eo38⟩ := Kd.R_slice HO756.out; subst eo38; have hnb39 := NB761_733.out; have hnc39 := NB733_761.out; have hnb40 := NB761_734.out; have hnc40 := NB734_761.out; have hnb41 := NB761_753.out; have hnc41 := NB753_761.out; obtain ⟨hcz42_0, hcz42_1, hfz42_0, hfz42_1⟩ := z2 BK761.out; obtain ⟨Ao43, co43, eo43⟩ := Kd.R_slice HO759.out; subst eo43) | (go_at_call 25; (with_reducible refine (spec_DrawStrengthAt.calls k _ _ l0 t762 t765 t768 t771 _ ?side1 ?side2 A11.out).mono ?_); (case side1 => exact Kd.C_below HR0.out (sW HB.out)); (case side2 => exact HC0.out); rintro e w44 ⟨v763, v766, v769, rfl, ho0, ho1, ho2, hb⟩; have HO764 := aS (Kd.R_lower (Kd.R_new' (Kd.R_new' ho0 (Kd.R_lt (sR (rF HO727.out BK761.out)))) (Kd.R_lt (sR (rF HO743.out BK761.out)))) (below_size (sW HB.out))); replace HO727 := aS (Kd.R_elder' (sR (rF HO727.out BK761.out)) (Kd.R_base ho0) hb); replace HO743 := aS (Kd.R_elder' (sR (rF HO743.out BK761.out)) (Kd.R_base ho0) hb); have HO767 := aS (Kd.R_lower (Kd.R_newB (Kd.R_newB (Kd.R_new' (Kd.R_new' (Kd.R_new' ho1 (Kd.R_lt (sR (rF HO745.out BK761.out)))) (Kd.R_lt (sR (rF HO748.out BK761.out)))) (Kd.R_lt (sR (rF HO756.out BK761.out)))) (g := gb733) (o := .cells #[.int .i64 t728, .int .i64 t729] 45 (0, 0)) (sF BK733.out NB733_761.out)) (g := gb734) (o := .cells #[.int .i64 t730, .int .i64 t731] 45 (0, 0)) (sF BK734.out NB734_761.out)) (below_size (sW HB.out))); replace HO745 := aS (Kd.R_elder' (sR (rF HO745.out BK761.out)) (Kd.R_base ho1) hb); replace HO748 := aS (Kd.R_elder' (sR (rF HO748.out BK761.out)) (Kd.R_base ho1) hb); replace HO756 := aS (Kd.R_elder' (sR (rF HO756.out BK761.out)) (Kd.R_base ho1) hb); have HO770 := aS (Kd.R_lower (Kd.R_new' (Kd.R_new' ho2 (Kd.R_lt (sR (rF HO751.out BK761.out)))) (Kd.R_lt (sR (rF HO759.out BK761.out)))) (below_size (sW HB.out))); replace HO751 := aS (Kd.R_elder' (sR (rF HO751.out BK761.out)) (Kd.R_base ho2) hb); replace HO759 := aS (Kd.R_elder' (sR (rF HO759.out BK761.out)) (Kd.R_base ho2) hb); replace BK733 := aS (blk_below (sF BK733.out NB733_761.out) hb); replace BK734 := aS (blk_below (sF BK734.out NB734_761.out) hb); replace BK753 := aS (blk_below (sF BK753.out NB753_761.out) hb); replace BK761 := aS (blk_below (sB (put2 BK761.out)) hb); replace HB := aS (below_step (sW HB.out) hb)) | ((with_reducible refine gate_dst (N := 19) rfl ?_); (try (refine gate_guard (by rfl) ?_; dsimp only)); refine bx 19 #[.slice none 0 0, .slice none 0 0] 29 ?_; intro gb772 hg w45 hbox hb; replace HO727 := aS (Kd.R_below (sR HO727.out) hb); replace HO743 := aS (Kd.R_below (sR HO743.out) hb); replace HO745 := aS (Kd.R_below (sR HO745.out) hb); replace HO748 := aS (Kd.R_below (sR HO748.out) hb); replace HO751 := aS (Kd.R_below (sR HO751.out) hb); replace HO756 := aS (Kd.R_below (sR HO756.out) hb); replace HO759 := aS (Kd.R_below (sR HO759.out) hb); replace HO764 := aS (Kd.R_below (sR HO764.out) hb); replace HO767 := aS (Kd.R_below (sR HO767.out) hb); replace HO770 := aS (Kd.R_below (sR HO770.out) hb); have BK772 := aS (hbox); have GW772 := aS (gW hg (sW HB.out)); have GE772 := aS (gW hg (sW HB.out)); replace HB := aS (below_step (sW HB.out) hb); have NB733_772 := aS (nL hg (sB BK733.out)); have NB772_733 := aS (nG hg (sB BK733.out)); replace BK733 := aS (blk_below (sB BK733.out) hb); have NB734_772 := aS (nL hg (sB BK734.out)); have NB772_734 := aS (nG hg (sB BK734.out)); replace BK734 := aS (blk_below (sB BK734.out) hb); have NB753_772 := aS (nL hg (sB BK753.out)); have NB772_753 := aS (nG hg (sB BK753.out)); replace BK753 := aS (blk_below (sB BK753.out) hb); have NB761_772 := aS (nL hg (sB BK761.out)); have NB772_761 := aS (nG hg (sB BK761.out)); replace BK761 := aS (blk_below (sB BK761.out) hb); clear hb hbox hg; obtain ⟨Ao46, co46, eo46⟩ := Kd.R_slice HO767.out; subst eo46; have hnb47 := NB772_733.out; have hnc47 := NB733_772.out; have hnb48 := NB772_734.out; have hnc48 := NB734_772.out; have hnb49 := NB772_753.out; have hnc49 := NB753_772.out; have hnb50 := NB772_761.out; have hnc50 := NB761_772.out; obtain ⟨hcz51_0, hcz51_1, hfz51_0, hfz51_1⟩ := z2 BK772.out; obtain ⟨Ao52, co52, eo52⟩ := Kd.R_slice HO770.out; subst eo52; obtain ⟨Ao53, co53, eo53⟩ := Kd.R_slice HO764.out; subst eo53) | (go_at_call 26; (with_reducible refine (impl_StrengthAt.calls k _ _ t762 _ _ t765 _ _ t768 t771 t773 t774 t775 _ ?side1 ?side2 ?side3 ?side4 ?side5 ?side6 A12.out).mono ?_); (case side1 => exact sRC (rF HO764.out BK772.out)); (case side2 => exact (Kd.R_reads' HO764.out).2.1); (case side3 => exact sRC (rF HO767.out BK772.out)); (case side4 => exact (Kd.R_reads' HO767.out).2.1); (case side5 => exact sRC (rF HO770.out BK772.out)); (case side6 => exact (Kd.R_reads' HO770.out).2.1); rintro e w54 ⟨rfl, hb⟩; replace HO727 := aS (Kd.R_below (sR (rF HO727.out BK772.out)) hb); replace HO743 := aS (Kd.R_below (sR (rF HO743.out BK772.out)) hb); replace HO745 := aS (Kd.R_below (sR (rF HO745.out BK772.out)) hb); replace HO748 := aS (Kd.R_below (sR (rF HO748.out BK772.out)) hb); replace HO751 := aS (Kd.R_below (sR (rF HO751.out BK772.out)) hb); replace HO756 := aS (Kd.R_below (sR (rF HO756.out BK772.out)) hb); replace HO759 := aS (Kd.R_below (sR (rF HO759.out BK772.out)) hb); replace HO764 := aS (Kd.R_below (sR (rF HO764.out BK772.out)) hb); replace HO767 := aS (Kd.R_below (sR (rF HO767.out BK772.out)) hb); replace HO770 := aS (Kd.R_below (sR (rF HO770.out BK772.out)) hb); replace BK733 := aS (blk_below (sF BK733.out NB733_772.out) hb); replace BK734 := aS (blk_below (sF BK734.out NB734_772.out) hb); replace BK753 := aS (blk_below (sF BK753.out NB753_772.out) hb); replace BK761 := aS (blk_below (sF BK761.out NB761_772.out) hb); replace BK772 := aS (blk_below (sB (put2 BK772.out)) hb); replace HB := aS (below_step (sW HB.out) hb)) | ((with_reducible refine gate_dst (N := 21) rfl ?_); (try (refine gate_guard (by rfl) ?_; dsimp only)); refine bx 21 #[.int .i64 0, .int .i64 0] 55 ?_; intro gb776 hg w55 hbox hb; replace HO727 := aS (Kd.R_below (sR HO727.out) hb); replace HO743 := aS (Kd.R_below (sR HO743.out) hb); replace HO745 := aS (Kd.R_below (sR HO745.out) hb); replace HO748 := aS (Kd.R_below (sR HO748.out) hb); replace HO751 := aS (Kd.R_below (sR HO751.out) hb); replace HO756 := aS (Kd.R_below (sR HO756.out) hb); replace HO759 := aS (Kd.R_below (sR HO759.out) hb); replace HO764 := aS (Kd.R_below (sR HO764.out) hb); replace HO767 := aS (Kd.R_below (sR HO767.out) hb); replace HO770 := aS (Kd.R_below (sR HO770.out) hb); have BK776 := aS (hbox); have GW776 := aS (gW hg (sW HB.out)); have GE776 := aS (gW hg (sW HB.out)); replace HB := aS (below_step (sW HB.out) hb); have NB733_776 := aS (nL hg (sB BK733.out)); have NB776_733 := aS (nG hg (sB BK733.out)); replace BK733 := aS (blk_below (sB BK733.out) hb); have NB734_776 := aS (nL hg (sB BK734.out)); have NB776_734 := aS (nG hg (sB BK734.out)); replace BK734 := aS (blk_below (sB BK734.out) hb); have NB753_776 := aS (nL hg (sB BK753.out)); have NB776_753 := aS (nG hg (sB BK753.out)); replace BK753 := aS (blk_below (sB BK753.out) hb); have NB761_776 := aS (nL hg (sB BK761.out)); have NB776_761 := aS (nG hg (sB BK761.out)); replace BK761 := aS (blk_below (sB BK761.out) hb); have NB772_776 := aS (nL hg (sB BK772.out)); have NB776_772 := aS (nG hg (sB BK772.out)); replace BK772 := aS (blk_below (sB BK772.out) hb); clear hb hbox hg; have hnb56 := NB776_733.out; have hnc56 := NB733_776.out; have hnb57 := NB776_734.out; have hnc57 := NB734_776.out; have hnb58 := NB776_753.out; have hnc58 := NB753_776.out; have hnb59 := NB776_761.out; have hnc59 := NB761_776.out; have hnb60 := NB776_772.out; have hnc60 := NB772_776.out; obtain ⟨hcz61_0, hcz61_1, hfz61_0, hfz61_1⟩ := z2 BK776.out; obtain ⟨hcz62_0, hcz62_1, hfz62_0, hfz62_1⟩ := z2 BK772.out) | (go_at_call 27; (with_reducible refine (spec_StrengthAt.calls k _ _ t762 _ _ t765 _ _ t768 t771 t777 t778 t779 _ ?side1 ?side2 ?side3 ?side4 ?side5 ?side6 A13.out).mono ?_); (case side1 => refine (Kd.R_reads' (e := 61) (base := w.heap.size) (ok := fun k_ => ((True ∧ some k_ ≠ (.slice Ao21 t725.length co21 : Value).ownBlock) ∧ some k_ ≠ (.slice Ao27 t739.length co27 : Value).ownBlock)) (n := t762.length) (c := co53) ?_).2.2; exact (sR (Kd.R_mono (rG (g := gb776) (Kd.R_types HO764.out BK776.out (by decide)) (fun _ hk => hk.2)) (fun _ h_ => h_.1)))); (case side2 => exact (Kd.R_reads' HO764.out).2.1); (case side3 => refine (Kd.R_reads' (e := 45) (base := w.heap.size) (ok := fun k_ => (((((True ∧ some k_ ≠ (.slice Ao28 t740.length co28 : Value).ownBlock) ∧ some k_ ≠ (.slice Ao31 t746.length co31 : Value).ownBlock) ∧ some k_ ≠ (.slice Ao38 t754.length co38 : Value).ownBlock) ∧ k_ ≠ gb733) ∧ k_ ≠ gb734)) (n := t765.length) (c := co46) ?_).2.2; exact (sR (Kd.R_mono (rG (g := gb776) (Kd.R_types HO767.out BK776.out (by decide)) (fun _ hk => hk.2)) (fun _ h_ => h_.1)))); (case side4 => exact (Kd.R_reads' HO767.out).2.1); (case side5 => refine (Kd.R_reads' (e := 2) (base := w.heap.size) (ok := fun k_ => ((True ∧ some k_ ≠ (.slice Ao35 t749.length co35 : Value).ownBlock) ∧ some k_ ≠ (.slice Ao43 t757.length co43 : Value).ownBlock)) (n := t768.length) (c := co52) ?_).2.2; exact (sR (Kd.R_mono (rG (g := gb776) (Kd.R_types HO770.out BK776.out (by decide)) (fun _ hk => hk.2)) (fun _ h_ => h_.1)))); (case side6 => exact (Kd.R_reads' HO770.out).2.1); rintro e w63 ⟨rfl, hb⟩; replace HO727 := aS (Kd.R_below (sR (Kd.R_mono (rG (g := gb776) (Kd.R_types HO727.out BK776.out (by decide)) (fun _ hk => hk.2)) (fun _ h_ => h_.1))) hb); replace HO743 := aS (Kd.R_below (sR (Kd.R_mono (rG (g := gb776) (Kd.R_types HO743.out BK776.out (by decide)) (fun _ hk => hk.2)) (fun _ h_ => h_.1))) hb); replace HO745 := aS (Kd.R_below (sR (Kd.R_mono (rG (g := gb776) (Kd.R_types HO745.out BK776.out (by decide)) (fun _ hk => hk.2)) (fun _ h_ => h_.1))) hb); replace HO748 := aS (Kd.R_below (sR (Kd.R_mono (rG (g := gb776) (Kd.R_types HO748.out BK776.out (by decide)) (fun _ hk => hk.2)) (fun _ h_ => h_.1))) hb); replace HO751 := aS (Kd.R_below (sR (Kd.R_mono (rG (g := gb776) (Kd.R_types HO751.out BK776.out (by decide)) (fun _ hk => hk.2)) (fun _ h_ => h_.1))) hb); replace HO756 := aS (Kd.R_below (sR (Kd.R_mono (rG (g := gb776) (Kd.R_types HO756.out BK776.out (by decide)) (fun _ hk => hk.2)) (fun _ h_ => h_.1))) hb); replace HO759 := aS (Kd.R_below (sR (Kd.R_mono (rG (g := gb776) (Kd.R_types HO759.out BK776.out (by decide)) (fun _ hk => hk.2)) (fun _ h_ => h_.1))) hb); replace HO764 := aS (Kd.R_below (sR (Kd.R_mono (rG (g := gb776) (Kd.R_types HO764.out BK776.out (by decide)) (fun _ hk => hk.2)) (fun _ h_ => h_.1))) hb); replace HO767 := aS (Kd.R_below (sR (Kd.R_mono (rG (g := gb776) (Kd.R_types HO767.out BK776.out (by decide)) (fun _ hk => hk.2)) (fun _ h_ => h_.1))) hb); replace HO770 := aS (Kd.R_below (sR (Kd.R_mono (rG (g := gb776) (Kd.R_types HO770.out BK776.out (by decide)) (fun _ hk => hk.2)) (fun _ h_ => h_.1))) hb); replace BK733 := aS (blk_below (sF BK733.out NB733_776.out) hb); replace BK734 := aS (blk_below (sF BK734.out NB734_776.out) hb); replace BK753 := aS (blk_below (sF BK753.out NB753_776.out) hb); replace BK761 := aS (blk_below (sF BK761.out NB761_776.out) hb); replace BK772 := aS (blk_below (sF BK772.out NB772_776.out) hb); replace BK776 := aS (blk_below (sB (put2 BK776.out)) hb); replace HB := aS (below_step (sW HB.out) hb)) | ((with_reducible refine gate_dst (N := 23) rfl ?_); (try (refine gate_guard (by rfl) ?_; dsimp only)); refine bx 23 #[.int .i64 0, .int .i64 0] 55 ?_; intro gb780 hg w64 hbox hb; replace HO727 := aS (Kd.R_below (sR HO727.out) hb); replace HO743 := aS (Kd.R_below (sR HO743.out) hb); replace HO745 := aS (Kd.R_below (sR HO745.out) hb); replace HO748 := aS (Kd.R_below (sR HO748.out) hb); replace HO751 := aS (Kd.R_below (sR HO751.out) hb); replace HO756 := aS (Kd.R_below (sR HO756.out) hb); replace HO759 := aS (Kd.R_below (sR HO759.out) hb); replace HO764 := aS (Kd.R_below (sR HO764.out) hb); replace HO767 := aS (Kd.R_below (sR HO767.out) hb); replace HO770 := aS (Kd.R_below (sR HO770.out) hb); have BK780 := aS (hbox); have GW780 := aS (gW hg (sW HB.out)); have GE780 := aS (gW hg (sW HB.out)); replace HB := aS (below_step (sW HB.out) hb); have NB733_780 := aS (nL hg (sB BK733.out)); have NB780_733 := aS (nG hg (sB BK733.out)); replace BK733 := aS (blk_below (sB BK733.out) hb); have NB734_780 := aS (nL hg (sB BK734.out)); have NB780_734 := aS (nG hg (sB BK734.out)); replace BK734 := aS (blk_below (sB BK734.out) hb); have NB753_780 := aS (nL hg (sB BK753.out)); have NB780_753 := aS (nG hg (sB BK753.out)); replace BK753 := aS (blk_below (sB BK753.out) hb); have NB761_780 := aS (nL hg (sB BK761.out)); have NB780_761 := aS (nG hg (sB BK761.out)); replace BK761 := aS (blk_below (sB BK761.out) hb); have NB772_780 := aS (nL hg (sB BK772.out)); have NB780_772 := aS (nG hg (sB BK772.out)); replace BK772 := aS (blk_below (sB BK772.out) hb); have NB776_780 := aS (nL hg (sB BK776.out)); have NB780_776 := aS (nG hg (sB BK776.out)); replace BK776 := aS (blk_below (sB BK776.out) hb); clear hb hbox hg; have hnb65 := NB780_733.out; have hnc65 := NB733_780.out; have hnb66 := NB780_734.out; have hnc66 := NB734_780.out; have hnb67 := NB780_753.out; have hnc67 := NB753_780.out; have hnb68 := NB780_761.out; have hnc68 := NB761_780.out; have hnb69 := NB780_772.out; have hnc69 := NB772_780.out; have hnb70 := NB780_776.out; have hnc70 := NB776_780.out; obtain ⟨hcz71_0, hcz71_1, hfz71_0, hfz71_1⟩ := z2 BK780.out) | ((with_reducible refine gR ?_); go_quiet (fail)))
  (try simp only [Act.put, List.setIfInBounds_toArray, List.set_cons_zero, List.set_cons_succ])
  go_cut [124] (fun v124 wc => ∃ (kq : Nat) (x124_13 : Bool), v124 = .bool x124_13 ∧ Aside0 (laws_FnBestJoins.j0 kq t725 t732 t736 t737 t739 t740 t741 t752 x124_13 t728 t729 t730 t731 t746 t749 t754 t757 = some true) ∧ Aside0 (kq ≤ k) ∧ Aside0 (Kd.R k61 61 wc w.heap.size (fun k_ => some k_ ≠ ((.slice Ao27 t739.length co27) : Value).ownBlock) (.slice Ao21 t725.length co21) t725) ∧ Aside0 (Kd.R k61 61 wc w.heap.size (fun k_ => some k_ ≠ ((.slice Ao21 t725.length co21) : Value).ownBlock) (.slice Ao27 t739.length co27) t739) ∧ Aside0 (Kd.R k45 45 wc w.heap.size (fun k_ => some k_ ≠ ((.slice Ao31 t746.length co31) : Value).ownBlock ∧ some k_ ≠ ((.slice Ao38 t754.length co38) : Value).ownBlock ∧ k_ ≠ gb733 ∧ k_ ≠ gb734) (.slice Ao28 t740.length co28) t740) ∧ Aside0 (Kd.R k45 45 wc w.heap.size (fun k_ => some k_ ≠ ((.slice Ao28 t740.length co28) : Value).ownBlock ∧ some k_ ≠ ((.slice Ao38 t754.length co38) : Value).ownBlock ∧ k_ ≠ gb733 ∧ k_ ≠ gb734) (.slice Ao31 t746.length co31) t746) ∧ Aside0 (Kd.R (Kd.int .i64) 2 wc w.heap.size (fun k_ => some k_ ≠ ((.slice Ao43 t757.length co43) : Value).ownBlock) (.slice Ao35 t749.length co35) t749) ∧ Aside0 (Kd.R k45 45 wc w.heap.size (fun k_ => some k_ ≠ ((.slice Ao28 t740.length co28) : Value).ownBlock ∧ some k_ ≠ ((.slice Ao31 t746.length co31) : Value).ownBlock ∧ k_ ≠ gb733 ∧ k_ ≠ gb734) (.slice Ao38 t754.length co38) t754) ∧ Aside0 (Kd.R (Kd.int .i64) 2 wc w.heap.size (fun k_ => some k_ ≠ ((.slice Ao35 t749.length co35) : Value).ownBlock) (.slice Ao43 t757.length co43) t757) ∧ Aside0 (wc.heap[gb733]? = some (.cells #[.int .i64 t728, .int .i64 t729] 45 (0, 0))) ∧ Aside0 (wc.heap[gb734]? = some (.cells #[.int .i64 t730, .int .i64 t731] 45 (0, 0))) ∧ Aside0 (wc.heap[gb753]? = some (.cells #[(.slice Ao31 t746.length co31), (.slice Ao35 t749.length co35)] 29 (0, 0))) ∧ Aside0 (wc.heap[gb761]? = some (.cells #[(.slice Ao38 t754.length co38), (.slice Ao43 t757.length co43)] 29 (0, 0))) ∧ Aside0 (Below w.heap.size w wc))
  case first =>
   as_aux_lemma =>
    have H := HC14.out
    clear HC14
    replace H := iE H; rcases H with ⟨c72, H⟩ | ⟨c72, H⟩
    rotate_left
    ·
     have c72b0 := beq_eq_false_iff_ne.mpr c72
     have c72b1 := bne_iff_ne.mpr c72
     (first | rw [c72b0] | (simp only [i64_w, i32_w]; rw [c72b0]) | (rw [c72b2]; simp only [Bool.not_false, Bool.not_true]) | rw [c72b1] | skip)
     exact absurd H (by cases k <;> simp [laws_FnBestJoins.j0])
    have c72b0 := beq_iff_eq.mpr c72
    have c72b1 := bne_eq_false_iff_eq.mpr c72
    clear c72
    (first | rw [c72b0] | (simp only [i64_w, i32_w]; rw [c72b0]) | (rw [c72b2]; simp only [Bool.not_false, Bool.not_true]) | rw [c72b1] | skip)
    replace H := iE H; rcases H with ⟨c73, H⟩ | ⟨c73, H⟩
    rotate_left
    ·
     have c73b0 := beq_eq_false_iff_ne.mpr c73
     have c73b1 := bne_iff_ne.mpr c73
     exact absurd H (by cases k <;> simp [laws_FnBestJoins.j0])
    have c73b0 := beq_iff_eq.mpr c73
    have c73b1 := bne_eq_false_iff_eq.mpr c73
    clear c73
    replace H := iE H; rcases H with ⟨c74, H⟩ | ⟨c74, H⟩
    rotate_left
    ·
     have c74b0 := beq_eq_false_iff_ne.mpr c74
     have c74b1 := bne_iff_ne.mpr c74
     exact absurd H (by cases k <;> simp [laws_FnBestJoins.j0])
    have c74b0 := beq_iff_eq.mpr c74
    have c74b1 := bne_eq_false_iff_eq.mpr c74
    clear c74
    replace H := bE H; obtain ⟨t781, A75, H⟩ := H; try dsimp only at H
    replace H := iE H; rcases H with ⟨c76, H⟩ | ⟨c76, H⟩
    rotate_left
    ·
     replace c76 := Bool.eq_false_iff.mpr c76
     subst c76
     exact absurd H (by cases k <;> simp [laws_FnBestJoins.j0])
    subst c76
    replace H := iE H; rcases H with ⟨c77, H⟩ | ⟨c77, H⟩
    rotate_left
    ·
     have c77b0 := beq_eq_false_iff_ne.mpr c77
     have c77b1 := bne_iff_ne.mpr c77
     exact absurd H (by cases k <;> simp [laws_FnBestJoins.j0])
    have c77b0 := beq_iff_eq.mpr c77
    have c77b1 := bne_eq_false_iff_eq.mpr c77
    clear c77
    have H' := aS H
    clear H
    have hnb78 := NB753_733.out
    have hnc78 := NB733_753.out
    have hnb79 := NB753_734.out
    have hnc79 := NB734_753.out
    have hnb80 := NB753_761.out
    have hnc80 := NB761_753.out
    have hnb81 := NB753_772.out
    have hnc81 := NB772_753.out
    have hnb82 := NB753_776.out
    have hnc82 := NB776_753.out
    have hnb83 := NB753_780.out
    have hnc83 := NB780_753.out
    obtain ⟨hcz84_0, hcz84_1, hfz84_0, hfz84_1⟩ := z2 BK753.out
    have hnb85 := NB761_733.out
    have hnc85 := NB733_761.out
    have hnb86 := NB761_734.out
    have hnc86 := NB734_761.out
    have hnb87 := NB761_772.out
    have hnc87 := NB772_761.out
    have hnb88 := NB761_776.out
    have hnc88 := NB776_761.out
    have hnb89 := NB761_780.out
    have hnc89 := NB780_761.out
    obtain ⟨hcz90_0, hcz90_1, hfz90_0, hfz90_1⟩ := z2 BK761.out
    go_wp2_with (first | (go_at_call 28; (with_reducible refine (spec_SameLine.calls k _ _ t746 _ _ t749 _ _ t754 _ _ t757 true _ ?side1 ?side2 ?side3 ?side4 ?side5 ?side6 ?side7 ?side8 A75.out).mono ?_); (case side1 => refine (Kd.R_reads' (e := 45) (base := w.heap.size) (ok := fun k_ => (((((True ∧ some k_ ≠ (.slice Ao28 t740.length co28 : Value).ownBlock) ∧ k_ ≠ gb733) ∧ k_ ≠ gb734) ∧ some k_ ≠ (.slice Ao38 t754.length co38 : Value).ownBlock) ∧ some k_ ≠ (.slice Ao46 t765.length co46 : Value).ownBlock)) (n := t746.length) (c := co31) ?_).2.2; exact (sR (Kd.R_mono (rG (g := gb780) (Kd.R_types HO748.out BK780.out (by decide)) (fun _ hk => hk.2)) (fun _ h_ => h_.1)))); (case side2 => exact (Kd.R_reads' HO748.out).2.1); (case side3 => refine (Kd.R_reads' (e := 2) (base := w.heap.size) (ok := fun k_ => ((True ∧ some k_ ≠ (.slice Ao43 t757.length co43 : Value).ownBlock) ∧ some k_ ≠ (.slice Ao52 t768.length co52 : Value).ownBlock)) (n := t749.length) (c := co35) ?_).2.2; exact (sR (Kd.R_mono (rG (g := gb780) (Kd.R_types HO751.out BK780.out (by decide)) (fun _ hk => hk.2)) (fun _ h_ => h_.1)))); (case side4 => exact (Kd.R_reads' HO751.out).2.1); (case side5 => refine (Kd.R_reads' (e := 45) (base := w.heap.size) (ok := fun k_ => (((((True ∧ some k_ ≠ (.slice Ao28 t740.length co28 : Value).ownBlock) ∧ some k_ ≠ (.slice Ao31 t746.length co31 : Value).ownBlock) ∧ k_ ≠ gb733) ∧ k_ ≠ gb734) ∧ some k_ ≠ (.slice Ao46 t765.length co46 : Value).ownBlock)) (n := t754.length) (c := co38) ?_).2.2; exact (sR (Kd.R_mono (rG (g := gb780) (Kd.R_types HO756.out BK780.out (by decide)) (fun _ hk => hk.2)) (fun _ h_ => h_.1)))); (case side6 => exact (Kd.R_reads' HO756.out).2.1); (case side7 => refine (Kd.R_reads' (e := 2) (base := w.heap.size) (ok := fun k_ => ((True ∧ some k_ ≠ (.slice Ao35 t749.length co35 : Value).ownBlock) ∧ some k_ ≠ (.slice Ao52 t768.length co52 : Value).ownBlock)) (n := t757.length) (c := co43) ?_).2.2; exact (sR (Kd.R_mono (rG (g := gb780) (Kd.R_types HO759.out BK780.out (by decide)) (fun _ hk => hk.2)) (fun _ h_ => h_.1)))); (case side8 => exact (Kd.R_reads' HO759.out).2.1); rintro e w91 ⟨rfl, hb⟩; replace HO727 := aS (Kd.R_below (sR (Kd.R_mono (rG (g := gb780) (Kd.R_types HO727.out BK780.out (by decide)) (fun _ hk => hk.2)) (fun _ h_ => h_.1))) hb); replace HO743 := aS (Kd.R_below (sR (Kd.R_mono (rG (g := gb780) (Kd.R_types HO743.out BK780.out (by decide)) (fun _ hk => hk.2)) (fun _ h_ => h_.1))) hb); replace HO745 := aS (Kd.R_below (sR (Kd.R_mono (rG (g := gb780) (Kd.R_types HO745.out BK780.out (by decide)) (fun _ hk => hk.2)) (fun _ h_ => h_.1))) hb); replace HO748 := aS (Kd.R_below (sR (Kd.R_mono (rG (g := gb780) (Kd.R_types HO748.out BK780.out (by decide)) (fun _ hk => hk.2)) (fun _ h_ => h_.1))) hb); replace HO751 := aS (Kd.R_below (sR (Kd.R_mono (rG (g := gb780) (Kd.R_types HO751.out BK780.out (by decide)) (fun _ hk => hk.2)) (fun _ h_ => h_.1))) hb); replace HO756 := aS (Kd.R_below (sR (Kd.R_mono (rG (g := gb780) (Kd.R_types HO756.out BK780.out (by decide)) (fun _ hk => hk.2)) (fun _ h_ => h_.1))) hb); replace HO759 := aS (Kd.R_below (sR (Kd.R_mono (rG (g := gb780) (Kd.R_types HO759.out BK780.out (by decide)) (fun _ hk => hk.2)) (fun _ h_ => h_.1))) hb); replace HO764 := aS (Kd.R_below (sR (Kd.R_mono (rG (g := gb780) (Kd.R_types HO764.out BK780.out (by decide)) (fun _ hk => hk.2)) (fun _ h_ => h_.1))) hb); replace HO767 := aS (Kd.R_below (sR (Kd.R_mono (rG (g := gb780) (Kd.R_types HO767.out BK780.out (by decide)) (fun _ hk => hk.2)) (fun _ h_ => h_.1))) hb); replace HO770 := aS (Kd.R_below (sR (Kd.R_mono (rG (g := gb780) (Kd.R_types HO770.out BK780.out (by decide)) (fun _ hk => hk.2)) (fun _ h_ => h_.1))) hb); replace BK733 := aS (blk_below (sF BK733.out NB733_780.out) hb); replace BK734 := aS (blk_below (sF BK734.out NB734_780.out) hb); replace BK753 := aS (blk_below (sF BK753.out NB753_780.out) hb); replace BK761 := aS (blk_below (sF BK761.out NB761_780.out) hb); replace BK772 := aS (blk_below (sF BK772.out NB772_780.out) hb); replace BK776 := aS (blk_below (sF BK776.out NB776_780.out) hb); replace BK780 := aS (blk_below (sB (put2 BK780.out)) hb); replace HB := aS (below_step (sW HB.out) hb); (try clear hb); (try clear hb2); (try clear hk); (try clear hi); have hnb92 := NB776_733.out; have hnc92 := NB733_776.out; have hnb93 := NB776_734.out; have hnc93 := NB734_776.out; have hnb94 := NB776_772.out; have hnc94 := NB772_776.out; have hnb95 := NB776_780.out; have hnc95 := NB780_776.out; obtain ⟨hcz96_0, hcz96_1, hfz96_0, hfz96_1⟩ := z2 BK776.out; have hnb97 := NB780_733.out; have hnc97 := NB733_780.out; have hnb98 := NB780_734.out; have hnc98 := NB734_780.out; have hnb99 := NB780_772.out; have hnc99 := NB772_780.out; obtain ⟨hcz100_0, hcz100_1, hfz100_0, hfz100_1⟩ := z2 BK780.out) | ((with_reducible refine gR ?_); go_quiet (fail)))
    go_meet
    case rel => exact ⟨_, ((!(t773 == t777) || (!(t774 == t778)))), eV, H', ⟨by first | omega | exact Nat.le_refl _⟩, (aS (sR (Kd.R_mono HO727.out (fun _ hk => hk.1.2)))), (aS (sR (Kd.R_mono HO743.out (fun _ hk => hk.1.2)))), (aS (sR (Kd.R_mono HO745.out (fun _ hk => ⟨hk.1.1.2, ⟨hk.1.2, ⟨hk.1.1.1.1.2, hk.1.1.1.2⟩⟩⟩)))), (aS (sR (Kd.R_mono HO748.out (fun _ hk => ⟨hk.1.1.1.1.2, ⟨hk.1.2, ⟨hk.1.1.1.2, hk.1.1.2⟩⟩⟩)))), (aS (sR (Kd.R_mono HO751.out (fun _ hk => hk.1.2)))), (aS (sR (Kd.R_mono HO756.out (fun _ hk => ⟨hk.1.1.1.1.2, ⟨hk.1.1.1.2, ⟨hk.1.1.2, hk.1.2⟩⟩⟩)))), (aS (sR (Kd.R_mono HO759.out (fun _ hk => hk.1.2)))), (aS (sB BK733.out)), (aS (sB BK734.out)), (aS (sB BK753.out)), (aS (sB BK761.out)), (aS (sW HB.out))⟩
  case rest =>
   as_aux_lemma =>
    clear HC14
    obtain ⟨kq, x124_13, rfl, HA, HJ13, HO_3, HO_11, HO_12, HO_754000, HO_754001, HO_762000, HO_762001, BK733, BK734, BK753, BK761, HB⟩ := hcut
    cases kq with
    | zero => exact absurd HA.out (by simp [laws_FnBestJoins.j0])
    | succ kj13 =>
     have H := HA.out
     clear HA
     simp only [laws_FnBestJoins.j0] at H
     replace H := iE H; rcases H with ⟨c101, H⟩ | ⟨c101, H⟩
     ·
      subst c101
      exact absurd H (by simp)
     ·
      replace c101 := Bool.eq_false_iff.mpr c101
      subst c101
      have HC102 := aS H
      clear H
      go_upto_if 126 with (first | ((with_reducible refine gR ?_); go_quiet (fail)))
      go_cut [] (fun wc => ∃ (kq : Nat), Aside0 (laws_FnBestJoins.j1 kq t725 t732 t736 t737 t728 t729 t730 t731 = some true) ∧ Aside0 (kq ≤ kj13) ∧ Aside0 (Kd.R k61 61 wc w.heap.size (fun _ => True) (.slice Ao21 t725.length co21) t725) ∧ Aside0 (wc.heap[gb733]? = some (.cells #[.int .i64 t728, .int .i64 t729] 45 (0, 0))) ∧ Aside0 (wc.heap[gb734]? = some (.cells #[.int .i64 t730, .int .i64 t731] 45 (0, 0))) ∧ Aside0 (Below w.heap.size w wc))
      case first =>
       as_aux_lemma =>
        have H := HC102.out
        clear HC102
        replace H := iE H; rcases H with ⟨c103, H⟩ | ⟨c103, H⟩
        rotate_left
        ·
         have c103b0 := beq_eq_false_iff_ne.mpr c103
         have c103b1 := bne_iff_ne.mpr c103
         (first | rw [c103b0] | (simp only [i64_w, i32_w]; rw [c103b0]) | (rw [c103b2]; simp only [Bool.not_false, Bool.not_true]) | rw [c103b1] | skip)
         have H' := aS H
         clear H
         go_wp2
         repeat (go_quiet (fail); try go_wp2)
         go_meet
         case rel => exact ⟨_, H', ⟨by have := HJ13.out; first | omega | exact Nat.le_refl _⟩, (aS (sR (Kd.R_mono HO_3.out (fun _ hk => trivial)))), (aS (sB BK733.out)), (aS (sB BK734.out)), (aS (sW HB.out))⟩
        have c103b0 := beq_iff_eq.mpr c103
        have c103b1 := bne_eq_false_iff_eq.mpr c103
        clear c103
        (first | rw [c103b0] | (simp only [i64_w, i32_w]; rw [c103b0]) | (rw [c103b2]; simp only [Bool.not_false, Bool.not_true]) | rw [c103b1] | skip)
        replace H := bE H; obtain ⟨⟨t782, t783, t784⟩, A104, H⟩ := H; try dsimp only at H
        have HC105 := aS H
        clear H
        have hnb106 := NB753_733.out
        have hnc106 := NB733_753.out
        have hnb107 := NB753_734.out
        have hnc107 := NB734_753.out
        have hnb108 := NB753_761.out
        have hnc108 := NB761_753.out
        obtain ⟨hcz109_0, hcz109_1, hfz109_0, hfz109_1⟩ := z2 BK753.out
        go_upto_region 16 with (first | (go_at_call 29; (with_reducible refine (impl_LineStrength.calls kj13 _ _ t739 _ _ t746 _ _ t749 t782 t783 t784 _ ?side1 ?side2 ?side3 ?side4 ?side5 ?side6 A104.out).mono ?_); (case side1 => exact sC (Kd.R_reads' HO_11.out).2.2); (case side2 => exact (Kd.R_reads' HO_11.out).2.1); (case side3 => exact sC (Kd.R_reads' HO_754000.out).2.2); (case side4 => exact (Kd.R_reads' HO_754000.out).2.1); (case side5 => exact sC (Kd.R_reads' HO_754001.out).2.2); (case side6 => exact (Kd.R_reads' HO_754001.out).2.1); rintro e w110 ⟨rfl, hb⟩; replace HO_3 := aS (Kd.R_below (sR HO_3.out) hb); replace HO_11 := aS (Kd.R_below (sR HO_11.out) hb); replace HO_12 := aS (Kd.R_below (sR HO_12.out) hb); replace HO_754000 := aS (Kd.R_below (sR HO_754000.out) hb); replace HO_754001 := aS (Kd.R_below (sR HO_754001.out) hb); replace HO_762000 := aS (Kd.R_below (sR HO_762000.out) hb); replace HO_762001 := aS (Kd.R_below (sR HO_762001.out) hb); replace BK733 := aS (blk_below (sB BK733.out) hb); replace BK734 := aS (blk_below (sB BK734.out) hb); replace BK753 := aS (blk_below (sB BK753.out) hb); replace BK761 := aS (blk_below (sB BK761.out) hb); replace HB := aS (below_step (sW HB.out) hb)) | ((with_reducible refine gate_dst (N := 25) rfl ?_); (try (refine gate_guard (by rfl) ?_; dsimp only)); refine bx 25 #[.int .i64 0, .int .i64 0] 55 ?_; intro gb785 hg w111 hbox hb; replace HO_3 := aS (Kd.R_below (sR HO_3.out) hb); replace HO_11 := aS (Kd.R_below (sR HO_11.out) hb); replace HO_12 := aS (Kd.R_below (sR HO_12.out) hb); replace HO_754000 := aS (Kd.R_below (sR HO_754000.out) hb); replace HO_754001 := aS (Kd.R_below (sR HO_754001.out) hb); replace HO_762000 := aS (Kd.R_below (sR HO_762000.out) hb); replace HO_762001 := aS (Kd.R_below (sR HO_762001.out) hb); have BK785 := aS (hbox); have GW785 := aS (gW hg (sW HB.out)); have GE785 := aS (gW hg (sW HB.out)); replace HB := aS (below_step (sW HB.out) hb); have NB733_785 := aS (nL hg (sB BK733.out)); have NB785_733 := aS (nG hg (sB BK733.out)); replace BK733 := aS (blk_below (sB BK733.out) hb); have NB734_785 := aS (nL hg (sB BK734.out)); have NB785_734 := aS (nG hg (sB BK734.out)); replace BK734 := aS (blk_below (sB BK734.out) hb); have NB753_785 := aS (nL hg (sB BK753.out)); have NB785_753 := aS (nG hg (sB BK753.out)); replace BK753 := aS (blk_below (sB BK753.out) hb); have NB761_785 := aS (nL hg (sB BK761.out)); have NB785_761 := aS (nG hg (sB BK761.out)); replace BK761 := aS (blk_below (sB BK761.out) hb); clear hb hbox hg; have hnb112 := NB785_733.out; have hnc112 := NB733_785.out; have hnb113 := NB785_734.out; have hnc113 := NB734_785.out; have hnb114 := NB785_753.out; have hnc114 := NB753_785.out; have hnb115 := NB785_761.out; have hnc115 := NB761_785.out; obtain ⟨hcz116_0, hcz116_1, hfz116_0, hfz116_1⟩ := z2 BK785.out) | ((with_reducible refine gR ?_); go_quiet (fail)))
        (try simp only [Act.put, List.setIfInBounds_toArray, List.set_cons_zero, List.set_cons_succ])
        have H := HC105.out
        clear HC105
        replace H := bE H; obtain ⟨t786, A117, H⟩ := H; try dsimp only at H
        replace H := iE H; rcases H with ⟨c118, H⟩ | ⟨c118, H⟩
        rotate_left
        ·
         replace c118 := Bool.eq_false_iff.mpr c118
         subst c118
         exact absurd H (by simp)
        subst c118
        replace H := iE H; rcases H with ⟨c119, H⟩ | ⟨c119, H⟩
        rotate_left
        ·
         have c119b0 := beq_eq_false_iff_ne.mpr c119
         have c119b1 := bne_iff_ne.mpr c119
         (first | rw [c119b0] | (simp only [i64_w, i32_w]; rw [c119b0]) | (rw [c119b2]; simp only [Bool.not_false, Bool.not_true]) | rw [c119b1] | skip)
         exact absurd H (by simp)
        have c119b0 := beq_iff_eq.mpr c119
        have c119b1 := bne_eq_false_iff_eq.mpr c119
        clear c119
        (first | rw [c119b0] | (simp only [i64_w, i32_w]; rw [c119b0]) | (rw [c119b2]; simp only [Bool.not_false, Bool.not_true]) | rw [c119b1] | skip)
        replace H := iE H; rcases H with ⟨c120, H⟩ | ⟨c120, H⟩
        ·
         have c120b0 := decide_eq_true c120
         clear c120
         exact absurd H (by simp)
        have c120b0 := decide_eq_false c120
        clear c120
        replace H := iE H; rcases H with ⟨c121, H⟩ | ⟨c121, H⟩
        ·
         have c121b0 : decide (1000 < t783) = true := decide_eq_true c121
         clear c121
         exact absurd H (by simp)
        have c121b0 : decide (1000 < t783) = false := decide_eq_false c121
        clear c121
        replace H := iE H; rcases H with ⟨c122, H⟩ | ⟨c122, H⟩
        ·
         have c122b0 := decide_eq_true c122
         clear c122
         exact absurd H (by simp)
        have c122b0 := decide_eq_false c122
        clear c122
        have HC123 := aS H
        clear H
        have hnb124 := NB753_733.out
        have hnc124 := NB733_753.out
        have hnb125 := NB753_734.out
        have hnc125 := NB734_753.out
        have hnb126 := NB753_761.out
        have hnc126 := NB761_753.out
        have hnb127 := NB753_785.out
        have hnc127 := NB785_753.out
        obtain ⟨hcz128_0, hcz128_1, hfz128_0, hfz128_1⟩ := z2 BK753.out
        go_upto_if 167 with (first | (go_at_call 30; (with_reducible refine (impl_ValidLine.calls kj13 _ _ t739 _ _ t746 _ _ t749 true _ ?side1 ?side2 ?side3 ?side4 ?side5 ?side6 A117.out).mono ?_); (case side1 => refine (Kd.R_reads' (e := 61) (base := w.heap.size) (ok := fun k_ => some k_ ≠ (.slice Ao21 t725.length co21 : Value).ownBlock) (n := t739.length) (c := co27) ?_).2.2; exact (sR (Kd.R_mono (rG (g := gb785) (Kd.R_types HO_11.out BK785.out (by decide)) (fun _ hk => hk.2)) (fun _ h_ => h_.1)))); (case side2 => exact (Kd.R_reads' HO_11.out).2.1); (case side3 => refine (Kd.R_reads' (e := 45) (base := w.heap.size) (ok := fun k_ => (some k_ ≠ (.slice Ao28 t740.length co28 : Value).ownBlock ∧ (some k_ ≠ (.slice Ao38 t754.length co38 : Value).ownBlock ∧ (k_ ≠ gb733 ∧ k_ ≠ gb734)))) (n := t746.length) (c := co31) ?_).2.2; exact (sR (Kd.R_mono (rG (g := gb785) (Kd.R_types HO_754000.out BK785.out (by decide)) (fun _ hk => hk.2)) (fun _ h_ => h_.1)))); (case side4 => exact (Kd.R_reads' HO_754000.out).2.1); (case side5 => refine (Kd.R_reads' (e := 2) (base := w.heap.size) (ok := fun k_ => some k_ ≠ (.slice Ao43 t757.length co43 : Value).ownBlock) (n := t749.length) (c := co35) ?_).2.2; exact (sR (Kd.R_mono (rG (g := gb785) (Kd.R_types HO_754001.out BK785.out (by decide)) (fun _ hk => hk.2)) (fun _ h_ => h_.1)))); (case side6 => exact (Kd.R_reads' HO_754001.out).2.1); rintro e w129 ⟨rfl, hb⟩; replace HO_3 := aS (Kd.R_below (sR (Kd.R_mono (rG (g := gb785) (Kd.R_types HO_3.out BK785.out (by decide)) (fun _ hk => hk.2)) (fun _ h_ => h_.1))) hb); replace HO_11 := aS (Kd.R_below (sR (Kd.R_mono (rG (g := gb785) (Kd.R_types HO_11.out BK785.out (by decide)) (fun _ hk => hk.2)) (fun _ h_ => h_.1))) hb); replace HO_12 := aS (Kd.R_below (sR (Kd.R_mono (rG (g := gb785) (Kd.R_types HO_12.out BK785.out (by decide)) (fun _ hk => hk.2)) (fun _ h_ => h_.1))) hb); replace HO_754000 := aS (Kd.R_below (sR (Kd.R_mono (rG (g := gb785) (Kd.R_types HO_754000.out BK785.out (by decide)) (fun _ hk => hk.2)) (fun _ h_ => h_.1))) hb); replace HO_754001 := aS (Kd.R_below (sR (Kd.R_mono (rG (g := gb785) (Kd.R_types HO_754001.out BK785.out (by decide)) (fun _ hk => hk.2)) (fun _ h_ => h_.1))) hb); replace HO_762000 := aS (Kd.R_below (sR (Kd.R_mono (rG (g := gb785) (Kd.R_types HO_762000.out BK785.out (by decide)) (fun _ hk => hk.2)) (fun _ h_ => h_.1))) hb); replace HO_762001 := aS (Kd.R_below (sR (Kd.R_mono (rG (g := gb785) (Kd.R_types HO_762001.out BK785.out (by decide)) (fun _ hk => hk.2)) (fun _ h_ => h_.1))) hb); replace BK733 := aS (blk_below (sF BK733.out NB733_785.out) hb); replace BK734 := aS (blk_below (sF BK734.out NB734_785.out) hb); replace BK753 := aS (blk_below (sF BK753.out NB753_785.out) hb); replace BK761 := aS (blk_below (sF BK761.out NB761_785.out) hb); replace BK785 := aS (blk_below (sB (put2 BK785.out)) hb); replace HB := aS (below_step (sW HB.out) hb); (try clear hb); (try clear hb2); (try clear hk); (try clear hi); have hnb130 := NB785_733.out; have hnc130 := NB733_785.out; have hnb131 := NB785_734.out; have hnc131 := NB734_785.out; have hnb132 := NB785_761.out; have hnc132 := NB761_785.out; obtain ⟨hcz133_0, hcz133_1, hfz133_0, hfz133_1⟩ := z2 BK785.out; have hnb134 := NB761_733.out; have hnc134 := NB733_761.out; have hnb135 := NB761_734.out; have hnc135 := NB734_761.out; obtain ⟨hcz136_0, hcz136_1, hfz136_0, hfz136_1⟩ := z2 BK761.out) | ((with_reducible refine gR ?_); go_quiet (fail)))
        (try simp only [Act.put, List.setIfInBounds_toArray, List.set_cons_zero, List.set_cons_succ])
        have H := HC123.out
        clear HC123
        replace H := iE H; rcases H with ⟨c137, H⟩ | ⟨c137, H⟩
        ·
         have c137b0 : decide ((t740.length : Int) < (t754.length : Int)) = true := decide_eq_true c137
         have c137b1 : decide (t740.length < t754.length) = true := decide_eq_true (Int.ofNat_lt.mp c137)
         clear c137
         (first | rw [c137b0] | (simp only [i64_w, i32_w]; rw [c137b0]) | (rw [c137b2]; simp only [Bool.not_false, Bool.not_true]) | rw [c137b1] | skip)
         exact absurd H (by simp)
        have c137b0 : decide ((t740.length : Int) < (t754.length : Int)) = false := decide_eq_false c137
        have c137b1 : decide (t740.length < t754.length) = false := decide_eq_false (fun h => c137 (Int.ofNat_lt.mpr h))
        clear c137
        (first | rw [c137b0] | (simp only [i64_w, i32_w]; rw [c137b0]) | (rw [c137b2]; simp only [Bool.not_false, Bool.not_true]) | rw [c137b1] | skip)
        have H' := aS H
        clear H
        go_wp2
        repeat (go_quiet (fail); try go_wp2)
        go_meet
        case rel => exact ⟨_, H', ⟨by have := HJ13.out; first | omega | exact Nat.le_refl _⟩, (aS (sR (Kd.R_mono HO_3.out (fun _ hk => trivial)))), (aS (sB BK733.out)), (aS (sB BK734.out)), (aS (sW HB.out))⟩
      case rest =>
       as_aux_lemma =>
        clear HC102
        obtain ⟨kq, HA, HJ101, HO_3, BK733, BK734, HB⟩ := hcut
        cases kq with
        | zero => exact absurd HA.out (by simp [laws_FnBestJoins.j1])
        | succ kj101 =>
         have H := HA.out
         clear HA
         simp only [laws_FnBestJoins.j1] at H
         replace H := iE H; rcases H with ⟨c138, H⟩ | ⟨c138, H⟩
         ·
          have c138b0 := beq_iff_eq.mpr c138
          have c138b1 := bne_eq_false_iff_eq.mpr c138
          clear c138
          have H' := aS H
          clear H
          go_wp2
          repeat (go_quiet (fail); try go_wp2)
          go_loopg [27] kj101 (fun kq v27 w' => ∃ (x27_3 : Int), v27 = .int .i64 x27_3 ∧ Aside0 (laws_FnBestJoins.l0 kq t725 t732 t737 x27_3 t728 t729 t730 t731 = some true) ∧ Aside0 (kq ≤ kj101) ∧ Aside0 (Kd.R k61 61 w' w.heap.size (fun _ => True) (.slice Ao21 t725.length co21) t725) ∧ Aside0 (w'.heap[gb733]? = some (.cells #[.int .i64 t728, .int .i64 t729] 45 (0, 0))) ∧ Aside0 (w'.heap[gb734]? = some (.cells #[.int .i64 t730, .int .i64 t731] 45 (0, 0))) ∧ Aside0 (Below w.heap.size w w'))
          case atStart => exact ⟨(0), eV, H', ⟨Nat.le_refl _⟩, (aS (sR HO_3.out)), (aS (sB BK733.out)), (aS (sB BK734.out)), (aS (sW HB.out))⟩
          case round =>
           as_aux_lemma =>
            clear H'
            obtain ⟨x27_3, rfl, HA, HK3, HO_3, BK733, BK734, HB⟩ := hrel
            cases gk with
            | zero => exact absurd HA.out (by simp [laws_FnBestJoins.l0])
            | succ k3 =>
             have H := HA.out
             clear HA
             simp only [laws_FnBestJoins.l0] at H
             replace H := iE H; rcases H with ⟨c139, H⟩ | ⟨c139, H⟩
             rotate_left
             ·
              have c139b0 := decide_eq_false c139
              clear c139 H
              go_wp2
              repeat (go_quiet (fail); try go_wp2)
              go_ret
              exact ⟨eE, sW HB.out⟩
             have c139b0 := decide_eq_true c139
             clear c139
             obtain ⟨y787, hy787⟩ : ∃ y_ : List (S45), y_ = (([(⟨t728, 100000⟩ : S45), (⟨t730, 100000⟩ : S45)] : List (S45))) := ⟨_, rfl⟩
             replace H : ((impl_StrengthAt.f k3 t725 y787 (([x27_3] : List Int)) 0).bind fun bt793 => (if bt793.2.2 = 0 then (if bt793.2.1 < 1 then (laws_FnBestJoins.j3 k3 t725 t732 t737 x27_3 true t728 t729 t730 t731 bt793.1 bt793.2.1) else (laws_FnBestJoins.j3 k3 t725 t732 t737 x27_3 (decide (bt793.2.1 > 1000)) t728 t729 t730 t731 bt793.1 bt793.2.1)) else (laws_FnBestJoins.j3 k3 t725 t732 t737 x27_3 true t728 t729 t730 t731 bt793.1 bt793.2.1))) = some true := by first | (rw [hy787]; with_reducible exact H) | (have H2_ := (Option.bind_some _ _).symm.trans H; rw [hy787]; with_reducible exact H2_) | (have H2_ := (Option.bind_some _ _).symm.trans H; with_reducible exact H2_) | with_reducible exact H | (rw [hy787]; exact H) | exact H
             have Ny787 := aS hy787
             clear hy787
             obtain ⟨y790, hy790⟩ : ∃ y_ : List Int, y_ = (([x27_3] : List Int)) := ⟨_, rfl⟩
             replace H : ((impl_StrengthAt.f k3 t725 y787 y790 0).bind fun bt793 => (if bt793.2.2 = 0 then (if bt793.2.1 < 1 then (laws_FnBestJoins.j3 k3 t725 t732 t737 x27_3 true t728 t729 t730 t731 bt793.1 bt793.2.1) else (laws_FnBestJoins.j3 k3 t725 t732 t737 x27_3 (decide (bt793.2.1 > 1000)) t728 t729 t730 t731 bt793.1 bt793.2.1)) else (laws_FnBestJoins.j3 k3 t725 t732 t737 x27_3 true t728 t729 t730 t731 bt793.1 bt793.2.1))) = some true := by first | (rw [hy790]; with_reducible exact H) | (have H2_ := (Option.bind_some _ _).symm.trans H; rw [hy790]; with_reducible exact H2_) | (have H2_ := (Option.bind_some _ _).symm.trans H; with_reducible exact H2_) | with_reducible exact H | (rw [hy790]; exact H) | exact H
             have Ny790 := aS hy790
             clear hy790
             replace H := bE H; obtain ⟨⟨t793, t794, t795⟩, A140, H⟩ := H; try dsimp only at H
             have HC141 := aS H
             clear H
             have hnb142 := NB733_734.out
             have hnc142 := NB734_733.out
             obtain ⟨hcz143_0, hcz143_1, hfz143_0, hfz143_1⟩ := z2 BK733.out
             obtain ⟨hcz144_0, hcz144_1, hfz144_0, hfz144_1⟩ := z2 BK734.out
             go_upto_region 24 with (first | ((with_reducible refine gate_dst (N := 184) rfl ?_); (try (refine gate_guard (by rfl) ?_; dsimp only)); refine Kd.R_lit k45 _ 45 ?hg (N := 184) ?hd (xs := ([(⟨t728, 100000⟩ : S45), (⟨t730, 100000⟩ : S45)] : List (S45))) (inner := [.int .i64 t728, .int .i64 100000, .int .i64 t730, .int .i64 100000]) (ok := fun _ => True) (okp := fun _ => True) ?hr ?hp (fun _ hk => hk) trivial (Below.refl _ _) (Nat.le_refl _) (by simp) ?_; (case hd => rfl); (case hg => rfl); (case hr => first | (go_simp; done) | (go_simp; rfl)); (case hp => exact (Reps.c2 (show Kd.M k45 _ _ _ (⟨t728, 100000⟩ : S45) [.int .i64 t728, .int .i64 100000] from (k45_mkM _ _ _ (⟨t728, 100000⟩ : S45) )) (Reps.c2 (show Kd.M k45 _ _ _ (⟨t730, 100000⟩ : S45) [.int .i64 t730, .int .i64 100000] from (k45_mkM _ _ _ (⟨t730, 100000⟩ : S45) )) (Reps.none _ _)))); intro v788 w145 ho146 hb hg_ hnew_; clear hg_ hnew_; (first | rw [← Ny787.out] at ho146 | (simp only [Int.reduceToNat] at ho146; rw [← Ny787.out] at ho146)); replace HO_3 := aS (Kd.R_below (sR HO_3.out) hb); have HO789 := aS (Kd.R_lower (Kd.R_newB (Kd.R_newB ho146 (g := gb733) (o := .cells #[.int .i64 t728, .int .i64 t729] 45 (0, 0)) (sB BK733.out)) (g := gb734) (o := .cells #[.int .i64 t730, .int .i64 t731] 45 (0, 0)) (sB BK734.out)) (below_size (sW HB.out))); replace BK733 := aS (blk_below (sB BK733.out) hb); replace BK734 := aS (blk_below (sB BK734.out) hb); replace HB := aS (below_step (sW HB.out) hb); clear hb ho146) | ((with_reducible refine gate_dst (N := 186) rfl ?_); (try (refine gate_guard (by rfl) ?_; dsimp only)); refine Kd.R_lit (Kd.int .i64) _ 2 ?hg (N := 186) ?hd (xs := ([x27_3] : List Int)) (inner := [.int .i64 x27_3]) (ok := fun _ => True) (okp := fun _ => True) ?hr ?hp (fun _ hk => hk) trivial (Below.refl _ _) (Nat.le_refl _) (by simp) ?_; (case hd => rfl); (case hg => rfl); (case hr => first | (go_simp; done) | (go_simp; rfl)); (case hp => exact (Reps.one (show Kd.M (Kd.int .i64) _ _ _ x27_3 [.int .i64 x27_3] from rfl) (Reps.none _ _))); intro v791 w147 ho148 hb hg_ hnew_; clear hg_ hnew_; (first | rw [← Ny790.out] at ho148 | (simp only [Int.reduceToNat] at ho148; rw [← Ny790.out] at ho148)); replace HO_3 := aS (Kd.R_below (sR HO_3.out) hb); replace HO789 := aS (Kd.R_below (sR HO789.out) hb); have HO792 := aS (Kd.R_lower ho148 (below_size (sW HB.out))); replace BK733 := aS (blk_below (sB BK733.out) hb); replace BK734 := aS (blk_below (sB BK734.out) hb); replace HB := aS (below_step (sW HB.out) hb); clear hb ho148; obtain ⟨Ao149, co149, eo149⟩ := Kd.R_slice HO792.out; subst eo149; obtain ⟨Ao150, co150, eo150⟩ := Kd.R_slice HO789.out; subst eo150) | (go_at_call 26; (with_reducible refine (impl_StrengthAt.calls k3 _ _ t725 _ _ y787 _ _ y790 0 t793 t794 t795 _ ?side1 ?side2 ?side3 ?side4 ?side5 ?side6 A140.out).mono ?_); (case side1 => exact sC (Kd.R_reads' HO_3.out).2.2); (case side2 => exact (Kd.R_reads' HO_3.out).2.1); (case side3 => exact sC (Kd.R_reads' HO789.out).2.2); (case side4 => exact (Kd.R_reads' HO789.out).2.1); (case side5 => exact sC (Kd.R_reads' HO792.out).2.2); (case side6 => exact (Kd.R_reads' HO792.out).2.1); rintro e w151 ⟨rfl, hb⟩; replace HO_3 := aS (Kd.R_below (sR HO_3.out) hb); replace HO789 := aS (Kd.R_below (sR HO789.out) hb); replace HO792 := aS (Kd.R_below (sR HO792.out) hb); replace BK733 := aS (blk_below (sB BK733.out) hb); replace BK734 := aS (blk_below (sB BK734.out) hb); replace HB := aS (below_step (sW HB.out) hb)) | ((with_reducible refine gate_dst (N := 28) rfl ?_); (try (refine gate_guard (by rfl) ?_; dsimp only)); refine bx 28 #[.int .i64 0, .int .i64 0] 55 ?_; intro gb796 hg w152 hbox hb; replace HO_3 := aS (Kd.R_below (sR HO_3.out) hb); replace HO789 := aS (Kd.R_below (sR HO789.out) hb); replace HO792 := aS (Kd.R_below (sR HO792.out) hb); have BK796 := aS (hbox); have GW796 := aS (gW hg (sW HB.out)); have GE796 := aS (gW hg (sW HB.out)); replace HB := aS (below_step (sW HB.out) hb); have NB733_796 := aS (nL hg (sB BK733.out)); have NB796_733 := aS (nG hg (sB BK733.out)); replace BK733 := aS (blk_below (sB BK733.out) hb); have NB734_796 := aS (nL hg (sB BK734.out)); have NB796_734 := aS (nG hg (sB BK734.out)); replace BK734 := aS (blk_below (sB BK734.out) hb); clear hb hbox hg; have hnb153 := NB796_733.out; have hnc153 := NB733_796.out; have hnb154 := NB796_734.out; have hnc154 := NB734_796.out; obtain ⟨hcz155_0, hcz155_1, hfz155_0, hfz155_1⟩ := z2 BK796.out) | ((with_reducible refine gR ?_); go_quiet (fail)))
             (try simp only [Act.put, List.setIfInBounds_toArray, List.set_cons_zero, List.set_cons_succ])
             go_cut [202] (fun v202 wc => ∃ (kq : Nat) (x202_140 : Bool), v202 = .bool x202_140 ∧ Aside0 (laws_FnBestJoins.j3 kq t725 t732 t737 x27_3 x202_140 t728 t729 t730 t731 t793 t794 = some true) ∧ Aside0 (kq ≤ k3) ∧ Aside0 (Kd.R k61 61 wc w.heap.size (fun _ => True) (.slice Ao21 t725.length co21) t725) ∧ Aside0 (wc.heap[gb733]? = some (.cells #[.int .i64 t728, .int .i64 t729] 45 (0, 0))) ∧ Aside0 (wc.heap[gb734]? = some (.cells #[.int .i64 t730, .int .i64 t731] 45 (0, 0))) ∧ Aside0 (wc.heap[gb796]? = some (.cells #[.int .i64 t793, .int .i64 t794] 55 (0, 0))) ∧ Aside0 (Below w.heap.size w wc))
             case first =>
              as_aux_lemma =>
               have H := HC141.out
               clear HC141
               replace H := iE H; rcases H with ⟨c156, H⟩ | ⟨c156, H⟩
               rotate_left
               ·
                have c156b0 := beq_eq_false_iff_ne.mpr c156
                have c156b1 := bne_iff_ne.mpr c156
                (first | rw [c156b0] | (simp only [i64_w, i32_w]; rw [c156b0]) | (rw [c156b2]; simp only [Bool.not_false, Bool.not_true]) | rw [c156b1] | skip)
                exact absurd H (by cases k3 <;> simp [laws_FnBestJoins.j3])
               have c156b0 := beq_iff_eq.mpr c156
               have c156b1 := bne_eq_false_iff_eq.mpr c156
               clear c156
               (first | rw [c156b0] | (simp only [i64_w, i32_w]; rw [c156b0]) | (rw [c156b2]; simp only [Bool.not_false, Bool.not_true]) | rw [c156b1] | skip)
               replace H := iE H; rcases H with ⟨c157, H⟩ | ⟨c157, H⟩
               ·
                have c157b0 := decide_eq_true c157
                clear c157
                exact absurd H (by cases k3 <;> simp [laws_FnBestJoins.j3])
               have c157b0 := decide_eq_false c157
               clear c157
               have H' := aS H
               clear H
               have hnb158 := NB796_733.out
               have hnc158 := NB733_796.out
               have hnb159 := NB796_734.out
               have hnc159 := NB734_796.out
               obtain ⟨hcz160_0, hcz160_1, hfz160_0, hfz160_1⟩ := z2 BK796.out
               go_wp2
               repeat (go_quiet (fail); try go_wp2)
               go_meet
               case rel => exact ⟨_, (decide (t794 > 1000)), eV, H', ⟨by have := HJ13.out; have := HJ101.out; have := HK3.out; first | omega | exact Nat.le_refl _⟩, (aS (sR (Kd.R_mono (rG (g := gb796) (Kd.R_types HO_3.out BK796.out (by decide)) (fun _ hk => hk.2)) (fun _ hk => trivial)))), (aS (sF BK733.out NB733_796.out)), (aS (sF BK734.out NB734_796.out)), (aS (sB (put2 BK796.out))), (aS (sW HB.out))⟩
             case rest =>
              as_aux_lemma =>
               clear HC141
               obtain ⟨kq, x202_140, rfl, HA, HJ140, HO_3, BK733, BK734, BK796, HB⟩ := hcut
               cases kq with
               | zero => exact absurd HA.out (by simp [laws_FnBestJoins.j3])
               | succ kj140 =>
                have H := HA.out
                clear HA
                simp only [laws_FnBestJoins.j3] at H
                replace H := iE H; rcases H with ⟨c161, H⟩ | ⟨c161, H⟩
                ·
                 subst c161
                 exact absurd H (by simp)
                replace c161 := Bool.eq_false_iff.mpr c161
                subst c161
                replace H := iE H; rcases H with ⟨c162, H⟩ | ⟨c162, H⟩
                ·
                 have c162b0 := beq_iff_eq.mpr c162
                 have c162b1 := bne_eq_false_iff_eq.mpr c162
                 clear c162
                 replace H := iE H; rcases H with ⟨c163, H⟩ | ⟨c163, H⟩
                 rotate_left
                 ·
                  have c163b0 : decide ((wrap64 (t732 * t794)) ≤ t793) = false := decide_eq_false c163
                  clear c163
                  exact absurd H (by simp)
                 have c163b0 : decide ((wrap64 (t732 * t794)) ≤ t793) = true := decide_eq_true c163
                 clear c163
                 replace H := iN H
                 obtain ⟨c164, H⟩ := H
                 have c164b0 := decide_eq_true c164
                 clear c164
                 replace H := iN H
                 obtain ⟨c165, H⟩ := H
                 have c165b0 := decide_eq_true c165
                 clear c165
                 replace H := iN H
                 obtain ⟨c166, H⟩ := H
                 have c166b0 := decide_eq_true c166
                 clear c166
                 replace H := iN H
                 obtain ⟨c167, H⟩ := H
                 have c167b0 := decide_eq_true c167
                 clear c167
                 replace H := iE H; rcases H with ⟨c168, H⟩ | ⟨c168, H⟩
                 ·
                  have c168b0 := decide_eq_true c168
                  clear c168
                  exact absurd H (by simp)
                 have c168b0 := decide_eq_false c168
                 clear c168
                 have H' := aS H
                 clear H
                 have hnb169 := NB796_733.out
                 have hnc169 := NB733_796.out
                 have hnb170 := NB796_734.out
                 have hnc170 := NB734_796.out
                 obtain ⟨hcz171_0, hcz171_1, hfz171_0, hfz171_1⟩ := z2 BK796.out
                 have p797 : 0 ≤ (x27_3 : Int) := sD
                 have q797 : x27_3 < (t725.length : Int) := sD
                 obtain ⟨ad797, e797, hx797_0, hx797_1, hx797_2⟩ := at_T61 (Kd.R_reads' HO_3.out).2.2 x27_3 p797 q797
                 cases e797
                 replace p797 := eq_true p797
                 replace q797 := eq_true q797
                 have p798 : 0 ≤ (t737 : Int) := sD
                 have q798 : t737 < (t725.length : Int) := sD
                 obtain ⟨ad798, e798, hx798_0, hx798_1, hx798_2⟩ := at_T61 (Kd.R_reads' HO_3.out).2.2 t737 p798 q798
                 obtain rfl : ad797 = ad798 := (by injection e798)
                 replace p798 := eq_true p798
                 replace q798 := eq_true q798
                 go_wp2
                 repeat (go_quiet (fail); try go_wp2)
                 go_roundg kj140
                 case measure => have := HJ13.out; have := HJ101.out; have := HK3.out; have := HJ140.out; omega
                 case rel => exact ⟨(wrap64 (x27_3 + 1)), eV, H', ⟨by have := HJ13.out; have := HJ101.out; have := HK3.out; have := HJ140.out; omega⟩, (aS (sR HO_3.out)), (aS (sB BK733.out)), (aS (sB BK734.out)), (aS (sW HB.out))⟩
                have c162b0 := beq_eq_false_iff_ne.mpr c162
                have c162b1 := bne_iff_ne.mpr c162
                replace H := iE H; rcases H with ⟨c172, H⟩ | ⟨c172, H⟩
                rotate_left
                ·
                 have c172b0 : decide ((wrap64 (t732 * t794)) ≤ t793) = false := decide_eq_false c172
                 clear c172
                 have H' := aS H
                 clear H
                 have hnb181 := NB796_733.out
                 have hnc181 := NB733_796.out
                 have hnb182 := NB796_734.out
                 have hnc182 := NB734_796.out
                 obtain ⟨hcz183_0, hcz183_1, hfz183_0, hfz183_1⟩ := z2 BK796.out
                 go_wp2
                 repeat (go_quiet (fail); try go_wp2)
                 go_roundg kj140
                 case measure => have := HJ13.out; have := HJ101.out; have := HK3.out; have := HJ140.out; omega
                 case rel => exact ⟨(wrap64 (x27_3 + 1)), eV, H', ⟨by have := HJ13.out; have := HJ101.out; have := HK3.out; have := HJ140.out; omega⟩, (aS (sR HO_3.out)), (aS (sB BK733.out)), (aS (sB BK734.out)), (aS (sW HB.out))⟩
                have c172b0 : decide ((wrap64 (t732 * t794)) ≤ t793) = true := decide_eq_true c172
                clear c172
                replace H := iN H
                obtain ⟨c173, H⟩ := H
                have c173b0 := decide_eq_true c173
                clear c173
                replace H := iN H
                obtain ⟨c174, H⟩ := H
                have c174b0 := decide_eq_true c174
                clear c174
                replace H := iN H
                obtain ⟨c175, H⟩ := H
                have c175b0 := decide_eq_true c175
                clear c175
                replace H := iN H
                obtain ⟨c176, H⟩ := H
                have c176b0 := decide_eq_true c176
                clear c176
                replace H := iE H; rcases H with ⟨c177, H⟩ | ⟨c177, H⟩
                ·
                 have c177b0 := decide_eq_true c177
                 clear c177
                 exact absurd H (by simp)
                have c177b0 := decide_eq_false c177
                clear c177
                have H' := aS H
                clear H
                have hnb178 := NB796_733.out
                have hnc178 := NB733_796.out
                have hnb179 := NB796_734.out
                have hnc179 := NB734_796.out
                obtain ⟨hcz180_0, hcz180_1, hfz180_0, hfz180_1⟩ := z2 BK796.out
                have p799 : 0 ≤ (x27_3 : Int) := sD
                have q799 : x27_3 < (t725.length : Int) := sD
                obtain ⟨ad799, e799, hx799_0, hx799_1, hx799_2⟩ := at_T61 (Kd.R_reads' HO_3.out).2.2 x27_3 p799 q799
                cases e799
                replace p799 := eq_true p799
                replace q799 := eq_true q799
                have p800 : 0 ≤ (t737 : Int) := sD
                have q800 : t737 < (t725.length : Int) := sD
                obtain ⟨ad800, e800, hx800_0, hx800_1, hx800_2⟩ := at_T61 (Kd.R_reads' HO_3.out).2.2 t737 p800 q800
                obtain rfl : ad799 = ad800 := (by injection e800)
                replace p800 := eq_true p800
                replace q800 := eq_true q800
                go_wp2
                repeat (go_quiet (fail); try go_wp2)
                go_roundg kj140
                case measure => have := HJ13.out; have := HJ101.out; have := HK3.out; have := HJ140.out; omega
                case rel => exact ⟨(wrap64 (x27_3 + 1)), eV, H', ⟨by have := HJ13.out; have := HJ101.out; have := HK3.out; have := HJ140.out; omega⟩, (aS (sR HO_3.out)), (aS (sB BK733.out)), (aS (sB BK734.out)), (aS (sW HB.out))⟩
         ·
          have c138b0 := beq_eq_false_iff_ne.mpr c138
          have c138b1 := bne_iff_ne.mpr c138
          clear H
          go_wp2
          repeat (go_quiet (fail); try go_wp2)
          go_ret
          exact ⟨eE, sW HB.out⟩
  
/-- THE ONE PURE STATEMENT of laws_FnBestJoins. -/
def laws_FnBestJoins.Pure : Prop := ∀ (l0 : List Int), (l0.length * 1 ≤ 140737488351232 ∧ l0.length ≤ maxLen ∧ (∀ y0 ∈ l0, (Lit.int .u8 y0).wf = true)) → ∃ k, laws_FnBestJoins.f k l0 = some true
theorem laws_FnBestJoins.walk : True := trivial

end Go.Proofs.Ytginmioklkcgbaa.QFnBestJoins

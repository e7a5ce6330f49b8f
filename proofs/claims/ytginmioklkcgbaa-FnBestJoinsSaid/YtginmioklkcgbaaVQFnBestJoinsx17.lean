/- What the Go functions of this law compute, each as a Lean function, and that each call comes to that answer; written by a program of this session. No condition. -/
import Derived.Test.YtginmioklkcgbaaVShn
import Derived.Test.YtginmioklkcgbaaVQFnBestJoinsx0
import Derived.Test.YtginmioklkcgbaaVQFnBestJoinsx7
import Derived.Test.YtginmioklkcgbaaVQFnBestJoinsx8
import Derived.Test.YtginmioklkcgbaaVQFnBestJoinsx12
import Derived.Test.YtginmioklkcgbaaVQFnBestJoinsx13
import Derived.Test.YtginmioklkcgbaaVQFnBestJoinsx16
namespace Go.Proofs.Ytginmioklkcgbaa.QFnBestJoins
open Go.RowKit Go.Proofs.YtginmioklkcgbaaW.PrintWords Go.Proofs.YtginmioklkcgbaaW.PrintLast Go.Proofs.YtginmioklkcgbaaW.PrintMore
attribute [local go_sem] max2_int min2_int max_two min_two max_three min_three max_four min_four   -- for this text's walks alone
set_option linter.unusedVariables false
set_option linter.unusedSimpArgs false

/-! ### spec_DrawStrengthAt: function 25 -/
def spec_DrawStrengthAt.f (k : Nat) (l0 : List Int) : Option ((List (S61)) × (List (S45)) × List Int × Int) := (spec_l00From.f l0).bind fun bt568 => ((spec_l03Bent.f k bt568.1 bt568.2.1 bt568.2.2).bind fun bt572 => ((spec_l03DrawLine.f k bt568.1 bt572.2.1 bt572.2.2 bt572.1).bind fun bt577 => ((spec_l00Src_pick.f bt568.1 bt577.2.2.1 bt577.2.2.2 (wrap64 ((bt577.2.1.length : Int) + 1))).bind fun bt586 => ((spec_l00Src_pick.f bt568.1 bt586.2.1 bt586.2.2 16).bind fun bt589 => (some (bt572.1, bt577.1, bt577.2.1, wrap64 (bt586.1 - (wrap64 (Int.tdiv bt589.1 15)))))))))
theorem spec_DrawStrengthAt.mono : ∀ a0 k, LeO (spec_DrawStrengthAt.f k a0) (spec_DrawStrengthAt.f (k + 1) a0) := by
 intro a0 k
 unfold spec_DrawStrengthAt.f
 repeat' first | (with_reducible first | exact spec_l03Bent.mono _ _ _ _ | exact spec_l03DrawLine.mono _ _ _ _ _ | exact LeO.refl _ | exact LeO.none _ | refine LeO.ite ?_ ?_ | refine LeO.bind ?_ (fun _ => ?_)) | refine LeO.ite ?_ ?_ | refine LeO.bind ?_ (fun _ => ?_)
def spec_DrawStrengthAt.T4 : Bool × List (List Nat × List Nat) := (true, [([], []), ([], []), ([], []), ([], []), ([3], [3]), ([4], [4]), ([5], [5]), ([2, 6], [2, 6]), ([], []), ([8, 7], [8]), ([9], [9]), ([7, 10], [7, 10]), ([0, 9, 0], [0]), ([1, 12, 0, 1, 12], [1]), ([11, 13, 0, 1, 2, 3, 4, 5, 6, 7, 8, 9, 10, 11, 12, 13], [11])])
def spec_DrawStrengthAt.B4 : List Nat := [0, 0, 0, 0, 8, 24, 56, 124, 0, 508, 1020, 2044, 1021, 5119, 16383]
theorem spec_DrawStrengthAt.tab4 : rtab .any (opsOf Try.f25 4) = spec_DrawStrengthAt.T4 := by kernel_rfl
theorem spec_DrawStrengthAt.bits4 : waitsOk spec_DrawStrengthAt.T4.2 spec_DrawStrengthAt.B4 = true := by kernel_rfl
set_option maxHeartbeats 8000000 in
set_option maxRecDepth 100000 in
theorem spec_DrawStrengthAt.calls (k : Nat) (A0 : Option Addr) (c0 : Nat) (l0 : List Int) (r1 : List (S61)) (r2 : List (S45)) (r3 : List Int) (r4 : Int) (w : World) (hr0 : Kd.C (Kd.int .u8) w A0 l0.length l0) (hc0 : l0.length ≤ c0) (h : spec_DrawStrengthAt.f k l0 = some (r1, r2, r3, r4)) :
  Calls Try.prog 25 #[.slice A0 l0.length c0] w fun e w' => ∃ v0_ v1_ v2_ : Value, e = .returned (.tuple #[v0_, .agg #[v1_, v2_], .int .i64 r4]) ∧ Kd.R k61 61 w' w.heap.size (fun _ => True) v0_ r1 ∧ Kd.R k45 45 w' w.heap.size (fun _ => True) v1_ r2 ∧ Kd.R (Kd.int .i64) 2 w' w.heap.size (fun _ => True) v2_ r3 ∧ Below w.heap.size w w' := by
 have hu29 := Try.underlying29
 have HR0 := aS hr0
 have HC0 := aS hc0
 clear hr0 hc0
 have HB := aS (Below.refl w.heap.size w)
 have H := h
 clear h
 unfold spec_DrawStrengthAt.f at H
 replace H := Option.bind_eq_some_iff.mp H
 obtain ⟨⟨t568, t569, t570⟩, A20, H⟩ := H
 replace H : ((spec_l03Bent.f k t568 t569 t570).bind fun bt572 => ((spec_l03DrawLine.f k t568 bt572.2.1 bt572.2.2 bt572.1).bind fun bt577 => ((spec_l00Src_pick.f t568 bt577.2.2.1 bt577.2.2.2 (wrap64 ((bt577.2.1.length : Int) + 1))).bind fun bt586 => ((spec_l00Src_pick.f t568 bt586.2.1 bt586.2.2 16).bind fun bt589 => (some (bt572.1, bt577.1, bt577.2.1, wrap64 (bt586.1 - (wrap64 (Int.tdiv bt589.1 15))))))))) = some (r1, r2, r3, r4) := H
 have A2 := aS A20
 clear A20
 replace H := Option.bind_eq_some_iff.mp H
 obtain ⟨⟨t572, t575, t576⟩, A30, H⟩ := H
 replace H : ((spec_l03DrawLine.f k t568 t575 t576 t572).bind fun bt577 => ((spec_l00Src_pick.f t568 bt577.2.2.1 bt577.2.2.2 (wrap64 ((bt577.2.1.length : Int) + 1))).bind fun bt586 => ((spec_l00Src_pick.f t568 bt586.2.1 bt586.2.2 16).bind fun bt589 => (some (t572, bt577.1, bt577.2.1, wrap64 (bt586.1 - (wrap64 (Int.tdiv bt589.1 15)))))))) = some (r1, r2, r3, r4) := H
 have A3 := aS A30
 clear A30
 replace H := Option.bind_eq_some_iff.mp H
 obtain ⟨⟨t577, t580, t583, t584⟩, A40, H⟩ := H
 replace H : ((spec_l00Src_pick.f t568 t583 t584 (wrap64 ((t580.length : Int) + 1))).bind fun bt586 => ((spec_l00Src_pick.f t568 bt586.2.1 bt586.2.2 16).bind fun bt589 => (some (t572, t577, t580, wrap64 (bt586.1 - (wrap64 (Int.tdiv bt589.1 15))))))) = some (r1, r2, r3, r4) := H
 have A4 := aS A40
 clear A40
 replace H := Option.bind_eq_some_iff.mp H
 obtain ⟨⟨t586, t587, t588⟩, A50, H⟩ := H
 replace H : ((spec_l00Src_pick.f t568 t587 t588 16).bind fun bt589 => (some (t572, t577, t580, wrap64 (t586 - (wrap64 (Int.tdiv bt589.1 15)))))) = some (r1, r2, r3, r4) := H
 have A5 := aS A50
 clear A50
 replace H := Option.bind_eq_some_iff.mp H
 obtain ⟨⟨t589, t590, t591⟩, A60, H⟩ := H
 replace H : (some (t572, t577, t580, wrap64 (t586 - (wrap64 (Int.tdiv t589 15))))) = some (r1, r2, r3, r4) := H
 have A6 := aS A60
 clear A60
 simp only [Option.some.injEq, Prod.mk.injEq] at H
 obtain ⟨rfl, rfl, rfl, rfl⟩ := H
 go_enter Try.func25, Try.ntmps25
 try go_wp2_with (first | ((with_reducible refine gate_dst (N := 3) rfl ?_); refine bx 3 #[.slice none 0 0, .slice none 0 0] 29 ?_; intro gb567 hg w7 hbox hb; have BK567 := aS (hbox); have GW567 := aS (gW hg (sW HB.out)); have GE567 := aS (gW hg (sW HB.out)); replace HB := aS (below_step (sW HB.out) hb); clear hb hbox hg) | ((with_reducible refine gate_callee (f := 63) rfl ?_); refine goesL_ (some 9) rfl rfl Try.func63 (by kernel_rfl) rfl #[.slice A0 l0.length c0] rfl sG ?_; (with_reducible refine (spec_l00From.calls _ _ l0 t568 t569 t570 w _ ?side1 ?side2 ?side3 A2.out).mono ?_); (case side1 => exact sW HB.out); (case side2 => exact HR0.out); (case side3 => exact HC0.out); rintro e w8 ⟨g571, rfl, hi, hb, hb2⟩; refine ⟨_, rfl, ?_⟩; replace HB := aS (hb); have HI571 := aS (hi); have NB571_567 := aS (IsS127.ne_blk hi (blk_below (sB BK567.out) hb2) (by decide)); have NB567_571 := aS (Ne.symm (IsS127.ne_blk hi (blk_below (sB BK567.out) hb2) (by decide))); replace BK567 := aS (blk_below (sB BK567.out) hb2)) | ((with_reducible refine gate_callee (f := 64) rfl ?_); refine goesL_ (some 11) rfl rfl Try.func64 (by kernel_rfl) rfl #[.pointer (some ⟨g571, 0, none⟩)] rfl sG ?_; (with_reducible refine (spec_l03Bent.calls k g571 t568 t569 t570 t572 t575 t576 w _ ?side1 ?side2 A3.out).mono ?_); (case side1 => exact IsS127.s HI571.out); (case side2 => exact sWg HB.out (IsS127.ge HI571.out)); rintro e w9 ⟨v573, rfl, ho0, hi, hb, hk⟩; refine ⟨_, rfl, ?_⟩; replace BK567 := aS (kB hk (sB BK567.out) NB567_571.out); have HO574 := aS (Kd.R_lower ho0 (below_size (sWg HB.out (IsS127.ge HI571.out)))); replace HB := aS (hb); replace HI571 := aS (hi); (try clear hb); (try clear hb2); (try clear hk); (try clear hi); (try clear ho0); obtain ⟨Ao10, co10, eo10⟩ := Kd.R_slice HO574.out; subst eo10) | ((with_reducible refine gate_callee (f := 71) rfl ?_); refine goesL_ (some 14) rfl rfl Try.func71 (by kernel_rfl) rfl #[.pointer (some ⟨g571, 0, none⟩), .slice Ao10 t572.length co10] rfl sG ?_; (with_reducible refine (spec_l03DrawLine.calls k g571 t568 t575 t576 _ _ t572 t577 t580 t583 t584 w _ ?side1 ?side2 ?side3 ?side4 A4.out).mono ?_); (case side1 => exact IsS127.s HI571.out); (case side2 => exact sWg HB.out (IsS127.ge HI571.out)); (case side3 => exact Kd.C_foot_own (IsS127.apart (show IsS127 w _ g571 t568 t575 t576 from IsS127.s HI571.out) (sR HO574.out) (by decide)) (fun _ h_ => h_.2)); (case side4 => exact (Kd.R_reads' HO574.out).2.1); rintro e w11 ⟨v578, v581, rfl, ho0, ho1, hi, hb, hk⟩; refine ⟨_, rfl, ?_⟩; replace BK567 := aS (kB hk (sB BK567.out) NB567_571.out); replace HO574 := aS (Kd.R_mono (Kd.R_keep (IsS127.apart (show IsS127 w _ g571 t568 t575 t576 from IsS127.s HI571.out) (sR HO574.out) (by decide)) hk (fun _ h => h.2)) (fun _ h => h.1)); have HO579 := aS (Kd.R_lower ho0 (below_size (sWg HB.out (IsS127.ge HI571.out)))); have HO582 := aS (Kd.R_lower ho1 (below_size (sWg HB.out (IsS127.ge HI571.out)))); replace HB := aS (hb); replace HI571 := aS (hi)) | ((with_reducible refine gate_dst (N := 7) rfl ?_); refine bx 7 #[.slice none 0 0, .slice none 0 0] 29 ?_; intro gb585 hg w12 hbox hb; replace HO574 := aS (Kd.R_below (sR HO574.out) hb); replace HO579 := aS (Kd.R_below (sR HO579.out) hb); replace HO582 := aS (Kd.R_below (sR HO582.out) hb); have BK585 := aS (hbox); have GW585 := aS ((by rw [hg]; exact (below_size (sWg HB.out (IsS127.ge HI571.out))) : w.heap.size ≤ gb585)); have GE585 := aS ((by rw [hg]; exact (below_size (sWg HB.out (IsS127.ge HI571.out))) : w.heap.size ≤ gb585)); replace HB := aS (below_step (sWg HB.out (IsS127.ge HI571.out)) hb); have NB567_585 := aS (nL hg (sB BK567.out)); have NB585_567 := aS (nG hg (sB BK567.out)); replace BK567 := aS (blk_below (sB BK567.out) hb); have NB571_585 := aS ((by rw [hg]; exact Nat.ne_of_lt (IsS127.lt (show IsS127 w _ g571 t568 t583 t584 from IsS127.s HI571.out)) : g571 ≠ gb585)); have NB585_571 := aS ((by rw [hg]; exact Nat.ne_of_gt (IsS127.lt (show IsS127 w _ g571 t568 t583 t584 from IsS127.s HI571.out)) : gb585 ≠ g571)); replace HI571 := aS (IsS127.below (IsS127.s HI571.out) hb); clear hb hbox hg; obtain ⟨Ao13, co13, eo13⟩ := Kd.R_slice HO579.out; subst eo13; have hnb14 := NB585_567.out; have hnc14 := NB567_585.out; have hnb15 := NB585_571.out; have hnc15 := NB571_585.out; obtain ⟨hcz16_0, hcz16_1, hfz16_0, hfz16_1⟩ := z2 BK585.out; obtain ⟨Ao17, co17, eo17⟩ := Kd.R_slice HO582.out; subst eo17))
 have n0_ : Aside0 (Kd.R k61 61 ((w12.setCell ⟨gb585, 0, none⟩ (.slice Ao13 t577.length co13)).setCell ⟨gb585, 1, none⟩ (.slice Ao17 t580.length co17)) w.heap.size (fun _ => True) (.slice Ao10 t572.length co10) t572) := (aS (sR (Kd.R_mono (rG (g := gb585) (Kd.R_types HO574.out BK585.out (by decide)) (fun _ hk => hk.2)) (fun _ hk => trivial))))
 have n1_ : Aside0 (Kd.R k45 45 ((w12.setCell ⟨gb585, 0, none⟩ (.slice Ao13 t577.length co13)).setCell ⟨gb585, 1, none⟩ (.slice Ao17 t580.length co17)) w.heap.size (fun _ => True) (.slice Ao13 t577.length co13) t577) := (aS (sR (Kd.R_mono (rG (g := gb585) (Kd.R_types HO579.out BK585.out (by decide)) (fun _ hk => hk.2)) (fun _ hk => trivial))))
 have n2_ : Aside0 (Kd.R (Kd.int .i64) 2 ((w12.setCell ⟨gb585, 0, none⟩ (.slice Ao13 t577.length co13)).setCell ⟨gb585, 1, none⟩ (.slice Ao17 t580.length co17)) w.heap.size (fun _ => True) (.slice Ao17 t580.length co17) t580) := (aS (sR (Kd.R_mono (rG (g := gb585) (Kd.R_types HO582.out BK585.out (by decide)) (fun _ hk => hk.2)) (fun _ hk => trivial))))
 have n3_ : Aside0 (((w12.setCell ⟨gb585, 0, none⟩ (.slice Ao13 t577.length co13)).setCell ⟨gb585, 1, none⟩ (.slice Ao17 t580.length co17)).heap[gb567]? = some (.cells #[.slice none 0 0, .slice none 0 0] 29 (0, 0))) := (aS (sF BK567.out NB567_585.out))
 have n4_ : Aside0 (((w12.setCell ⟨gb585, 0, none⟩ (.slice Ao13 t577.length co13)).setCell ⟨gb585, 1, none⟩ (.slice Ao17 t580.length co17)).heap[gb585]? = some (.cells #[.slice Ao13 t577.length co13, .slice Ao17 t580.length co17] 29 (0, 0))) := (aS (sB (put2 BK585.out)))
 have n5_ : Aside0 (IsS127 w ((w12.setCell ⟨gb585, 0, none⟩ (.slice Ao13 t577.length co13)).setCell ⟨gb585, 1, none⟩ (.slice Ao17 t580.length co17)) g571 t568 t583 t584) := (aS (IsS127.s HI571.out))
 have n6_ : Aside0 (Below w.heap.size w ((w12.setCell ⟨gb585, 0, none⟩ (.slice Ao13 t577.length co13)).setCell ⟨gb585, 1, none⟩ (.slice Ao17 t580.length co17))) := (aS (sWg HB.out (IsS127.ge HI571.out)))
 generalize ((w12.setCell ⟨gb585, 0, none⟩ (.slice Ao13 t577.length co13)).setCell ⟨gb585, 1, none⟩ (.slice Ao17 t580.length co17)) = w18 at n0_ n1_ n2_ n3_ n4_ n5_ n6_ ⊢
 have HO574 := n0_; have HO579 := n1_; have HO582 := n2_; have BK567 := n3_; have BK585 := n4_; have HI571 := n5_; have HB := n6_
 clear n0_ n1_ n2_ n3_ n4_ n5_ n6_
 replace HO574 := aS (Kd.R_drew HO574.out); replace HO579 := aS (Kd.R_drew HO579.out); replace HO582 := aS (Kd.R_drew HO582.out); replace BK567 := aS (blk_drew BK567.out); replace BK585 := aS (blk_drew BK585.out); replace HI571 := aS (IsS127.drew HI571.out); replace HB := aS (below_drew1 HB.out)
 refine start_ (n := 15) (S := fun w' => w'.cell? ⟨gb585, 0, none⟩ = some (.slice Ao13 t577.length co13) ∧ w'.cell? ⟨gb585, 1, none⟩ = some (.slice Ao17 t580.length co17)) (ds := []) _ (by kernel_rfl) rfl rfl ⟨bq BK585.out 0, bq BK585.out 1⟩ (fun hHeld => ?_); refine with_tabW spec_DrawStrengthAt.tab4 spec_DrawStrengthAt.bits4 (fun HT_ HW_ => ?_)
 generalize w18.drew = w19 at HO574 HO579 HO582 BK567 BK585 HI571 HB hHeld ⊢
 refine pX 0 15 ?_; refine pX 2 17 ?_; refine pX 3 18 ?_; refine pX 8 23 ?_; refine tX 1 16 ?_; refine tX 4 19 ?_; refine pX 5 20 ?_; refine pX 6 21 ?_
 refine oX 7 (some 22) fun K hK => ?_
 refine goes_ Try.func70 (by kernel_rfl) rfl #[.pointer (some ⟨g571, 0, none⟩), .int .i64 (wrap64 ((t580.length : Int) + 1))] (by rfl) rfl rfl sG ?_
 with_reducible refine (spec_l00Src_pick.calls g571 t568 t583 t584 (wrap64 ((t580.length : Int) + 1)) t586 t587 t588 w _ ?side1 ?side2 A5.out).mono ?_
 (case side1 => exact IsS127.s HI571.out)
 (case side2 => exact sWg HB.out (IsS127.ge HI571.out))
 rintro e w20 ⟨rfl, hi, hb, hk⟩
 refine ⟨_, rfl, ?_⟩
 replace BK567 := aS (kB hk (sB BK567.out) NB567_571.out); replace HO574 := aS (Kd.R_mono (Kd.R_keep (IsS127.apart (show IsS127 w _ g571 t568 t583 t584 from IsS127.s HI571.out) (sR HO574.out) (by decide)) hk (fun _ h => h.2)) (fun _ h => h.1)); replace HO579 := aS (Kd.R_mono (Kd.R_keep (IsS127.apart (show IsS127 w _ g571 t568 t583 t584 from IsS127.s HI571.out) (sR HO579.out) (by decide)) hk (fun _ h => h.2)) (fun _ h => h.1)); replace HO582 := aS (Kd.R_mono (Kd.R_keep (IsS127.apart (show IsS127 w _ g571 t568 t583 t584 from IsS127.s HI571.out) (sR HO582.out) (by decide)) hk (fun _ h => h.2)) (fun _ h => h.1)); replace BK585 := aS (kB hk (sB BK585.out) NB585_571.out); replace HB := aS (hb); replace HI571 := aS (hi)
 refine hK.out _ _ ⟨bq BK585.out 0, bq BK585.out 1⟩ (fun hHeld => ?_)
 clear hK K
 refine nX 22 ?_
 refine oX 9 (some 24) fun K hK => ?_
 refine goes_ Try.func70 (by kernel_rfl) rfl #[.pointer (some ⟨g571, 0, none⟩), .int .i64 16] (by rfl) rfl rfl sG ?_
 with_reducible refine (spec_l00Src_pick.calls g571 t568 t587 t588 16 t589 t590 t591 w _ ?side1 ?side2 A6.out).mono ?_
 (case side1 => exact IsS127.s HI571.out)
 (case side2 => exact sWg HB.out (IsS127.ge HI571.out))
 rintro e w21 ⟨rfl, hi, hb, hk⟩
 refine ⟨_, rfl, ?_⟩
 replace BK567 := aS (kB hk (sB BK567.out) NB567_571.out); replace HO574 := aS (Kd.R_mono (Kd.R_keep (IsS127.apart (show IsS127 w _ g571 t568 t587 t588 from IsS127.s HI571.out) (sR HO574.out) (by decide)) hk (fun _ h => h.2)) (fun _ h => h.1)); replace HO579 := aS (Kd.R_mono (Kd.R_keep (IsS127.apart (show IsS127 w _ g571 t568 t587 t588 from IsS127.s HI571.out) (sR HO579.out) (by decide)) hk (fun _ h => h.2)) (fun _ h => h.1)); replace HO582 := aS (Kd.R_mono (Kd.R_keep (IsS127.apart (show IsS127 w _ g571 t568 t587 t588 from IsS127.s HI571.out) (sR HO582.out) (by decide)) hk (fun _ h => h.2)) (fun _ h => h.1)); replace BK585 := aS (kB hk (sB BK585.out) NB585_571.out); replace HB := aS (hb); replace HI571 := aS (hi)
 refine hK.out _ _ ⟨bq BK585.out 0, bq BK585.out 1⟩ (fun hHeld => ?_)
 clear hK K
 refine nX 24 ?_
 refine pX 10 25 ?_; refine pX 11 26 ?_; refine pX 12 2 ?_
 refine oX 13 none fun K hK => ?_
 have hs22 : w21.cell? ⟨gb567, 0, none⟩ = some (.slice none 0 0) := bq BK567.out 0
 have hfs22 := blk_frozen BK567.out 0
 have hns22_1 := NB585_567.out
 have hms22_1 := NB567_585.out
 have hs23 : w21.cell? ⟨gb567, 1, none⟩ = some (.slice none 0 0) := bq BK567.out 1
 have hfs23 := blk_frozen BK567.out 1
 have hns23_1 := NB585_567.out
 have hms23_1 := NB567_585.out
 refine skip_ (w1 := ?_) (by rfl) rfl ?_ ?_
 rotate_left
 ·
  go_simp
  rfl
 refine hK.out _ _ ⟨((cell_far (p := ⟨gb567, _, none⟩) NB585_567.out _).trans (((cell_far (p := ⟨gb567, _, none⟩) NB585_567.out _).trans (hHeld.1)))), ((cell_far (p := ⟨gb567, _, none⟩) NB585_567.out _).trans (((cell_far (p := ⟨gb567, _, none⟩) NB585_567.out _).trans (hHeld.2))))⟩ (fun hHeld => ?_)
 clear hK K
 refine pX 14 4 ?_
 refine dX ?_
 try go_wp2
 refine bodyPost_ret (results_list (rs := [.tmp 2, .cell 3 29, .tmp 4]) rfl (by simp) (.tmp (.cell gb567 29 #[.slice Ao13 t577.length co13, .slice Ao17 t580.length co17] (0, 0) _ rfl (sB (put2 BK567.out)) Try.underlying29 rfl (by kernel_rfl) (.tmp .nil)))) rfl ?_
 exact ⟨_, _, _, eE, sR (Kd.R_mono (rG (g := gb567) (Kd.R_types HO574.out BK567.out (by decide)) (fun _ hk => hk.2)) (fun _ hk => trivial)), sR (Kd.R_mono (rG (g := gb567) (Kd.R_types HO579.out BK567.out (by decide)) (fun _ hk => hk.2)) (fun _ hk => trivial)), sR (Kd.R_mono (rG (g := gb567) (Kd.R_types HO582.out BK567.out (by decide)) (fun _ hk => hk.2)) (fun _ hk => trivial)), sWg HB.out (IsS127.ge HI571.out)⟩

/-! ### impl_lineLength: function 99 -/
mutual
def impl_lineLength.l0 : Nat → List (S61) → Int → List (S45) → Int → Int → List (S45) → List Int → Option (Int)
 | 0, _, _, _, _, _, _, _ => none
 | k + 1, x0, x5, x11, x12, x13, x593000, x593001 => if x13 < x12 then (if 0 ≤ x13 then (if x13 < (x11.length : Int) then (impl_lineLength.l0 k x0 (wrap64 (x5 + ((rd_T45 x11 x13).f1))) x11 x12 (wrap64 (x13 + 1)) x593000 x593001) else (none)) else (none)) else (impl_lineLength.l1 k x0 x5 x593001 (x593001.length : Int) 0)
def impl_lineLength.l1 : Nat → List (S61) → Int → List Int → Int → Int → Option (Int)
 | 0, _, _, _, _, _ => none
 | k + 1, x0, x5, x23, x24, x25 => if x25 < x24 then (if 0 ≤ x25 then (if x25 < (x23.length : Int) then (if 0 ≤ (rd x23 x25) then (if (rd x23 x25) < (x0.length : Int) then (impl_lineLength.l1 k x0 (wrap64 (x5 - ((rd_T61 x0 (rd x23 x25)).f2))) x23 x24 (wrap64 (x25 + 1))) else (none)) else (none)) else (none)) else (none)) else (some x5)
end
def impl_lineLength.f (k : Nat) (l0 : List (S61)) (l1_0 : List (S45)) (l1_1 : List Int) : Option (Int) := impl_lineLength.l0 k l0 0 l1_0 (l1_0.length : Int) 0 l1_0 l1_1
theorem impl_lineLength.mono_l : ∀ k, (∀ y0 y1 y2 y3 y4 y5 y6, LeO (impl_lineLength.l0 k y0 y1 y2 y3 y4 y5 y6) (impl_lineLength.l0 (k + 1) y0 y1 y2 y3 y4 y5 y6)) ∧ (∀ y0 y1 y2 y3 y4, LeO (impl_lineLength.l1 k y0 y1 y2 y3 y4) (impl_lineLength.l1 (k + 1) y0 y1 y2 y3 y4))
 | 0 => by refine ⟨?_, ?_⟩ <;> (intros; intro r h; simp [impl_lineLength.l0, impl_lineLength.l1] at h)
 | k + 1 => by
  obtain ⟨ih0, ih1⟩ := impl_lineLength.mono_l k
  refine ⟨?_, ?_⟩ <;> (intros; (first | unfold impl_lineLength.l0 | unfold impl_lineLength.l1); repeat' first | (with_reducible first | exact ih0 _ _ _ _ _ _ _ | exact ih1 _ _ _ _ _ | exact LeO.refl _ | exact LeO.none _ | refine LeO.ite ?_ ?_ | refine LeO.bind ?_ (fun _ => ?_)) | refine LeO.ite ?_ ?_ | refine LeO.bind ?_ (fun _ => ?_))
theorem impl_lineLength.mono : ∀ a0 a1 a2 k, LeO (impl_lineLength.f k a0 a1 a2) (impl_lineLength.f (k + 1) a0 a1 a2) := by
 intro a0 a1 a2 k
 obtain ⟨ih0, ih1⟩ := impl_lineLength.mono_l k
 unfold impl_lineLength.f
 repeat' first | (with_reducible first | exact ih0 _ _ _ _ _ _ _ | exact ih1 _ _ _ _ _ | exact LeO.refl _ | exact LeO.none _ | refine LeO.ite ?_ ?_ | refine LeO.bind ?_ (fun _ => ?_)) | refine LeO.ite ?_ ?_ | refine LeO.bind ?_ (fun _ => ?_)
set_option maxHeartbeats 8000000 in
set_option maxRecDepth 100000 in
theorem impl_lineLength.calls (k : Nat) (A0 : Option Addr) (c0 : Nat) (l0 : List (S61)) (A1_0 : Option Addr) (c1_0 : Nat) (l1_0 : List (S45)) (A1_1 : Option Addr) (c1_1 : Nat) (l1_1 : List Int) (r : Int) (w : World) (hr0 : Kd.C k61 w A0 l0.length l0) (hc0 : l0.length ≤ c0) (hr1_0 : Kd.C k45 w A1_0 l1_0.length l1_0) (hc1_0 : l1_0.length ≤ c1_0) (hr1_1 : Kd.C (Kd.int .i64) w A1_1 l1_1.length l1_1) (hc1_1 : l1_1.length ≤ c1_1) (h : impl_lineLength.f k l0 l1_0 l1_1 = some r) :
  Calls Try.prog 99 #[.slice A0 l0.length c0, .agg #[.slice A1_0 l1_0.length c1_0, .slice A1_1 l1_1.length c1_1]] w fun e w' => e = .returned (.int .i64 r) ∧ Below w.heap.size w w' := by
 have hu29 := Try.underlying29
 have hu45 := Try.underlying45
 have HR0 := aS hr0
 have HC0 := aS hc0
 clear hr0 hc0
 have HR1_0 := aS hr1_0
 have HC1_0 := aS hc1_0
 clear hr1_0 hc1_0
 have HR1_1 := aS hr1_1
 have HC1_1 := aS hc1_1
 clear hr1_1 hc1_1
 have HB := aS (Below.refl w.heap.size w)
 have H := h
 clear h
 unfold impl_lineLength.f at H
 have H' := aS H
 clear H
 go_enter Try.func99, Try.ntmps99
 go_wp2_with (first | ((with_reducible refine gate_dst (N := 3) rfl ?_); refine bx 3 #[.slice A1_0 l1_0.length c1_0, .slice A1_1 l1_1.length c1_1] 29 ?_; intro gb592 hg w3 hbox hb; have BK592 := aS (hbox); have GW592 := aS (gW hg (sW HB.out)); have GE592 := aS (gW hg (sW HB.out)); replace HB := aS (below_step (sW HB.out) hb); clear hb hbox hg; obtain ⟨hcz4_0, hcz4_1, hfz4_0, hfz4_1⟩ := z2 BK592.out))
 go_loopg [5, 13] k (fun kq v5 v13 w' => ∃ (x5_1 : Int) (x13_1 : Int), v5 = .int .i64 x5_1 ∧ v13 = .int .i64 x13_1 ∧ Aside0 (impl_lineLength.l0 kq l0 x5_1 l1_0 (l1_0.length : Int) x13_1 l1_0 l1_1 = some r) ∧ Aside0 (kq ≤ k) ∧ Aside0 (w'.heap[gb592]? = some (.cells #[(.slice A1_0 l1_0.length c1_0), (.slice A1_1 l1_1.length c1_1)] 29 (0, 0))) ∧ Aside0 (Below w.heap.size w w'))
 case atStart => exact ⟨(0), (0), eV, eV, H', ⟨Nat.le_refl _⟩, (aS (sB BK592.out)), (aS (sW HB.out))⟩
 case round =>
  clear H'
  obtain ⟨x5_1, x13_1, rfl, rfl, HA, HK1, BK592, HB⟩ := hrel
  cases gk with
  | zero => exact absurd HA.out (by simp [impl_lineLength.l0])
  | succ k1 =>
   have H := HA.out
   clear HA
   simp only [impl_lineLength.l0] at H
   replace H := iE H; rcases H with ⟨c5, H⟩ | ⟨c5, H⟩
   ·
    have c5b0 := decide_eq_true c5
    clear c5
    replace H := iE H; rcases H with ⟨c6, H⟩ | ⟨c6, H⟩
    ·
     have c6b0 := decide_eq_true c6
     clear c6
     replace H := iE H; rcases H with ⟨c7, H⟩ | ⟨c7, H⟩
     ·
      have c7b0 := decide_eq_true c7
      clear c7
      have H' := aS H
      clear H
      have p593 : 0 ≤ (x13_1 : Int) := sD
      have q593 : x13_1 < (l1_0.length : Int) := sD
      obtain ⟨ad593, e593, hx593_0, hx593_1⟩ := at_T45 HR1_0.out x13_1 p593 q593
      cases e593
      replace hx593_0 := bC HB.out hx593_0
      replace hx593_1 := bC HB.out hx593_1
      replace p593 := eq_true p593
      replace q593 := eq_true q593
      go_wp2_with (first | ((with_reducible refine gate_dst (N := 7) rfl ?_); refine bx 7 #[.int .i64 0, .int .i64 0] 45 ?_; intro gb594 hg w8 hbox hb; have BK594 := aS (hbox); have GW594 := aS (gW hg (sW HB.out)); have GE594 := aS (gW hg (sW HB.out)); replace HB := aS (below_step (sW HB.out) hb); have NB592_594 := aS (nL hg (sB BK592.out)); have NB594_592 := aS (nG hg (sB BK592.out)); replace BK592 := aS (blk_below (sB BK592.out) hb); clear hb hbox hg; have hnb9 := NB594_592.out; have hnc9 := NB592_594.out; obtain ⟨hcz10_0, hcz10_1, hfz10_0, hfz10_1⟩ := z2 BK594.out))
      go_roundg k1
      case measure => have := HK1.out; omega
      case rel => exact ⟨(wrap64 (x5_1 + ((rd_T45 l1_0 x13_1).f1))), (wrap64 (x13_1 + 1)), eV, eV, H', ⟨by have := HK1.out; omega⟩, (aS (sF BK592.out NB592_594.out)), (aS (sW HB.out))⟩
     ·
      exact absurd H (by simp)
    ·
     exact absurd H (by simp)
   ·
    have c5b0 := decide_eq_false c5
    clear c5
    have H' := aS H
    clear H
    obtain ⟨hcz11_0, hcz11_1, hfz11_0, hfz11_1⟩ := z2 BK592.out
    go_wp2
    go_loopg [5, 25] k1 (fun kq v5 v25 w' => ∃ (x5_2 : Int) (x25_2 : Int), v5 = .int .i64 x5_2 ∧ v25 = .int .i64 x25_2 ∧ Aside0 (impl_lineLength.l1 kq l0 x5_2 l1_1 (l1_1.length : Int) x25_2 = some r) ∧ Aside0 (kq ≤ k1) ∧ Aside0 (Below w.heap.size w w'))
    case atStart => exact ⟨(x5_1), (0), eV, eV, H', ⟨Nat.le_refl _⟩, (aS (sW HB.out))⟩
    case round =>
     clear H'
     (try clear hx5); (try clear hx593_0); (try clear hx593_1)
     obtain ⟨x5_2, x25_2, rfl, rfl, HA, HK2, HB⟩ := hrel
     cases gk with
     | zero => exact absurd HA.out (by simp [impl_lineLength.l1])
     | succ k2 =>
      have H := HA.out
      clear HA
      simp only [impl_lineLength.l1] at H
      replace H := iE H; rcases H with ⟨c12, H⟩ | ⟨c12, H⟩
      ·
       have c12b0 := decide_eq_true c12
       clear c12
       replace H := iE H; rcases H with ⟨c13, H⟩ | ⟨c13, H⟩
       ·
        have c13b0 := decide_eq_true c13
        clear c13
        replace H := iE H; rcases H with ⟨c14, H⟩ | ⟨c14, H⟩
        ·
         have c14b0 := decide_eq_true c14
         clear c14
         replace H := iE H; rcases H with ⟨c15, H⟩ | ⟨c15, H⟩
         ·
          have c15b0 := decide_eq_true c15
          clear c15
          replace H := iE H; rcases H with ⟨c16, H⟩ | ⟨c16, H⟩
          ·
           have c16b0 := decide_eq_true c16
           clear c16
           have H' := aS H
           clear H
           have p595 : 0 ≤ (x25_2 : Int) := sD
           have q595 : x25_2 < (l1_1.length : Int) := sD
           obtain ⟨ad595, e595, hx595_0⟩ := Kd.at_int HR1_1.out x25_2 p595 q595
           cases e595
           replace hx595_0 := bC HB.out hx595_0
           replace p595 := eq_true p595
           replace q595 := eq_true q595
           have p596 : 0 ≤ ((rd l1_1 x25_2) : Int) := sD
           have q596 : (rd l1_1 x25_2) < (l0.length : Int) := sD
           obtain ⟨ad596, e596, hx596_0, hx596_1, hx596_2⟩ := at_T61 HR0.out (rd l1_1 x25_2) p596 q596
           cases e596
           replace hx596_0 := bC HB.out hx596_0
           replace hx596_1 := bC HB.out hx596_1
           replace hx596_2 := bC HB.out hx596_2
           replace p596 := eq_true p596
           replace q596 := eq_true q596
           go_wp2
           go_roundg k2
           case measure => have := HK1.out; have := HK2.out; omega
           case rel => exact ⟨(wrap64 (x5_2 - ((rd_T61 l0 (rd l1_1 x25_2)).f2))), (wrap64 (x25_2 + 1)), eV, eV, H', ⟨by have := HK1.out; have := HK2.out; omega⟩, (aS (sW HB.out))⟩
          ·
           exact absurd H (by simp)
         ·
          exact absurd H (by simp)
        ·
         exact absurd H (by simp)
       ·
        exact absurd H (by simp)
      ·
       have c12b0 := decide_eq_false c12
       clear c12
       obtain rfl := Option.some.inj H
       go_wp2
       go_ret
       exact ⟨eE, sW HB.out⟩

/-! ### impl_validLine: function 72 -/
mutual
def impl_validLine.j0 : Nat → List (S61) → Bool → List (S45) → List Int → Option (Bool)
 | 0, _, _, _, _ => none
 | k + 1, x0, x28, x598000, x598001 => if x28 = true then (some false) else (impl_validLine.l0 k x0 x598000 (x598000.length : Int) 0 x598000 x598001)
def impl_validLine.l0 : Nat → List (S61) → List (S45) → Int → Int → List (S45) → List Int → Option (Bool)
 | 0, _, _, _, _, _, _ => none
 | k + 1, x0, x30, x31, x32, x598000, x598001 => if x32 < x31 then (if 0 ≤ x32 then (if x32 < (x30.length : Int) then ((impl_validPiece.f ((rd_T45 x30 x32).f0) ((rd_T45 x30 x32).f1)).bind fun t600 => (if t600 = true then (impl_validLine.l0 k x0 x30 x31 (wrap64 (x32 + 1)) x598000 x598001) else (some false))) else (none)) else (none)) else (impl_validLine.l1 k x0 x598001 (x598001.length : Int) 0 x598000 x598001)
def impl_validLine.l1 : Nat → List (S61) → List Int → Int → Int → List (S45) → List Int → Option (Bool)
 | 0, _, _, _, _, _, _ => none
 | k + 1, x0, x41, x42, x43, x598000, x598001 => if x43 < x42 then (if 0 ≤ x43 then (if x43 < (x41.length : Int) then ((impl_within.f (rd x41 x43) 0 (wrap64 ((x0.length : Int) - 1))).bind fun t602 => (if t602 = true then (impl_validLine.l1 k x0 x41 x42 (wrap64 (x43 + 1)) x598000 x598001) else (some false))) else (none)) else (none)) else ((impl_lineLength.f k x0 x598000 x598001).bind fun t603 => (some (decide (t603 ≥ 1))))
end
def impl_validLine.f (k : Nat) (l0 : List (S61)) (l1_0 : List (S45)) (l1_1 : List Int) : Option (Bool) := if (l1_0.length : Int) < 1 then (impl_validLine.j0 k l0 true l1_0 l1_1) else (if (l1_0.length : Int) > 12 then (impl_validLine.j0 k l0 true l1_0 l1_1) else (impl_validLine.j0 k l0 ((l1_1.length : Int) != (wrap64 ((l1_0.length : Int) - 1))) l1_0 l1_1))
theorem impl_validLine.mono_l : ∀ k, (∀ y0 y1 y2 y3, LeO (impl_validLine.j0 k y0 y1 y2 y3) (impl_validLine.j0 (k + 1) y0 y1 y2 y3)) ∧ (∀ y0 y1 y2 y3 y4 y5, LeO (impl_validLine.l0 k y0 y1 y2 y3 y4 y5) (impl_validLine.l0 (k + 1) y0 y1 y2 y3 y4 y5)) ∧ (∀ y0 y1 y2 y3 y4 y5, LeO (impl_validLine.l1 k y0 y1 y2 y3 y4 y5) (impl_validLine.l1 (k + 1) y0 y1 y2 y3 y4 y5))
 | 0 => by refine ⟨?_, ?_, ?_⟩ <;> (intros; intro r h; simp [impl_validLine.j0, impl_validLine.l0, impl_validLine.l1] at h)
 | k + 1 => by
  obtain ⟨ih0, ih1, ih2⟩ := impl_validLine.mono_l k
  refine ⟨?_, ?_, ?_⟩ <;> (intros; (first | unfold impl_validLine.j0 | unfold impl_validLine.l0 | unfold impl_validLine.l1); repeat' first | (with_reducible first | exact ih0 _ _ _ _ | exact ih1 _ _ _ _ _ _ | exact ih2 _ _ _ _ _ _ | exact impl_lineLength.mono _ _ _ _ | exact LeO.refl _ | exact LeO.none _ | refine LeO.ite ?_ ?_ | refine LeO.bind ?_ (fun _ => ?_)) | refine LeO.ite ?_ ?_ | refine LeO.bind ?_ (fun _ => ?_))
theorem impl_validLine.mono : ∀ a0 a1 a2 k, LeO (impl_validLine.f k a0 a1 a2) (impl_validLine.f (k + 1) a0 a1 a2) := by
 intro a0 a1 a2 k
 obtain ⟨ih0, ih1, ih2⟩ := impl_validLine.mono_l k
 unfold impl_validLine.f
 repeat' first | (with_reducible first | exact ih0 _ _ _ _ | exact ih1 _ _ _ _ _ _ | exact ih2 _ _ _ _ _ _ | exact impl_lineLength.mono _ _ _ _ | exact LeO.refl _ | exact LeO.none _ | refine LeO.ite ?_ ?_ | refine LeO.bind ?_ (fun _ => ?_)) | refine LeO.ite ?_ ?_ | refine LeO.bind ?_ (fun _ => ?_)
set_option maxHeartbeats 8000000 in
set_option maxRecDepth 100000 in
theorem impl_validLine.calls (k : Nat) (A0 : Option Addr) (c0 : Nat) (l0 : List (S61)) (A1_0 : Option Addr) (c1_0 : Nat) (l1_0 : List (S45)) (A1_1 : Option Addr) (c1_1 : Nat) (l1_1 : List Int) (r : Bool) (w : World) (hr0 : Kd.C k61 w A0 l0.length l0) (hc0 : l0.length ≤ c0) (hr1_0 : Kd.C k45 w A1_0 l1_0.length l1_0) (hc1_0 : l1_0.length ≤ c1_0) (hr1_1 : Kd.C (Kd.int .i64) w A1_1 l1_1.length l1_1) (hc1_1 : l1_1.length ≤ c1_1) (h : impl_validLine.f k l0 l1_0 l1_1 = some r) :
  Calls Try.prog 72 #[.slice A0 l0.length c0, .agg #[.slice A1_0 l1_0.length c1_0, .slice A1_1 l1_1.length c1_1]] w fun e w' => e = .returned (.bool r) ∧ Below w.heap.size w w' := by
 have hu29 := Try.underlying29
 have hu45 := Try.underlying45
 have HR0 := aS hr0
 have HC0 := aS hc0
 clear hr0 hc0
 have HR1_0 := aS hr1_0
 have HC1_0 := aS hc1_0
 clear hr1_0 hc1_0
 have HR1_1 := aS hr1_1
 have HC1_1 := aS hc1_1
 clear hr1_1 hc1_1
 have HB := aS (Below.refl w.heap.size w)
 have H := h
 clear h
 unfold impl_validLine.f at H
 have HC3 := aS H
 clear H
 go_enter Try.func72, Try.ntmps72
 go_upto_region 1 with (first | ((with_reducible refine gate_dst (N := 3) rfl ?_); (try (refine gate_guard (by rfl) ?_; dsimp only)); refine bx 3 #[.slice A1_0 l1_0.length c1_0, .slice A1_1 l1_1.length c1_1] 29 ?_; intro gb597 hg w4 hbox hb; have BK597 := aS (hbox); have GW597 := aS (gW hg (sW HB.out)); have GE597 := aS (gW hg (sW HB.out)); replace HB := aS (below_step (sW HB.out) hb); clear hb hbox hg))
 (try simp only [Act.put, List.setIfInBounds_toArray, List.set_cons_zero, List.set_cons_succ])
 go_cut [28] (fun v28 wc => ∃ (kq : Nat) (x28_2 : Bool), v28 = .bool x28_2 ∧ Aside0 (impl_validLine.j0 kq l0 x28_2 l1_0 l1_1 = some r) ∧ Aside0 (kq ≤ k) ∧ Aside0 (wc.heap[gb597]? = some (.cells #[(.slice A1_0 l1_0.length c1_0), (.slice A1_1 l1_1.length c1_1)] 29 (0, 0))) ∧ Aside0 (Below w.heap.size w wc))
 case first =>
  have H := HC3.out
  clear HC3
  replace H := iE H; rcases H with ⟨c5, H⟩ | ⟨c5, H⟩
  ·
   have c5b0 := decide_eq_true c5
   have c5b1 : decide (l1_0.length < 1) = true := decide_eq_true (by omega)
   clear c5
   (first | rw [c5b0] | (simp only [i64_w, i32_w]; rw [c5b0]) | (rw [c5b2]; simp only [Bool.not_false, Bool.not_true]) | skip)
   have H' := aS H
   clear H
   obtain ⟨hcz6_0, hcz6_1, hfz6_0, hfz6_1⟩ := z2 BK597.out
   go_wp2
   go_meet
   case rel => exact ⟨_, (true), eV, H', ⟨by first | omega | exact Nat.le_refl _⟩, (aS (sB BK597.out)), (aS (sW HB.out))⟩
  ·
   have c5b0 := decide_eq_false c5
   have c5b1 : decide (l1_0.length < 1) = false := decide_eq_false (by omega)
   clear c5
   (first | rw [c5b0] | (simp only [i64_w, i32_w]; rw [c5b0]) | (rw [c5b2]; simp only [Bool.not_false, Bool.not_true]) | skip)
   replace H := iE H; rcases H with ⟨c7, H⟩ | ⟨c7, H⟩
   ·
    have c7b0 : decide (12 < (l1_0.length : Int)) = true := decide_eq_true c7
    have c7b1 : decide (12 < l1_0.length) = true := decide_eq_true (by omega)
    clear c7
    have H' := aS H
    clear H
    obtain ⟨hcz8_0, hcz8_1, hfz8_0, hfz8_1⟩ := z2 BK597.out
    go_wp2
    go_meet
    case rel => exact ⟨_, (true), eV, H', ⟨by first | omega | exact Nat.le_refl _⟩, (aS (sB BK597.out)), (aS (sW HB.out))⟩
   ·
    have c7b0 : decide (12 < (l1_0.length : Int)) = false := decide_eq_false c7
    have c7b1 : decide (12 < l1_0.length) = false := decide_eq_false (by omega)
    clear c7
    have H' := aS H
    clear H
    obtain ⟨hcz9_0, hcz9_1, hfz9_0, hfz9_1⟩ := z2 BK597.out
    go_wp2
    go_meet
    case rel => exact ⟨_, (((l1_1.length : Int) != (wrap64 ((l1_0.length : Int) - 1)))), eV, H', ⟨by first | omega | exact Nat.le_refl _⟩, (aS (sB BK597.out)), (aS (sW HB.out))⟩
 case rest =>
  clear HC3
  obtain ⟨kq, x28_2, rfl, HA, HJ2, BK597, HB⟩ := hcut
  cases kq with
  | zero => exact absurd HA.out (by simp [impl_validLine.j0])
  | succ kj2 =>
   have H := HA.out
   clear HA
   simp only [impl_validLine.j0] at H
   replace H := iE H; rcases H with ⟨c10, H⟩ | ⟨c10, H⟩
   ·
    subst c10
    obtain rfl := Option.some.inj H
    go_wp2
    go_ret
    exact ⟨eE, sW HB.out⟩
   ·
    replace c10 := Bool.eq_false_iff.mpr c10
    subst c10
    have H' := aS H
    clear H
    obtain ⟨hcz11_0, hcz11_1, hfz11_0, hfz11_1⟩ := z2 BK597.out
    go_wp2
    go_loopg [32] kj2 (fun kq v32 w' => ∃ (x32_2 : Int), v32 = .int .i64 x32_2 ∧ Aside0 (impl_validLine.l0 kq l0 l1_0 (l1_0.length : Int) x32_2 l1_0 l1_1 = some r) ∧ Aside0 (kq ≤ kj2) ∧ Aside0 (w'.heap[gb597]? = some (.cells #[(.slice A1_0 l1_0.length c1_0), (.slice A1_1 l1_1.length c1_1)] 29 (0, 0))) ∧ Aside0 (Below w.heap.size w w'))
    case atStart => exact ⟨(0), eV, H', ⟨Nat.le_refl _⟩, (aS (sB BK597.out)), (aS (sW HB.out))⟩
    case round =>
     clear H'
     obtain ⟨x32_2, rfl, HA, HK2, BK597, HB⟩ := hrel
     cases gk with
     | zero => exact absurd HA.out (by simp [impl_validLine.l0])
     | succ k2 =>
      have H := HA.out
      clear HA
      simp only [impl_validLine.l0] at H
      replace H := iE H; rcases H with ⟨c12, H⟩ | ⟨c12, H⟩
      ·
       have c12b0 := decide_eq_true c12
       clear c12
       replace H := iE H; rcases H with ⟨c13, H⟩ | ⟨c13, H⟩
       ·
        have c13b0 := decide_eq_true c13
        clear c13
        replace H := iE H; rcases H with ⟨c14, H⟩ | ⟨c14, H⟩
        ·
         have c14b0 := decide_eq_true c14
         clear c14
         replace H := bE H; obtain ⟨t600, A15, H⟩ := H; try dsimp only at H
         have HC16 := aS H
         clear H
         have p598 : 0 ≤ (x32_2 : Int) := sD
         have q598 : x32_2 < (l1_0.length : Int) := sD
         obtain ⟨ad598, e598, hx598_0, hx598_1⟩ := at_T45 HR1_0.out x32_2 p598 q598
         cases e598
         replace hx598_0 := bC HB.out hx598_0
         replace hx598_1 := bC HB.out hx598_1
         replace p598 := eq_true p598
         replace q598 := eq_true q598
         go_upto_if 38 with (first | ((with_reducible refine gate_dst (N := 6) rfl ?_); (try (refine gate_guard (by rfl) ?_; dsimp only)); refine bx 6 #[.int .i64 0, .int .i64 0] 45 ?_; intro gb599 hg w17 hbox hb; have BK599 := aS (hbox); have GW599 := aS (gW hg (sW HB.out)); have GE599 := aS (gW hg (sW HB.out)); replace HB := aS (below_step (sW HB.out) hb); have NB597_599 := aS (nL hg (sB BK597.out)); have NB599_597 := aS (nG hg (sB BK597.out)); replace BK597 := aS (blk_below (sB BK597.out) hb); clear hb hbox hg; have hnb18 := NB599_597.out; have hnc18 := NB597_599.out; obtain ⟨hcz19_0, hcz19_1, hfz19_0, hfz19_1⟩ := z2 BK599.out) | ((with_reducible refine gate_callee (f := 49) rfl ?_); refine goesL_ (some 37) rfl rfl Try.func49 (by kernel_rfl) rfl #[.agg #[.int .i64 ((rd_T45 l1_0 x32_2).f0), .int .i64 ((rd_T45 l1_0 x32_2).f1)]] rfl sG ?_; (with_reducible refine (impl_validPiece.calls ((rd_T45 l1_0 x32_2).f0) ((rd_T45 l1_0 x32_2).f1) t600 _ A15.out).mono ?_); rintro e w20 ⟨rfl, hb⟩; refine ⟨_, rfl, ?_⟩; replace BK597 := aS (blk_below (sF BK597.out NB597_599.out) hb); replace BK599 := aS (blk_below (sB (put2 BK599.out)) hb); replace HB := aS (below_step (sW HB.out) hb)))
         (try simp only [Act.put, List.setIfInBounds_toArray, List.set_cons_zero, List.set_cons_succ])
         have H := HC16.out
         clear HC16
         replace H := iE H; rcases H with ⟨c21, H⟩ | ⟨c21, H⟩
         ·
          subst c21
          have H' := aS H
          clear H
          go_wp2
          go_roundg k2
          case measure => have := HJ2.out; have := HK2.out; omega
          case rel => exact ⟨(wrap64 (x32_2 + 1)), eV, H', ⟨by have := HJ2.out; have := HK2.out; omega⟩, (aS (sB BK597.out)), (aS (sW HB.out))⟩
         ·
          replace c21 := Bool.eq_false_iff.mpr c21
          subst c21
          obtain rfl := Option.some.inj H
          go_wp2
          go_ret
          exact ⟨eE, sW HB.out⟩
        ·
         exact absurd H (by simp)
       ·
        exact absurd H (by simp)
      ·
       have c12b0 := decide_eq_false c12
       clear c12
       have H' := aS H
       clear H
       obtain ⟨hcz22_0, hcz22_1, hfz22_0, hfz22_1⟩ := z2 BK597.out
       go_wp2
       go_loopg [43] k2 (fun kq v43 w' => ∃ (x43_3 : Int), v43 = .int .i64 x43_3 ∧ Aside0 (impl_validLine.l1 kq l0 l1_1 (l1_1.length : Int) x43_3 l1_0 l1_1 = some r) ∧ Aside0 (kq ≤ k2) ∧ Aside0 (w'.heap[gb597]? = some (.cells #[(.slice A1_0 l1_0.length c1_0), (.slice A1_1 l1_1.length c1_1)] 29 (0, 0))) ∧ Aside0 (Below w.heap.size w w'))
       case atStart => exact ⟨(0), eV, H', ⟨Nat.le_refl _⟩, (aS (sB BK597.out)), (aS (sW HB.out))⟩
       case round =>
        clear H'
        (try clear hx5); (try clear hx598_0); (try clear hx598_1)
        obtain ⟨x43_3, rfl, HA, HK3, BK597, HB⟩ := hrel
        cases gk with
        | zero => exact absurd HA.out (by simp [impl_validLine.l1])
        | succ k3 =>
         have H := HA.out
         clear HA
         simp only [impl_validLine.l1] at H
         replace H := iE H; rcases H with ⟨c23, H⟩ | ⟨c23, H⟩
         ·
          have c23b0 := decide_eq_true c23
          clear c23
          replace H := iE H; rcases H with ⟨c24, H⟩ | ⟨c24, H⟩
          ·
           have c24b0 := decide_eq_true c24
           clear c24
           replace H := iE H; rcases H with ⟨c25, H⟩ | ⟨c25, H⟩
           ·
            have c25b0 := decide_eq_true c25
            clear c25
            replace H := bE H; obtain ⟨t602, A26, H⟩ := H; try dsimp only at H
            have HC27 := aS H
            clear H
            have p601 : 0 ≤ (x43_3 : Int) := sD
            have q601 : x43_3 < (l1_1.length : Int) := sD
            obtain ⟨ad601, e601, hx601_0⟩ := Kd.at_int HR1_1.out x43_3 p601 q601
            cases e601
            replace hx601_0 := bC HB.out hx601_0
            replace p601 := eq_true p601
            replace q601 := eq_true q601
            go_upto_if 52 with (first | ((with_reducible refine gate_callee (f := 50) rfl ?_); refine goesL_ (some 51) rfl rfl Try.func50 (by kernel_rfl) rfl #[.int .i64 (rd l1_1 x43_3), .int .i64 0, .int .i64 (wrap64 ((l0.length : Int) - 1))] rfl sG ?_; (with_reducible refine (impl_within.calls (rd l1_1 x43_3) 0 (wrap64 ((l0.length : Int) - 1)) t602 _ A26.out).mono ?_); rintro e w' ⟨rfl, ⟨nd, rfl⟩⟩; refine ⟨_, rfl, ?_⟩))
            (try simp only [Act.put, List.setIfInBounds_toArray, List.set_cons_zero, List.set_cons_succ])
            have H := HC27.out
            clear HC27
            replace H := iE H; rcases H with ⟨c28, H⟩ | ⟨c28, H⟩
            ·
             subst c28
             have H' := aS H
             clear H
             go_wp2
             go_roundg k3
             case measure => have := HJ2.out; have := HK2.out; have := HK3.out; omega
             case rel => exact ⟨(wrap64 (x43_3 + 1)), eV, H', ⟨by have := HJ2.out; have := HK2.out; have := HK3.out; omega⟩, (aS (sB BK597.out)), (aS (sW HB.out))⟩
            ·
             replace c28 := Bool.eq_false_iff.mpr c28
             subst c28
             obtain rfl := Option.some.inj H
             go_wp2
             go_ret
             exact ⟨eE, sW HB.out⟩
           ·
            exact absurd H (by simp)
          ·
           exact absurd H (by simp)
         ·
          have c23b0 := decide_eq_false c23
          clear c23
          replace H := bE H; obtain ⟨t603, A29, H⟩ := H; try dsimp only at H
          obtain rfl := Option.some.inj H
          obtain ⟨hcz30_0, hcz30_1, hfz30_0, hfz30_1⟩ := z2 BK597.out
          go_wp2_with (first | ((with_reducible refine gate_callee (f := 99) rfl ?_); refine goesL_ (some 56) rfl rfl Try.func99 (by kernel_rfl) rfl #[.slice A0 l0.length c0, .agg #[.slice A1_0 l1_0.length c1_0, .slice A1_1 l1_1.length c1_1]] rfl sG ?_; (with_reducible refine (impl_lineLength.calls k3 _ _ l0 _ _ l1_0 _ _ l1_1 t603 _ ?side1 ?side2 ?side3 ?side4 ?side5 ?side6 A29.out).mono ?_); (case side1 => exact sC (Kd.C_below HR0.out HB.out)); (case side2 => exact HC0.out); (case side3 => exact sC (Kd.C_below HR1_0.out HB.out)); (case side4 => exact HC1_0.out); (case side5 => exact sC (Kd.C_below HR1_1.out HB.out)); (case side6 => exact HC1_1.out); rintro e w31 ⟨rfl, hb⟩; refine ⟨_, rfl, ?_⟩; replace BK597 := aS (blk_below (sB BK597.out) hb); replace HB := aS (below_step (sW HB.out) hb)))
          go_ret
          exact ⟨eE, sW HB.out⟩

end Go.Proofs.Ytginmioklkcgbaa.QFnBestJoins

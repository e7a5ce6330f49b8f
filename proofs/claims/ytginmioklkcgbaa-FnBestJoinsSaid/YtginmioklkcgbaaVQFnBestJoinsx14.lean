/- What the Go functions of this law compute, each as a Lean function, and that each call comes to that answer; written by a program of this session. No condition. -/
import Derived.Test.YtginmioklkcgbaaVShn
import Derived.Test.YtginmioklkcgbaaVQFnBestJoinsx0
import Derived.Test.YtginmioklkcgbaaVQFnBestJoinsx7
import Derived.Test.YtginmioklkcgbaaVQFnBestJoinsx8
import Derived.Test.YtginmioklkcgbaaVQFnBestJoinsx10
import Derived.Test.YtginmioklkcgbaaVQFnBestJoinsx12
import Derived.Test.YtginmioklkcgbaaVQFnBestJoinsx13
namespace Go.Proofs.Ytginmioklkcgbaa.QFnBestJoins
open Go.RowKit Go.Proofs.YtginmioklkcgbaaW.PrintWords Go.Proofs.YtginmioklkcgbaaW.PrintLast Go.Proofs.YtginmioklkcgbaaW.PrintMore
attribute [local go_sem] max2_int min2_int max_two min_two max_three min_three max_four min_four   -- for this text's walks alone
set_option linter.unusedVariables false
set_option linter.unusedSimpArgs false

/-! ### spec_DrawBestJoin: function 21 -/
def spec_DrawBestJoin.j0 : Nat → List (S61) → List Int → Int → Int → Int → Int → Int → Int → Option ((List (S61)) × Int × Int × Int × Int × Int)
 | 0, _, _, _, _, _, _, _, _ => none
 | k + 1, x7, x412000, x412001, x412002, x422000, x422001, x427000, x427001 => (spec_l00Src_one.f x412000 x412001 x412002 16).bind fun bt434 => (if bt434.1 = true then ((spec_l03SpoilPiece.f x412000 bt434.2.1 bt434.2.2 x427000 x427001).bind fun bt437 => ((spec_l03DrawNeed.f x412000 bt437.2.2.1 bt437.2.2.2).bind fun bt441 => (some (x7, x422000, x422001, bt437.1, bt437.2.1, bt441.1)))) else ((spec_l03DrawNeed.f x412000 bt434.2.1 bt434.2.2).bind fun bt444 => (some (x7, x422000, x422001, x427000, x427001, bt444.1))))
def spec_DrawBestJoin.f (k : Nat) (l0 : List Int) : Option ((List (S61)) × Int × Int × Int × Int × Int) := (spec_l00From.f l0).bind fun bt408 => ((spec_l03Bent.f k bt408.1 bt408.2.1 bt408.2.2).bind fun bt412 => ((spec_l03DrawPiece.f bt408.1 bt412.2.1 bt412.2.2).bind fun bt417 => ((spec_l03DrawPiece.f bt408.1 bt417.2.2.1 bt417.2.2.2).bind fun bt422 => ((spec_l00Src_one.f bt408.1 bt422.2.2.1 bt422.2.2.2 16).bind fun bt427 => (if bt427.1 = true then ((spec_l03SpoilPiece.f bt408.1 bt427.2.1 bt427.2.2 bt417.1 bt417.2.1).bind fun bt430 => (spec_DrawBestJoin.j0 k bt412.1 bt408.1 bt430.2.2.1 bt430.2.2.2 bt430.1 bt430.2.1 bt422.1 bt422.2.1)) else (spec_DrawBestJoin.j0 k bt412.1 bt408.1 bt427.2.1 bt427.2.2 bt417.1 bt417.2.1 bt422.1 bt422.2.1))))))
theorem spec_DrawBestJoin.mono_l : ∀ k, (∀ y0 y1 y2 y3 y4 y5 y6 y7, LeO (spec_DrawBestJoin.j0 k y0 y1 y2 y3 y4 y5 y6 y7) (spec_DrawBestJoin.j0 (k + 1) y0 y1 y2 y3 y4 y5 y6 y7))
 | 0 => fun _ _ _ _ _ _ _ _ r h => by simp [spec_DrawBestJoin.j0] at h
 | k + 1 => by
  have ih0 := spec_DrawBestJoin.mono_l k
  ·
   intro y0 y1 y2 y3 y4 y5 y6 y7
   unfold spec_DrawBestJoin.j0
   repeat' first | (with_reducible first | exact ih0 _ _ _ _ _ _ _ _ | exact spec_l03Bent.mono _ _ _ _ | exact LeO.refl _ | exact LeO.none _ | refine LeO.ite ?_ ?_ | refine LeO.bind ?_ (fun _ => ?_)) | refine LeO.ite ?_ ?_ | refine LeO.bind ?_ (fun _ => ?_)
theorem spec_DrawBestJoin.mono : ∀ a0 k, LeO (spec_DrawBestJoin.f k a0) (spec_DrawBestJoin.f (k + 1) a0) := by
 intro a0 k
 have ih0 := spec_DrawBestJoin.mono_l k
 unfold spec_DrawBestJoin.f
 repeat' first | (with_reducible first | exact ih0 _ _ _ _ _ _ _ _ | exact spec_l03Bent.mono _ _ _ _ | exact LeO.refl _ | exact LeO.none _ | refine LeO.ite ?_ ?_ | refine LeO.bind ?_ (fun _ => ?_)) | refine LeO.ite ?_ ?_ | refine LeO.bind ?_ (fun _ => ?_)
def spec_DrawBestJoin.T9 : Bool × List (List Nat × List Nat) := (true, [([], []), ([], []), ([], []), ([], []), ([3], [3]), ([0, 4, 0], [0]), ([1, 5, 0, 1, 5], [1]), ([2, 6, 0, 1, 2, 5, 6], [2]), ([4, 7, 0, 1, 2, 3, 4, 5, 6, 7], [4])])
def spec_DrawBestJoin.B9 : List Nat := [0, 0, 0, 0, 8, 25, 59, 127, 255]
theorem spec_DrawBestJoin.tab9 : rtab .any (opsOf Try.f21 9) = spec_DrawBestJoin.T9 := by kernel_rfl
theorem spec_DrawBestJoin.bits9 : waitsOk spec_DrawBestJoin.T9.2 spec_DrawBestJoin.B9 = true := by kernel_rfl
def spec_DrawBestJoin.bF (n k : Nat) : Array Bool := ((List.range n).map fun i => k.testBit i).toArray
set_option maxHeartbeats 8000000 in
set_option maxRecDepth 100000 in
theorem spec_DrawBestJoin.calls (k : Nat) (A0 : Option Addr) (c0 : Nat) (l0 : List Int) (r1 : List (S61)) (r2 : Int) (r3 : Int) (r4 : Int) (r5 : Int) (r6 : Int) (w : World) (hr0 : Kd.C (Kd.int .u8) w A0 l0.length l0) (hc0 : l0.length ≤ c0) (h : spec_DrawBestJoin.f k l0 = some (r1, r2, r3, r4, r5, r6)) :
  Calls Try.prog 21 #[.slice A0 l0.length c0] w fun e w' => ∃ v0_ : Value, e = .returned (.tuple #[v0_, .agg #[.int .i64 r2, .int .i64 r3], .agg #[.int .i64 r4, .int .i64 r5], .int .i64 r6]) ∧ Kd.R k61 61 w' w.heap.size (fun _ => True) v0_ r1 ∧ Below w.heap.size w w' := by
 have hu45 := Try.underlying45
 have HR0 := aS hr0
 have HC0 := aS hc0
 clear hr0 hc0
 have HB := aS (Below.refl w.heap.size w)
 have H := h
 clear h
 unfold spec_DrawBestJoin.f at H
 replace H := Option.bind_eq_some_iff.mp H
 obtain ⟨⟨t408, t409, t410⟩, A20, H⟩ := H
 replace H : ((spec_l03Bent.f k t408 t409 t410).bind fun bt412 => ((spec_l03DrawPiece.f t408 bt412.2.1 bt412.2.2).bind fun bt417 => ((spec_l03DrawPiece.f t408 bt417.2.2.1 bt417.2.2.2).bind fun bt422 => ((spec_l00Src_one.f t408 bt422.2.2.1 bt422.2.2.2 16).bind fun bt427 => (if bt427.1 = true then ((spec_l03SpoilPiece.f t408 bt427.2.1 bt427.2.2 bt417.1 bt417.2.1).bind fun bt430 => (spec_DrawBestJoin.j0 k bt412.1 t408 bt430.2.2.1 bt430.2.2.2 bt430.1 bt430.2.1 bt422.1 bt422.2.1)) else (spec_DrawBestJoin.j0 k bt412.1 t408 bt427.2.1 bt427.2.2 bt417.1 bt417.2.1 bt422.1 bt422.2.1)))))) = some (r1, r2, r3, r4, r5, r6) := H
 have A2 := aS A20
 clear A20
 replace H := Option.bind_eq_some_iff.mp H
 obtain ⟨⟨t412, t415, t416⟩, A30, H⟩ := H
 replace H : ((spec_l03DrawPiece.f t408 t415 t416).bind fun bt417 => ((spec_l03DrawPiece.f t408 bt417.2.2.1 bt417.2.2.2).bind fun bt422 => ((spec_l00Src_one.f t408 bt422.2.2.1 bt422.2.2.2 16).bind fun bt427 => (if bt427.1 = true then ((spec_l03SpoilPiece.f t408 bt427.2.1 bt427.2.2 bt417.1 bt417.2.1).bind fun bt430 => (spec_DrawBestJoin.j0 k t412 t408 bt430.2.2.1 bt430.2.2.2 bt430.1 bt430.2.1 bt422.1 bt422.2.1)) else (spec_DrawBestJoin.j0 k t412 t408 bt427.2.1 bt427.2.2 bt417.1 bt417.2.1 bt422.1 bt422.2.1))))) = some (r1, r2, r3, r4, r5, r6) := H
 have A3 := aS A30
 clear A30
 replace H := Option.bind_eq_some_iff.mp H
 obtain ⟨⟨t417, t418, t419, t420⟩, A40, H⟩ := H
 replace H : ((spec_l03DrawPiece.f t408 t419 t420).bind fun bt422 => ((spec_l00Src_one.f t408 bt422.2.2.1 bt422.2.2.2 16).bind fun bt427 => (if bt427.1 = true then ((spec_l03SpoilPiece.f t408 bt427.2.1 bt427.2.2 t417 t418).bind fun bt430 => (spec_DrawBestJoin.j0 k t412 t408 bt430.2.2.1 bt430.2.2.2 bt430.1 bt430.2.1 bt422.1 bt422.2.1)) else (spec_DrawBestJoin.j0 k t412 t408 bt427.2.1 bt427.2.2 t417 t418 bt422.1 bt422.2.1)))) = some (r1, r2, r3, r4, r5, r6) := H
 have A4 := aS A40
 clear A40
 replace H := Option.bind_eq_some_iff.mp H
 obtain ⟨⟨t422, t423, t424, t425⟩, A50, H⟩ := H
 replace H : ((spec_l00Src_one.f t408 t424 t425 16).bind fun bt427 => (if bt427.1 = true then ((spec_l03SpoilPiece.f t408 bt427.2.1 bt427.2.2 t417 t418).bind fun bt430 => (spec_DrawBestJoin.j0 k t412 t408 bt430.2.2.1 bt430.2.2.2 bt430.1 bt430.2.1 t422 t423)) else (spec_DrawBestJoin.j0 k t412 t408 bt427.2.1 bt427.2.2 t417 t418 t422 t423))) = some (r1, r2, r3, r4, r5, r6) := H
 have A5 := aS A50
 clear A50
 replace H := Option.bind_eq_some_iff.mp H
 obtain ⟨⟨t427, t428, t429⟩, A60, H⟩ := H
 replace H : (if t427 = true then ((spec_l03SpoilPiece.f t408 t428 t429 t417 t418).bind fun bt430 => (spec_DrawBestJoin.j0 k t412 t408 bt430.2.2.1 bt430.2.2.2 bt430.1 bt430.2.1 t422 t423)) else (spec_DrawBestJoin.j0 k t412 t408 t428 t429 t417 t418 t422 t423)) = some (r1, r2, r3, r4, r5, r6) := H
 have A6 := aS A60
 clear A60
 have HC7 := aS H
 clear H
 go_enter Try.func21, Try.ntmps21
 go_upto_if 19 with (first | ((with_reducible refine gate_dst (N := 3) rfl ?_); refine bx 3 #[.int .i64 0, .int .i64 0] 45 ?_; intro gb406 hg w8 hbox hb; have BK406 := aS (hbox); have GW406 := aS (gW hg (sW HB.out)); have GE406 := aS (gW hg (sW HB.out)); replace HB := aS (below_step (sW HB.out) hb); clear hb hbox hg) | ((with_reducible refine gate_dst (N := 4) rfl ?_); refine bx 4 #[.int .i64 0, .int .i64 0] 45 ?_; intro gb407 hg w9 hbox hb; have BK407 := aS (hbox); have GW407 := aS (gW hg (sW HB.out)); have GE407 := aS (gW hg (sW HB.out)); replace HB := aS (below_step (sW HB.out) hb); have NB406_407 := aS (nL hg (sB BK406.out)); have NB407_406 := aS (nG hg (sB BK406.out)); replace BK406 := aS (blk_below (sB BK406.out) hb); clear hb hbox hg) | ((with_reducible refine gate_callee (f := 63) rfl ?_); refine goesL_ (some 11) rfl rfl Try.func63 (by kernel_rfl) rfl #[.slice A0 l0.length c0] rfl sG ?_; (with_reducible refine (spec_l00From.calls _ _ l0 t408 t409 t410 w _ ?side1 ?side2 ?side3 A2.out).mono ?_); (case side1 => exact sW HB.out); (case side2 => exact HR0.out); (case side3 => exact HC0.out); rintro e w10 ⟨g411, rfl, hi, hb, hb2⟩; refine ⟨_, rfl, ?_⟩; replace HB := aS (hb); have HI411 := aS (hi); have NB411_406 := aS (IsS127.ne_blk hi (blk_below (sB BK406.out) hb2) (by decide)); have NB406_411 := aS (Ne.symm (IsS127.ne_blk hi (blk_below (sB BK406.out) hb2) (by decide))); replace BK406 := aS (blk_below (sB BK406.out) hb2); have NB411_407 := aS (IsS127.ne_blk hi (blk_below (sB BK407.out) hb2) (by decide)); have NB407_411 := aS (Ne.symm (IsS127.ne_blk hi (blk_below (sB BK407.out) hb2) (by decide))); replace BK407 := aS (blk_below (sB BK407.out) hb2)) | ((with_reducible refine gate_callee (f := 64) rfl ?_); refine goesL_ (some 13) rfl rfl Try.func64 (by kernel_rfl) rfl #[.pointer (some ⟨g411, 0, none⟩)] rfl sG ?_; (with_reducible refine (spec_l03Bent.calls k g411 t408 t409 t410 t412 t415 t416 w _ ?side1 ?side2 A3.out).mono ?_); (case side1 => exact IsS127.s HI411.out); (case side2 => exact sWg HB.out (IsS127.ge HI411.out)); rintro e w11 ⟨v413, rfl, ho0, hi, hb, hk⟩; refine ⟨_, rfl, ?_⟩; replace BK406 := aS (kB hk (sB BK406.out) NB406_411.out); replace BK407 := aS (kB hk (sB BK407.out) NB407_411.out); have HO414 := aS (Kd.R_lower ho0 (below_size (sWg HB.out (IsS127.ge HI411.out)))); replace HB := aS (hb); replace HI411 := aS (hi)) | ((with_reducible refine gate_callee (f := 65) rfl ?_); refine goesL_ (some 15) rfl rfl Try.func65 (by kernel_rfl) rfl #[.pointer (some ⟨g411, 0, none⟩)] rfl sG ?_; (with_reducible refine (spec_l03DrawPiece.calls g411 t408 t415 t416 t417 t418 t419 t420 w _ ?side1 ?side2 A4.out).mono ?_); (case side1 => exact IsS127.s HI411.out); (case side2 => exact sWg HB.out (IsS127.ge HI411.out)); rintro e w12 ⟨rfl, hi, hb, hk⟩; refine ⟨_, rfl, ?_⟩; replace BK406 := aS (kB hk (sB BK406.out) NB406_411.out); replace BK407 := aS (kB hk (sB BK407.out) NB407_411.out); replace HO414 := aS (Kd.R_mono (Kd.R_keep (IsS127.apart (show IsS127 w _ g411 t408 t415 t416 from IsS127.s HI411.out) (sR HO414.out) (by decide)) hk (fun _ h => h.2)) (fun _ h => h.1)); replace HB := aS (hb); replace HI411 := aS (hi)) | ((with_reducible refine gate_dst (N := 8) rfl ?_); refine bx 8 #[.int .i64 0, .int .i64 0] 45 ?_; intro gb421 hg w13 hbox hb; replace HO414 := aS (Kd.R_below (sR HO414.out) hb); have BK421 := aS (hbox); have GW421 := aS ((by rw [hg]; exact (below_size (sWg HB.out (IsS127.ge HI411.out))) : w.heap.size ≤ gb421)); have GE421 := aS ((by rw [hg]; exact (below_size (sWg HB.out (IsS127.ge HI411.out))) : w.heap.size ≤ gb421)); replace HB := aS (below_step (sWg HB.out (IsS127.ge HI411.out)) hb); have NB406_421 := aS (nL hg (sB BK406.out)); have NB421_406 := aS (nG hg (sB BK406.out)); replace BK406 := aS (blk_below (sB BK406.out) hb); have NB407_421 := aS (nL hg (sB BK407.out)); have NB421_407 := aS (nG hg (sB BK407.out)); replace BK407 := aS (blk_below (sB BK407.out) hb); have NB411_421 := aS ((by rw [hg]; exact Nat.ne_of_lt (IsS127.lt (show IsS127 w _ g411 t408 t419 t420 from IsS127.s HI411.out)) : g411 ≠ gb421)); have NB421_411 := aS ((by rw [hg]; exact Nat.ne_of_gt (IsS127.lt (show IsS127 w _ g411 t408 t419 t420 from IsS127.s HI411.out)) : gb421 ≠ g411)); replace HI411 := aS (IsS127.below (IsS127.s HI411.out) hb); clear hb hbox hg; have hnb14 := NB421_406.out; have hnc14 := NB406_421.out; have hnb15 := NB421_407.out; have hnc15 := NB407_421.out; have hnb16 := NB421_411.out; have hnc16 := NB411_421.out; obtain ⟨hcz17_0, hcz17_1, hfz17_0, hfz17_1⟩ := z2 BK421.out) | ((with_reducible refine gate_callee (f := 65) rfl ?_); refine goesL_ (some 17) rfl rfl Try.func65 (by kernel_rfl) rfl #[.pointer (some ⟨g411, 0, none⟩)] rfl sG ?_; (with_reducible refine (spec_l03DrawPiece.calls g411 t408 t419 t420 t422 t423 t424 t425 w _ ?side1 ?side2 A5.out).mono ?_); (case side1 => exact IsS127.s HI411.out); (case side2 => exact sWg HB.out (IsS127.ge HI411.out)); rintro e w18 ⟨rfl, hi, hb, hk⟩; refine ⟨_, rfl, ?_⟩; replace BK406 := aS (kB hk (sF BK406.out NB406_421.out) NB406_411.out); replace BK407 := aS (kB hk (sF BK407.out NB407_421.out) NB407_411.out); replace HO414 := aS (Kd.R_mono (Kd.R_keep (IsS127.apart (show IsS127 w _ g411 t408 t419 t420 from IsS127.s HI411.out) (sR (Kd.R_mono (rG (g := gb421) (Kd.R_types HO414.out BK421.out (by decide)) (fun _ hk => hk.2)) (fun _ h_ => h_.1))) (by decide)) hk (fun _ h => h.2)) (fun _ h => h.1)); replace BK421 := aS (kB hk (sB (put2 BK421.out)) NB421_411.out); replace HB := aS (hb); replace HI411 := aS (hi)) | ((with_reducible refine gate_dst (N := 9) rfl ?_); refine bx 9 #[.int .i64 0, .int .i64 0] 45 ?_; intro gb426 hg w19 hbox hb; replace HO414 := aS (Kd.R_below (sR HO414.out) hb); have BK426 := aS (hbox); have GW426 := aS ((by rw [hg]; exact (below_size (sWg HB.out (IsS127.ge HI411.out))) : w.heap.size ≤ gb426)); have GE426 := aS ((by rw [hg]; exact (below_size (sWg HB.out (IsS127.ge HI411.out))) : w.heap.size ≤ gb426)); replace HB := aS (below_step (sWg HB.out (IsS127.ge HI411.out)) hb); have NB406_426 := aS (nL hg (sB BK406.out)); have NB426_406 := aS (nG hg (sB BK406.out)); replace BK406 := aS (blk_below (sB BK406.out) hb); have NB407_426 := aS (nL hg (sB BK407.out)); have NB426_407 := aS (nG hg (sB BK407.out)); replace BK407 := aS (blk_below (sB BK407.out) hb); have NB421_426 := aS (nL hg (sB BK421.out)); have NB426_421 := aS (nG hg (sB BK421.out)); replace BK421 := aS (blk_below (sB BK421.out) hb); have NB411_426 := aS ((by rw [hg]; exact Nat.ne_of_lt (IsS127.lt (show IsS127 w _ g411 t408 t424 t425 from IsS127.s HI411.out)) : g411 ≠ gb426)); have NB426_411 := aS ((by rw [hg]; exact Nat.ne_of_gt (IsS127.lt (show IsS127 w _ g411 t408 t424 t425 from IsS127.s HI411.out)) : gb426 ≠ g411)); replace HI411 := aS (IsS127.below (IsS127.s HI411.out) hb); clear hb hbox hg; have hnb20 := NB426_406.out; have hnc20 := NB406_426.out; have hnb21 := NB426_407.out; have hnc21 := NB407_426.out; have hnb22 := NB426_421.out; have hnc22 := NB421_426.out; have hnb23 := NB426_411.out; have hnc23 := NB411_426.out; obtain ⟨hcz24_0, hcz24_1, hfz24_0, hfz24_1⟩ := z2 BK426.out) | ((with_reducible refine gate_callee (f := 66) rfl ?_); refine goesL_ (some 19) rfl rfl Try.func66 (by kernel_rfl) rfl #[.pointer (some ⟨g411, 0, none⟩), .int .i64 16] rfl sG ?_; (with_reducible refine (spec_l00Src_one.calls g411 t408 t424 t425 16 t427 t428 t429 w _ ?side1 ?side2 A6.out).mono ?_); (case side1 => exact IsS127.s HI411.out); (case side2 => exact sWg HB.out (IsS127.ge HI411.out)); rintro e w25 ⟨rfl, hi, hb, hk⟩; refine ⟨_, rfl, ?_⟩; replace BK406 := aS (kB hk (sF BK406.out NB406_426.out) NB406_411.out); replace BK407 := aS (kB hk (sF BK407.out NB407_426.out) NB407_411.out); replace HO414 := aS (Kd.R_mono (Kd.R_keep (IsS127.apart (show IsS127 w _ g411 t408 t424 t425 from IsS127.s HI411.out) (sR (Kd.R_mono (rG (g := gb426) (Kd.R_types HO414.out BK426.out (by decide)) (fun _ hk => hk.2)) (fun _ h_ => h_.1))) (by decide)) hk (fun _ h => h.2)) (fun _ h => h.1)); replace BK421 := aS (kB hk (sF BK421.out NB421_426.out) NB421_411.out); replace BK426 := aS (kB hk (sB (put2 BK426.out)) NB426_411.out); replace HB := aS (hb); replace HI411 := aS (hi)))
 (try simp only [Act.put, List.setIfInBounds_toArray, List.set_cons_zero, List.set_cons_succ])
 go_cut [] (fun wc => ∃ (kq : Nat) (x412001_6 : Int) (x412002_6 : Int) (x422000_6 : Int) (x422001_6 : Int), Aside0 (spec_DrawBestJoin.j0 kq t412 t408 x412001_6 x412002_6 x422000_6 x422001_6 t422 t423 = some (r1, r2, r3, r4, r5, r6)) ∧ Aside0 (kq ≤ k) ∧ Aside0 (Kd.R k61 61 wc w.heap.size (fun _ => True) v413 t412) ∧ Aside0 (wc.heap[gb406]? = some (.cells #[.int .i64 0, .int .i64 0] 45 (0, 0))) ∧ Aside0 (wc.heap[gb407]? = some (.cells #[.int .i64 0, .int .i64 0] 45 (0, 0))) ∧ Aside0 (wc.heap[gb421]? = some (.cells #[.int .i64 x422000_6, .int .i64 x422001_6] 45 (0, 0))) ∧ Aside0 (wc.heap[gb426]? = some (.cells #[.int .i64 t422, .int .i64 t423] 45 (0, 0))) ∧ Aside0 (IsS127 w wc g411 t408 x412001_6 x412002_6) ∧ Aside0 (Below w.heap.size w wc))
 case first =>
  have H := HC7.out
  clear HC7
  by_cases c26 : t427 = true
  rotate_left
  ·
   replace c26 := Bool.eq_false_iff.mpr c26
   subst c26
   have H1 : (spec_DrawBestJoin.j0 k t412 t408 t428 t429 t417 t418 t422 t423) = some (r1, r2, r3, r4, r5, r6) := by rw [if_neg (show ¬ (false = true) by decide)] at H; exact H
   clear H
   have H := H1
   clear H1
   have H' := aS H
   clear H
   go_wp2
   go_meet
   case rel => exact ⟨_, (t428), (t429), (t417), (t418), H', ⟨by first | omega | exact Nat.le_refl _⟩, (aS (sR HO414.out)), (aS (sB BK406.out)), (aS (sB BK407.out)), (aS (sB BK421.out)), (aS (sB BK426.out)), (aS (IsS127.s HI411.out)), (aS (sWg HB.out (IsS127.ge HI411.out)))⟩
  subst c26
  have H1 : ((spec_l03SpoilPiece.f t408 t428 t429 t417 t418).bind fun bt430 => (spec_DrawBestJoin.j0 k t412 t408 bt430.2.2.1 bt430.2.2.2 bt430.1 bt430.2.1 t422 t423)) = some (r1, r2, r3, r4, r5, r6) := by rw [if_pos rfl] at H; exact H
  clear H
  have H := H1
  clear H1
  replace H := Option.bind_eq_some_iff.mp H
  obtain ⟨⟨t430, t431, t432, t433⟩, A270, H⟩ := H
  replace H : (spec_DrawBestJoin.j0 k t412 t408 t432 t433 t430 t431 t422 t423) = some (r1, r2, r3, r4, r5, r6) := H
  have A27 := aS A270
  clear A270
  have H' := aS H
  clear H
  go_wp2_with (first | ((with_reducible refine gate_callee (f := 67) rfl ?_); refine goesL_ (some 21) rfl rfl Try.func67 (by kernel_rfl) rfl #[.pointer (some ⟨g411, 0, none⟩), .pointer (some ⟨gb421, 0, none⟩)] rfl sG ?_; (with_reducible refine (spec_l03SpoilPiece.calls g411 t408 t428 t429 t417 t418 t430 t431 t432 t433 w _ ?side1 ?side2 ?side3 A27.out).mono ?_); (case side1 => exact IsS127.s HI411.out); (case side2 => exact sWg HB.out (IsS127.ge HI411.out)); (case side3 => exact pieceAt_box (sB BK421.out) NB421_411.out); rintro e w29 ⟨rfl, w28, hi, hb, hk, hw⟩; refine ⟨_, rfl, ?_⟩; replace BK406 := aS (kB hk (sB BK406.out) NB406_411.out); replace BK407 := aS (kB hk (sB BK407.out) NB407_411.out); replace HO414 := aS (Kd.R_mono (Kd.R_keep (IsS127.apart (show IsS127 w _ g411 t408 t428 t429 from IsS127.s HI411.out) (sR HO414.out) (by decide)) hk (fun _ h => h.2)) (fun _ h => h.1)); replace BK421 := aS (kB hk (sB BK421.out) NB421_411.out); replace BK426 := aS (kB hk (sB BK426.out) NB426_411.out); replace HB := aS (hb); replace HI411 := aS (hi); (try clear hb); (try clear hb2); (try clear hk); (try clear hi); have hnb30 := NB421_406.out; have hnc30 := NB406_421.out; have hnb31 := NB421_407.out; have hnc31 := NB407_421.out; have hnb32 := NB421_426.out; have hnc32 := NB426_421.out; have hnb33 := NB421_411.out; have hnc33 := NB411_421.out; obtain ⟨hcz34_0, hcz34_1, hfz34_0, hfz34_1⟩ := z2 BK421.out; replace hw : w29 = ((w28.setCell ⟨gb421, 0, none⟩ (.int .i64 t430)).setCell ⟨gb421, 1, none⟩ (.int .i64 t431)) := hw; have n0_ : Aside0 (Kd.R k61 61 w29 w.heap.size (fun _ => True) v413 t412) := ⟨(by rw [hw]; exact (sR (Kd.R_mono (rG (g := gb421) (Kd.R_types HO414.out BK421.out (by decide)) (fun _ hk => hk.2)) (fun _ hk => trivial))))⟩; have n1_ : Aside0 (w29.heap[gb406]? = some (.cells #[.int .i64 0, .int .i64 0] 45 (0, 0))) := ⟨(by rw [hw]; exact (sF BK406.out NB406_421.out))⟩; have n2_ : Aside0 (w29.heap[gb407]? = some (.cells #[.int .i64 0, .int .i64 0] 45 (0, 0))) := ⟨(by rw [hw]; exact (sF BK407.out NB407_421.out))⟩; have n3_ : Aside0 (w29.heap[gb421]? = some (.cells #[.int .i64 t430, .int .i64 t431] 45 (0, 0))) := ⟨(by rw [hw]; exact (sB (put2 BK421.out)))⟩; have n4_ : Aside0 (w29.heap[gb426]? = some (.cells #[.int .i64 t422, .int .i64 t423] 45 (0, 0))) := ⟨(by rw [hw]; exact (sF BK426.out NB426_421.out))⟩; have n5_ : Aside0 (IsS127 w w29 g411 t408 t432 t433) := ⟨(by rw [hw]; exact (IsS127.s HI411.out))⟩; have n6_ : Aside0 (Below w.heap.size w w29) := ⟨(by rw [hw]; exact (sWg HB.out (IsS127.ge HI411.out)))⟩; clear hw HO414 BK406 BK407 BK421 BK426 HI411 HB; have HO414 := n0_; have BK406 := n1_; have BK407 := n2_; have BK421 := n3_; have BK426 := n4_; have HI411 := n5_; have HB := n6_; clear n0_ n1_ n2_ n3_ n4_ n5_ n6_))
  go_meet
  case rel => exact ⟨_, (t432), (t433), (t430), (t431), H', ⟨by first | omega | exact Nat.le_refl _⟩, (aS (sR HO414.out)), (aS (sB BK406.out)), (aS (sB BK407.out)), (aS (sB BK421.out)), (aS (sB BK426.out)), (aS (IsS127.s HI411.out)), (aS (sWg HB.out (IsS127.ge HI411.out)))⟩
 case rest =>
  clear HC7
  obtain ⟨kq, x412001_6, x412002_6, x422000_6, x422001_6, HA, HJ6, HO_7, BK406, BK407, BK421, BK426, HI411, HB⟩ := hcut
  cases kq with
  | zero => exact absurd HA.out (by simp [spec_DrawBestJoin.j0])
  | succ kj6 =>
   have H := HA.out
   clear HA
   simp only [spec_DrawBestJoin.j0] at H
   replace H := Option.bind_eq_some_iff.mp H
   obtain ⟨⟨t434, t435, t436⟩, A350, H⟩ := H
   replace H : (if t434 = true then ((spec_l03SpoilPiece.f t408 t435 t436 t422 t423).bind fun bt437 => ((spec_l03DrawNeed.f t408 bt437.2.2.1 bt437.2.2.2).bind fun bt441 => (some (t412, x422000_6, x422001_6, bt437.1, bt437.2.1, bt441.1)))) else ((spec_l03DrawNeed.f t408 t435 t436).bind fun bt444 => (some (t412, x422000_6, x422001_6, t422, t423, bt444.1)))) = some (r1, r2, r3, r4, r5, r6) := H
   have A35 := aS A350
   clear A350
   have HC36 := aS H
   clear H
   go_upto_if 23 with (first | ((with_reducible refine gate_callee (f := 66) rfl ?_); refine goesL_ (some 23) rfl rfl Try.func66 (by kernel_rfl) rfl #[.pointer (some ⟨g411, 0, none⟩), .int .i64 16] rfl sG ?_; (with_reducible refine (spec_l00Src_one.calls g411 t408 x412001_6 x412002_6 16 t434 t435 t436 w _ ?side1 ?side2 A35.out).mono ?_); (case side1 => exact IsS127.s HI411.out); (case side2 => exact sWg HB.out (IsS127.ge HI411.out)); rintro e w37 ⟨rfl, hi, hb, hk⟩; refine ⟨_, rfl, ?_⟩; replace HO_7 := aS (Kd.R_mono (Kd.R_keep (IsS127.apart (show IsS127 w _ g411 t408 x412001_6 x412002_6 from IsS127.s HI411.out) (sR HO_7.out) (by decide)) hk (fun _ h => h.2)) (fun _ h => h.1)); replace BK406 := aS (kB hk (sB BK406.out) NB406_411.out); replace BK407 := aS (kB hk (sB BK407.out) NB407_411.out); replace BK421 := aS (kB hk (sB BK421.out) NB421_411.out); replace BK426 := aS (kB hk (sB BK426.out) NB426_411.out); replace HB := aS (hb); replace HI411 := aS (hi)))
   (try simp only [Act.put, List.setIfInBounds_toArray, List.set_cons_zero, List.set_cons_succ])
   have H := HC36.out
   clear HC36
   by_cases c38 : t434 = true
   ·
    subst c38
    have H1 : ((spec_l03SpoilPiece.f t408 t435 t436 t422 t423).bind fun bt437 => ((spec_l03DrawNeed.f t408 bt437.2.2.1 bt437.2.2.2).bind fun bt441 => (some (t412, x422000_6, x422001_6, bt437.1, bt437.2.1, bt441.1)))) = some (r1, r2, r3, r4, r5, r6) := by rw [if_pos rfl] at H; exact H
    clear H
    have H := H1
    clear H1
    replace H := Option.bind_eq_some_iff.mp H
    obtain ⟨⟨t437, t438, t439, t440⟩, A390, H⟩ := H
    replace H : ((spec_l03DrawNeed.f t408 t439 t440).bind fun bt441 => (some (t412, x422000_6, x422001_6, t437, t438, bt441.1))) = some (r1, r2, r3, r4, r5, r6) := H
    have A39 := aS A390
    clear A390
    replace H := Option.bind_eq_some_iff.mp H
    obtain ⟨⟨t441, t442, t443⟩, A400, H⟩ := H
    replace H : (some (t412, x422000_6, x422001_6, t437, t438, t441)) = some (r1, r2, r3, r4, r5, r6) := H
    have A40 := aS A400
    clear A400
    simp only [Option.some.injEq, Prod.mk.injEq] at H
    obtain ⟨rfl, rfl, rfl, rfl, rfl, rfl⟩ := H
    try go_wp2_with (first | ((with_reducible refine gate_callee (f := 67) rfl ?_); refine goesL_ (some 25) rfl rfl Try.func67 (by kernel_rfl) rfl #[.pointer (some ⟨g411, 0, none⟩), .pointer (some ⟨gb426, 0, none⟩)] rfl sG ?_; (with_reducible refine (spec_l03SpoilPiece.calls g411 t408 t435 t436 t422 t423 t437 t438 t439 t440 w _ ?side1 ?side2 ?side3 A39.out).mono ?_); (case side1 => exact IsS127.s HI411.out); (case side2 => exact sWg HB.out (IsS127.ge HI411.out)); (case side3 => exact pieceAt_box (sB BK426.out) NB426_411.out); rintro e w42 ⟨rfl, w41, hi, hb, hk, hw⟩; refine ⟨_, rfl, ?_⟩; replace HO_7 := aS (Kd.R_mono (Kd.R_keep (IsS127.apart (show IsS127 w _ g411 t408 t435 t436 from IsS127.s HI411.out) (sR HO_7.out) (by decide)) hk (fun _ h => h.2)) (fun _ h => h.1)); replace BK406 := aS (kB hk (sB BK406.out) NB406_411.out); replace BK407 := aS (kB hk (sB BK407.out) NB407_411.out); replace BK421 := aS (kB hk (sB BK421.out) NB421_411.out); replace BK426 := aS (kB hk (sB BK426.out) NB426_411.out); replace HB := aS (hb); replace HI411 := aS (hi); (try clear hb); (try clear hb2); (try clear hk); (try clear hi); have hnb43 := NB426_406.out; have hnc43 := NB406_426.out; have hnb44 := NB426_407.out; have hnc44 := NB407_426.out; have hnb45 := NB426_421.out; have hnc45 := NB421_426.out; have hnb46 := NB426_411.out; have hnc46 := NB411_426.out; obtain ⟨hcz47_0, hcz47_1, hfz47_0, hfz47_1⟩ := z2 BK426.out; replace hw : w42 = ((w41.setCell ⟨gb426, 0, none⟩ (.int .i64 t437)).setCell ⟨gb426, 1, none⟩ (.int .i64 t438)) := hw; have n0_ : Aside0 (Kd.R k61 61 w42 w.heap.size (fun _ => True) v413 t412) := ⟨(by rw [hw]; exact (sR (Kd.R_mono (rG (g := gb426) (Kd.R_types HO_7.out BK426.out (by decide)) (fun _ hk => hk.2)) (fun _ hk => trivial))))⟩; have n1_ : Aside0 (w42.heap[gb406]? = some (.cells #[.int .i64 0, .int .i64 0] 45 (0, 0))) := ⟨(by rw [hw]; exact (sF BK406.out NB406_426.out))⟩; have n2_ : Aside0 (w42.heap[gb407]? = some (.cells #[.int .i64 0, .int .i64 0] 45 (0, 0))) := ⟨(by rw [hw]; exact (sF BK407.out NB407_426.out))⟩; have n3_ : Aside0 (w42.heap[gb421]? = some (.cells #[.int .i64 x422000_6, .int .i64 x422001_6] 45 (0, 0))) := ⟨(by rw [hw]; exact (sF BK421.out NB421_426.out))⟩; have n4_ : Aside0 (w42.heap[gb426]? = some (.cells #[.int .i64 t437, .int .i64 t438] 45 (0, 0))) := ⟨(by rw [hw]; exact (sB (put2 BK426.out)))⟩; have n5_ : Aside0 (IsS127 w w42 g411 t408 t439 t440) := ⟨(by rw [hw]; exact (IsS127.s HI411.out))⟩; have n6_ : Aside0 (Below w.heap.size w w42) := ⟨(by rw [hw]; exact (sWg HB.out (IsS127.ge HI411.out)))⟩; clear hw HO_7 BK406 BK407 BK421 BK426 HI411 HB; have HO_7 := n0_; have BK406 := n1_; have BK407 := n2_; have BK421 := n3_; have BK426 := n4_; have HI411 := n5_; have HB := n6_; clear n0_ n1_ n2_ n3_ n4_ n5_ n6_))
    replace HO_7 := aS (Kd.R_drew HO_7.out); replace BK406 := aS (blk_drew BK406.out); replace BK407 := aS (blk_drew BK407.out); replace BK421 := aS (blk_drew BK421.out); replace BK426 := aS (blk_drew BK426.out); replace HI411 := aS (IsS127.drew HI411.out); replace HB := aS (below_drew1 HB.out)
    refine start_ (n := 9) (S := fun w' => w'.cell? ⟨gb421, 0, none⟩ = some (.int .i64 x422000_6) ∧ w'.cell? ⟨gb421, 1, none⟩ = some (.int .i64 x422001_6) ∧ w'.cell? ⟨gb426, 0, none⟩ = some (.int .i64 t437) ∧ w'.cell? ⟨gb426, 1, none⟩ = some (.int .i64 t438)) (ds := []) _ (by kernel_rfl) rfl rfl ⟨bq BK421.out 0, bq BK421.out 1, bq BK426.out 0, bq BK426.out 1⟩ (fun hHeld => ?_); refine with_tabW spec_DrawBestJoin.tab9 spec_DrawBestJoin.bits9 (fun HT_ HW_ => ?_)
    generalize w42.drew = w48 at HO_7 BK406 BK407 BK421 BK426 HI411 HB hHeld ⊢
    refine pX 0 26 ?_; refine pX 3 29 ?_; refine tX 1 27 ?_; refine tX 2 28 ?_
    refine oX 4 (some 30) fun K hK => ?_
    refine goes_ Try.func68 (by kernel_rfl) rfl #[.pointer (some ⟨g411, 0, none⟩)] (by rfl) rfl rfl sG ?_
    with_reducible refine (spec_l03DrawNeed.calls g411 t408 t439 t440 t441 t442 t443 w _ ?side1 ?side2 A40.out).mono ?_
    (case side1 => exact IsS127.s HI411.out)
    (case side2 => exact sWg HB.out (IsS127.ge HI411.out))
    rintro e w49 ⟨rfl, hi, hb, hk⟩
    refine ⟨_, rfl, ?_⟩
    replace HO_7 := aS (Kd.R_mono (Kd.R_keep (IsS127.apart (show IsS127 w _ g411 t408 t439 t440 from IsS127.s HI411.out) (sR HO_7.out) (by decide)) hk (fun _ h => h.2)) (fun _ h => h.1)); replace BK406 := aS (kB hk (sB BK406.out) NB406_411.out); replace BK407 := aS (kB hk (sB BK407.out) NB407_411.out); replace BK421 := aS (kB hk (sB BK421.out) NB421_411.out); replace BK426 := aS (kB hk (sB BK426.out) NB426_411.out); replace HB := aS (hb); replace HI411 := aS (hi)
    refine hK.out _ _ ⟨bq BK421.out 0, bq BK421.out 1, bq BK426.out 0, bq BK426.out 1⟩ (fun hHeld => ?_)
    clear hK K
    refine nX 30 ?_
    refine pX 5 2 ?_
    refine oX 6 none fun K hK => ?_
    have hs50 : w49.cell? ⟨gb406, 0, none⟩ = some (.int .i64 0) := bq BK406.out 0
    have hfs50 := blk_frozen BK406.out 0
    have hns50_1 := NB407_406.out
    have hns50_2 := NB421_406.out
    have hns50_3 := NB426_406.out
    have hms50_1 := NB406_407.out
    have hms50_2 := NB406_421.out
    have hms50_3 := NB406_426.out
    have hs51 : w49.cell? ⟨gb406, 1, none⟩ = some (.int .i64 0) := bq BK406.out 1
    have hfs51 := blk_frozen BK406.out 1
    have hns51_1 := NB407_406.out
    have hns51_2 := NB421_406.out
    have hns51_3 := NB426_406.out
    have hms51_1 := NB406_407.out
    have hms51_2 := NB406_421.out
    have hms51_3 := NB406_426.out
    refine skip_ (w1 := ?_) (by rfl) rfl ?_ ?_
    rotate_left
    ·
     go_simp
     rfl
    refine hK.out _ _ ⟨((cell_far (p := ⟨gb406, _, none⟩) NB421_406.out _).trans (((cell_far (p := ⟨gb406, _, none⟩) NB421_406.out _).trans (hHeld.1)))), ((cell_far (p := ⟨gb406, _, none⟩) NB421_406.out _).trans (((cell_far (p := ⟨gb406, _, none⟩) NB421_406.out _).trans (hHeld.2.1)))), ((cell_far (p := ⟨gb406, _, none⟩) NB426_406.out _).trans (((cell_far (p := ⟨gb406, _, none⟩) NB426_406.out _).trans (hHeld.2.2.1)))), ((cell_far (p := ⟨gb406, _, none⟩) NB426_406.out _).trans (((cell_far (p := ⟨gb406, _, none⟩) NB426_406.out _).trans (hHeld.2.2.2))))⟩ (fun hHeld => ?_)
    clear hK K
    refine oX 7 none fun K hK => ?_
    have hs52 : w49.cell? ⟨gb407, 0, none⟩ = some (.int .i64 0) := bq BK407.out 0
    have hfs52 := blk_frozen BK407.out 0
    have hns52_0 := NB406_407.out
    have hns52_2 := NB421_407.out
    have hns52_3 := NB426_407.out
    have hms52_0 := NB407_406.out
    have hms52_2 := NB407_421.out
    have hms52_3 := NB407_426.out
    have hs53 : w49.cell? ⟨gb407, 1, none⟩ = some (.int .i64 0) := bq BK407.out 1
    have hfs53 := blk_frozen BK407.out 1
    have hns53_0 := NB406_407.out
    have hns53_2 := NB421_407.out
    have hns53_3 := NB426_407.out
    have hms53_0 := NB407_406.out
    have hms53_2 := NB407_421.out
    have hms53_3 := NB407_426.out
    refine skip_ (w1 := ?_) (by rfl) rfl ?_ ?_
    rotate_left
    ·
     go_simp
     rfl
    refine hK.out _ _ ⟨((cell_far (p := ⟨gb407, _, none⟩) NB421_407.out _).trans (((cell_far (p := ⟨gb407, _, none⟩) NB421_407.out _).trans (hHeld.1)))), ((cell_far (p := ⟨gb407, _, none⟩) NB421_407.out _).trans (((cell_far (p := ⟨gb407, _, none⟩) NB421_407.out _).trans (hHeld.2.1)))), ((cell_far (p := ⟨gb407, _, none⟩) NB426_407.out _).trans (((cell_far (p := ⟨gb407, _, none⟩) NB426_407.out _).trans (hHeld.2.2.1)))), ((cell_far (p := ⟨gb407, _, none⟩) NB426_407.out _).trans (((cell_far (p := ⟨gb407, _, none⟩) NB426_407.out _).trans (hHeld.2.2.2))))⟩ (fun hHeld => ?_)
    clear hK K
    refine pX 8 5 ?_
    refine dX ?_
    try go_wp2
    refine bodyPost_ret (results_list (rs := [.tmp 2, .cell 3 45, .cell 4 45, .tmp 5]) rfl (by simp) (.tmp (.cell gb406 45 #[.int .i64 x422000_6, .int .i64 x422001_6] (0, 0) _ rfl (by exact sZ BK406.out) Try.underlying45 rfl (by kernel_rfl) (.cell gb407 45 #[.int .i64 t437, .int .i64 t438] (0, 0) _ rfl (by exact sZ BK407.out) Try.underlying45 rfl (by kernel_rfl) (.tmp .nil))))) rfl ?_
    exact ⟨_, eE, sR (Kd.R_mono (Kd.R_far (p := ⟨gb407, 1, none⟩) (Kd.R_far (p := ⟨gb407, 0, none⟩) (rG (g := gb406) (Kd.R_types (Kd.R_types HO_7.out BK406.out (by decide)) BK407.out (by decide)) (fun _ hk => hk.1.2)) (fun _ hk => hk.2) (.int .i64 t437)) (fun _ hk => hk.2) (.int .i64 t438)) (fun _ hk => trivial)), sWg HB.out (IsS127.ge HI411.out)⟩
   ·
    replace c38 := Bool.eq_false_iff.mpr c38
    subst c38
    have H1 : ((spec_l03DrawNeed.f t408 t435 t436).bind fun bt444 => (some (t412, x422000_6, x422001_6, t422, t423, bt444.1))) = some (r1, r2, r3, r4, r5, r6) := by rw [if_neg (show ¬ (false = true) by decide)] at H; exact H
    clear H
    have H := H1
    clear H1
    replace H := Option.bind_eq_some_iff.mp H
    obtain ⟨⟨t444, t445, t446⟩, A540, H⟩ := H
    replace H : (some (t412, x422000_6, x422001_6, t422, t423, t444)) = some (r1, r2, r3, r4, r5, r6) := H
    have A54 := aS A540
    clear A540
    simp only [Option.some.injEq, Prod.mk.injEq] at H
    obtain ⟨rfl, rfl, rfl, rfl, rfl, rfl⟩ := H
    try go_wp2
    replace HO_7 := aS (Kd.R_drew HO_7.out); replace BK406 := aS (blk_drew BK406.out); replace BK407 := aS (blk_drew BK407.out); replace BK421 := aS (blk_drew BK421.out); replace BK426 := aS (blk_drew BK426.out); replace HI411 := aS (IsS127.drew HI411.out); replace HB := aS (below_drew1 HB.out)
    refine start_ (n := 9) (S := fun w' => w'.cell? ⟨gb421, 0, none⟩ = some (.int .i64 x422000_6) ∧ w'.cell? ⟨gb421, 1, none⟩ = some (.int .i64 x422001_6) ∧ w'.cell? ⟨gb426, 0, none⟩ = some (.int .i64 t422) ∧ w'.cell? ⟨gb426, 1, none⟩ = some (.int .i64 t423)) (ds := []) _ (by kernel_rfl) rfl rfl ⟨bq BK421.out 0, bq BK421.out 1, bq BK426.out 0, bq BK426.out 1⟩ (fun hHeld => ?_); refine with_tabW spec_DrawBestJoin.tab9 spec_DrawBestJoin.bits9 (fun HT_ HW_ => ?_)
    generalize w37.drew = w55 at HO_7 BK406 BK407 BK421 BK426 HI411 HB hHeld ⊢
    refine pX 0 26 ?_; refine pX 3 29 ?_; refine tX 1 27 ?_; refine tX 2 28 ?_
    refine oX 4 (some 30) fun K hK => ?_
    refine goes_ Try.func68 (by kernel_rfl) rfl #[.pointer (some ⟨g411, 0, none⟩)] (by rfl) rfl rfl sG ?_
    with_reducible refine (spec_l03DrawNeed.calls g411 t408 t435 t436 t444 t445 t446 w _ ?side1 ?side2 A54.out).mono ?_
    (case side1 => exact IsS127.s HI411.out)
    (case side2 => exact sWg HB.out (IsS127.ge HI411.out))
    rintro e w56 ⟨rfl, hi, hb, hk⟩
    refine ⟨_, rfl, ?_⟩
    replace HO_7 := aS (Kd.R_mono (Kd.R_keep (IsS127.apart (show IsS127 w _ g411 t408 t435 t436 from IsS127.s HI411.out) (sR HO_7.out) (by decide)) hk (fun _ h => h.2)) (fun _ h => h.1)); replace BK406 := aS (kB hk (sB BK406.out) NB406_411.out); replace BK407 := aS (kB hk (sB BK407.out) NB407_411.out); replace BK421 := aS (kB hk (sB BK421.out) NB421_411.out); replace BK426 := aS (kB hk (sB BK426.out) NB426_411.out); replace HB := aS (hb); replace HI411 := aS (hi)
    refine hK.out _ _ ⟨bq BK421.out 0, bq BK421.out 1, bq BK426.out 0, bq BK426.out 1⟩ (fun hHeld => ?_)
    clear hK K
    refine nX 30 ?_
    refine pX 5 2 ?_
    refine oX 6 none fun K hK => ?_
    have hs57 : w56.cell? ⟨gb406, 0, none⟩ = some (.int .i64 0) := bq BK406.out 0
    have hfs57 := blk_frozen BK406.out 0
    have hns57_1 := NB407_406.out
    have hns57_2 := NB421_406.out
    have hns57_3 := NB426_406.out
    have hms57_1 := NB406_407.out
    have hms57_2 := NB406_421.out
    have hms57_3 := NB406_426.out
    have hs58 : w56.cell? ⟨gb406, 1, none⟩ = some (.int .i64 0) := bq BK406.out 1
    have hfs58 := blk_frozen BK406.out 1
    have hns58_1 := NB407_406.out
    have hns58_2 := NB421_406.out
    have hns58_3 := NB426_406.out
    have hms58_1 := NB406_407.out
    have hms58_2 := NB406_421.out
    have hms58_3 := NB406_426.out
    refine skip_ (w1 := ?_) (by rfl) rfl ?_ ?_
    rotate_left
    ·
     go_simp
     rfl
    refine hK.out _ _ ⟨((cell_far (p := ⟨gb406, _, none⟩) NB421_406.out _).trans (((cell_far (p := ⟨gb406, _, none⟩) NB421_406.out _).trans (hHeld.1)))), ((cell_far (p := ⟨gb406, _, none⟩) NB421_406.out _).trans (((cell_far (p := ⟨gb406, _, none⟩) NB421_406.out _).trans (hHeld.2.1)))), ((cell_far (p := ⟨gb406, _, none⟩) NB426_406.out _).trans (((cell_far (p := ⟨gb406, _, none⟩) NB426_406.out _).trans (hHeld.2.2.1)))), ((cell_far (p := ⟨gb406, _, none⟩) NB426_406.out _).trans (((cell_far (p := ⟨gb406, _, none⟩) NB426_406.out _).trans (hHeld.2.2.2))))⟩ (fun hHeld => ?_)
    clear hK K
    refine oX 7 none fun K hK => ?_
    have hs59 : w56.cell? ⟨gb407, 0, none⟩ = some (.int .i64 0) := bq BK407.out 0
    have hfs59 := blk_frozen BK407.out 0
    have hns59_0 := NB406_407.out
    have hns59_2 := NB421_407.out
    have hns59_3 := NB426_407.out
    have hms59_0 := NB407_406.out
    have hms59_2 := NB407_421.out
    have hms59_3 := NB407_426.out
    have hs60 : w56.cell? ⟨gb407, 1, none⟩ = some (.int .i64 0) := bq BK407.out 1
    have hfs60 := blk_frozen BK407.out 1
    have hns60_0 := NB406_407.out
    have hns60_2 := NB421_407.out
    have hns60_3 := NB426_407.out
    have hms60_0 := NB407_406.out
    have hms60_2 := NB407_421.out
    have hms60_3 := NB407_426.out
    refine skip_ (w1 := ?_) (by rfl) rfl ?_ ?_
    rotate_left
    ·
     go_simp
     rfl
    refine hK.out _ _ ⟨((cell_far (p := ⟨gb407, _, none⟩) NB421_407.out _).trans (((cell_far (p := ⟨gb407, _, none⟩) NB421_407.out _).trans (hHeld.1)))), ((cell_far (p := ⟨gb407, _, none⟩) NB421_407.out _).trans (((cell_far (p := ⟨gb407, _, none⟩) NB421_407.out _).trans (hHeld.2.1)))), ((cell_far (p := ⟨gb407, _, none⟩) NB426_407.out _).trans (((cell_far (p := ⟨gb407, _, none⟩) NB426_407.out _).trans (hHeld.2.2.1)))), ((cell_far (p := ⟨gb407, _, none⟩) NB426_407.out _).trans (((cell_far (p := ⟨gb407, _, none⟩) NB426_407.out _).trans (hHeld.2.2.2))))⟩ (fun hHeld => ?_)
    clear hK K
    refine pX 8 5 ?_
    refine dX ?_
    try go_wp2
    refine bodyPost_ret (results_list (rs := [.tmp 2, .cell 3 45, .cell 4 45, .tmp 5]) rfl (by simp) (.tmp (.cell gb406 45 #[.int .i64 x422000_6, .int .i64 x422001_6] (0, 0) _ rfl (by exact sZ BK406.out) Try.underlying45 rfl (by kernel_rfl) (.cell gb407 45 #[.int .i64 t422, .int .i64 t423] (0, 0) _ rfl (by exact sZ BK407.out) Try.underlying45 rfl (by kernel_rfl) (.tmp .nil))))) rfl ?_
    exact ⟨_, eE, sR (Kd.R_mono (Kd.R_far (p := ⟨gb407, 1, none⟩) (Kd.R_far (p := ⟨gb407, 0, none⟩) (rG (g := gb406) (Kd.R_types (Kd.R_types HO_7.out BK406.out (by decide)) BK407.out (by decide)) (fun _ hk => hk.1.2)) (fun _ hk => hk.2) (.int .i64 t422)) (fun _ hk => hk.2) (.int .i64 t423)) (fun _ hk => trivial)), sWg HB.out (IsS127.ge HI411.out)⟩

/-! ### impl_BestJoin: function 22 -/
def impl_BestJoin.j0 : Nat → List (S61) → Int → Bool → Int → Int → Int → Int → Option (Int × Int)
 | 0, _, _, _, _, _, _, _ => none
 | k + 1, x0, x3, x23, x448000, x448001, x449000, x449001 => if x23 = true then (some (0, 1)) else ((impl_within.f x3 0 1000000).bind fun t452 => (if t452 = true then ((impl_bestJoin.f k x0 x448000 x448001 x449000 x449001 x3).bind fun t453 => (if t453 < 0 then (some (0, 3)) else (some (t453, 0)))) else (some (0, 2))))
def impl_BestJoin.f (k : Nat) (l0 : List (S61)) (a1_0 : Int) (a1_1 : Int) (a2_0 : Int) (a2_1 : Int) (a3 : Int) : Option (Int × Int) := (impl_ValidJoins.f k l0).bind fun t449 => (if t449 = true then ((impl_validPiece.f a1_0 a1_1).bind fun t450 => (if t450 = true then ((impl_validPiece.f a2_0 a2_1).bind fun t451 => (impl_BestJoin.j0 k l0 a3 (!t451) a1_0 a1_1 a2_0 a2_1)) else (impl_BestJoin.j0 k l0 a3 true a1_0 a1_1 a2_0 a2_1))) else (impl_BestJoin.j0 k l0 a3 true a1_0 a1_1 a2_0 a2_1))
theorem impl_BestJoin.mono_l : ∀ k, (∀ y0 y1 y2 y3 y4 y5 y6, LeO (impl_BestJoin.j0 k y0 y1 y2 y3 y4 y5 y6) (impl_BestJoin.j0 (k + 1) y0 y1 y2 y3 y4 y5 y6))
 | 0 => fun _ _ _ _ _ _ _ r h => by simp [impl_BestJoin.j0] at h
 | k + 1 => by
  have ih0 := impl_BestJoin.mono_l k
  ·
   intro y0 y1 y2 y3 y4 y5 y6
   unfold impl_BestJoin.j0
   repeat' first | (with_reducible first | exact ih0 _ _ _ _ _ _ _ | exact impl_ValidJoins.mono _ _ | exact impl_bestJoin.mono _ _ _ _ _ _ _ | exact LeO.refl _ | exact LeO.none _ | refine LeO.ite ?_ ?_ | refine LeO.bind ?_ (fun _ => ?_)) | refine LeO.ite ?_ ?_ | refine LeO.bind ?_ (fun _ => ?_)
theorem impl_BestJoin.mono : ∀ a0 a1 a2 a3 a4 a5 k, LeO (impl_BestJoin.f k a0 a1 a2 a3 a4 a5) (impl_BestJoin.f (k + 1) a0 a1 a2 a3 a4 a5) := by
 intro a0 a1 a2 a3 a4 a5 k
 have ih0 := impl_BestJoin.mono_l k
 unfold impl_BestJoin.f
 repeat' first | (with_reducible first | exact ih0 _ _ _ _ _ _ _ | exact impl_ValidJoins.mono _ _ | exact impl_bestJoin.mono _ _ _ _ _ _ _ | exact LeO.refl _ | exact LeO.none _ | refine LeO.ite ?_ ?_ | refine LeO.bind ?_ (fun _ => ?_)) | refine LeO.ite ?_ ?_ | refine LeO.bind ?_ (fun _ => ?_)
set_option maxHeartbeats 8000000 in
set_option maxRecDepth 100000 in
theorem impl_BestJoin.calls (k : Nat) (A0 : Option Addr) (c0 : Nat) (l0 : List (S61)) (a1_0 : Int) (a1_1 : Int) (a2_0 : Int) (a2_1 : Int) (a3 : Int) (r1 : Int) (r2 : Int) (w : World) (hr0 : Kd.C k61 w A0 l0.length l0) (hc0 : l0.length ≤ c0) (h : impl_BestJoin.f k l0 a1_0 a1_1 a2_0 a2_1 a3 = some (r1, r2)) :
  Calls Try.prog 22 #[.slice A0 l0.length c0, .agg #[.int .i64 a1_0, .int .i64 a1_1], .agg #[.int .i64 a2_0, .int .i64 a2_1], .int .i64 a3] w fun e w' => e = .returned (.tuple #[.int .i64 r1, .int .i64 r2]) ∧ Below w.heap.size w w' := by
 have hu45 := Try.underlying45
 have HR0 := aS hr0
 have HC0 := aS hc0
 clear hr0 hc0
 have HB := aS (Below.refl w.heap.size w)
 have H := h
 clear h
 unfold impl_BestJoin.f at H
 have HC5 := aS H
 clear H
 go_enter Try.func22, Try.ntmps22
 go_upto_region 1 with (first | ((with_reducible refine gate_dst (N := 5) rfl ?_); refine bx 5 #[.int .i64 a1_0, .int .i64 a1_1] 45 ?_; intro gb447 hg w6 hbox hb; have BK447 := aS (hbox); have GW447 := aS (gW hg (sW HB.out)); have GE447 := aS (gW hg (sW HB.out)); replace HB := aS (below_step (sW HB.out) hb); clear hb hbox hg) | ((with_reducible refine gate_dst (N := 6) rfl ?_); refine bx 6 #[.int .i64 a2_0, .int .i64 a2_1] 45 ?_; intro gb448 hg w7 hbox hb; have BK448 := aS (hbox); have GW448 := aS (gW hg (sW HB.out)); have GE448 := aS (gW hg (sW HB.out)); replace HB := aS (below_step (sW HB.out) hb); have NB447_448 := aS (nL hg (sB BK447.out)); have NB448_447 := aS (nG hg (sB BK447.out)); replace BK447 := aS (blk_below (sB BK447.out) hb); clear hb hbox hg))
 (try simp only [Act.put, List.setIfInBounds_toArray, List.set_cons_zero, List.set_cons_succ])
 go_cut [23] (fun v23 wc => ∃ (kq : Nat) (x23_4 : Bool), v23 = .bool x23_4 ∧ Aside0 (impl_BestJoin.j0 kq l0 a3 x23_4 a1_0 a1_1 a2_0 a2_1 = some (r1, r2)) ∧ Aside0 (kq ≤ k) ∧ Aside0 (wc.heap[gb447]? = some (.cells #[.int .i64 a1_0, .int .i64 a1_1] 45 (0, 0))) ∧ Aside0 (wc.heap[gb448]? = some (.cells #[.int .i64 a2_0, .int .i64 a2_1] 45 (0, 0))) ∧ Aside0 (Below w.heap.size w wc))
 case first =>
  have H := HC5.out
  clear HC5
  replace H := Option.bind_eq_some_iff.mp H
  obtain ⟨t449, A80, H⟩ := H
  replace H : (if t449 = true then ((impl_validPiece.f a1_0 a1_1).bind fun t450 => (if t450 = true then ((impl_validPiece.f a2_0 a2_1).bind fun t451 => (impl_BestJoin.j0 k l0 a3 (!t451) a1_0 a1_1 a2_0 a2_1)) else (impl_BestJoin.j0 k l0 a3 true a1_0 a1_1 a2_0 a2_1))) else (impl_BestJoin.j0 k l0 a3 true a1_0 a1_1 a2_0 a2_1)) = some (r1, r2) := H
  have A8 := aS A80
  clear A80
  by_cases c9 : t449 = true
  ·
   subst c9
   have H1 : ((impl_validPiece.f a1_0 a1_1).bind fun t450 => (if t450 = true then ((impl_validPiece.f a2_0 a2_1).bind fun t451 => (impl_BestJoin.j0 k l0 a3 (!t451) a1_0 a1_1 a2_0 a2_1)) else (impl_BestJoin.j0 k l0 a3 true a1_0 a1_1 a2_0 a2_1))) = some (r1, r2) := by rw [if_pos rfl] at H; exact H
   clear H
   have H := H1
   clear H1
   replace H := Option.bind_eq_some_iff.mp H
   obtain ⟨t450, A100, H⟩ := H
   replace H : (if t450 = true then ((impl_validPiece.f a2_0 a2_1).bind fun t451 => (impl_BestJoin.j0 k l0 a3 (!t451) a1_0 a1_1 a2_0 a2_1)) else (impl_BestJoin.j0 k l0 a3 true a1_0 a1_1 a2_0 a2_1)) = some (r1, r2) := H
   have A10 := aS A100
   clear A100
   by_cases c11 : t450 = true
   ·
    subst c11
    have H1 : ((impl_validPiece.f a2_0 a2_1).bind fun t451 => (impl_BestJoin.j0 k l0 a3 (!t451) a1_0 a1_1 a2_0 a2_1)) = some (r1, r2) := by rw [if_pos rfl] at H; exact H
    clear H
    have H := H1
    clear H1
    replace H := Option.bind_eq_some_iff.mp H
    obtain ⟨t451, A120, H⟩ := H
    replace H : (impl_BestJoin.j0 k l0 a3 (!t451) a1_0 a1_1 a2_0 a2_1) = some (r1, r2) := H
    have A12 := aS A120
    clear A120
    have H' := aS H
    clear H
    go_wp2_with (first | ((with_reducible refine gate_callee (f := 48) rfl ?_); refine goesL_ (some 12) rfl rfl Try.func48 (by kernel_rfl) rfl #[.slice A0 l0.length c0] rfl sG ?_; (with_reducible refine (impl_ValidJoins.calls k _ _ l0 true _ ?side1 ?side2 A8.out).mono ?_); (case side1 => exact sC (Kd.C_below HR0.out HB.out)); (case side2 => exact HC0.out); rintro e w13 ⟨rfl, hb⟩; refine ⟨_, rfl, ?_⟩; replace BK447 := aS (blk_below (sB BK447.out) hb); replace BK448 := aS (blk_below (sB BK448.out) hb); replace HB := aS (below_step (sW HB.out) hb); (try clear hb); (try clear hb2); (try clear hk); (try clear hi); have hnb14 := NB447_448.out; have hnc14 := NB448_447.out; obtain ⟨hcz15_0, hcz15_1, hfz15_0, hfz15_1⟩ := z2 BK447.out) | (go_at_call 49; (with_reducible refine (impl_validPiece.calls a1_0 a1_1 true _ A10.out).mono ?_); rintro e w16 ⟨rfl, hb⟩; replace BK447 := aS (blk_below (sB BK447.out) hb); replace BK448 := aS (blk_below (sB BK448.out) hb); replace HB := aS (below_step (sW HB.out) hb); (try clear hb); (try clear hb2); (try clear hk); (try clear hi); obtain ⟨hcz17_0, hcz17_1, hfz17_0, hfz17_1⟩ := z2 BK448.out) | (go_at_call 49; (with_reducible refine (impl_validPiece.calls a2_0 a2_1 t451 _ A12.out).mono ?_); rintro e w18 ⟨rfl, hb⟩; replace BK447 := aS (blk_below (sB BK447.out) hb); replace BK448 := aS (blk_below (sB BK448.out) hb); replace HB := aS (below_step (sW HB.out) hb)))
    go_meet
    case rel => exact ⟨_, (!t451), eV, H', ⟨by first | omega | exact Nat.le_refl _⟩, (aS (sB BK447.out)), (aS (sB BK448.out)), (aS (sW HB.out))⟩
   ·
    replace c11 := Bool.eq_false_iff.mpr c11
    subst c11
    have H1 : (impl_BestJoin.j0 k l0 a3 true a1_0 a1_1 a2_0 a2_1) = some (r1, r2) := by rw [if_neg (show ¬ (false = true) by decide)] at H; exact H
    clear H
    have H := H1
    clear H1
    have H' := aS H
    clear H
    go_wp2_with (first | ((with_reducible refine gate_callee (f := 48) rfl ?_); refine goesL_ (some 12) rfl rfl Try.func48 (by kernel_rfl) rfl #[.slice A0 l0.length c0] rfl sG ?_; (with_reducible refine (impl_ValidJoins.calls k _ _ l0 true _ ?side1 ?side2 A8.out).mono ?_); (case side1 => exact sC (Kd.C_below HR0.out HB.out)); (case side2 => exact HC0.out); rintro e w19 ⟨rfl, hb⟩; refine ⟨_, rfl, ?_⟩; replace BK447 := aS (blk_below (sB BK447.out) hb); replace BK448 := aS (blk_below (sB BK448.out) hb); replace HB := aS (below_step (sW HB.out) hb); (try clear hb); (try clear hb2); (try clear hk); (try clear hi); have hnb20 := NB447_448.out; have hnc20 := NB448_447.out; obtain ⟨hcz21_0, hcz21_1, hfz21_0, hfz21_1⟩ := z2 BK447.out) | (go_at_call 49; (with_reducible refine (impl_validPiece.calls a1_0 a1_1 false _ A10.out).mono ?_); rintro e w22 ⟨rfl, hb⟩; replace BK447 := aS (blk_below (sB BK447.out) hb); replace BK448 := aS (blk_below (sB BK448.out) hb); replace HB := aS (below_step (sW HB.out) hb)))
    go_meet
    case rel => exact ⟨_, (true), eV, H', ⟨by first | omega | exact Nat.le_refl _⟩, (aS (sB BK447.out)), (aS (sB BK448.out)), (aS (sW HB.out))⟩
  ·
   replace c9 := Bool.eq_false_iff.mpr c9
   subst c9
   have H1 : (impl_BestJoin.j0 k l0 a3 true a1_0 a1_1 a2_0 a2_1) = some (r1, r2) := by rw [if_neg (show ¬ (false = true) by decide)] at H; exact H
   clear H
   have H := H1
   clear H1
   have H' := aS H
   clear H
   go_wp2_with (first | ((with_reducible refine gate_callee (f := 48) rfl ?_); refine goesL_ (some 12) rfl rfl Try.func48 (by kernel_rfl) rfl #[.slice A0 l0.length c0] rfl sG ?_; (with_reducible refine (impl_ValidJoins.calls k _ _ l0 false _ ?side1 ?side2 A8.out).mono ?_); (case side1 => exact sC (Kd.C_below HR0.out HB.out)); (case side2 => exact HC0.out); rintro e w23 ⟨rfl, hb⟩; refine ⟨_, rfl, ?_⟩; replace BK447 := aS (blk_below (sB BK447.out) hb); replace BK448 := aS (blk_below (sB BK448.out) hb); replace HB := aS (below_step (sW HB.out) hb)))
   go_meet
   case rel => exact ⟨_, (true), eV, H', ⟨by first | omega | exact Nat.le_refl _⟩, (aS (sB BK447.out)), (aS (sB BK448.out)), (aS (sW HB.out))⟩
 case rest =>
  clear HC5
  obtain ⟨kq, x23_4, rfl, HA, HJ4, BK447, BK448, HB⟩ := hcut
  cases kq with
  | zero => exact absurd HA.out (by simp [impl_BestJoin.j0])
  | succ kj4 =>
   have H := HA.out
   clear HA
   simp only [impl_BestJoin.j0] at H
   by_cases c24 : x23_4 = true
   ·
    subst c24
    have H1 : (some (0, 1)) = some (r1, r2) := by rw [if_pos rfl] at H; exact H
    clear H
    have H := H1
    clear H1
    simp only [Option.some.injEq, Prod.mk.injEq] at H
    obtain ⟨rfl, rfl⟩ := H
    go_wp2
    go_ret2
    exact ⟨eE, sW HB.out⟩
   ·
    replace c24 := Bool.eq_false_iff.mpr c24
    subst c24
    have H1 : ((impl_within.f a3 0 1000000).bind fun t452 => (if t452 = true then ((impl_bestJoin.f kj4 l0 a1_0 a1_1 a2_0 a2_1 a3).bind fun t453 => (if t453 < 0 then (some (0, 3)) else (some (t453, 0)))) else (some (0, 2)))) = some (r1, r2) := by rw [if_neg (show ¬ (false = true) by decide)] at H; exact H
    clear H
    have H := H1
    clear H1
    replace H := Option.bind_eq_some_iff.mp H
    obtain ⟨t452, A250, H⟩ := H
    replace H : (if t452 = true then ((impl_bestJoin.f kj4 l0 a1_0 a1_1 a2_0 a2_1 a3).bind fun t453 => (if t453 < 0 then (some (0, 3)) else (some (t453, 0)))) else (some (0, 2))) = some (r1, r2) := H
    have A25 := aS A250
    clear A250
    have HC26 := aS H
    clear H
    go_upto_if 26 with (first | ((with_reducible refine gate_callee (f := 50) rfl ?_); refine goesL_ (some 25) rfl rfl Try.func50 (by kernel_rfl) rfl #[.int .i64 a3, .int .i64 0, .int .i64 1000000] rfl sG ?_; (with_reducible refine (impl_within.calls a3 0 1000000 t452 _ A25.out).mono ?_); rintro e w' ⟨rfl, ⟨nd, rfl⟩⟩; refine ⟨_, rfl, ?_⟩))
    (try simp only [Act.put, List.setIfInBounds_toArray, List.set_cons_zero, List.set_cons_succ])
    have H := HC26.out
    clear HC26
    by_cases c27 : t452 = true
    ·
     subst c27
     have H1 : ((impl_bestJoin.f kj4 l0 a1_0 a1_1 a2_0 a2_1 a3).bind fun t453 => (if t453 < 0 then (some (0, 3)) else (some (t453, 0)))) = some (r1, r2) := by rw [if_pos rfl] at H; exact H
     clear H
     have H := H1
     clear H1
     replace H := Option.bind_eq_some_iff.mp H
     obtain ⟨t453, A280, H⟩ := H
     replace H : (if t453 < 0 then (some (0, 3)) else (some (t453, 0))) = some (r1, r2) := H
     have A28 := aS A280
     clear A280
     have HC29 := aS H
     clear H
     have hnb30 := NB447_448.out
     have hnc30 := NB448_447.out
     obtain ⟨hcz31_0, hcz31_1, hfz31_0, hfz31_1⟩ := z2 BK447.out
     obtain ⟨hcz32_0, hcz32_1, hfz32_0, hfz32_1⟩ := z2 BK448.out
     go_upto_if 33 with (first | ((with_reducible refine gate_callee (f := 55) rfl ?_); refine goesL_ (some 31) rfl rfl Try.func55 (by kernel_rfl) rfl #[.slice A0 l0.length c0, .agg #[.int .i64 a1_0, .int .i64 a1_1], .agg #[.int .i64 a2_0, .int .i64 a2_1], .int .i64 a3] rfl sG ?_; (with_reducible refine (impl_bestJoin.calls kj4 _ _ l0 a1_0 a1_1 a2_0 a2_1 a3 t453 _ ?side1 ?side2 A28.out).mono ?_); (case side1 => exact sC (Kd.C_below HR0.out HB.out)); (case side2 => exact HC0.out); rintro e w33 ⟨rfl, hb⟩; refine ⟨_, rfl, ?_⟩; replace BK447 := aS (blk_below (sB BK447.out) hb); replace BK448 := aS (blk_below (sB BK448.out) hb); replace HB := aS (below_step (sW HB.out) hb)))
     (try simp only [Act.put, List.setIfInBounds_toArray, List.set_cons_zero, List.set_cons_succ])
     have H := HC29.out
     clear HC29
     replace H := iE H; rcases H with ⟨c34, H⟩ | ⟨c34, H⟩
     ·
      have c34b0 := decide_eq_true c34
      clear c34
      (first | rw [c34b0] | (simp only [i64_w, i32_w]; rw [c34b0]) | (rw [c34b2]; simp only [Bool.not_false, Bool.not_true]) | skip)
      simp only [Option.some.injEq, Prod.mk.injEq] at H
      obtain ⟨rfl, rfl⟩ := H
      go_wp2
      go_ret2
      exact ⟨eE, sW HB.out⟩
     ·
      have c34b0 := decide_eq_false c34
      clear c34
      (first | rw [c34b0] | (simp only [i64_w, i32_w]; rw [c34b0]) | (rw [c34b2]; simp only [Bool.not_false, Bool.not_true]) | skip)
      simp only [Option.some.injEq, Prod.mk.injEq] at H
      obtain ⟨rfl, rfl⟩ := H
      go_wp2
      go_ret2
      exact ⟨eE, sW HB.out⟩
    ·
     replace c27 := Bool.eq_false_iff.mpr c27
     subst c27
     have H1 : (some (0, 2)) = some (r1, r2) := by rw [if_neg (show ¬ (false = true) by decide)] at H; exact H
     clear H
     have H := H1
     clear H1
     simp only [Option.some.injEq, Prod.mk.injEq] at H
     obtain ⟨rfl, rfl⟩ := H
     go_wp2
     go_ret2
     exact ⟨eE, sW HB.out⟩

end Go.Proofs.Ytginmioklkcgbaa.QFnBestJoins

/- What the Go functions of this law compute, each as a Lean function, and that each call comes to that answer; written by a program of this session. No condition. -/
import Derived.Test.YtginmioklkcgbaaVShn
import Derived.Test.YtginmioklkcgbaaVQFnBestJoinsx0
import Derived.Test.YtginmioklkcgbaaVQFnBestJoinsx12
import Derived.Test.YtginmioklkcgbaaVQFnBestJoinsx13
namespace Go.Proofs.Ytginmioklkcgbaa.QFnBestJoins
open Go.RowKit Go.Proofs.YtginmioklkcgbaaW.PrintWords Go.Proofs.YtginmioklkcgbaaW.PrintLast Go.Proofs.YtginmioklkcgbaaW.PrintMore
attribute [local go_sem] max2_int min2_int max_two min_two max_three min_three max_four min_four   -- for this text's walks alone
set_option linter.unusedVariables false
set_option linter.unusedSimpArgs false

/-! ### spec_DrawLongestLine: function 24 -/
mutual
def spec_DrawLongestLine.j0 : Nat → List (S61) → List (S45) → Int → List Int → Int → Int → Option ((List (S61)) × (List (S45)) × Int)
 | 0, _, _, _, _, _, _ => none
 | k + 1, x6, x7, x8, x458000, x458001, x458002 => spec_DrawLongestLine.l0 k x6 x7 x8 x8 x458000 x458001 x458002
def spec_DrawLongestLine.l0 : Nat → List (S61) → List (S45) → Int → Int → List Int → Int → Int → Option ((List (S61)) × (List (S45)) × Int)
 | 0, _, _, _, _, _, _, _ => none
 | k + 1, x6, x7, x8, x9, x458000, x458001, x458002 => if x9 > 0 then ((spec_l03DrawPiece.f x458000 x458001 x458002).bind fun bt475 => (if x7.length < 8796093022208 then (spec_DrawLongestLine.l0 k x6 (x7 ++ [(⟨bt475.1, bt475.2.1⟩ : S45)]) x8 (wrap64 (x9 - 1)) x458000 bt475.2.2.1 bt475.2.2.2) else (none))) else (if x8 > 0 then ((spec_l00Src_one.f x458000 x458001 x458002 16).bind fun bt482 => (spec_DrawLongestLine.j2 k x6 x7 bt482.1 x458000 bt482.2.1 bt482.2.2)) else (spec_DrawLongestLine.j2 k x6 x7 false x458000 x458001 x458002))
def spec_DrawLongestLine.j2 : Nat → List (S61) → List (S45) → Bool → List Int → Int → Int → Option ((List (S61)) × (List (S45)) × Int)
 | 0, _, _, _, _, _, _ => none
 | k + 1, x6, x7, x37, x458000, x458001, x458002 => if x37 = true then (if 0 < (x7.length : Int) then ((spec_l03SpoilPiece.f x458000 x458001 x458002 ((rd_T45 x7 0).f0) ((rd_T45 x7 0).f1)).bind fun bt485 => ((spec_l03DrawNeed.f x458000 bt485.2.2.1 bt485.2.2.2).bind fun bt490 => (some (x6, (x7.set (0 : Int).toNat (⟨bt485.1, bt485.2.1⟩ : S45)), bt490.1)))) else (none)) else ((spec_l03DrawNeed.f x458000 x458001 x458002).bind fun bt493 => (some (x6, x7, bt493.1)))
end
def spec_DrawLongestLine.f (k : Nat) (l0 : List Int) : Option ((List (S61)) × (List (S45)) × Int) := (spec_l00From.f l0).bind fun bt454 => ((spec_l03Bent.f k bt454.1 bt454.2.1 bt454.2.2).bind fun bt458 => ((some (([] : List (S45)) : List (S45))).bind fun y463 => ((spec_l00Src_pick.f bt454.1 bt458.2.1 bt458.2.2 7).bind fun bt466 => ((spec_l00Src_one.f bt454.1 bt466.2.1 bt466.2.2 20).bind fun bt469 => (if bt469.1 = true then ((spec_l00Src_pick.f bt454.1 bt469.2.1 bt469.2.2 2).bind fun bt472 => (spec_DrawLongestLine.j0 k bt458.1 y463 (wrap64 (12 + bt472.1)) bt454.1 bt472.2.1 bt472.2.2)) else (spec_DrawLongestLine.j0 k bt458.1 y463 bt466.1 bt454.1 bt469.2.1 bt469.2.2))))))
theorem spec_DrawLongestLine.mono_l : ∀ k, (∀ y0 y1 y2 y3 y4 y5, LeO (spec_DrawLongestLine.j0 k y0 y1 y2 y3 y4 y5) (spec_DrawLongestLine.j0 (k + 1) y0 y1 y2 y3 y4 y5)) ∧ (∀ y0 y1 y2 y3 y4 y5 y6, LeO (spec_DrawLongestLine.l0 k y0 y1 y2 y3 y4 y5 y6) (spec_DrawLongestLine.l0 (k + 1) y0 y1 y2 y3 y4 y5 y6)) ∧ (∀ y0 y1 y2 y3 y4 y5, LeO (spec_DrawLongestLine.j2 k y0 y1 y2 y3 y4 y5) (spec_DrawLongestLine.j2 (k + 1) y0 y1 y2 y3 y4 y5))
 | 0 => by refine ⟨?_, ?_, ?_⟩ <;> (intros; intro r h; simp [spec_DrawLongestLine.j0, spec_DrawLongestLine.l0, spec_DrawLongestLine.j2] at h)
 | k + 1 => by
  obtain ⟨ih0, ih1, ih2⟩ := spec_DrawLongestLine.mono_l k
  refine ⟨?_, ?_, ?_⟩ <;> (intros; (first | unfold spec_DrawLongestLine.j0 | unfold spec_DrawLongestLine.l0 | unfold spec_DrawLongestLine.j2); repeat' first | (with_reducible first | exact ih0 _ _ _ _ _ _ | exact ih1 _ _ _ _ _ _ _ | exact ih2 _ _ _ _ _ _ | exact spec_l03Bent.mono _ _ _ _ | exact LeO.refl _ | exact LeO.none _ | refine LeO.ite ?_ ?_ | refine LeO.bind ?_ (fun _ => ?_)) | refine LeO.ite ?_ ?_ | refine LeO.bind ?_ (fun _ => ?_))
theorem spec_DrawLongestLine.mono : ∀ a0 k, LeO (spec_DrawLongestLine.f k a0) (spec_DrawLongestLine.f (k + 1) a0) := by
 intro a0 k
 obtain ⟨ih0, ih1, ih2⟩ := spec_DrawLongestLine.mono_l k
 unfold spec_DrawLongestLine.f
 repeat' first | (with_reducible first | exact ih0 _ _ _ _ _ _ | exact ih1 _ _ _ _ _ _ _ | exact ih2 _ _ _ _ _ _ | exact spec_l03Bent.mono _ _ _ _ | exact LeO.refl _ | exact LeO.none _ | refine LeO.ite ?_ ?_ | refine LeO.bind ?_ (fun _ => ?_)) | refine LeO.ite ?_ ?_ | refine LeO.bind ?_ (fun _ => ?_)
set_option maxHeartbeats 8000000 in
set_option maxRecDepth 100000 in
theorem spec_DrawLongestLine.calls (k : Nat) (A0 : Option Addr) (c0 : Nat) (l0 : List Int) (r1 : List (S61)) (r2 : List (S45)) (r3 : Int) (w : World) (hr0 : Kd.C (Kd.int .u8) w A0 l0.length l0) (hc0 : l0.length ≤ c0) (h : spec_DrawLongestLine.f k l0 = some (r1, r2, r3)) :
  Calls Try.prog 24 #[.slice A0 l0.length c0] w fun e w' => ∃ v0_ v1_ : Value, e = .returned (.tuple #[v0_, v1_, .int .i64 r3]) ∧ Kd.R k61 61 w' w.heap.size (fun _ => True) v0_ r1 ∧ Kd.R k45 45 w' w.heap.size (fun _ => True) v1_ r2 ∧ Below w.heap.size w w' := by
 have HR0 := aS hr0
 have HC0 := aS hc0
 clear hr0 hc0
 have HB := aS (Below.refl w.heap.size w)
 have H := h
 clear h
 unfold spec_DrawLongestLine.f at H
 replace H := Option.bind_eq_some_iff.mp H
 obtain ⟨⟨t454, t455, t456⟩, A20, H⟩ := H
 replace H : ((spec_l03Bent.f k t454 t455 t456).bind fun bt458 => ((some (([] : List (S45)) : List (S45))).bind fun y463 => ((spec_l00Src_pick.f t454 bt458.2.1 bt458.2.2 7).bind fun bt466 => ((spec_l00Src_one.f t454 bt466.2.1 bt466.2.2 20).bind fun bt469 => (if bt469.1 = true then ((spec_l00Src_pick.f t454 bt469.2.1 bt469.2.2 2).bind fun bt472 => (spec_DrawLongestLine.j0 k bt458.1 y463 (wrap64 (12 + bt472.1)) t454 bt472.2.1 bt472.2.2)) else (spec_DrawLongestLine.j0 k bt458.1 y463 bt466.1 t454 bt469.2.1 bt469.2.2)))))) = some (r1, r2, r3) := H
 have A2 := aS A20
 clear A20
 replace H := Option.bind_eq_some_iff.mp H
 obtain ⟨⟨t458, t461, t462⟩, A30, H⟩ := H
 replace H : ((some (([] : List (S45)) : List (S45))).bind fun y463 => ((spec_l00Src_pick.f t454 t461 t462 7).bind fun bt466 => ((spec_l00Src_one.f t454 bt466.2.1 bt466.2.2 20).bind fun bt469 => (if bt469.1 = true then ((spec_l00Src_pick.f t454 bt469.2.1 bt469.2.2 2).bind fun bt472 => (spec_DrawLongestLine.j0 k t458 y463 (wrap64 (12 + bt472.1)) t454 bt472.2.1 bt472.2.2)) else (spec_DrawLongestLine.j0 k t458 y463 bt466.1 t454 bt469.2.1 bt469.2.2))))) = some (r1, r2, r3) := H
 have A3 := aS A30
 clear A30
 obtain ⟨y463, hy463⟩ : ∃ y_ : List (S45), y_ = (([] : List (S45))) := ⟨_, rfl⟩
 replace H : ((spec_l00Src_pick.f t454 t461 t462 7).bind fun bt466 => ((spec_l00Src_one.f t454 bt466.2.1 bt466.2.2 20).bind fun bt469 => (if bt469.1 = true then ((spec_l00Src_pick.f t454 bt469.2.1 bt469.2.2 2).bind fun bt472 => (spec_DrawLongestLine.j0 k t458 y463 (wrap64 (12 + bt472.1)) t454 bt472.2.1 bt472.2.2)) else (spec_DrawLongestLine.j0 k t458 y463 bt466.1 t454 bt469.2.1 bt469.2.2)))) = some (r1, r2, r3) := by first | (rw [hy463]; with_reducible exact H) | (have H2_ := (Option.bind_some _ _).symm.trans H; rw [hy463]; with_reducible exact H2_) | (have H2_ := (Option.bind_some _ _).symm.trans H; with_reducible exact H2_) | with_reducible exact H | (rw [hy463]; exact H) | exact H
 have Ny463 := aS hy463
 clear hy463
 replace H := Option.bind_eq_some_iff.mp H
 obtain ⟨⟨t466, t467, t468⟩, A40, H⟩ := H
 replace H : ((spec_l00Src_one.f t454 t467 t468 20).bind fun bt469 => (if bt469.1 = true then ((spec_l00Src_pick.f t454 bt469.2.1 bt469.2.2 2).bind fun bt472 => (spec_DrawLongestLine.j0 k t458 y463 (wrap64 (12 + bt472.1)) t454 bt472.2.1 bt472.2.2)) else (spec_DrawLongestLine.j0 k t458 y463 t466 t454 bt469.2.1 bt469.2.2))) = some (r1, r2, r3) := H
 have A4 := aS A40
 clear A40
 replace H := Option.bind_eq_some_iff.mp H
 obtain ⟨⟨t469, t470, t471⟩, A50, H⟩ := H
 replace H : (if t469 = true then ((spec_l00Src_pick.f t454 t470 t471 2).bind fun bt472 => (spec_DrawLongestLine.j0 k t458 y463 (wrap64 (12 + bt472.1)) t454 bt472.2.1 bt472.2.2)) else (spec_DrawLongestLine.j0 k t458 y463 t466 t454 t470 t471)) = some (r1, r2, r3) := H
 have A5 := aS A50
 clear A50
 have HC6 := aS H
 clear H
 go_enter Try.func24, Try.ntmps24
 go_upto_if 18 with (first | ((with_reducible refine gate_callee (f := 63) rfl ?_); refine goesL_ (some 11) rfl rfl Try.func63 (by kernel_rfl) rfl #[.slice A0 l0.length c0] rfl sG ?_; (with_reducible refine (spec_l00From.calls _ _ l0 t454 t455 t456 w _ ?side1 ?side2 ?side3 A2.out).mono ?_); (case side1 => exact sW HB.out); (case side2 => exact HR0.out); (case side3 => exact HC0.out); rintro e w7 ⟨g457, rfl, hi, hb, hb2⟩; refine ⟨_, rfl, ?_⟩; replace HB := aS (hb); have HI457 := aS (hi)) | ((with_reducible refine gate_callee (f := 64) rfl ?_); refine goesL_ (some 13) rfl rfl Try.func64 (by kernel_rfl) rfl #[.pointer (some ⟨g457, 0, none⟩)] rfl sG ?_; (with_reducible refine (spec_l03Bent.calls k g457 t454 t455 t456 t458 t461 t462 w _ ?side1 ?side2 A3.out).mono ?_); (case side1 => exact IsS127.s HI457.out); (case side2 => exact sWg HB.out (IsS127.ge HI457.out)); rintro e w8 ⟨v459, rfl, ho0, hi, hb, hk⟩; refine ⟨_, rfl, ?_⟩; have HO460 := aS (Kd.R_lower ho0 (below_size (sWg HB.out (IsS127.ge HI457.out)))); replace HB := aS (hb); replace HI457 := aS (hi)) | ((with_reducible refine gate_dst (N := 14) rfl ?_); refine Kd.R_lit k45 _ 45 ?hg (N := 14) ?hd (xs := ([] : List (S45))) (inner := []) (ok := fun _ => True) (okp := fun _ => True) ?hr ?hp (fun _ hk => hk) trivial (Below.refl _ _) (Nat.le_refl _) (by simp) ?_; (case hd => rfl); (case hg => rfl); (case hr => first | (go_simp; done) | (go_simp; rfl)); (case hp => exact (Reps.none _ _)); intro v464 w9 ho10 hb hg_ hnew_; clear hg_ hnew_; (first | rw [← Ny463.out] at ho10 | (simp only [Int.reduceToNat] at ho10; rw [← Ny463.out] at ho10)); replace HO460 := aS (Kd.R_below (sR HO460.out) hb); have HO465 := aS (Kd.R_lower ho10 (below_size (sWg HB.out (IsS127.ge HI457.out)))); replace HB := aS (below_step (sWg HB.out (IsS127.ge HI457.out)) hb); replace HI457 := aS (IsS127.below (IsS127.s HI457.out) hb); clear hb ho10) | ((with_reducible refine gate_callee (f := 70) rfl ?_); refine goesL_ (some 16) rfl rfl Try.func70 (by kernel_rfl) rfl #[.pointer (some ⟨g457, 0, none⟩), .int .i64 7] rfl sG ?_; (with_reducible refine (spec_l00Src_pick.calls g457 t454 t461 t462 7 t466 t467 t468 w _ ?side1 ?side2 A4.out).mono ?_); (case side1 => exact IsS127.s HI457.out); (case side2 => exact sWg HB.out (IsS127.ge HI457.out)); rintro e w11 ⟨rfl, hi, hb, hk⟩; refine ⟨_, rfl, ?_⟩; replace HO460 := aS (Kd.R_mono (Kd.R_keep (IsS127.apart (show IsS127 w _ g457 t454 t461 t462 from IsS127.s HI457.out) (sR HO460.out) (by decide)) hk (fun _ h => h.2)) (fun _ h => h.1)); replace HO465 := aS (Kd.R_mono (Kd.R_keep (IsS127.apart (show IsS127 w _ g457 t454 t461 t462 from IsS127.s HI457.out) (sR HO465.out) (by decide)) hk (fun _ h => h.2)) (fun _ h => h.1)); replace HB := aS (hb); replace HI457 := aS (hi)) | ((with_reducible refine gate_callee (f := 66) rfl ?_); refine goesL_ (some 18) rfl rfl Try.func66 (by kernel_rfl) rfl #[.pointer (some ⟨g457, 0, none⟩), .int .i64 20] rfl sG ?_; (with_reducible refine (spec_l00Src_one.calls g457 t454 t467 t468 20 t469 t470 t471 w _ ?side1 ?side2 A5.out).mono ?_); (case side1 => exact IsS127.s HI457.out); (case side2 => exact sWg HB.out (IsS127.ge HI457.out)); rintro e w12 ⟨rfl, hi, hb, hk⟩; refine ⟨_, rfl, ?_⟩; replace HO460 := aS (Kd.R_mono (Kd.R_keep (IsS127.apart (show IsS127 w _ g457 t454 t467 t468 from IsS127.s HI457.out) (sR HO460.out) (by decide)) hk (fun _ h => h.2)) (fun _ h => h.1)); replace HO465 := aS (Kd.R_mono (Kd.R_keep (IsS127.apart (show IsS127 w _ g457 t454 t467 t468 from IsS127.s HI457.out) (sR HO465.out) (by decide)) hk (fun _ h => h.2)) (fun _ h => h.1)); replace HB := aS (hb); replace HI457 := aS (hi)))
 (try simp only [Act.put, List.setIfInBounds_toArray, List.set_cons_zero, List.set_cons_succ])
 go_cut [8] (fun v8 wc => ∃ (kq : Nat) (x8_5 : Int) (x458001_5 : Int) (x458002_5 : Int), v8 = .int .i64 x8_5 ∧ Aside0 (spec_DrawLongestLine.j0 kq t458 y463 x8_5 t454 x458001_5 x458002_5 = some (r1, r2, r3)) ∧ Aside0 (kq ≤ k) ∧ Aside0 (Kd.R k61 61 wc w.heap.size (fun _ => True) v459 t458) ∧ Aside0 (Kd.R k45 45 wc w.heap.size (fun _ => True) v464 y463) ∧ Aside0 (IsS127 w wc g457 t454 x458001_5 x458002_5) ∧ Aside0 (Below w.heap.size w wc))
 case first =>
  have H := HC6.out
  clear HC6
  by_cases c13 : t469 = true
  ·
   subst c13
   have H1 : ((spec_l00Src_pick.f t454 t470 t471 2).bind fun bt472 => (spec_DrawLongestLine.j0 k t458 y463 (wrap64 (12 + bt472.1)) t454 bt472.2.1 bt472.2.2)) = some (r1, r2, r3) := by rw [if_pos rfl] at H; exact H
   clear H
   have H := H1
   clear H1
   replace H := Option.bind_eq_some_iff.mp H
   obtain ⟨⟨t472, t473, t474⟩, A140, H⟩ := H
   replace H : (spec_DrawLongestLine.j0 k t458 y463 (wrap64 (12 + t472)) t454 t473 t474) = some (r1, r2, r3) := H
   have A14 := aS A140
   clear A140
   have H' := aS H
   clear H
   go_wp2_with (first | ((with_reducible refine gate_callee (f := 70) rfl ?_); refine goesL_ (some 20) rfl rfl Try.func70 (by kernel_rfl) rfl #[.pointer (some ⟨g457, 0, none⟩), .int .i64 2] rfl sG ?_; (with_reducible refine (spec_l00Src_pick.calls g457 t454 t470 t471 2 t472 t473 t474 w _ ?side1 ?side2 A14.out).mono ?_); (case side1 => exact IsS127.s HI457.out); (case side2 => exact sWg HB.out (IsS127.ge HI457.out)); rintro e w15 ⟨rfl, hi, hb, hk⟩; refine ⟨_, rfl, ?_⟩; replace HO460 := aS (Kd.R_mono (Kd.R_keep (IsS127.apart (show IsS127 w _ g457 t454 t470 t471 from IsS127.s HI457.out) (sR HO460.out) (by decide)) hk (fun _ h => h.2)) (fun _ h => h.1)); replace HO465 := aS (Kd.R_mono (Kd.R_keep (IsS127.apart (show IsS127 w _ g457 t454 t470 t471 from IsS127.s HI457.out) (sR HO465.out) (by decide)) hk (fun _ h => h.2)) (fun _ h => h.1)); replace HB := aS (hb); replace HI457 := aS (hi)))
   go_meet
   case rel => exact ⟨_, (wrap64 (12 + t472)), (t473), (t474), eV, H', ⟨by first | omega | exact Nat.le_refl _⟩, (aS (sR HO460.out)), (aS (sR HO465.out)), (aS (IsS127.s HI457.out)), ⟨sWg HB.out (IsS127.ge HI457.out)⟩⟩
  ·
   replace c13 := Bool.eq_false_iff.mpr c13
   subst c13
   have H1 : (spec_DrawLongestLine.j0 k t458 y463 t466 t454 t470 t471) = some (r1, r2, r3) := by rw [if_neg (show ¬ (false = true) by decide)] at H; exact H
   clear H
   have H := H1
   clear H1
   have H' := aS H
   clear H
   go_wp2
   go_meet
   case rel => exact ⟨_, (t466), (t470), (t471), eV, H', ⟨by first | omega | exact Nat.le_refl _⟩, (aS (sR HO460.out)), (aS (sR HO465.out)), (aS (IsS127.s HI457.out)), ⟨sWg HB.out (IsS127.ge HI457.out)⟩⟩
 case rest =>
  clear HC6
  obtain ⟨kq, x8_5, x458001_5, x458002_5, rfl, HA, HJ5, HO_6, HO_7, HI457, HB⟩ := hcut
  cases kq with
  | zero => exact absurd HA.out (by simp [spec_DrawLongestLine.j0])
  | succ kj5 =>
   have H := HA.out
   clear HA
   simp only [spec_DrawLongestLine.j0] at H
   have H' := aS H
   clear H
   go_wp2
   go_loopg [7, 9] kj5 (fun kq v7 v9 w' => ∃ (x7_2 : List (S45)) (x9_2 : Int) (x458001_2 : Int) (x458002_2 : Int), v9 = .int .i64 x9_2 ∧ Aside0 (spec_DrawLongestLine.l0 kq t458 x7_2 x8_5 x9_2 t454 x458001_2 x458002_2 = some (r1, r2, r3)) ∧ Aside0 (kq ≤ kj5) ∧ Aside0 (Kd.R k61 61 w' w.heap.size (fun _ => True) v459 t458) ∧ Aside0 (Kd.R k45 45 w' w.heap.size (fun _ => True) v7 x7_2) ∧ Aside0 (IsS127 w w' g457 t454 x458001_2 x458002_2) ∧ Aside0 (Below w.heap.size w w'))
   case atStart => exact ⟨(y463), (x8_5), (x458001_5), (x458002_5), eV, H', ⟨Nat.le_refl _⟩, (aS (sR HO_6.out)), (aS (sR HO_7.out)), (aS (IsS127.s HI457.out)), ⟨sWg HB.out (IsS127.ge HI457.out)⟩⟩
   case round =>
    clear H'
    obtain ⟨x7_2, x9_2, x458001_2, x458002_2, rfl, HA, HK2, HO_6, HO_7, HI457, HB⟩ := hrel
    cases gk with
    | zero => exact absurd HA.out (by simp [spec_DrawLongestLine.l0])
    | succ k2 =>
     have H := HA.out
     clear HA
     simp only [spec_DrawLongestLine.l0] at H
     replace H := iE H; rcases H with ⟨c16, H⟩ | ⟨c16, H⟩
     ·
      have c16b0 : decide (0 < x9_2) = true := decide_eq_true c16
      clear c16
      replace H := Option.bind_eq_some_iff.mp H
      obtain ⟨⟨t475, t476, t477, t478⟩, A170, H⟩ := H
      replace H : (if x7_2.length < 8796093022208 then (spec_DrawLongestLine.l0 k2 t458 (x7_2 ++ [(⟨t475, t476⟩ : S45)]) x8_5 (wrap64 (x9_2 - 1)) t454 t477 t478) else (none)) = some (r1, r2, r3) := H
      have A17 := aS A170
      clear A170
      replace H := iE H; rcases H with ⟨c18, H⟩ | ⟨c18, H⟩
      ·
       have LMc18 := aS c18
       clear c18
       obtain ⟨y479, hy479⟩ : ∃ y_ : List (S45), y_ = (x7_2 ++ [(⟨t475, t476⟩ : S45)]) := ⟨_, rfl⟩
       replace H : (spec_DrawLongestLine.l0 k2 t458 y479 x8_5 (wrap64 (x9_2 - 1)) t454 t477 t478) = some (r1, r2, r3) := by first | (rw [hy479]; with_reducible exact H) | (have H2_ := (Option.bind_some _ _).symm.trans H; rw [hy479]; with_reducible exact H2_) | (have H2_ := (Option.bind_some _ _).symm.trans H; with_reducible exact H2_) | with_reducible exact H | (rw [hy479]; exact H) | exact H
       have Ny479 := aS hy479
       clear hy479
       have H' := aS H
       clear H
       go_wp2_with (first | ((with_reducible refine gate_callee (f := 65) rfl ?_); refine goesL_ (some 29) rfl rfl Try.func65 (by kernel_rfl) rfl #[.pointer (some ⟨g457, 0, none⟩)] rfl sG ?_; (with_reducible refine (spec_l03DrawPiece.calls g457 t454 x458001_2 x458002_2 t475 t476 t477 t478 w _ ?side1 ?side2 A17.out).mono ?_); (case side1 => exact IsS127.s HI457.out); (case side2 => exact sWg HB.out (IsS127.ge HI457.out)); rintro e w19 ⟨rfl, hi, hb, hk⟩; refine ⟨_, rfl, ?_⟩; replace HO_6 := aS (Kd.R_mono (Kd.R_keep (IsS127.apart (show IsS127 w _ g457 t454 x458001_2 x458002_2 from IsS127.s HI457.out) (sR HO_6.out) (by decide)) hk (fun _ h => h.2)) (fun _ h => h.1)); replace HO_7 := aS (Kd.R_mono (Kd.R_keep (IsS127.apart (show IsS127 w _ g457 t454 x458001_2 x458002_2 from IsS127.s HI457.out) (sR HO_7.out) (by decide)) hk (fun _ h => h.2)) (fun _ h => h.1)); replace HB := aS (hb); replace HI457 := aS (hi)) | ((with_reducible refine gate_builtin (b := .append) (xs := #[.tmp 27, .tmp 30]) rfl ?_); at_builtin; refine Kd.R_append k45 (w0 := w) w.heap.size rfl (.tmp 27) (.tmp 30) 26 45 (.agg #[(.int .i64 0), (.int .i64 0)]) 16 rfl Try.underlying26 info45 rfl (by decide) (by omega) u7 x7_2 (⟨t475, t476⟩ : S45) [.int .i64 t475, .int .i64 t476] (fun _ => True) (fun _ => False) rfl rfl ?aP (fun _ hk => hk.elim) ?aF ?aO ?aB ?aS ?aL ?_; (case aP => exact k45_mkM _ _ _ (⟨t475, t476⟩ : S45)); (case aB => exact (sWg HB.out (IsS127.ge HI457.out))); (case aF => exact (fun _ _ => trivial)); (case aO => exact (sR HO_7.out)); (case aS => exact (below_size (sWg HB.out (IsS127.ge HI457.out)))); (case aL => have := LMc18.out; omega); intro v480 w20 ho hb hg hat; rw [← Ny479.out] at ho; replace HO_6 := aS (Kd.R_over' (sR HO_6.out) (Kd.R_typed (sR HO_7.out)) (by decide) hg); replace HI457 := aS (IsS127.grown (show IsS127 w _ g457 t454 t477 t478 from IsS127.s HI457.out) hg (IsS127.own_ne HI457.out HO_7.out (by decide))); replace HB := aS (hb); have HO481 := aS (ho); clear HO_7; clear ho hb hg hat))
       go_roundg k2
       case measure => have := HJ5.out; have := HK2.out; omega
       case rel => exact ⟨(y479), (wrap64 (x9_2 - 1)), (t477), (t478), eV, H', ⟨by have := HJ5.out; have := HK2.out; omega⟩, (aS (sR HO_6.out)), (aS (sR HO481.out)), (aS (IsS127.s HI457.out)), ⟨sWg HB.out (IsS127.ge HI457.out)⟩⟩
      ·
       exact absurd H (by simp)
     ·
      have c16b0 : decide (0 < x9_2) = false := decide_eq_false c16
      clear c16
      have HC21 := aS H
      clear H
      go_upto_region 11 with (fail)
      go_cut [37] (fun v37 wc => ∃ (kq : Nat) (x37_20 : Bool) (x458001_20 : Int) (x458002_20 : Int), v37 = .bool x37_20 ∧ Aside0 (spec_DrawLongestLine.j2 kq t458 x7_2 x37_20 t454 x458001_20 x458002_20 = some (r1, r2, r3)) ∧ Aside0 (kq ≤ k2) ∧ Aside0 (Kd.R k61 61 wc w.heap.size (fun _ => True) v459 t458) ∧ Aside0 (Kd.R k45 45 wc w.heap.size (fun _ => True) u7 x7_2) ∧ Aside0 (IsS127 w wc g457 t454 x458001_20 x458002_20) ∧ Aside0 (Below w.heap.size w wc))
      case first =>
       have H := HC21.out
       clear HC21
       replace H := iE H; rcases H with ⟨c22, H⟩ | ⟨c22, H⟩
       ·
        have c22b0 : decide (0 < x8_5) = true := decide_eq_true c22
        clear c22
        (first | rw [c22b0] | (simp only [i64_w, i32_w]; rw [c22b0]) | (rw [c22b2]; simp only [Bool.not_false, Bool.not_true]) | skip)
        replace H := Option.bind_eq_some_iff.mp H
        obtain ⟨⟨t482, t483, t484⟩, A230, H⟩ := H
        replace H : (spec_DrawLongestLine.j2 k2 t458 x7_2 t482 t454 t483 t484) = some (r1, r2, r3) := H
        have A23 := aS A230
        clear A230
        have H' := aS H
        clear H
        go_wp2_with (first | (go_at_call 66; (with_reducible refine (spec_l00Src_one.calls g457 t454 x458001_2 x458002_2 16 t482 t483 t484 w _ ?side1 ?side2 A23.out).mono ?_); (case side1 => exact IsS127.s HI457.out); (case side2 => exact sWg HB.out (IsS127.ge HI457.out)); rintro e w24 ⟨rfl, hi, hb, hk⟩; replace HO_6 := aS (Kd.R_mono (Kd.R_keep (IsS127.apart (show IsS127 w _ g457 t454 x458001_2 x458002_2 from IsS127.s HI457.out) (sR HO_6.out) (by decide)) hk (fun _ h => h.2)) (fun _ h => h.1)); replace HO_7 := aS (Kd.R_mono (Kd.R_keep (IsS127.apart (show IsS127 w _ g457 t454 x458001_2 x458002_2 from IsS127.s HI457.out) (sR HO_7.out) (by decide)) hk (fun _ h => h.2)) (fun _ h => h.1)); replace HB := aS (hb); replace HI457 := aS (hi)))
        go_meet
        case rel => exact ⟨_, (t482), (t483), (t484), eV, H', ⟨by have := HJ5.out; have := HK2.out; first | omega | exact Nat.le_refl _⟩, (aS (sR HO_6.out)), (aS (sR HO_7.out)), (aS (IsS127.s HI457.out)), ⟨sWg HB.out (IsS127.ge HI457.out)⟩⟩
       ·
        have c22b0 : decide (0 < x8_5) = false := decide_eq_false c22
        clear c22
        (first | rw [c22b0] | (simp only [i64_w, i32_w]; rw [c22b0]) | (rw [c22b2]; simp only [Bool.not_false, Bool.not_true]) | skip)
        have H' := aS H
        clear H
        go_wp2
        go_meet
        case rel => exact ⟨_, (false), (x458001_2), (x458002_2), eV, H', ⟨by have := HJ5.out; have := HK2.out; first | omega | exact Nat.le_refl _⟩, (aS (sR HO_6.out)), (aS (sR HO_7.out)), (aS (IsS127.s HI457.out)), ⟨sWg HB.out (IsS127.ge HI457.out)⟩⟩
      case rest =>
       clear HC21
       obtain ⟨kq, x37_20, x458001_20, x458002_20, rfl, HA, HJ20, HO_6, HO_7, HI457, HB⟩ := hcut
       cases kq with
       | zero => exact absurd HA.out (by simp [spec_DrawLongestLine.j2])
       | succ kj20 =>
        have H := HA.out
        clear HA
        simp only [spec_DrawLongestLine.j2] at H
        by_cases c25 : x37_20 = true
        ·
         subst c25
         have H1 : (if 0 < (x7_2.length : Int) then ((spec_l03SpoilPiece.f t454 x458001_20 x458002_20 ((rd_T45 x7_2 0).f0) ((rd_T45 x7_2 0).f1)).bind fun bt485 => ((spec_l03DrawNeed.f t454 bt485.2.2.1 bt485.2.2.2).bind fun bt490 => (some (t458, (x7_2.set (0 : Int).toNat (⟨bt485.1, bt485.2.1⟩ : S45)), bt490.1)))) else (none)) = some (r1, r2, r3) := by rw [if_pos rfl] at H; exact H
         clear H
         have H := H1
         clear H1
         replace H := iE H; rcases H with ⟨c26, H⟩ | ⟨c26, H⟩
         ·
          have c26b0 := decide_eq_true c26
          have c26b1 : decide (0 < x7_2.length) = true := decide_eq_true (by omega)
          clear c26
          replace H := Option.bind_eq_some_iff.mp H
          obtain ⟨⟨t485, t486, t487, t488⟩, A280, H⟩ := H
          replace H : ((spec_l03DrawNeed.f t454 t487 t488).bind fun bt490 => (some (t458, (x7_2.set (0 : Int).toNat (⟨t485, t486⟩ : S45)), bt490.1))) = some (r1, r2, r3) := H
          have A28 := aS A280
          clear A280
          obtain ⟨y489, hy489⟩ : ∃ y_ : List (S45), y_ = (x7_2.set (0 : Int).toNat (⟨t485, t486⟩ : S45)) := ⟨_, rfl⟩
          replace H : ((spec_l03DrawNeed.f t454 t487 t488).bind fun bt490 => (some (t458, y489, bt490.1))) = some (r1, r2, r3) := by first | (rw [hy489]; with_reducible exact H) | (have H2_ := (Option.bind_some _ _).symm.trans H; rw [hy489]; with_reducible exact H2_) | (have H2_ := (Option.bind_some _ _).symm.trans H; with_reducible exact H2_) | with_reducible exact H | (rw [hy489]; exact H) | exact H
          have Ny489 := aS hy489
          clear hy489
          replace H := Option.bind_eq_some_iff.mp H
          obtain ⟨⟨t490, t491, t492⟩, A290, H⟩ := H
          replace H : (some (t458, y489, t490)) = some (r1, r2, r3) := H
          have A29 := aS A290
          clear A290
          simp only [Option.some.injEq, Prod.mk.injEq] at H
          obtain ⟨rfl, rfl, rfl⟩ := H
          have p27 : 0 ≤ (0 : Int) := (by omega)
          have q27 : (0 : Int) < ((x7_2.length : Int) : Int) := sD
          have qi27 : (0 < x7_2.length) = True := eq_true (by omega)
          obtain ⟨go27, co27, eo27, gb27, gl27, cl27, HG27⟩ := Kd.R_form HO_7.out (by omega)
          (first | cases eo27 | (injection eo27 with ea_ en_ ec_; (first | subst ea_ | (injection ea_ with ea_; subst ea_)); subst ec_; clear en_))
          have GB27 := aS gb27
          have GG27 := aS HG27
          clear gb27 gl27 HG27
          obtain ⟨ce27, hcl27, hM27, hcc27, hfr27⟩ := Kd.R_elem HO_7.out z45 (0 : Int) p27 q27
          obtain rfl := k45_openM hM27
          have hx27_0 : wc.cell? ⟨go27, (0 : Int).toNat * 2, none⟩ = some (.int .i64 ((rd_T45 x7_2 0).f0)) := hcc27 0 _ rfl
          have hx27_1 : wc.cell? ⟨go27, (0 : Int).toNat * 2 + 1, none⟩ = some (.int .i64 ((rd_T45 x7_2 0).f1)) := hcc27 1 _ rfl
          have hf27_0 : wc.frozen? ⟨go27, (0 : Int).toNat * 2, none⟩ = false := hfr27 0
          have hf27_1 : wc.frozen? ⟨go27, (0 : Int).toNat * 2 + 1, none⟩ = false := hfr27 1
          clear hcl27 hcc27 hfr27 hM27
          (try rw [show ((0 : Int)).toNat = 0 from rfl] at hx27_0)
          (try simp only [Nat.reduceMul, Nat.zero_mul, Nat.zero_add, Nat.reduceAdd] at hx27_0)
          (try rw [show ((0 : Int)).toNat = 0 from rfl] at hf27_0)
          (try simp only [Nat.reduceMul, Nat.zero_mul, Nat.zero_add, Nat.reduceAdd] at hf27_0)
          (try rw [show ((0 : Int)).toNat = 0 from rfl] at hx27_1)
          (try simp only [Nat.reduceMul, Nat.zero_mul, Nat.zero_add, Nat.reduceAdd] at hx27_1)
          (try rw [show ((0 : Int)).toNat = 0 from rfl] at hf27_1)
          (try simp only [Nat.reduceMul, Nat.zero_mul, Nat.zero_add, Nat.reduceAdd] at hf27_1)
          replace p27 := eq_true p27
          replace q27 := eq_true q27
          go_wp2_with (first | ((with_reducible refine gate_callee (f := 67) rfl ?_); refine goesL_ (some 41) rfl rfl Try.func67 (by kernel_rfl) rfl #[.pointer (some ⟨g457, 0, none⟩), .pointer (some ⟨go27, 0, none⟩)] rfl sG ?_; (with_reducible refine (spec_l03SpoilPiece.calls g457 t454 x458001_20 x458002_20 ((rd_T45 x7_2 0).f0) ((rd_T45 x7_2 0).f1) t485 t486 t487 t488 w _ ?side1 ?side2 ?side3 A28.out).mono ?_); (case side1 => exact IsS127.s HI457.out); (case side2 => exact sWg HB.out (IsS127.ge HI457.out)); (case side3 => exact ⟨fun e_ => IsS127.own_ne HI457.out HO_7.out (by decide) (by rw [e_]; rfl), hx27_0, hx27_1, hf27_0, hf27_1⟩); rintro e w31 ⟨rfl, w30, hi, hb, hk, hw⟩; refine ⟨_, rfl, ?_⟩; replace HO_6 := aS (Kd.R_mono (Kd.R_keep (IsS127.apart (show IsS127 w _ g457 t454 x458001_20 x458002_20 from IsS127.s HI457.out) (sR HO_6.out) (by decide)) hk (fun _ h => h.2)) (fun _ h => h.1)); replace HO_7 := aS (Kd.R_mono (Kd.R_keep (IsS127.apart (show IsS127 w _ g457 t454 x458001_20 x458002_20 from IsS127.s HI457.out) (sR HO_7.out) (by decide)) hk (fun _ h => h.2)) (fun _ h => h.1)); replace HB := aS (hb); replace HI457 := aS (hi); (try clear hb); (try clear hb2); (try clear hk); (try clear hi); have HX32 := aS (show Kd.R k45 45 w30 w.heap.size (fun _ => True) (.slice (some ⟨go27, 0, none⟩) x7_2.length co27) x7_2 from (sR HO_7.out)); obtain ⟨ce32, hcl32, hM32, hcc32, hfr32⟩ := Kd.R_elem HX32.out z45 (0 : Int) (by omega) (by have h_ : (0 : Int) < ((x7_2.length : Int) : Int) := sD; first | exact h_ | (have e_ := (Kd.R_reads' HO_7.out).1; omega) | simpa using h_); obtain rfl := k45_openM hM32; have HP32 := Kd.R_seg HX32.out (0 : Int) (by omega) (by have h_ : (0 : Int) < ((x7_2.length : Int) : Int) := sD; first | exact h_ | (have e_ := (Kd.R_reads' HO_7.out).1; omega) | simpa using h_) (seg := [.int .i64 t485, .int .i64 t486]) (j := 0) hcl32 hcc32 (show 2 ≤ 2 from by decide) (x' := (⟨t485, t486⟩ : S45)) (k45_mkM _ _ _ (⟨t485, t486⟩ : S45) ) (fun _ hk => hk); have hx32_0 := hcc32 0 _ rfl; (try simp only [show (k45).sz = 2 from rfl, Nat.mul_one, Nat.add_zero] at hx32_0); (try rw [show ((0 : Int)).toNat = 0 from rfl] at hx32_0); (try simp only [Nat.reduceMul, Nat.zero_mul, Nat.zero_add, Nat.reduceAdd] at hx32_0); have hf32_0 := hfr32 0; (try simp only [show (k45).sz = 2 from rfl, Nat.mul_one, Nat.add_zero] at hf32_0); (try rw [show ((0 : Int)).toNat = 0 from rfl] at hf32_0); (try simp only [Nat.reduceMul, Nat.zero_mul, Nat.zero_add, Nat.reduceAdd] at hf32_0); have hx32_1 := hcc32 1 _ rfl; (try simp only [show (k45).sz = 2 from rfl, Nat.mul_one, Nat.add_zero] at hx32_1); (try rw [show ((0 : Int)).toNat = 0 from rfl] at hx32_1); (try simp only [Nat.reduceMul, Nat.zero_mul, Nat.zero_add, Nat.reduceAdd] at hx32_1); have hf32_1 := hfr32 1; (try simp only [show (k45).sz = 2 from rfl, Nat.mul_one, Nat.add_zero] at hf32_1); (try rw [show ((0 : Int)).toNat = 0 from rfl] at hf32_1); (try simp only [Nat.reduceMul, Nat.zero_mul, Nat.zero_add, Nat.reduceAdd] at hf32_1); clear hcl32 hcc32 hfr32 hM32; replace hw : w31 = ((w30.setCell ⟨go27, 0, none⟩ (.int .i64 t485)).setCell ⟨go27, 1, none⟩ (.int .i64 t486)) := hw; have hg : w30.grownBy w31 (some go27) := (by rw [hw]; exact HP32.2); have hp_ : Kd.R k45 45 w31 w.heap.size (fun _ => True) (.slice (some ⟨go27, 0, none⟩) x7_2.length co27) y489 := (by rw [hw, Ny489.out]; exact HP32.1); clear HP32; replace HO_6 := aS (Kd.R_over' (v := (.slice (some ⟨go27, 0, none⟩) x7_2.length co27)) (sR HO_6.out) (Kd.R_typed HO_7.out) (by decide) hg); replace HI457 := aS (IsS127.grown (IsS127.s HI457.out) hg (IsS127.own_ne HI457.out HO_7.out (by decide))); replace HO_7 := aS (hp_); replace HB := aS ((by rw [hw]; exact below_set (below_set (HB.out) GB27.out) GB27.out : Below w.heap.size w w31)); clear hg hw hp_) | ((with_reducible refine gate_callee (f := 68) rfl ?_); refine goesL_ (some 45) rfl rfl Try.func68 (by kernel_rfl) rfl #[.pointer (some ⟨g457, 0, none⟩)] rfl sG ?_; (with_reducible refine (spec_l03DrawNeed.calls g457 t454 t487 t488 t490 t491 t492 w _ ?side1 ?side2 A29.out).mono ?_); (case side1 => exact IsS127.s HI457.out); (case side2 => exact sWg HB.out (IsS127.ge HI457.out)); rintro e w33 ⟨rfl, hi, hb, hk⟩; refine ⟨_, rfl, ?_⟩; replace HO_6 := aS (Kd.R_mono (Kd.R_keep (IsS127.apart (show IsS127 w _ g457 t454 t487 t488 from IsS127.s HI457.out) (sR HO_6.out) (by decide)) hk (fun _ h => h.2)) (fun _ h => h.1)); replace HO_7 := aS (Kd.R_mono (Kd.R_keep (IsS127.apart (show IsS127 w _ g457 t454 t487 t488 from IsS127.s HI457.out) (sR HO_7.out) (by decide)) hk (fun _ h => h.2)) (fun _ h => h.1)); replace HB := aS (hb); replace HI457 := aS (hi)))
          go_ret3
          exact ⟨_, _, eE, sR HO_6.out, sR HO_7.out, sWg HB.out (IsS127.ge HI457.out)⟩
         ·
          exact absurd H (by simp)
        ·
         replace c25 := Bool.eq_false_iff.mpr c25
         subst c25
         have H1 : ((spec_l03DrawNeed.f t454 x458001_20 x458002_20).bind fun bt493 => (some (t458, x7_2, bt493.1))) = some (r1, r2, r3) := by rw [if_neg (show ¬ (false = true) by decide)] at H; exact H
         clear H
         have H := H1
         clear H1
         replace H := Option.bind_eq_some_iff.mp H
         obtain ⟨⟨t493, t494, t495⟩, A340, H⟩ := H
         replace H : (some (t458, x7_2, t493)) = some (r1, r2, r3) := H
         have A34 := aS A340
         clear A340
         simp only [Option.some.injEq, Prod.mk.injEq] at H
         obtain ⟨rfl, rfl, rfl⟩ := H
         go_wp2_with (first | ((with_reducible refine gate_callee (f := 68) rfl ?_); refine goesL_ (some 45) rfl rfl Try.func68 (by kernel_rfl) rfl #[.pointer (some ⟨g457, 0, none⟩)] rfl sG ?_; (with_reducible refine (spec_l03DrawNeed.calls g457 t454 x458001_20 x458002_20 t493 t494 t495 w _ ?side1 ?side2 A34.out).mono ?_); (case side1 => exact IsS127.s HI457.out); (case side2 => exact sWg HB.out (IsS127.ge HI457.out)); rintro e w35 ⟨rfl, hi, hb, hk⟩; refine ⟨_, rfl, ?_⟩; replace HO_6 := aS (Kd.R_mono (Kd.R_keep (IsS127.apart (show IsS127 w _ g457 t454 x458001_20 x458002_20 from IsS127.s HI457.out) (sR HO_6.out) (by decide)) hk (fun _ h => h.2)) (fun _ h => h.1)); replace HO_7 := aS (Kd.R_mono (Kd.R_keep (IsS127.apart (show IsS127 w _ g457 t454 x458001_20 x458002_20 from IsS127.s HI457.out) (sR HO_7.out) (by decide)) hk (fun _ h => h.2)) (fun _ h => h.1)); replace HB := aS (hb); replace HI457 := aS (hi)))
         go_ret3
         exact ⟨_, _, eE, sR HO_6.out, sR HO_7.out, sWg HB.out (IsS127.ge HI457.out)⟩

end Go.Proofs.Ytginmioklkcgbaa.QFnBestJoins

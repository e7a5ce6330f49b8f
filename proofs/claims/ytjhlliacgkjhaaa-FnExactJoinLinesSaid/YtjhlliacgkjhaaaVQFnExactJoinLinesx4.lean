/- What the Go functions of this law compute, each as a Lean function, and that each call comes to that answer; written by a program of this session. No condition. -/
import Derived.Test.YtjhlliacgkjhaaaVQFnExactJoinLinesx0
import Derived.Test.YtjhlliacgkjhaaaVQFnExactJoinLinesx1
import Derived.Test.YtjhlliacgkjhaaaVQFnExactJoinLinesx2
import Derived.Test.YtjhlliacgkjhaaaVQFnExactJoinLinesx3
namespace Go.Proofs.Ytjhlliacgkjhaaa.QFnExactJoinLines
open Go.RowKit Go.Proofs.YtjhlliacgkjhaaaW.PrintWords Go.Proofs.YtjhlliacgkjhaaaW.PrintLast Go.Proofs.YtjhlliacgkjhaaaW.PrintMore
attribute [local go_sem] max2_int min2_int max_two min_two max_three min_three max_four min_four   -- for this text's walks alone
set_option linter.unusedVariables false
set_option linter.unusedSimpArgs false

/-! ### spec_l03LineAt: function 35 -/
mutual
def spec_l03LineAt.j0 : Nat → List (S74) → List (S45) → Bool → Option (Bool)
 | 0, _, _, _ => none
 | k + 1, x0, x1, x32 => if x32 = true then (some false) else (spec_l03LineAt.l0 k x0 x1 0)
def spec_l03LineAt.l0 : Nat → List (S74) → List (S45) → Int → Option (Bool)
 | 0, _, _, _ => none
 | k + 1, x0, x1, x5 => if 0 < (x1.length : Int) then (if x5 < (((rd_T45 x1 0).f0).length : Int) then (if 0 ≤ x5 then ((spec_l03Piece.f ((rd_T91 ((rd_T45 x1 0).f0) x5).f0) ((rd_T91 ((rd_T45 x1 0).f0) x5).f1)).bind fun t151 => (if t151 = true then (spec_l03LineAt.l0 k x0 x1 (wrap64 (x5 + 1))) else (some false))) else (none)) else (spec_l03LineAt.l1 k x0 x1 0)) else (none)
def spec_l03LineAt.l1 : Nat → List (S74) → List (S45) → Int → Option (Bool)
 | 0, _, _, _ => none
 | k + 1, x0, x1, x6 => if 0 < (x1.length : Int) then (if x6 < (((rd_T45 x1 0).f1).length : Int) then (if 0 ≤ x6 then ((spec_l00In.f (rd ((rd_T45 x1 0).f1) x6) 0 (wrap64 ((x0.length : Int) - 1))).bind fun t155 => (if t155 = true then (spec_l03LineAt.l1 k x0 x1 (wrap64 (x6 + 1))) else (some false))) else (none)) else ((spec_l03LengthAt.f k x0 x1).bind fun t156 => (some (decide (t156 ≥ 1))))) else (none)
end
def spec_l03LineAt.f (k : Nat) (l0 : List (S74)) (l1 : List (S45)) : Option (Bool) := (spec_l03Ok.f k l0).bind fun t143 => (if t143 = true then (if 0 < (l1.length : Int) then ((spec_l00In.f (((rd_T45 l1 0).f0).length : Int) 1 12).bind fun t145 => (if t145 = true then (spec_l03LineAt.j0 k l0 l1 ((((rd_T45 l1 0).f1).length : Int) != (wrap64 ((((rd_T45 l1 0).f0).length : Int) - 1)))) else (spec_l03LineAt.j0 k l0 l1 true))) else (none)) else (spec_l03LineAt.j0 k l0 l1 true))
theorem spec_l03LineAt.mono_l : ∀ k, (∀ y0 y1 y2, LeO (spec_l03LineAt.j0 k y0 y1 y2) (spec_l03LineAt.j0 (k + 1) y0 y1 y2)) ∧ (∀ y0 y1 y2, LeO (spec_l03LineAt.l0 k y0 y1 y2) (spec_l03LineAt.l0 (k + 1) y0 y1 y2)) ∧ (∀ y0 y1 y2, LeO (spec_l03LineAt.l1 k y0 y1 y2) (spec_l03LineAt.l1 (k + 1) y0 y1 y2))
 | 0 => ⟨fun _ _ _ r h => by simp [spec_l03LineAt.j0] at h, fun _ _ _ r h => by simp [spec_l03LineAt.l0] at h, fun _ _ _ r h => by simp [spec_l03LineAt.l1] at h⟩
 | k + 1 => by
  obtain ⟨ih0, ih1, ih2⟩ := spec_l03LineAt.mono_l k
  refine ⟨?_, ?_, ?_⟩
  ·
   intro y0 y1 y2
   unfold spec_l03LineAt.j0
   repeat' first
   | (with_reducible exact ih0 _ _ _)
   | (with_reducible exact ih1 _ _ _)
   | (with_reducible exact ih2 _ _ _)
   | (with_reducible exact spec_l03LengthAt.mono _ _ _)
   | (with_reducible exact spec_l03Ok.mono _ _)
   | (with_reducible exact LeO.refl _)
   | (with_reducible exact LeO.none _)
   | (with_reducible refine LeO.ite ?_ ?_)
   | (with_reducible refine LeO.bind ?_ (fun _ => ?_))
   | exact ih0 _ _ _
   | exact ih1 _ _ _
   | exact ih2 _ _ _
   | exact spec_l03LengthAt.mono _ _ _
   | exact spec_l03Ok.mono _ _
   | exact LeO.none _
   | refine LeO.ite ?_ ?_
   | refine LeO.bind ?_ (fun _ => ?_)
  ·
   intro y0 y1 y2
   unfold spec_l03LineAt.l0
   repeat' first
   | (with_reducible exact ih0 _ _ _)
   | (with_reducible exact ih1 _ _ _)
   | (with_reducible exact ih2 _ _ _)
   | (with_reducible exact spec_l03LengthAt.mono _ _ _)
   | (with_reducible exact spec_l03Ok.mono _ _)
   | (with_reducible exact LeO.refl _)
   | (with_reducible exact LeO.none _)
   | (with_reducible refine LeO.ite ?_ ?_)
   | (with_reducible refine LeO.bind ?_ (fun _ => ?_))
   | exact ih0 _ _ _
   | exact ih1 _ _ _
   | exact ih2 _ _ _
   | exact spec_l03LengthAt.mono _ _ _
   | exact spec_l03Ok.mono _ _
   | exact LeO.none _
   | refine LeO.ite ?_ ?_
   | refine LeO.bind ?_ (fun _ => ?_)
  ·
   intro y0 y1 y2
   unfold spec_l03LineAt.l1
   repeat' first
   | (with_reducible exact ih0 _ _ _)
   | (with_reducible exact ih1 _ _ _)
   | (with_reducible exact ih2 _ _ _)
   | (with_reducible exact spec_l03LengthAt.mono _ _ _)
   | (with_reducible exact spec_l03Ok.mono _ _)
   | (with_reducible exact LeO.refl _)
   | (with_reducible exact LeO.none _)
   | (with_reducible refine LeO.ite ?_ ?_)
   | (with_reducible refine LeO.bind ?_ (fun _ => ?_))
   | exact ih0 _ _ _
   | exact ih1 _ _ _
   | exact ih2 _ _ _
   | exact spec_l03LengthAt.mono _ _ _
   | exact spec_l03Ok.mono _ _
   | exact LeO.none _
   | refine LeO.ite ?_ ?_
   | refine LeO.bind ?_ (fun _ => ?_)
theorem spec_l03LineAt.mono : ∀ a0 a1 k, LeO (spec_l03LineAt.f k a0 a1) (spec_l03LineAt.f (k + 1) a0 a1) := by
 intro a0 a1 k
 obtain ⟨ih0, ih1, ih2⟩ := spec_l03LineAt.mono_l k
 unfold spec_l03LineAt.f
 repeat' first
   | (with_reducible exact ih0 _ _ _)
   | (with_reducible exact ih1 _ _ _)
   | (with_reducible exact ih2 _ _ _)
   | (with_reducible exact spec_l03LengthAt.mono _ _ _)
   | (with_reducible exact spec_l03Ok.mono _ _)
   | (with_reducible exact LeO.refl _)
   | (with_reducible exact LeO.none _)
   | (with_reducible refine LeO.ite ?_ ?_)
   | (with_reducible refine LeO.bind ?_ (fun _ => ?_))
   | exact ih0 _ _ _
   | exact ih1 _ _ _
   | exact ih2 _ _ _
   | exact spec_l03LengthAt.mono _ _ _
   | exact spec_l03Ok.mono _ _
   | exact LeO.none _
   | refine LeO.ite ?_ ?_
   | refine LeO.bind ?_ (fun _ => ?_)
def spec_l03LineAt.T1 : Bool × List (List Nat × List Nat) := (true, [([], []), ([0], [0]), ([1], [1]), ([2, 1], [2]), ([3], [3]), ([4, 3], [3, 4]), ([5, 3], [3, 5]), ([6, 3], [3, 6]), ([7, 3], [3, 7]), ([8, 3, 3], [3, 8]), ([9, 3], [3, 9]), ([3, 10], [3, 10]), ([11, 9], [11]), ([12], [12]), ([13, 12], [12, 13]), ([14, 12], [12, 14]), ([15, 12], [12, 15]), ([16, 12], [12, 16]), ([12], [12]), ([18, 12], [12, 18]), ([19, 12], [12, 19]), ([20, 12], [12, 20]), ([21, 12], [12, 21]), ([22, 12], [12, 22]), ([17, 23, 12], [12, 17, 23]), ([12, 24], [12, 24])])
def spec_l03LineAt.B1 : List Nat := [0, 1, 3, 7, 15, 31, 63, 127, 255, 511, 1023, 2047, 4095, 8191, 16383, 32767, 65535, 131071, 8191, 270335, 794623, 1843199, 3940351, 8134655, 16777215, 33554431]
theorem spec_l03LineAt.tab1 : rtab .any (opsOf Try.f35 1) = spec_l03LineAt.T1 := by kernel_rfl
theorem spec_l03LineAt.bits1 : waitsOk spec_l03LineAt.T1.2 spec_l03LineAt.B1 = true := by kernel_rfl
def spec_l03LineAt.bF (n k : Nat) : Array Bool := ((List.range n).map fun i => k.testBit i).toArray
set_option maxHeartbeats 8000000 in
set_option maxRecDepth 100000 in
theorem spec_l03LineAt.calls (k : Nat) (A0 : Option Addr) (c0 : Nat) (l0 : List (S74)) (A1 : Option Addr) (c1 : Nat) (l1 : List (S45)) (r : Bool) (w : World) (hr0 : Kd.C k74 w A0 l0.length l0) (hc0 : l0.length ≤ c0) (hr1 : Kd.C k45 w A1 l1.length l1) (hc1 : l1.length ≤ c1) (h : spec_l03LineAt.f k l0 l1 = some r) :
  Calls Try.prog 35 #[.slice A0 l0.length c0, .pointer A1] w fun e w' => e = .returned (.bool r) ∧ Below w.heap.size w w' := by
 have hu91 := Try.underlying91
 have HR0 := aS hr0
 have HC0 := aS hc0
 clear hr0 hc0
 have HR1 := aS hr1
 have HC1 := aS hc1
 clear hr1 hc1
 have HB := aS (Below.refl w.heap.size w)
 have H : ((spec_l03Ok.f k l0).bind fun t143 => (if t143 = true then (if 0 < (l1.length : Int) then ((spec_l00In.f (((rd_T45 l1 0).f0).length : Int) 1 12).bind fun t145 => (if t145 = true then (spec_l03LineAt.j0 k l0 l1 ((((rd_T45 l1 0).f1).length : Int) != (wrap64 ((((rd_T45 l1 0).f0).length : Int) - 1)))) else (spec_l03LineAt.j0 k l0 l1 true))) else (none)) else (spec_l03LineAt.j0 k l0 l1 true))) = some r := h
 clear h
 have HC3 := aS H
 clear H
 go_enter Try.func35, Try.ntmps35
 go_upto_region 1 with (fail)
 go_cut [32] (fun v32 wc => ∃ (kq : Nat) (x32_2 : Bool), v32 = .bool x32_2 ∧ Aside0 (spec_l03LineAt.j0 kq l0 l1 x32_2 = some r) ∧ Aside0 (kq ≤ k) ∧ Aside0 (Below w.heap.size w wc))
 case first =>
  have H := HC3.out
  clear HC3
  replace H := Option.bind_eq_some_iff.mp H
  obtain ⟨t143, A40, H⟩ := H
  replace H : (if t143 = true then (if 0 < (l1.length : Int) then ((spec_l00In.f (((rd_T45 l1 0).f0).length : Int) 1 12).bind fun t145 => (if t145 = true then (spec_l03LineAt.j0 k l0 l1 ((((rd_T45 l1 0).f1).length : Int) != (wrap64 ((((rd_T45 l1 0).f0).length : Int) - 1)))) else (spec_l03LineAt.j0 k l0 l1 true))) else (none)) else (spec_l03LineAt.j0 k l0 l1 true)) = some r := H
  have A4 := aS A40
  clear A40
  by_cases c5 : t143 = true
  rotate_left
  ·
   replace c5 := Bool.eq_false_iff.mpr c5
   subst c5
   have H1 : (spec_l03LineAt.j0 k l0 l1 true) = some r := by rw [if_neg (show ¬ (false = true) by decide)] at H; exact H
   clear H
   have H := H1
   clear H1
   have H' := aS H
   clear H
   try go_wp2
   have n0_ := aS (below_drew1 HB.out)
   clear HB
   have HB := n0_
   clear n0_
   refine start_ (n := 26) (S := fun w' => True) (ds := []) #[false, false, false, false, false, false, false, false, false, false, false, false, false, false, false, false, false, false, false, false, false, false, false, false, false, false] (by kernel_rfl) rfl rfl trivial (fun hHeld => ?_); refine with_tabW spec_l03LineAt.tab1 spec_l03LineAt.bits1 (fun HT_ HW_ => ?_)
   generalize w.drew = w13 at HB hHeld ⊢
   refine pure_ (i := 0) (N := some 7) (v := ?_) (a' := ?_) (spec_l03LineAt.bF 26 1) rfl rfl (any_of HT_.out (by kernel_rfl)) (fun _ _ _ h => h) (Or.inl ⟨by rfl, ?_⟩) ?_ ?_
   rotate_left
   ·
    intro w'
    go_simp
    with_reducible rfl
   rotate_left
   ·
    exact sP
   refine one_ (i := 1) (N := some 8) #[true, true, false, false, false, false, false, false, false, false, false, false, false, false, false, false, false, false, false, false, false, false, false, false, false, false] rfl rfl (one_of HT_.out (by kernel_rfl)) (by decide) (fun K hK => ?_)
   refine goes_ Try.func53 (by kernel_rfl) rfl #[.slice A0 l0.length c0] (by rfl) rfl rfl sG ?_
   with_reducible refine (spec_l03Ok.calls k _ _ l0 false _ ?side1 ?side2 A4.out).mono ?_
   (case side1 => exact sC (Kd.C_below HR0.out HB.out))
   (case side2 => exact HC0.out)
   rintro e w14 ⟨rfl, hb⟩
   refine ⟨_, rfl, ?_⟩
   have n0_ := aS (below_step (sW HB.out) hb)
   clear HB
   have HB := n0_
   clear n0_
   (try clear hb); (try clear hb2); (try clear hk); (try clear hi)
   refine hK.out _ _ trivial (fun hHeld => ?_)
   clear hK K
   refine norm_ (a' := ?_) ?_ ?_
   rotate_left
   ·
    show Act.put _ (some 8) _ = _
    exact sP
   refine pure_ (i := 2) (N := some 9) (v := ?_) (a' := ?_) (spec_l03LineAt.bF 26 7) rfl rfl (any_of HT_.out (by kernel_rfl)) (fun _ _ _ h => h) (Or.inl ⟨by rfl, ?_⟩) ?_ ?_
   rotate_left
   ·
    intro w'
    go_simp
    with_reducible rfl
   rotate_left
   ·
    exact sP
   refine pure_ (i := 3) (N := some 10) (v := ?_) (a' := ?_) (spec_l03LineAt.bF 26 15) rfl rfl (any_of HT_.out (by kernel_rfl)) (fun _ _ _ h => h) (Or.inl ⟨by rfl, ?_⟩) ?_ ?_
   rotate_left
   ·
    intro w'
    go_simp
    with_reducible rfl
   rotate_left
   ·
    exact sP
   refine pure_ (i := 4) (N := some 11) (v := undef) (a' := ?_) (spec_l03LineAt.bF 26 31) rfl rfl (any_of HT_.out (by kernel_rfl)) (fun _ _ _ h => h) (Or.inr ⟨by rfl, rfl⟩) ?_ ?_
   rotate_left
   ·
    exact sP
   refine pure_ (i := 5) (N := some 12) (v := undef) (a' := ?_) (spec_l03LineAt.bF 26 63) rfl rfl (any_of HT_.out (by kernel_rfl)) (fun _ _ _ h => h) (Or.inr ⟨by rfl, rfl⟩) ?_ ?_
   rotate_left
   ·
    exact sP
   refine pure_ (i := 6) (N := some 13) (v := undef) (a' := ?_) (spec_l03LineAt.bF 26 127) rfl rfl (any_of HT_.out (by kernel_rfl)) (fun _ _ _ h => h) (Or.inr ⟨by rfl, rfl⟩) ?_ ?_
   rotate_left
   ·
    exact sP
   refine pure_ (i := 7) (N := some 14) (v := undef) (a' := ?_) (spec_l03LineAt.bF 26 255) rfl rfl (any_of HT_.out (by kernel_rfl)) (fun _ _ _ h => h) (Or.inr ⟨by rfl, rfl⟩) ?_ ?_
   rotate_left
   ·
    exact sP
   refine pure_ (i := 8) (N := some 15) (v := undef) (a' := ?_) (spec_l03LineAt.bF 26 511) rfl rfl (any_of HT_.out (by kernel_rfl)) (fun _ _ _ h => h) (Or.inr ⟨by rfl, rfl⟩) ?_ ?_
   rotate_left
   ·
    exact sP
   refine pure_ (i := 9) (N := some 16) (v := undef) (a' := ?_) (spec_l03LineAt.bF 26 1023) rfl rfl (any_of HT_.out (by kernel_rfl)) (fun _ _ _ h => h) (Or.inr ⟨by rfl, rfl⟩) ?_ ?_
   rotate_left
   ·
    exact sP
   refine pure_ (i := 10) (N := some 17) (v := undef) (a' := ?_) (spec_l03LineAt.bF 26 2047) rfl rfl (any_of HT_.out (by kernel_rfl)) (fun _ _ _ h => h) (Or.inr ⟨by rfl, rfl⟩) ?_ ?_
   rotate_left
   ·
    exact sP
   refine pure_ (i := 11) (N := some 18) (v := ?_) (a' := ?_) (spec_l03LineAt.bF 26 4095) rfl rfl (any_of HT_.out (by kernel_rfl)) (fun _ _ _ h => h) (Or.inl ⟨by rfl, ?_⟩) ?_ ?_
   rotate_left
   ·
    intro w'
    go_simp
    with_reducible rfl
   rotate_left
   ·
    exact sP
   refine pure_ (i := 12) (N := some 19) (v := ?_) (a' := ?_) (spec_l03LineAt.bF 26 8191) rfl rfl (any_of HT_.out (by kernel_rfl)) (fun _ _ _ h => h) (Or.inl ⟨by rfl, ?_⟩) ?_ ?_
   rotate_left
   ·
    intro w'
    go_simp
    with_reducible rfl
   rotate_left
   ·
    exact sP
   refine pure_ (i := 13) (N := some 20) (v := undef) (a' := ?_) (spec_l03LineAt.bF 26 16383) rfl rfl (any_of HT_.out (by kernel_rfl)) (fun _ _ _ h => h) (Or.inr ⟨by rfl, rfl⟩) ?_ ?_
   rotate_left
   ·
    exact sP
   refine pure_ (i := 14) (N := some 21) (v := undef) (a' := ?_) (spec_l03LineAt.bF 26 32767) rfl rfl (any_of HT_.out (by kernel_rfl)) (fun _ _ _ h => h) (Or.inr ⟨by rfl, rfl⟩) ?_ ?_
   rotate_left
   ·
    exact sP
   refine pure_ (i := 15) (N := some 22) (v := undef) (a' := ?_) (spec_l03LineAt.bF 26 65535) rfl rfl (any_of HT_.out (by kernel_rfl)) (fun _ _ _ h => h) (Or.inr ⟨by rfl, rfl⟩) ?_ ?_
   rotate_left
   ·
    exact sP
   refine pure_ (i := 16) (N := some 23) (v := undef) (a' := ?_) (spec_l03LineAt.bF 26 131071) rfl rfl (any_of HT_.out (by kernel_rfl)) (fun _ _ _ h => h) (Or.inr ⟨by rfl, rfl⟩) ?_ ?_
   rotate_left
   ·
    exact sP
   refine pure_ (i := 17) (N := some 24) (v := undef) (a' := ?_) (spec_l03LineAt.bF 26 262143) rfl rfl (any_of HT_.out (by kernel_rfl)) (fun _ _ _ h => h) (Or.inr ⟨by rfl, rfl⟩) ?_ ?_
   rotate_left
   ·
    exact sP
   refine pure_ (i := 18) (N := some 25) (v := undef) (a' := ?_) (spec_l03LineAt.bF 26 524287) rfl rfl (any_of HT_.out (by kernel_rfl)) (fun _ _ _ h => h) (Or.inr ⟨by rfl, rfl⟩) ?_ ?_
   rotate_left
   ·
    exact sP
   refine pure_ (i := 19) (N := some 26) (v := undef) (a' := ?_) (spec_l03LineAt.bF 26 1048575) rfl rfl (any_of HT_.out (by kernel_rfl)) (fun _ _ _ h => h) (Or.inr ⟨by rfl, rfl⟩) ?_ ?_
   rotate_left
   ·
    exact sP
   refine pure_ (i := 20) (N := some 27) (v := undef) (a' := ?_) (spec_l03LineAt.bF 26 2097151) rfl rfl (any_of HT_.out (by kernel_rfl)) (fun _ _ _ h => h) (Or.inr ⟨by rfl, rfl⟩) ?_ ?_
   rotate_left
   ·
    exact sP
   refine pure_ (i := 21) (N := some 28) (v := undef) (a' := ?_) (spec_l03LineAt.bF 26 4194303) rfl rfl (any_of HT_.out (by kernel_rfl)) (fun _ _ _ h => h) (Or.inr ⟨by rfl, rfl⟩) ?_ ?_
   rotate_left
   ·
    exact sP
   refine pure_ (i := 22) (N := some 29) (v := undef) (a' := ?_) (spec_l03LineAt.bF 26 8388607) rfl rfl (any_of HT_.out (by kernel_rfl)) (fun _ _ _ h => h) (Or.inr ⟨by rfl, rfl⟩) ?_ ?_
   rotate_left
   ·
    exact sP
   refine pure_ (i := 23) (N := some 30) (v := undef) (a' := ?_) (spec_l03LineAt.bF 26 16777215) rfl rfl (any_of HT_.out (by kernel_rfl)) (fun _ _ _ h => h) (Or.inr ⟨by rfl, rfl⟩) ?_ ?_
   rotate_left
   ·
    exact sP
   refine pure_ (i := 24) (N := some 31) (v := undef) (a' := ?_) (spec_l03LineAt.bF 26 33554431) rfl rfl (any_of HT_.out (by kernel_rfl)) (fun _ _ _ h => h) (Or.inr ⟨by rfl, rfl⟩) ?_ ?_
   rotate_left
   ·
    exact sP
   refine pure_ (i := 25) (N := some 32) (v := ?_) (a' := ?_) (spec_l03LineAt.bF 26 67108863) rfl rfl (any_of HT_.out (by kernel_rfl)) (fun _ _ _ h => h) (Or.inl ⟨by rfl, ?_⟩) ?_ ?_
   rotate_left
   ·
    intro w'
    go_simp
    with_reducible rfl
   rotate_left
   ·
    exact sP
   refine done_ (done_of HT_.out (by kernel_rfl)) ?_
   try go_wp2
   go_meet
   case rel => exact ⟨_, (true), (by first | rfl | (simp; done) | (simp [*]; done) | (simp only [i64_w]; done) | (simp [i64_w]; done)), H', ⟨by first | omega | exact Nat.le_refl _⟩, ⟨by repeat (first | (with_reducible first | exact HB.out | apply below_alloc | apply pw_below_drewN | apply below_drew1) | exact HB.out)⟩⟩
  subst c5
  have H1 : (if 0 < (l1.length : Int) then ((spec_l00In.f (((rd_T45 l1 0).f0).length : Int) 1 12).bind fun t145 => (if t145 = true then (spec_l03LineAt.j0 k l0 l1 ((((rd_T45 l1 0).f1).length : Int) != (wrap64 ((((rd_T45 l1 0).f0).length : Int) - 1)))) else (spec_l03LineAt.j0 k l0 l1 true))) else (none)) = some r := by rw [if_pos rfl] at H; exact H
  clear H
  have H := H1
  clear H1
  by_cases c6 : 0 < (l1.length : Int)
  rotate_left
  ·
   rw [if_neg c6] at H
   exact absurd H (by simp)
  rw [if_pos c6] at H
  have c6b0 : decide (0 < (l1.length : Int)) = true := decide_eq_true c6
  have c6b1 : decide (0 < l1.length) = true := decide_eq_true (by omega)
  clear c6
  (first | rw [c6b0] | (simp only [i64_w, i32_w]; rw [c6b0]) | (rw [c6b2]; simp only [Bool.not_false, Bool.not_true]) | skip)
  replace H := Option.bind_eq_some_iff.mp H
  obtain ⟨t145, A70, H⟩ := H
  replace H : (if t145 = true then (spec_l03LineAt.j0 k l0 l1 ((((rd_T45 l1 0).f1).length : Int) != (wrap64 ((((rd_T45 l1 0).f0).length : Int) - 1)))) else (spec_l03LineAt.j0 k l0 l1 true)) = some r := H
  have A7 := aS A70
  clear A70
  by_cases c8 : t145 = true
  rotate_left
  ·
   replace c8 := Bool.eq_false_iff.mpr c8
   subst c8
   have H1 : (spec_l03LineAt.j0 k l0 l1 true) = some r := by rw [if_neg (show ¬ (false = true) by decide)] at H; exact H
   clear H
   have H := H1
   clear H1
   have H' := aS H
   clear H
   try go_wp2
   have n0_ := aS (below_drew1 HB.out)
   clear HB
   have HB := n0_
   clear n0_
   have p144 : 0 ≤ (0 : Int) := (by omega)
   have q144 : 0 < (l1.length : Int) := of_decide_eq_true (by first | (with_reducible assumption) | assumption)
   obtain ⟨ad144, A144_0, c144_0, A144_1, c144_1, e144, hx144_0, hx144_1, hl144_0, hi144_0, hl144_1, hi144_1⟩ := at_T45 HR1.out 0 p144 q144
   have hw144_1 := hx144_1
   (try rw [show ((0 : Int)).toNat = 0 from rfl] at hw144_1)
   (try rw [show 0 * 2 = 0 from rfl] at hw144_1)
   (try rw [Addr.add_zero'] at hw144_1)
   have hw144_0 := hx144_0
   (try rw [show ((0 : Int)).toNat = 0 from rfl] at hw144_0)
   (try rw [show 0 * 2 = 0 from rfl] at hw144_0)
   (try rw [Addr.add_zero'] at hw144_0)
   cases e144
   have qi144 : (0 < l1.length) = True := eq_true (by omega)
   (try rw [show ((0 : Int)).toNat = 0 from rfl] at hx144_0)
   (try rw [show 0 * 2 = 0 from rfl] at hx144_0)
   (try rw [Addr.add_zero'] at hx144_0)
   (try rw [show ((0 : Int)).toNat = 0 from rfl] at hx144_1)
   (try rw [show 0 * 2 = 0 from rfl] at hx144_1)
   (try rw [Addr.add_zero'] at hx144_1)
   replace hx144_0 := (HB.out.cell (World.block_lt_of_cell? w _ hx144_0)).trans hx144_0
   replace hx144_1 := (HB.out.cell (World.block_lt_of_cell? w _ hx144_1)).trans hx144_1
   have HR144_0 := aS hi144_0
   have HC144_0 := aS hl144_0
   clear hi144_0 hl144_0
   have HR144_1 := aS hi144_1
   have HC144_1 := aS hl144_1
   clear hi144_1 hl144_1
   replace p144 := eq_true p144
   replace q144 := eq_true q144
   refine start_ (n := 26) (S := fun w' => w'.cell? ad144 = some (.slice A144_0 ((rd_T45 l1 0).f0).length c144_0) ∧ w'.cell? ⟨ad144.block, ad144.off + 1, none⟩ = some (.slice A144_1 ((rd_T45 l1 0).f1).length c144_1)) (ds := []) #[false, false, false, false, false, false, false, false, false, false, false, false, false, false, false, false, false, false, false, false, false, false, false, false, false, false] (by kernel_rfl) rfl rfl ⟨((HB.out.cell (World.block_lt_of_cell? w _ hw144_0)).trans hw144_0), ((HB.out.cell (World.block_lt_of_cell? w _ hw144_1)).trans hw144_1)⟩ (fun hHeld => ?_); refine with_tabW spec_l03LineAt.tab1 spec_l03LineAt.bits1 (fun HT_ HW_ => ?_)
   generalize w.drew = w11 at HB HR144_0 HR144_1 hx144_0 hx144_1 hHeld ⊢
   refine pure_ (i := 0) (N := some 7) (v := ?_) (a' := ?_) (spec_l03LineAt.bF 26 1) rfl rfl (any_of HT_.out (by kernel_rfl)) (fun _ _ _ h => h) (Or.inl ⟨by rfl, ?_⟩) ?_ ?_
   rotate_left
   ·
    intro w'
    go_simp
    with_reducible rfl
   rotate_left
   ·
    exact sP
   refine one_ (i := 1) (N := some 8) #[true, true, false, false, false, false, false, false, false, false, false, false, false, false, false, false, false, false, false, false, false, false, false, false, false, false] rfl rfl (one_of HT_.out (by kernel_rfl)) (by decide) (fun K hK => ?_)
   refine goes_ Try.func53 (by kernel_rfl) rfl #[.slice A0 l0.length c0] (by rfl) rfl rfl sG ?_
   with_reducible refine (spec_l03Ok.calls k _ _ l0 true _ ?side1 ?side2 A4.out).mono ?_
   (case side1 => exact sC (Kd.C_below HR0.out HB.out))
   (case side2 => exact HC0.out)
   rintro e w12 ⟨rfl, hb⟩
   refine ⟨_, rfl, ?_⟩
   have n0_ := aS (below_step (sW HB.out) hb)
   clear HB
   have HB := n0_
   clear n0_
   (try clear hb); (try clear hb2); (try clear hk); (try clear hi)
   refine hK.out _ _ ⟨((HB.out.cell (World.block_lt_of_cell? w _ hw144_0)).trans hw144_0), ((HB.out.cell (World.block_lt_of_cell? w _ hw144_1)).trans hw144_1)⟩ (fun hHeld => ?_)
   clear hK K
   refine norm_ (a' := ?_) ?_ ?_
   rotate_left
   ·
    show Act.put _ (some 8) _ = _
    exact sP
   refine pure_ (i := 2) (N := some 9) (v := ?_) (a' := ?_) (spec_l03LineAt.bF 26 7) rfl rfl (any_of HT_.out (by kernel_rfl)) (fun _ _ _ h => h) (Or.inl ⟨by rfl, ?_⟩) ?_ ?_
   rotate_left
   ·
    intro w'
    go_simp
    with_reducible rfl
   rotate_left
   ·
    exact sP
   refine pure_ (i := 3) (N := some 10) (v := ?_) (a' := ?_) (spec_l03LineAt.bF 26 15) rfl rfl (any_of HT_.out (by kernel_rfl)) (fun _ _ _ h => h) (Or.inl ⟨by rfl, ?_⟩) ?_ ?_
   rotate_left
   ·
    intro w'
    go_simp
    with_reducible rfl
   rotate_left
   ·
    exact sP
   refine pure_ (i := 4) (N := some 11) (v := ?_) (a' := ?_) (spec_l03LineAt.bF 26 31) rfl rfl (any_of HT_.out (by kernel_rfl)) (fun _ _ _ h => h) (Or.inl ⟨by rfl, ?_⟩) ?_ ?_
   rotate_left
   ·
    intro w'
    go_simp
    with_reducible rfl
   rotate_left
   ·
    exact sP
   refine pure_ (i := 5) (N := some 12) (v := ?_) (a' := ?_) (spec_l03LineAt.bF 26 63) rfl rfl (any_of HT_.out (by kernel_rfl)) (fun _ _ _ h => h) (Or.inl ⟨by rfl, ?_⟩) ?_ ?_
   rotate_left
   ·
    intro w'
    go_simp
    with_reducible rfl
   rotate_left
   ·
    exact sP
   refine pure_ (i := 6) (N := some 13) (v := ?_) (a' := ?_) (spec_l03LineAt.bF 26 127) rfl rfl (any_of HT_.out (by kernel_rfl)) (fun _ _ _ h => h) (Or.inl ⟨by rfl, ?_⟩) ?_ ?_
   rotate_left
   ·
    intro w'
    go_simp
    with_reducible rfl
   rotate_left
   ·
    exact sP
   refine take_ (i := 7) (N := some 14) (v := ?_) (a' := ?_) (spec_l03LineAt.bF 26 255) rfl rfl (take_ofW HT_.out HW_.out (by kernel_rfl)) (fun _ _ _ h => h) (Or.inl ⟨by rfl, ?_⟩) hHeld ?_ ?_
   rotate_left
   ·
    rintro w' ⟨s0, s1⟩
    go_simp
    with_reducible rfl
   rotate_left
   ·
    exact sP
   refine pure_ (i := 8) (N := some 15) (v := ?_) (a' := ?_) (spec_l03LineAt.bF 26 511) rfl rfl (any_of HT_.out (by kernel_rfl)) (fun _ _ _ h => h) (Or.inl ⟨by rfl, ?_⟩) ?_ ?_
   rotate_left
   ·
    intro w'
    go_simp
    with_reducible rfl
   rotate_left
   ·
    exact sP
   refine one_ (i := 9) (N := some 16) #[true, true, true, true, true, true, true, true, true, true, false, false, false, false, false, false, false, false, false, false, false, false, false, false, false, false] rfl rfl (one_of HT_.out (by kernel_rfl)) (by decide) (fun K hK => ?_)
   refine goes_ Try.func36 (by kernel_rfl) rfl #[.int .i64 (((rd_T45 l1 0).f0).length : Int), .int .i64 1, .int .i64 12] (by rfl) rfl rfl sG ?_
   with_reducible refine (spec_l00In.calls (((rd_T45 l1 0).f0).length : Int) 1 12 false _ A7.out).mono ?_
   rintro e w' ⟨rfl, ⟨nd, rfl⟩⟩
   refine ⟨_, rfl, ?_⟩
   refine hK.out _ _ ⟨((HB.out.cell (World.block_lt_of_cell? w _ hw144_0)).trans hw144_0), ((HB.out.cell (World.block_lt_of_cell? w _ hw144_1)).trans hw144_1)⟩ (fun hHeld => ?_)
   clear hK K
   refine norm_ (a' := ?_) ?_ ?_
   rotate_left
   ·
    show Act.put _ (some 16) _ = _
    exact sP
   refine pure_ (i := 10) (N := some 17) (v := ?_) (a' := ?_) (spec_l03LineAt.bF 26 2047) rfl rfl (any_of HT_.out (by kernel_rfl)) (fun _ _ _ h => h) (Or.inl ⟨by rfl, ?_⟩) ?_ ?_
   rotate_left
   ·
    intro w'
    go_simp
    with_reducible rfl
   rotate_left
   ·
    exact sP
   refine pure_ (i := 11) (N := some 18) (v := ?_) (a' := ?_) (spec_l03LineAt.bF 26 4095) rfl rfl (any_of HT_.out (by kernel_rfl)) (fun _ _ _ h => h) (Or.inl ⟨by rfl, ?_⟩) ?_ ?_
   rotate_left
   ·
    intro w'
    go_simp
    with_reducible rfl
   rotate_left
   ·
    exact sP
   refine pure_ (i := 12) (N := some 19) (v := ?_) (a' := ?_) (spec_l03LineAt.bF 26 8191) rfl rfl (any_of HT_.out (by kernel_rfl)) (fun _ _ _ h => h) (Or.inl ⟨by rfl, ?_⟩) ?_ ?_
   rotate_left
   ·
    intro w'
    go_simp
    with_reducible rfl
   rotate_left
   ·
    exact sP
   refine pure_ (i := 13) (N := some 20) (v := undef) (a' := ?_) (spec_l03LineAt.bF 26 16383) rfl rfl (any_of HT_.out (by kernel_rfl)) (fun _ _ _ h => h) (Or.inr ⟨by rfl, rfl⟩) ?_ ?_
   rotate_left
   ·
    exact sP
   refine pure_ (i := 14) (N := some 21) (v := undef) (a' := ?_) (spec_l03LineAt.bF 26 32767) rfl rfl (any_of HT_.out (by kernel_rfl)) (fun _ _ _ h => h) (Or.inr ⟨by rfl, rfl⟩) ?_ ?_
   rotate_left
   ·
    exact sP
   refine pure_ (i := 15) (N := some 22) (v := undef) (a' := ?_) (spec_l03LineAt.bF 26 65535) rfl rfl (any_of HT_.out (by kernel_rfl)) (fun _ _ _ h => h) (Or.inr ⟨by rfl, rfl⟩) ?_ ?_
   rotate_left
   ·
    exact sP
   refine pure_ (i := 16) (N := some 23) (v := undef) (a' := ?_) (spec_l03LineAt.bF 26 131071) rfl rfl (any_of HT_.out (by kernel_rfl)) (fun _ _ _ h => h) (Or.inr ⟨by rfl, rfl⟩) ?_ ?_
   rotate_left
   ·
    exact sP
   refine pure_ (i := 17) (N := some 24) (v := undef) (a' := ?_) (spec_l03LineAt.bF 26 262143) rfl rfl (any_of HT_.out (by kernel_rfl)) (fun _ _ _ h => h) (Or.inr ⟨by rfl, rfl⟩) ?_ ?_
   rotate_left
   ·
    exact sP
   refine pure_ (i := 18) (N := some 25) (v := undef) (a' := ?_) (spec_l03LineAt.bF 26 524287) rfl rfl (any_of HT_.out (by kernel_rfl)) (fun _ _ _ h => h) (Or.inr ⟨by rfl, rfl⟩) ?_ ?_
   rotate_left
   ·
    exact sP
   refine pure_ (i := 19) (N := some 26) (v := undef) (a' := ?_) (spec_l03LineAt.bF 26 1048575) rfl rfl (any_of HT_.out (by kernel_rfl)) (fun _ _ _ h => h) (Or.inr ⟨by rfl, rfl⟩) ?_ ?_
   rotate_left
   ·
    exact sP
   refine pure_ (i := 20) (N := some 27) (v := undef) (a' := ?_) (spec_l03LineAt.bF 26 2097151) rfl rfl (any_of HT_.out (by kernel_rfl)) (fun _ _ _ h => h) (Or.inr ⟨by rfl, rfl⟩) ?_ ?_
   rotate_left
   ·
    exact sP
   refine pure_ (i := 21) (N := some 28) (v := undef) (a' := ?_) (spec_l03LineAt.bF 26 4194303) rfl rfl (any_of HT_.out (by kernel_rfl)) (fun _ _ _ h => h) (Or.inr ⟨by rfl, rfl⟩) ?_ ?_
   rotate_left
   ·
    exact sP
   refine pure_ (i := 22) (N := some 29) (v := undef) (a' := ?_) (spec_l03LineAt.bF 26 8388607) rfl rfl (any_of HT_.out (by kernel_rfl)) (fun _ _ _ h => h) (Or.inr ⟨by rfl, rfl⟩) ?_ ?_
   rotate_left
   ·
    exact sP
   refine pure_ (i := 23) (N := some 30) (v := undef) (a' := ?_) (spec_l03LineAt.bF 26 16777215) rfl rfl (any_of HT_.out (by kernel_rfl)) (fun _ _ _ h => h) (Or.inr ⟨by rfl, rfl⟩) ?_ ?_
   rotate_left
   ·
    exact sP
   refine pure_ (i := 24) (N := some 31) (v := undef) (a' := ?_) (spec_l03LineAt.bF 26 33554431) rfl rfl (any_of HT_.out (by kernel_rfl)) (fun _ _ _ h => h) (Or.inr ⟨by rfl, rfl⟩) ?_ ?_
   rotate_left
   ·
    exact sP
   refine pure_ (i := 25) (N := some 32) (v := ?_) (a' := ?_) (spec_l03LineAt.bF 26 67108863) rfl rfl (any_of HT_.out (by kernel_rfl)) (fun _ _ _ h => h) (Or.inl ⟨by rfl, ?_⟩) ?_ ?_
   rotate_left
   ·
    intro w'
    go_simp
    with_reducible rfl
   rotate_left
   ·
    exact sP
   refine done_ (done_of HT_.out (by kernel_rfl)) ?_
   try go_wp2
   go_meet
   case rel => exact ⟨_, (true), (by first | rfl | (simp; done) | (simp [*]; done) | (simp only [i64_w]; done) | (simp [i64_w]; done)), H', ⟨by first | omega | exact Nat.le_refl _⟩, ⟨by repeat (first | (with_reducible first | exact HB.out | apply below_alloc | apply pw_below_drewN | apply below_drew1) | exact HB.out)⟩⟩
  subst c8
  have H1 : (spec_l03LineAt.j0 k l0 l1 ((((rd_T45 l1 0).f1).length : Int) != (wrap64 ((((rd_T45 l1 0).f0).length : Int) - 1)))) = some r := by rw [if_pos rfl] at H; exact H
  clear H
  have H := H1
  clear H1
  have H' := aS H
  clear H
  try go_wp2
  have n0_ := aS (below_drew1 HB.out)
  clear HB
  have HB := n0_
  clear n0_
  have p144 : 0 ≤ (0 : Int) := (by omega)
  have q144 : 0 < (l1.length : Int) := of_decide_eq_true (by first | (with_reducible assumption) | assumption)
  obtain ⟨ad144, A144_0, c144_0, A144_1, c144_1, e144, hx144_0, hx144_1, hl144_0, hi144_0, hl144_1, hi144_1⟩ := at_T45 HR1.out 0 p144 q144
  have hw144_1 := hx144_1
  (try rw [show ((0 : Int)).toNat = 0 from rfl] at hw144_1)
  (try rw [show 0 * 2 = 0 from rfl] at hw144_1)
  (try rw [Addr.add_zero'] at hw144_1)
  have hw144_0 := hx144_0
  (try rw [show ((0 : Int)).toNat = 0 from rfl] at hw144_0)
  (try rw [show 0 * 2 = 0 from rfl] at hw144_0)
  (try rw [Addr.add_zero'] at hw144_0)
  cases e144
  have qi144 : (0 < l1.length) = True := eq_true (by omega)
  (try rw [show ((0 : Int)).toNat = 0 from rfl] at hx144_0)
  (try rw [show 0 * 2 = 0 from rfl] at hx144_0)
  (try rw [Addr.add_zero'] at hx144_0)
  (try rw [show ((0 : Int)).toNat = 0 from rfl] at hx144_1)
  (try rw [show 0 * 2 = 0 from rfl] at hx144_1)
  (try rw [Addr.add_zero'] at hx144_1)
  replace hx144_0 := (HB.out.cell (World.block_lt_of_cell? w _ hx144_0)).trans hx144_0
  replace hx144_1 := (HB.out.cell (World.block_lt_of_cell? w _ hx144_1)).trans hx144_1
  have HR144_0 := aS hi144_0
  have HC144_0 := aS hl144_0
  clear hi144_0 hl144_0
  have HR144_1 := aS hi144_1
  have HC144_1 := aS hl144_1
  clear hi144_1 hl144_1
  replace p144 := eq_true p144
  replace q144 := eq_true q144
  have p146 : 0 ≤ (0 : Int) := (by omega)
  have q146 : 0 < (l1.length : Int) := of_decide_eq_true (by first | (with_reducible assumption) | assumption)
  obtain ⟨ad146, A146_0, c146_0, A146_1, c146_1, e146, hx146_0, hx146_1, hl146_0, hi146_0, hl146_1, hi146_1⟩ := at_T45 HR1.out 0 p146 q146
  have hw146_1 := hx146_1
  (try rw [show ((0 : Int)).toNat = 0 from rfl] at hw146_1)
  (try rw [show 0 * 2 = 0 from rfl] at hw146_1)
  (try rw [Addr.add_zero'] at hw146_1)
  have hw146_0 := hx146_0
  (try rw [show ((0 : Int)).toNat = 0 from rfl] at hw146_0)
  (try rw [show 0 * 2 = 0 from rfl] at hw146_0)
  (try rw [Addr.add_zero'] at hw146_0)
  obtain rfl : ad144 = ad146 := (by injection e146)
  have qi146 : (0 < l1.length) = True := eq_true (by omega)
  (try rw [show ((0 : Int)).toNat = 0 from rfl] at hx146_0)
  (try rw [show 0 * 2 = 0 from rfl] at hx146_0)
  (try rw [Addr.add_zero'] at hx146_0)
  (try rw [show ((0 : Int)).toNat = 0 from rfl] at hx146_1)
  (try rw [show 0 * 2 = 0 from rfl] at hx146_1)
  (try rw [Addr.add_zero'] at hx146_1)
  replace hx146_0 := (HB.out.cell (World.block_lt_of_cell? w _ hx146_0)).trans hx146_0
  replace hx146_1 := (HB.out.cell (World.block_lt_of_cell? w _ hx146_1)).trans hx146_1
  have HR146_0 := aS hi146_0
  have HC146_0 := aS hl146_0
  clear hi146_0 hl146_0
  have HR146_1 := aS hi146_1
  have HC146_1 := aS hl146_1
  clear hi146_1 hl146_1
  replace p146 := eq_true p146
  replace q146 := eq_true q146
  have ea_ := Option.some.inj (hx144_0.symm.trans hx146_0)
  injection ea_ with ea_ en_ ec_
  subst ea_
  subst ec_
  clear en_
  have ea_ := Option.some.inj (hx144_1.symm.trans hx146_1)
  injection ea_ with ea_ en_ ec_
  subst ea_
  subst ec_
  clear en_
  have p147 : 0 ≤ (0 : Int) := (by omega)
  have q147 : 0 < (l1.length : Int) := of_decide_eq_true (by first | (with_reducible assumption) | assumption)
  obtain ⟨ad147, A147_0, c147_0, A147_1, c147_1, e147, hx147_0, hx147_1, hl147_0, hi147_0, hl147_1, hi147_1⟩ := at_T45 HR1.out 0 p147 q147
  have hw147_1 := hx147_1
  (try rw [show ((0 : Int)).toNat = 0 from rfl] at hw147_1)
  (try rw [show 0 * 2 = 0 from rfl] at hw147_1)
  (try rw [Addr.add_zero'] at hw147_1)
  have hw147_0 := hx147_0
  (try rw [show ((0 : Int)).toNat = 0 from rfl] at hw147_0)
  (try rw [show 0 * 2 = 0 from rfl] at hw147_0)
  (try rw [Addr.add_zero'] at hw147_0)
  obtain rfl : ad144 = ad147 := (by injection e147)
  have qi147 : (0 < l1.length) = True := eq_true (by omega)
  (try rw [show ((0 : Int)).toNat = 0 from rfl] at hx147_0)
  (try rw [show 0 * 2 = 0 from rfl] at hx147_0)
  (try rw [Addr.add_zero'] at hx147_0)
  (try rw [show ((0 : Int)).toNat = 0 from rfl] at hx147_1)
  (try rw [show 0 * 2 = 0 from rfl] at hx147_1)
  (try rw [Addr.add_zero'] at hx147_1)
  replace hx147_0 := (HB.out.cell (World.block_lt_of_cell? w _ hx147_0)).trans hx147_0
  replace hx147_1 := (HB.out.cell (World.block_lt_of_cell? w _ hx147_1)).trans hx147_1
  have HR147_0 := aS hi147_0
  have HC147_0 := aS hl147_0
  clear hi147_0 hl147_0
  have HR147_1 := aS hi147_1
  have HC147_1 := aS hl147_1
  clear hi147_1 hl147_1
  replace p147 := eq_true p147
  replace q147 := eq_true q147
  have ea_ := Option.some.inj (hx144_0.symm.trans hx147_0)
  injection ea_ with ea_ en_ ec_
  subst ea_
  subst ec_
  clear en_
  have ea_ := Option.some.inj (hx144_1.symm.trans hx147_1)
  injection ea_ with ea_ en_ ec_
  subst ea_
  subst ec_
  clear en_
  refine start_ (n := 26) (S := fun w' => w'.cell? ad144 = some (.slice A144_0 ((rd_T45 l1 0).f0).length c144_0) ∧ w'.cell? ⟨ad144.block, ad144.off + 1, none⟩ = some (.slice A144_1 ((rd_T45 l1 0).f1).length c144_1) ∧ w'.cell? ad144 = some (.slice A144_0 ((rd_T45 l1 0).f0).length c144_0) ∧ w'.cell? ⟨ad144.block, ad144.off + 1, none⟩ = some (.slice A144_1 ((rd_T45 l1 0).f1).length c144_1) ∧ w'.cell? ad144 = some (.slice A144_0 ((rd_T45 l1 0).f0).length c144_0) ∧ w'.cell? ⟨ad144.block, ad144.off + 1, none⟩ = some (.slice A144_1 ((rd_T45 l1 0).f1).length c144_1)) (ds := []) #[false, false, false, false, false, false, false, false, false, false, false, false, false, false, false, false, false, false, false, false, false, false, false, false, false, false] (by kernel_rfl) rfl rfl ⟨((HB.out.cell (World.block_lt_of_cell? w _ hw144_0)).trans hw144_0), ((HB.out.cell (World.block_lt_of_cell? w _ hw144_1)).trans hw144_1), ((HB.out.cell (World.block_lt_of_cell? w _ hw146_0)).trans hw146_0), ((HB.out.cell (World.block_lt_of_cell? w _ hw146_1)).trans hw146_1), ((HB.out.cell (World.block_lt_of_cell? w _ hw147_0)).trans hw147_0), ((HB.out.cell (World.block_lt_of_cell? w _ hw147_1)).trans hw147_1)⟩ (fun hHeld => ?_); refine with_tabW spec_l03LineAt.tab1 spec_l03LineAt.bits1 (fun HT_ HW_ => ?_)
  generalize w.drew = w9 at HB HR144_0 HR144_1 HR146_0 HR146_1 HR147_0 HR147_1 hx144_0 hx144_1 hx146_0 hx146_1 hx147_0 hx147_1 hHeld ⊢
  refine pure_ (i := 0) (N := some 7) (v := ?_) (a' := ?_) (spec_l03LineAt.bF 26 1) rfl rfl (any_of HT_.out (by kernel_rfl)) (fun _ _ _ h => h) (Or.inl ⟨by rfl, ?_⟩) ?_ ?_
  rotate_left
  ·
   intro w'
   go_simp
   with_reducible rfl
  rotate_left
  ·
   exact sP
  refine one_ (i := 1) (N := some 8) #[true, true, false, false, false, false, false, false, false, false, false, false, false, false, false, false, false, false, false, false, false, false, false, false, false, false] rfl rfl (one_of HT_.out (by kernel_rfl)) (by decide) (fun K hK => ?_)
  refine goes_ Try.func53 (by kernel_rfl) rfl #[.slice A0 l0.length c0] (by rfl) rfl rfl sG ?_
  with_reducible refine (spec_l03Ok.calls k _ _ l0 true _ ?side1 ?side2 A4.out).mono ?_
  (case side1 => exact sC (Kd.C_below HR0.out HB.out))
  (case side2 => exact HC0.out)
  rintro e w10 ⟨rfl, hb⟩
  refine ⟨_, rfl, ?_⟩
  have n0_ := aS (below_step (sW HB.out) hb)
  clear HB
  have HB := n0_
  clear n0_
  (try clear hb); (try clear hb2); (try clear hk); (try clear hi)
  refine hK.out _ _ ⟨((HB.out.cell (World.block_lt_of_cell? w _ hw144_0)).trans hw144_0), ((HB.out.cell (World.block_lt_of_cell? w _ hw144_1)).trans hw144_1), ((HB.out.cell (World.block_lt_of_cell? w _ hw146_0)).trans hw146_0), ((HB.out.cell (World.block_lt_of_cell? w _ hw146_1)).trans hw146_1), ((HB.out.cell (World.block_lt_of_cell? w _ hw147_0)).trans hw147_0), ((HB.out.cell (World.block_lt_of_cell? w _ hw147_1)).trans hw147_1)⟩ (fun hHeld => ?_)
  clear hK K
  refine norm_ (a' := ?_) ?_ ?_
  rotate_left
  ·
   show Act.put _ (some 8) _ = _
   exact sP
  refine pure_ (i := 2) (N := some 9) (v := ?_) (a' := ?_) (spec_l03LineAt.bF 26 7) rfl rfl (any_of HT_.out (by kernel_rfl)) (fun _ _ _ h => h) (Or.inl ⟨by rfl, ?_⟩) ?_ ?_
  rotate_left
  ·
   intro w'
   go_simp
   with_reducible rfl
  rotate_left
  ·
   exact sP
  refine pure_ (i := 3) (N := some 10) (v := ?_) (a' := ?_) (spec_l03LineAt.bF 26 15) rfl rfl (any_of HT_.out (by kernel_rfl)) (fun _ _ _ h => h) (Or.inl ⟨by rfl, ?_⟩) ?_ ?_
  rotate_left
  ·
   intro w'
   go_simp
   with_reducible rfl
  rotate_left
  ·
   exact sP
  refine pure_ (i := 4) (N := some 11) (v := ?_) (a' := ?_) (spec_l03LineAt.bF 26 31) rfl rfl (any_of HT_.out (by kernel_rfl)) (fun _ _ _ h => h) (Or.inl ⟨by rfl, ?_⟩) ?_ ?_
  rotate_left
  ·
   intro w'
   go_simp
   with_reducible rfl
  rotate_left
  ·
   exact sP
  refine pure_ (i := 5) (N := some 12) (v := ?_) (a' := ?_) (spec_l03LineAt.bF 26 63) rfl rfl (any_of HT_.out (by kernel_rfl)) (fun _ _ _ h => h) (Or.inl ⟨by rfl, ?_⟩) ?_ ?_
  rotate_left
  ·
   intro w'
   go_simp
   with_reducible rfl
  rotate_left
  ·
   exact sP
  refine pure_ (i := 6) (N := some 13) (v := ?_) (a' := ?_) (spec_l03LineAt.bF 26 127) rfl rfl (any_of HT_.out (by kernel_rfl)) (fun _ _ _ h => h) (Or.inl ⟨by rfl, ?_⟩) ?_ ?_
  rotate_left
  ·
   intro w'
   go_simp
   with_reducible rfl
  rotate_left
  ·
   exact sP
  refine take_ (i := 7) (N := some 14) (v := ?_) (a' := ?_) (spec_l03LineAt.bF 26 255) rfl rfl (take_ofW HT_.out HW_.out (by kernel_rfl)) (fun _ _ _ h => h) (Or.inl ⟨by rfl, ?_⟩) hHeld ?_ ?_
  rotate_left
  ·
   rintro w' ⟨s0, s1, s2, s3, s4, s5⟩
   go_simp
   with_reducible rfl
  rotate_left
  ·
   exact sP
  refine pure_ (i := 8) (N := some 15) (v := ?_) (a' := ?_) (spec_l03LineAt.bF 26 511) rfl rfl (any_of HT_.out (by kernel_rfl)) (fun _ _ _ h => h) (Or.inl ⟨by rfl, ?_⟩) ?_ ?_
  rotate_left
  ·
   intro w'
   go_simp
   with_reducible rfl
  rotate_left
  ·
   exact sP
  refine one_ (i := 9) (N := some 16) #[true, true, true, true, true, true, true, true, true, true, false, false, false, false, false, false, false, false, false, false, false, false, false, false, false, false] rfl rfl (one_of HT_.out (by kernel_rfl)) (by decide) (fun K hK => ?_)
  refine goes_ Try.func36 (by kernel_rfl) rfl #[.int .i64 (((rd_T45 l1 0).f0).length : Int), .int .i64 1, .int .i64 12] (by rfl) rfl rfl sG ?_
  with_reducible refine (spec_l00In.calls (((rd_T45 l1 0).f0).length : Int) 1 12 true _ A7.out).mono ?_
  rintro e w' ⟨rfl, ⟨nd, rfl⟩⟩
  refine ⟨_, rfl, ?_⟩
  refine hK.out _ _ ⟨((HB.out.cell (World.block_lt_of_cell? w _ hw144_0)).trans hw144_0), ((HB.out.cell (World.block_lt_of_cell? w _ hw144_1)).trans hw144_1), ((HB.out.cell (World.block_lt_of_cell? w _ hw146_0)).trans hw146_0), ((HB.out.cell (World.block_lt_of_cell? w _ hw146_1)).trans hw146_1), ((HB.out.cell (World.block_lt_of_cell? w _ hw147_0)).trans hw147_0), ((HB.out.cell (World.block_lt_of_cell? w _ hw147_1)).trans hw147_1)⟩ (fun hHeld => ?_)
  clear hK K
  refine norm_ (a' := ?_) ?_ ?_
  rotate_left
  ·
   show Act.put _ (some 16) _ = _
   exact sP
  refine pure_ (i := 10) (N := some 17) (v := ?_) (a' := ?_) (spec_l03LineAt.bF 26 2047) rfl rfl (any_of HT_.out (by kernel_rfl)) (fun _ _ _ h => h) (Or.inl ⟨by rfl, ?_⟩) ?_ ?_
  rotate_left
  ·
   intro w'
   go_simp
   with_reducible rfl
  rotate_left
  ·
   exact sP
  refine pure_ (i := 11) (N := some 18) (v := ?_) (a' := ?_) (spec_l03LineAt.bF 26 4095) rfl rfl (any_of HT_.out (by kernel_rfl)) (fun _ _ _ h => h) (Or.inl ⟨by rfl, ?_⟩) ?_ ?_
  rotate_left
  ·
   intro w'
   go_simp
   with_reducible rfl
  rotate_left
  ·
   exact sP
  refine pure_ (i := 12) (N := some 19) (v := ?_) (a' := ?_) (spec_l03LineAt.bF 26 8191) rfl rfl (any_of HT_.out (by kernel_rfl)) (fun _ _ _ h => h) (Or.inl ⟨by rfl, ?_⟩) ?_ ?_
  rotate_left
  ·
   intro w'
   go_simp
   with_reducible rfl
  rotate_left
  ·
   exact sP
  refine pure_ (i := 13) (N := some 20) (v := ?_) (a' := ?_) (spec_l03LineAt.bF 26 16383) rfl rfl (any_of HT_.out (by kernel_rfl)) (fun _ _ _ h => h) (Or.inl ⟨by rfl, ?_⟩) ?_ ?_
  rotate_left
  ·
   intro w'
   go_simp
   with_reducible rfl
  rotate_left
  ·
   exact sP
  refine pure_ (i := 14) (N := some 21) (v := ?_) (a' := ?_) (spec_l03LineAt.bF 26 32767) rfl rfl (any_of HT_.out (by kernel_rfl)) (fun _ _ _ h => h) (Or.inl ⟨by rfl, ?_⟩) ?_ ?_
  rotate_left
  ·
   intro w'
   go_simp
   with_reducible rfl
  rotate_left
  ·
   exact sP
  refine pure_ (i := 15) (N := some 22) (v := ?_) (a' := ?_) (spec_l03LineAt.bF 26 65535) rfl rfl (any_of HT_.out (by kernel_rfl)) (fun _ _ _ h => h) (Or.inl ⟨by rfl, ?_⟩) ?_ ?_
  rotate_left
  ·
   intro w'
   go_simp
   with_reducible rfl
  rotate_left
  ·
   exact sP
  refine pure_ (i := 18) (N := some 25) (v := ?_) (a' := ?_) (spec_l03LineAt.bF 26 327679) rfl rfl (any_of HT_.out (by kernel_rfl)) (fun _ _ _ h => h) (Or.inl ⟨by rfl, ?_⟩) ?_ ?_
  rotate_left
  ·
   intro w'
   go_simp
   with_reducible rfl
  rotate_left
  ·
   exact sP
  refine pure_ (i := 19) (N := some 26) (v := ?_) (a' := ?_) (spec_l03LineAt.bF 26 851967) rfl rfl (any_of HT_.out (by kernel_rfl)) (fun _ _ _ h => h) (Or.inl ⟨by rfl, ?_⟩) ?_ ?_
  rotate_left
  ·
   intro w'
   go_simp
   with_reducible rfl
  rotate_left
  ·
   exact sP
  refine pure_ (i := 20) (N := some 27) (v := ?_) (a' := ?_) (spec_l03LineAt.bF 26 1900543) rfl rfl (any_of HT_.out (by kernel_rfl)) (fun _ _ _ h => h) (Or.inl ⟨by rfl, ?_⟩) ?_ ?_
  rotate_left
  ·
   intro w'
   go_simp
   with_reducible rfl
  rotate_left
  ·
   exact sP
  refine take_ (i := 16) (N := some 23) (v := ?_) (a' := ?_) (spec_l03LineAt.bF 26 1966079) rfl rfl (take_ofW HT_.out HW_.out (by kernel_rfl)) (fun _ _ _ h => h) (Or.inl ⟨by rfl, ?_⟩) hHeld ?_ ?_
  rotate_left
  ·
   rintro w' ⟨s0, s1, s2, s3, s4, s5⟩
   go_simp
   with_reducible rfl
  rotate_left
  ·
   exact sP
  refine pure_ (i := 17) (N := some 24) (v := ?_) (a' := ?_) (spec_l03LineAt.bF 26 2097151) rfl rfl (any_of HT_.out (by kernel_rfl)) (fun _ _ _ h => h) (Or.inl ⟨by rfl, ?_⟩) ?_ ?_
  rotate_left
  ·
   intro w'
   go_simp
   with_reducible rfl
  rotate_left
  ·
   exact sP
  refine take_ (i := 21) (N := some 28) (v := ?_) (a' := ?_) (spec_l03LineAt.bF 26 4194303) rfl rfl (take_ofW HT_.out HW_.out (by kernel_rfl)) (fun _ _ _ h => h) (Or.inl ⟨by rfl, ?_⟩) hHeld ?_ ?_
  rotate_left
  ·
   rintro w' ⟨s0, s1, s2, s3, s4, s5⟩
   go_simp
   with_reducible rfl
  rotate_left
  ·
   exact sP
  refine pure_ (i := 22) (N := some 29) (v := ?_) (a' := ?_) (spec_l03LineAt.bF 26 8388607) rfl rfl (any_of HT_.out (by kernel_rfl)) (fun _ _ _ h => h) (Or.inl ⟨by rfl, ?_⟩) ?_ ?_
  rotate_left
  ·
   intro w'
   go_simp
   with_reducible rfl
  rotate_left
  ·
   exact sP
  refine pure_ (i := 23) (N := some 30) (v := ?_) (a' := ?_) (spec_l03LineAt.bF 26 16777215) rfl rfl (any_of HT_.out (by kernel_rfl)) (fun _ _ _ h => h) (Or.inl ⟨by rfl, ?_⟩) ?_ ?_
  rotate_left
  ·
   intro w'
   go_simp
   with_reducible rfl
  rotate_left
  ·
   exact sP
  refine pure_ (i := 24) (N := some 31) (v := ?_) (a' := ?_) (spec_l03LineAt.bF 26 33554431) rfl rfl (any_of HT_.out (by kernel_rfl)) (fun _ _ _ h => h) (Or.inl ⟨by rfl, ?_⟩) ?_ ?_
  rotate_left
  ·
   intro w'
   go_simp
   with_reducible rfl
  rotate_left
  ·
   exact sP
  refine pure_ (i := 25) (N := some 32) (v := ?_) (a' := ?_) (spec_l03LineAt.bF 26 67108863) rfl rfl (any_of HT_.out (by kernel_rfl)) (fun _ _ _ h => h) (Or.inl ⟨by rfl, ?_⟩) ?_ ?_
  rotate_left
  ·
   intro w'
   go_simp
   with_reducible rfl
  rotate_left
  ·
   exact sP
  refine done_ (done_of HT_.out (by kernel_rfl)) ?_
  try go_wp2
  go_meet
  case rel => exact ⟨_, (((((rd_T45 l1 0).f1).length : Int) != (wrap64 ((((rd_T45 l1 0).f0).length : Int) - 1)))), (by first | rfl | (simp; done) | (simp [*]; done) | (simp only [i64_w]; done) | (simp [i64_w]; done)), H', ⟨by first | omega | exact Nat.le_refl _⟩, ⟨by repeat (first | (with_reducible first | exact HB.out | apply below_alloc | apply pw_below_drewN | apply below_drew1) | exact HB.out)⟩⟩
 case rest =>
  clear HC3
  (try clear c1); (try clear p1); (try clear q1); (try clear hx1); (try clear qi1); (try clear p2); (try clear c3); (try clear c5); (try clear c6); (try clear p6); (try clear c8); (try clear c14); (try clear p14); (try clear q14); (try clear hx14); (try clear qi14); (try clear hx144_0); (try clear hx144_1); (try clear p144); (try clear q144)
  obtain ⟨kq, x32_2, rfl, HA, HJ2, HB⟩ := hcut
  cases kq with
  | zero => exact absurd HA.out (by simp [spec_l03LineAt.j0])
  | succ kj2 =>
   have H := HA.out
   clear HA
   simp only [spec_l03LineAt.j0] at H
   by_cases c15 : x32_2 = true
   ·
    subst c15
    have H1 : (some false) = some r := by rw [if_pos rfl] at H; exact H
    clear H
    have H := H1
    clear H1
    obtain rfl := Option.some.inj H
    go_wp2
    go_ret
    exact ⟨by first | rfl | (simp [errW_none, errW_some, i64_w]; done) | (simp [errW_none, errW_some] <;> rfl) | (simp [*, errW_none, errW_some] <;> rfl), by repeat (first | (with_reducible first | exact HB.out | apply below_alloc | apply pw_below_drewN | apply below_drew1) | exact HB.out)⟩
   ·
    replace c15 := Bool.eq_false_iff.mpr c15
    subst c15
    have H1 : (spec_l03LineAt.l0 kj2 l0 l1 0) = some r := by rw [if_neg (show ¬ (false = true) by decide)] at H; exact H
    clear H
    have H := H1
    clear H1
    have H' := aS H
    clear H
    go_wp2
    go_loopg [5] kj2 (fun kq v5 w' => ∃ (x5_2 : Int), v5 = .int .i64 x5_2 ∧ Aside0 (spec_l03LineAt.l0 kq l0 l1 x5_2 = some r) ∧ Aside0 (kq ≤ kj2) ∧ Aside0 (Below w.heap.size w w'))
    case atStart => exact ⟨(0), (by first | rfl | (simp; done) | (simp [*]; done) | (simp only [i64_w]; done) | (simp [i64_w]; done)), H', ⟨Nat.le_refl _⟩, ⟨by repeat (first | (with_reducible first | exact HB.out | apply below_alloc | apply pw_below_drewN | apply below_drew1) | exact HB.out)⟩⟩
    case round =>
     clear H'
     (try clear c1); (try clear p1); (try clear q1); (try clear hx1); (try clear qi1); (try clear p2); (try clear c3); (try clear c5); (try clear c6); (try clear p6); (try clear c8); (try clear c14); (try clear p14); (try clear q14); (try clear hx14); (try clear qi14); (try clear c15); (try clear hx144_0); (try clear hx144_1); (try clear p1); (try clear p14); (try clear p144); (try clear p2); (try clear p6); (try clear q1); (try clear q14); (try clear q144)
     obtain ⟨x5_2, rfl, HA, HK2, HB⟩ := hrel
     cases gk with
     | zero => exact absurd HA.out (by simp [spec_l03LineAt.l0])
     | succ k2 =>
      have H := HA.out
      clear HA
      simp only [spec_l03LineAt.l0] at H
      by_cases c16 : 0 < (l1.length : Int)
      ·
       rw [if_pos c16] at H
       have c16b0 : decide (0 < (l1.length : Int)) = true := decide_eq_true c16
       have c16b1 : decide (0 < l1.length) = true := decide_eq_true (by omega)
       clear c16
       by_cases c17 : x5_2 < (((rd_T45 l1 0).f0).length : Int)
       ·
        rw [if_pos c17] at H
        have c17b0 : decide (x5_2 < (((rd_T45 l1 0).f0).length : Int)) = true := decide_eq_true c17
        clear c17
        by_cases c18 : 0 ≤ x5_2
        rotate_left
        ·
         rw [if_neg c18] at H
         exact absurd H (by simp)
        rw [if_pos c18] at H
        have c18b0 : decide (0 ≤ x5_2) = true := decide_eq_true c18
        clear c18
        replace H := Option.bind_eq_some_iff.mp H
        obtain ⟨t151, A190, H⟩ := H
        replace H : (if t151 = true then (spec_l03LineAt.l0 k2 l0 l1 (wrap64 (x5_2 + 1))) else (some false)) = some r := H
        have A19 := aS A190
        clear A190
        by_cases c20 : t151 = true
        rotate_left
        ·
         replace c20 := Bool.eq_false_iff.mpr c20
         subst c20
         have H1 : (some false) = some r := by rw [if_neg (show ¬ (false = true) by decide)] at H; exact H
         clear H
         have H := H1
         clear H1
         obtain rfl := Option.some.inj H
         have p148 : 0 ≤ (0 : Int) := (by omega)
         have q148 : 0 < (l1.length : Int) := of_decide_eq_true (by first | (with_reducible assumption) | assumption)
         obtain ⟨ad148, A148_0, c148_0, A148_1, c148_1, e148, hx148_0, hx148_1, hl148_0, hi148_0, hl148_1, hi148_1⟩ := at_T45 HR1.out 0 p148 q148
         cases e148
         have qi148 : (0 < l1.length) = True := eq_true (by omega)
         (try rw [show ((0 : Int)).toNat = 0 from rfl] at hx148_0)
         (try rw [show 0 * 2 = 0 from rfl] at hx148_0)
         (try rw [Addr.add_zero'] at hx148_0)
         (try rw [show ((0 : Int)).toNat = 0 from rfl] at hx148_1)
         (try rw [show 0 * 2 = 0 from rfl] at hx148_1)
         (try rw [Addr.add_zero'] at hx148_1)
         replace hx148_0 := (HB.out.cell (World.block_lt_of_cell? w _ hx148_0)).trans hx148_0
         replace hx148_1 := (HB.out.cell (World.block_lt_of_cell? w _ hx148_1)).trans hx148_1
         have HR148_0 := aS hi148_0
         have HC148_0 := aS hl148_0
         clear hi148_0 hl148_0
         have HR148_1 := aS hi148_1
         have HC148_1 := aS hl148_1
         clear hi148_1 hl148_1
         replace p148 := eq_true p148
         replace q148 := eq_true q148
         have p149 : 0 ≤ (0 : Int) := (by omega)
         have q149 : 0 < (l1.length : Int) := of_decide_eq_true (by first | (with_reducible assumption) | assumption)
         obtain ⟨ad149, A149_0, c149_0, A149_1, c149_1, e149, hx149_0, hx149_1, hl149_0, hi149_0, hl149_1, hi149_1⟩ := at_T45 HR1.out 0 p149 q149
         obtain rfl : ad148 = ad149 := (by injection e149)
         have qi149 : (0 < l1.length) = True := eq_true (by omega)
         (try rw [show ((0 : Int)).toNat = 0 from rfl] at hx149_0)
         (try rw [show 0 * 2 = 0 from rfl] at hx149_0)
         (try rw [Addr.add_zero'] at hx149_0)
         (try rw [show ((0 : Int)).toNat = 0 from rfl] at hx149_1)
         (try rw [show 0 * 2 = 0 from rfl] at hx149_1)
         (try rw [Addr.add_zero'] at hx149_1)
         replace hx149_0 := (HB.out.cell (World.block_lt_of_cell? w _ hx149_0)).trans hx149_0
         replace hx149_1 := (HB.out.cell (World.block_lt_of_cell? w _ hx149_1)).trans hx149_1
         have HR149_0 := aS hi149_0
         have HC149_0 := aS hl149_0
         clear hi149_0 hl149_0
         have HR149_1 := aS hi149_1
         have HC149_1 := aS hl149_1
         clear hi149_1 hl149_1
         replace p149 := eq_true p149
         replace q149 := eq_true q149
         have ea_ := Option.some.inj (hx148_0.symm.trans hx149_0)
         injection ea_ with ea_ en_ ec_
         subst ea_
         subst ec_
         clear en_
         have ea_ := Option.some.inj (hx148_1.symm.trans hx149_1)
         injection ea_ with ea_ en_ ec_
         subst ea_
         subst ec_
         clear en_
         have p150 : 0 ≤ (x5_2 : Int) := of_decide_eq_true (by first | (with_reducible assumption) | assumption)
         have q150 : x5_2 < (((rd_T45 l1 0).f0).length : Int) := of_decide_eq_true (by first | (with_reducible assumption) | assumption)
         obtain ⟨ad150, e150, hx150_0, hx150_1⟩ := at_T91 HR149_0.out x5_2 p150 q150
         cases e150
         replace hx150_0 := (HB.out.cell (World.block_lt_of_cell? w _ hx150_0)).trans hx150_0
         replace hx150_1 := (HB.out.cell (World.block_lt_of_cell? w _ hx150_1)).trans hx150_1
         replace p150 := eq_true p150
         replace q150 := eq_true q150
         go_wp2_with (first | ((with_reducible refine gate_callee (f := 54) rfl ?_); refine goesL_ (some 49) rfl rfl Try.func54 (by kernel_rfl) rfl #[.agg #[.int .i64 ((rd_T91 ((rd_T45 l1 0).f0) x5_2).f0), .int .i64 ((rd_T91 ((rd_T45 l1 0).f0) x5_2).f1)]] rfl sG ?_; (with_reducible refine (spec_l03Piece.calls ((rd_T91 ((rd_T45 l1 0).f0) x5_2).f0) ((rd_T91 ((rd_T45 l1 0).f0) x5_2).f1) false _ A19.out).mono ?_); rintro e w22 ⟨rfl, hb⟩; refine ⟨_, rfl, ?_⟩; have n0_ := aS (below_step (sW HB.out) hb); clear HB; have HB := n0_; clear n0_; (try clear hb); (try clear hb2); (try clear hk); (try clear hi)))
         go_ret
         exact ⟨by first | rfl | (simp [errW_none, errW_some, i64_w]; done) | (simp [errW_none, errW_some] <;> rfl) | (simp [*, errW_none, errW_some] <;> rfl), by repeat (first | (with_reducible first | exact HB.out | apply below_alloc | apply pw_below_drewN | apply below_drew1) | exact HB.out)⟩
        subst c20
        have H1 : (spec_l03LineAt.l0 k2 l0 l1 (wrap64 (x5_2 + 1))) = some r := by rw [if_pos rfl] at H; exact H
        clear H
        have H := H1
        clear H1
        have H' := aS H
        clear H
        have p148 : 0 ≤ (0 : Int) := (by omega)
        have q148 : 0 < (l1.length : Int) := of_decide_eq_true (by first | (with_reducible assumption) | assumption)
        obtain ⟨ad148, A148_0, c148_0, A148_1, c148_1, e148, hx148_0, hx148_1, hl148_0, hi148_0, hl148_1, hi148_1⟩ := at_T45 HR1.out 0 p148 q148
        cases e148
        have qi148 : (0 < l1.length) = True := eq_true (by omega)
        (try rw [show ((0 : Int)).toNat = 0 from rfl] at hx148_0)
        (try rw [show 0 * 2 = 0 from rfl] at hx148_0)
        (try rw [Addr.add_zero'] at hx148_0)
        (try rw [show ((0 : Int)).toNat = 0 from rfl] at hx148_1)
        (try rw [show 0 * 2 = 0 from rfl] at hx148_1)
        (try rw [Addr.add_zero'] at hx148_1)
        replace hx148_0 := (HB.out.cell (World.block_lt_of_cell? w _ hx148_0)).trans hx148_0
        replace hx148_1 := (HB.out.cell (World.block_lt_of_cell? w _ hx148_1)).trans hx148_1
        have HR148_0 := aS hi148_0
        have HC148_0 := aS hl148_0
        clear hi148_0 hl148_0
        have HR148_1 := aS hi148_1
        have HC148_1 := aS hl148_1
        clear hi148_1 hl148_1
        replace p148 := eq_true p148
        replace q148 := eq_true q148
        have p149 : 0 ≤ (0 : Int) := (by omega)
        have q149 : 0 < (l1.length : Int) := of_decide_eq_true (by first | (with_reducible assumption) | assumption)
        obtain ⟨ad149, A149_0, c149_0, A149_1, c149_1, e149, hx149_0, hx149_1, hl149_0, hi149_0, hl149_1, hi149_1⟩ := at_T45 HR1.out 0 p149 q149
        obtain rfl : ad148 = ad149 := (by injection e149)
        have qi149 : (0 < l1.length) = True := eq_true (by omega)
        (try rw [show ((0 : Int)).toNat = 0 from rfl] at hx149_0)
        (try rw [show 0 * 2 = 0 from rfl] at hx149_0)
        (try rw [Addr.add_zero'] at hx149_0)
        (try rw [show ((0 : Int)).toNat = 0 from rfl] at hx149_1)
        (try rw [show 0 * 2 = 0 from rfl] at hx149_1)
        (try rw [Addr.add_zero'] at hx149_1)
        replace hx149_0 := (HB.out.cell (World.block_lt_of_cell? w _ hx149_0)).trans hx149_0
        replace hx149_1 := (HB.out.cell (World.block_lt_of_cell? w _ hx149_1)).trans hx149_1
        have HR149_0 := aS hi149_0
        have HC149_0 := aS hl149_0
        clear hi149_0 hl149_0
        have HR149_1 := aS hi149_1
        have HC149_1 := aS hl149_1
        clear hi149_1 hl149_1
        replace p149 := eq_true p149
        replace q149 := eq_true q149
        have ea_ := Option.some.inj (hx148_0.symm.trans hx149_0)
        injection ea_ with ea_ en_ ec_
        subst ea_
        subst ec_
        clear en_
        have ea_ := Option.some.inj (hx148_1.symm.trans hx149_1)
        injection ea_ with ea_ en_ ec_
        subst ea_
        subst ec_
        clear en_
        have p150 : 0 ≤ (x5_2 : Int) := of_decide_eq_true (by first | (with_reducible assumption) | assumption)
        have q150 : x5_2 < (((rd_T45 l1 0).f0).length : Int) := of_decide_eq_true (by first | (with_reducible assumption) | assumption)
        obtain ⟨ad150, e150, hx150_0, hx150_1⟩ := at_T91 HR149_0.out x5_2 p150 q150
        cases e150
        replace hx150_0 := (HB.out.cell (World.block_lt_of_cell? w _ hx150_0)).trans hx150_0
        replace hx150_1 := (HB.out.cell (World.block_lt_of_cell? w _ hx150_1)).trans hx150_1
        replace p150 := eq_true p150
        replace q150 := eq_true q150
        go_wp2_with (first | ((with_reducible refine gate_callee (f := 54) rfl ?_); refine goesL_ (some 49) rfl rfl Try.func54 (by kernel_rfl) rfl #[.agg #[.int .i64 ((rd_T91 ((rd_T45 l1 0).f0) x5_2).f0), .int .i64 ((rd_T91 ((rd_T45 l1 0).f0) x5_2).f1)]] rfl sG ?_; (with_reducible refine (spec_l03Piece.calls ((rd_T91 ((rd_T45 l1 0).f0) x5_2).f0) ((rd_T91 ((rd_T45 l1 0).f0) x5_2).f1) true _ A19.out).mono ?_); rintro e w21 ⟨rfl, hb⟩; refine ⟨_, rfl, ?_⟩; have n0_ := aS (below_step (sW HB.out) hb); clear HB; have HB := n0_; clear n0_; (try clear hb); (try clear hb2); (try clear hk); (try clear hi)))
        go_roundg k2
        case measure => have := HJ2.out; have := HK2.out; omega
        case rel => exact ⟨(wrap64 (x5_2 + 1)), (by first | rfl | (simp; done) | (simp [*]; done) | (simp only [i64_w]; done) | (simp [i64_w]; done)), H', ⟨by have := HJ2.out; have := HK2.out; omega⟩, ⟨by repeat (first | (with_reducible first | exact HB.out | apply below_alloc | apply pw_below_drewN | apply below_drew1) | exact HB.out)⟩⟩
       rw [if_neg c17] at H
       have c17b0 : decide (x5_2 < (((rd_T45 l1 0).f0).length : Int)) = false := decide_eq_false c17
       clear c17
       have H' := aS H
       clear H
       have p148 : 0 ≤ (0 : Int) := (by omega)
       have q148 : 0 < (l1.length : Int) := of_decide_eq_true (by first | (with_reducible assumption) | assumption)
       obtain ⟨ad148, A148_0, c148_0, A148_1, c148_1, e148, hx148_0, hx148_1, hl148_0, hi148_0, hl148_1, hi148_1⟩ := at_T45 HR1.out 0 p148 q148
       cases e148
       have qi148 : (0 < l1.length) = True := eq_true (by omega)
       (try rw [show ((0 : Int)).toNat = 0 from rfl] at hx148_0)
       (try rw [show 0 * 2 = 0 from rfl] at hx148_0)
       (try rw [Addr.add_zero'] at hx148_0)
       (try rw [show ((0 : Int)).toNat = 0 from rfl] at hx148_1)
       (try rw [show 0 * 2 = 0 from rfl] at hx148_1)
       (try rw [Addr.add_zero'] at hx148_1)
       replace hx148_0 := (HB.out.cell (World.block_lt_of_cell? w _ hx148_0)).trans hx148_0
       replace hx148_1 := (HB.out.cell (World.block_lt_of_cell? w _ hx148_1)).trans hx148_1
       have HR148_0 := aS hi148_0
       have HC148_0 := aS hl148_0
       clear hi148_0 hl148_0
       have HR148_1 := aS hi148_1
       have HC148_1 := aS hl148_1
       clear hi148_1 hl148_1
       replace p148 := eq_true p148
       replace q148 := eq_true q148
       go_wp2
       go_loopg [6] k2 (fun kq v6 w' => ∃ (x6_3 : Int), v6 = .int .i64 x6_3 ∧ Aside0 (spec_l03LineAt.l1 kq l0 l1 x6_3 = some r) ∧ Aside0 (kq ≤ k2) ∧ Aside0 (Below w.heap.size w w'))
       case atStart => exact ⟨(0), (by first | rfl | (simp; done) | (simp [*]; done) | (simp only [i64_w]; done) | (simp [i64_w]; done)), H', ⟨Nat.le_refl _⟩, ⟨by repeat (first | (with_reducible first | exact HB.out | apply below_alloc | apply pw_below_drewN | apply below_drew1) | exact HB.out)⟩⟩
       case round =>
        clear H'
        (try clear c1); (try clear p1); (try clear q1); (try clear hx1); (try clear qi1); (try clear c2); (try clear p2); (try clear c3); (try clear c5); (try clear c6); (try clear p6); (try clear c8); (try clear c14); (try clear p14); (try clear q14); (try clear hx14); (try clear qi14); (try clear c15); (try clear p15); (try clear q15); (try clear hx15); (try clear c16); (try clear c16b0); (try clear c16b1); (try clear c17); (try clear c17b0); (try clear c18); (try clear c18b0); (try clear c20); (try clear hx144_0); (try clear hx144_1); (try clear hx148_0); (try clear hx148_1); (try clear hx149_0); (try clear hx149_1); (try clear hx150_0); (try clear hx150_1); (try clear p1); (try clear p14); (try clear p144); (try clear p148); (try clear p149); (try clear p150); (try clear p2); (try clear p6); (try clear q1); (try clear q14); (try clear q144); (try clear q148); (try clear q149); (try clear q150)
        obtain ⟨x6_3, rfl, HA, HK3, HB⟩ := hrel
        cases gk with
        | zero => exact absurd HA.out (by simp [spec_l03LineAt.l1])
        | succ k3 =>
         have H := HA.out
         clear HA
         simp only [spec_l03LineAt.l1] at H
         by_cases c23 : 0 < (l1.length : Int)
         rotate_left
         ·
          rw [if_neg c23] at H
          exact absurd H (by simp)
         rw [if_pos c23] at H
         have c23b0 : decide (0 < (l1.length : Int)) = true := decide_eq_true c23
         have c23b1 : decide (0 < l1.length) = true := decide_eq_true (by omega)
         clear c23
         by_cases c24 : x6_3 < (((rd_T45 l1 0).f1).length : Int)
         rotate_left
         ·
          rw [if_neg c24] at H
          have c24b0 : decide (x6_3 < (((rd_T45 l1 0).f1).length : Int)) = false := decide_eq_false c24
          clear c24
          replace H := Option.bind_eq_some_iff.mp H
          obtain ⟨t156, A280, H⟩ := H
          replace H : (some (decide (t156 ≥ 1))) = some r := H
          have A28 := aS A280
          clear A280
          obtain rfl := Option.some.inj H
          have p152 : 0 ≤ (0 : Int) := (by omega)
          have q152 : 0 < (l1.length : Int) := of_decide_eq_true (by first | (with_reducible assumption) | assumption)
          obtain ⟨ad152, A152_0, c152_0, A152_1, c152_1, e152, hx152_0, hx152_1, hl152_0, hi152_0, hl152_1, hi152_1⟩ := at_T45 HR1.out 0 p152 q152
          obtain rfl : ad148 = ad152 := (by injection e152)
          have qi152 : (0 < l1.length) = True := eq_true (by omega)
          (try rw [show ((0 : Int)).toNat = 0 from rfl] at hx152_0)
          (try rw [show 0 * 2 = 0 from rfl] at hx152_0)
          (try rw [Addr.add_zero'] at hx152_0)
          (try rw [show ((0 : Int)).toNat = 0 from rfl] at hx152_1)
          (try rw [show 0 * 2 = 0 from rfl] at hx152_1)
          (try rw [Addr.add_zero'] at hx152_1)
          replace hx152_0 := (HB.out.cell (World.block_lt_of_cell? w _ hx152_0)).trans hx152_0
          replace hx152_1 := (HB.out.cell (World.block_lt_of_cell? w _ hx152_1)).trans hx152_1
          have HR152_0 := aS hi152_0
          have HC152_0 := aS hl152_0
          clear hi152_0 hl152_0
          have HR152_1 := aS hi152_1
          have HC152_1 := aS hl152_1
          clear hi152_1 hl152_1
          replace p152 := eq_true p152
          replace q152 := eq_true q152
          go_wp2_with (first | ((with_reducible refine gate_callee (f := 55) rfl ?_); refine goesL_ (some 74) rfl rfl Try.func55 (by kernel_rfl) rfl #[.slice A0 l0.length c0, .pointer (some ad148)] rfl sG ?_; (with_reducible refine (spec_l03LengthAt.calls k3 _ _ l0 _ l1.length l1 t156 _ ?side1 ?side2 ?side3 ?side4 A28.out).mono ?_); (case side1 => exact sC (Kd.C_below HR0.out HB.out)); (case side2 => exact HC0.out); (case side3 => exact sC (Kd.C_below HR1.out HB.out)); (case side4 => exact Nat.le_refl _); rintro e w' ⟨rfl, ⟨nd, rfl⟩⟩; refine ⟨_, rfl, ?_⟩))
          go_ret
          exact ⟨by first | rfl | (simp [errW_none, errW_some, i64_w]; done) | (simp [errW_none, errW_some] <;> rfl) | (simp [*, errW_none, errW_some] <;> rfl), by repeat (first | (with_reducible first | exact HB.out | apply below_alloc | apply pw_below_drewN | apply below_drew1) | exact HB.out)⟩
         rw [if_pos c24] at H
         have c24b0 : decide (x6_3 < (((rd_T45 l1 0).f1).length : Int)) = true := decide_eq_true c24
         clear c24
         by_cases c25 : 0 ≤ x6_3
         rotate_left
         ·
          rw [if_neg c25] at H
          exact absurd H (by simp)
         rw [if_pos c25] at H
         have c25b0 : decide (0 ≤ x6_3) = true := decide_eq_true c25
         clear c25
         replace H := Option.bind_eq_some_iff.mp H
         obtain ⟨t155, A260, H⟩ := H
         replace H : (if t155 = true then (spec_l03LineAt.l1 k3 l0 l1 (wrap64 (x6_3 + 1))) else (some false)) = some r := H
         have A26 := aS A260
         clear A260
         by_cases c27 : t155 = true
         rotate_left
         ·
          replace c27 := Bool.eq_false_iff.mpr c27
          subst c27
          have H1 : (some false) = some r := by rw [if_neg (show ¬ (false = true) by decide)] at H; exact H
          clear H
          have H := H1
          clear H1
          obtain rfl := Option.some.inj H
          have p152 : 0 ≤ (0 : Int) := (by omega)
          have q152 : 0 < (l1.length : Int) := of_decide_eq_true (by first | (with_reducible assumption) | assumption)
          obtain ⟨ad152, A152_0, c152_0, A152_1, c152_1, e152, hx152_0, hx152_1, hl152_0, hi152_0, hl152_1, hi152_1⟩ := at_T45 HR1.out 0 p152 q152
          obtain rfl : ad148 = ad152 := (by injection e152)
          have qi152 : (0 < l1.length) = True := eq_true (by omega)
          (try rw [show ((0 : Int)).toNat = 0 from rfl] at hx152_0)
          (try rw [show 0 * 2 = 0 from rfl] at hx152_0)
          (try rw [Addr.add_zero'] at hx152_0)
          (try rw [show ((0 : Int)).toNat = 0 from rfl] at hx152_1)
          (try rw [show 0 * 2 = 0 from rfl] at hx152_1)
          (try rw [Addr.add_zero'] at hx152_1)
          replace hx152_0 := (HB.out.cell (World.block_lt_of_cell? w _ hx152_0)).trans hx152_0
          replace hx152_1 := (HB.out.cell (World.block_lt_of_cell? w _ hx152_1)).trans hx152_1
          have HR152_0 := aS hi152_0
          have HC152_0 := aS hl152_0
          clear hi152_0 hl152_0
          have HR152_1 := aS hi152_1
          have HC152_1 := aS hl152_1
          clear hi152_1 hl152_1
          replace p152 := eq_true p152
          replace q152 := eq_true q152
          have p153 : 0 ≤ (0 : Int) := (by omega)
          have q153 : 0 < (l1.length : Int) := of_decide_eq_true (by first | (with_reducible assumption) | assumption)
          obtain ⟨ad153, A153_0, c153_0, A153_1, c153_1, e153, hx153_0, hx153_1, hl153_0, hi153_0, hl153_1, hi153_1⟩ := at_T45 HR1.out 0 p153 q153
          obtain rfl : ad148 = ad153 := (by injection e153)
          have qi153 : (0 < l1.length) = True := eq_true (by omega)
          (try rw [show ((0 : Int)).toNat = 0 from rfl] at hx153_0)
          (try rw [show 0 * 2 = 0 from rfl] at hx153_0)
          (try rw [Addr.add_zero'] at hx153_0)
          (try rw [show ((0 : Int)).toNat = 0 from rfl] at hx153_1)
          (try rw [show 0 * 2 = 0 from rfl] at hx153_1)
          (try rw [Addr.add_zero'] at hx153_1)
          replace hx153_0 := (HB.out.cell (World.block_lt_of_cell? w _ hx153_0)).trans hx153_0
          replace hx153_1 := (HB.out.cell (World.block_lt_of_cell? w _ hx153_1)).trans hx153_1
          have HR153_0 := aS hi153_0
          have HC153_0 := aS hl153_0
          clear hi153_0 hl153_0
          have HR153_1 := aS hi153_1
          have HC153_1 := aS hl153_1
          clear hi153_1 hl153_1
          replace p153 := eq_true p153
          replace q153 := eq_true q153
          have ea_ := Option.some.inj (hx152_0.symm.trans hx153_0)
          injection ea_ with ea_ en_ ec_
          subst ea_
          subst ec_
          clear en_
          have ea_ := Option.some.inj (hx152_1.symm.trans hx153_1)
          injection ea_ with ea_ en_ ec_
          subst ea_
          subst ec_
          clear en_
          have p154 : 0 ≤ (x6_3 : Int) := of_decide_eq_true (by first | (with_reducible assumption) | assumption)
          have q154 : x6_3 < (((rd_T45 l1 0).f1).length : Int) := of_decide_eq_true (by first | (with_reducible assumption) | assumption)
          obtain ⟨ad154, e154, hx154_0⟩ := Kd.at_int HR153_1.out x6_3 p154 q154
          cases e154
          replace hx154_0 := (HB.out.cell (World.block_lt_of_cell? w _ hx154_0)).trans hx154_0
          replace p154 := eq_true p154
          replace q154 := eq_true q154
          go_wp2_with (first | ((with_reducible refine gate_callee (f := 36) rfl ?_); refine goesL_ (some 70) rfl rfl Try.func36 (by kernel_rfl) rfl #[.int .i64 (rd ((rd_T45 l1 0).f1) x6_3), .int .i64 0, .int .i64 (wrap64 ((l0.length : Int) - 1))] rfl sG ?_; (with_reducible refine (spec_l00In.calls (rd ((rd_T45 l1 0).f1) x6_3) 0 (wrap64 ((l0.length : Int) - 1)) false _ A26.out).mono ?_); rintro e w' ⟨rfl, ⟨nd, rfl⟩⟩; refine ⟨_, rfl, ?_⟩))
          go_ret
          exact ⟨by first | rfl | (simp [errW_none, errW_some, i64_w]; done) | (simp [errW_none, errW_some] <;> rfl) | (simp [*, errW_none, errW_some] <;> rfl), by repeat (first | (with_reducible first | exact HB.out | apply below_alloc | apply pw_below_drewN | apply below_drew1) | exact HB.out)⟩
         subst c27
         have H1 : (spec_l03LineAt.l1 k3 l0 l1 (wrap64 (x6_3 + 1))) = some r := by rw [if_pos rfl] at H; exact H
         clear H
         have H := H1
         clear H1
         have H' := aS H
         clear H
         have p152 : 0 ≤ (0 : Int) := (by omega)
         have q152 : 0 < (l1.length : Int) := of_decide_eq_true (by first | (with_reducible assumption) | assumption)
         obtain ⟨ad152, A152_0, c152_0, A152_1, c152_1, e152, hx152_0, hx152_1, hl152_0, hi152_0, hl152_1, hi152_1⟩ := at_T45 HR1.out 0 p152 q152
         obtain rfl : ad148 = ad152 := (by injection e152)
         have qi152 : (0 < l1.length) = True := eq_true (by omega)
         (try rw [show ((0 : Int)).toNat = 0 from rfl] at hx152_0)
         (try rw [show 0 * 2 = 0 from rfl] at hx152_0)
         (try rw [Addr.add_zero'] at hx152_0)
         (try rw [show ((0 : Int)).toNat = 0 from rfl] at hx152_1)
         (try rw [show 0 * 2 = 0 from rfl] at hx152_1)
         (try rw [Addr.add_zero'] at hx152_1)
         replace hx152_0 := (HB.out.cell (World.block_lt_of_cell? w _ hx152_0)).trans hx152_0
         replace hx152_1 := (HB.out.cell (World.block_lt_of_cell? w _ hx152_1)).trans hx152_1
         have HR152_0 := aS hi152_0
         have HC152_0 := aS hl152_0
         clear hi152_0 hl152_0
         have HR152_1 := aS hi152_1
         have HC152_1 := aS hl152_1
         clear hi152_1 hl152_1
         replace p152 := eq_true p152
         replace q152 := eq_true q152
         have p153 : 0 ≤ (0 : Int) := (by omega)
         have q153 : 0 < (l1.length : Int) := of_decide_eq_true (by first | (with_reducible assumption) | assumption)
         obtain ⟨ad153, A153_0, c153_0, A153_1, c153_1, e153, hx153_0, hx153_1, hl153_0, hi153_0, hl153_1, hi153_1⟩ := at_T45 HR1.out 0 p153 q153
         obtain rfl : ad148 = ad153 := (by injection e153)
         have qi153 : (0 < l1.length) = True := eq_true (by omega)
         (try rw [show ((0 : Int)).toNat = 0 from rfl] at hx153_0)
         (try rw [show 0 * 2 = 0 from rfl] at hx153_0)
         (try rw [Addr.add_zero'] at hx153_0)
         (try rw [show ((0 : Int)).toNat = 0 from rfl] at hx153_1)
         (try rw [show 0 * 2 = 0 from rfl] at hx153_1)
         (try rw [Addr.add_zero'] at hx153_1)
         replace hx153_0 := (HB.out.cell (World.block_lt_of_cell? w _ hx153_0)).trans hx153_0
         replace hx153_1 := (HB.out.cell (World.block_lt_of_cell? w _ hx153_1)).trans hx153_1
         have HR153_0 := aS hi153_0
         have HC153_0 := aS hl153_0
         clear hi153_0 hl153_0
         have HR153_1 := aS hi153_1
         have HC153_1 := aS hl153_1
         clear hi153_1 hl153_1
         replace p153 := eq_true p153
         replace q153 := eq_true q153
         have ea_ := Option.some.inj (hx152_0.symm.trans hx153_0)
         injection ea_ with ea_ en_ ec_
         subst ea_
         subst ec_
         clear en_
         have ea_ := Option.some.inj (hx152_1.symm.trans hx153_1)
         injection ea_ with ea_ en_ ec_
         subst ea_
         subst ec_
         clear en_
         have p154 : 0 ≤ (x6_3 : Int) := of_decide_eq_true (by first | (with_reducible assumption) | assumption)
         have q154 : x6_3 < (((rd_T45 l1 0).f1).length : Int) := of_decide_eq_true (by first | (with_reducible assumption) | assumption)
         obtain ⟨ad154, e154, hx154_0⟩ := Kd.at_int HR153_1.out x6_3 p154 q154
         cases e154
         replace hx154_0 := (HB.out.cell (World.block_lt_of_cell? w _ hx154_0)).trans hx154_0
         replace p154 := eq_true p154
         replace q154 := eq_true q154
         go_wp2_with (first | ((with_reducible refine gate_callee (f := 36) rfl ?_); refine goesL_ (some 70) rfl rfl Try.func36 (by kernel_rfl) rfl #[.int .i64 (rd ((rd_T45 l1 0).f1) x6_3), .int .i64 0, .int .i64 (wrap64 ((l0.length : Int) - 1))] rfl sG ?_; (with_reducible refine (spec_l00In.calls (rd ((rd_T45 l1 0).f1) x6_3) 0 (wrap64 ((l0.length : Int) - 1)) true _ A26.out).mono ?_); rintro e w' ⟨rfl, ⟨nd, rfl⟩⟩; refine ⟨_, rfl, ?_⟩))
         go_roundg k3
         case measure => have := HJ2.out; have := HK2.out; have := HK3.out; omega
         case rel => exact ⟨(wrap64 (x6_3 + 1)), (by first | rfl | (simp; done) | (simp [*]; done) | (simp only [i64_w]; done) | (simp [i64_w]; done)), H', ⟨by have := HJ2.out; have := HK2.out; have := HK3.out; omega⟩, ⟨by repeat (first | (with_reducible first | exact HB.out | apply below_alloc | apply pw_below_drewN | apply below_drew1) | exact HB.out)⟩⟩
      ·
       rw [if_neg c16] at H
       exact absurd H (by simp)

end Go.Proofs.Ytjhlliacgkjhaaa.QFnExactJoinLines

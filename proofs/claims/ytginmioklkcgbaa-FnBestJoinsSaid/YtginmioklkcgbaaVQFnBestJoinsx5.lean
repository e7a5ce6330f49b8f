/- What the Go functions of this law compute, each as a Lean function, and that each call comes to that answer; written by a program of this session. No condition. -/
import Derived.Test.YtginmioklkcgbaaVShn
import Derived.Test.YtginmioklkcgbaaVQFnBestJoinsx0
import Derived.Test.YtginmioklkcgbaaVQFnBestJoinsx4
namespace Go.Proofs.Ytginmioklkcgbaa.QFnBestJoins
open Go.RowKit Go.Proofs.YtginmioklkcgbaaW.PrintWords Go.Proofs.YtginmioklkcgbaaW.PrintLast Go.Proofs.YtginmioklkcgbaaW.PrintMore
attribute [local go_sem] max2_int min2_int max_two min_two max_three min_three max_four min_four   -- for this text's walks alone
set_option linter.unusedVariables false
set_option linter.unusedSimpArgs false

/-! ### spec_BestJoin: function 23 -/
mutual
def spec_BestJoin.j0 : Nat → List (S61) → Int → Bool → Int → Int → Int → Int → Option (Int × Int)
 | 0, _, _, _, _, _, _, _ => none
 | k + 1, x0, x3, x24, x129000, x129001, x130000, x130001 => if x24 = true then (some (0, 1)) else ((spec_l03Need.f x3).bind fun t133 => (if t133 = true then (spec_BestJoin.l0 k x0 x3 (-1) 0 x129000 x129001 x130000 x130001) else (some (0, 2))))
def spec_BestJoin.l0 : Nat → List (S61) → Int → Int → Int → Int → Int → Int → Int → Option (Int × Int)
 | 0, _, _, _, _, _, _, _, _ => none
 | k + 1, x0, x3, x10, x11, x129000, x129001, x130000, x130001 => if x11 < (x0.length : Int) then (if 0 ≤ x11 then ((spec_l03JoinedAt.f [rd_T61 x0 x11] x129000 x129001 x130000 x130001).bind fun t135 => (if t135 < (wrap64 (1000 * x3)) then (spec_BestJoin.l0 k x0 x3 x10 (wrap64 (x11 + 1)) x129000 x129001 x130000 x130001) else (if x10 < 0 then (spec_BestJoin.l0 k x0 x3 x11 (wrap64 (x11 + 1)) x129000 x129001 x130000 x130001) else (if 0 ≤ x10 then (if x10 < (x0.length : Int) then (if ((rd_T61 x0 x11).f2) < ((rd_T61 x0 x10).f2) then (spec_BestJoin.l0 k x0 x3 x11 (wrap64 (x11 + 1)) x129000 x129001 x130000 x130001) else (spec_BestJoin.l0 k x0 x3 x10 (wrap64 (x11 + 1)) x129000 x129001 x130000 x130001)) else (none)) else (none))))) else (none)) else (if x10 < 0 then (some (0, 3)) else (some (x10, 0)))
end
def spec_BestJoin.f (k : Nat) (l0 : List (S61)) (a1_0 : Int) (a1_1 : Int) (a2_0 : Int) (a2_1 : Int) (a3 : Int) : Option (Int × Int) := (spec_l03Ok.f k l0).bind fun t130 => (if t130 = true then ((spec_l03Piece.f a1_0 a1_1).bind fun t131 => (if t131 = true then ((spec_l03Piece.f a2_0 a2_1).bind fun t132 => (spec_BestJoin.j0 k l0 a3 (!t132) a1_0 a1_1 a2_0 a2_1)) else (spec_BestJoin.j0 k l0 a3 true a1_0 a1_1 a2_0 a2_1))) else (spec_BestJoin.j0 k l0 a3 true a1_0 a1_1 a2_0 a2_1))
theorem spec_BestJoin.mono_l : ∀ k, (∀ y0 y1 y2 y3 y4 y5 y6, LeO (spec_BestJoin.j0 k y0 y1 y2 y3 y4 y5 y6) (spec_BestJoin.j0 (k + 1) y0 y1 y2 y3 y4 y5 y6)) ∧ (∀ y0 y1 y2 y3 y4 y5 y6 y7, LeO (spec_BestJoin.l0 k y0 y1 y2 y3 y4 y5 y6 y7) (spec_BestJoin.l0 (k + 1) y0 y1 y2 y3 y4 y5 y6 y7))
 | 0 => by refine ⟨?_, ?_⟩ <;> (intros; intro r h; simp [spec_BestJoin.j0, spec_BestJoin.l0] at h)
 | k + 1 => by
  obtain ⟨ih0, ih1⟩ := spec_BestJoin.mono_l k
  refine ⟨?_, ?_⟩ <;> (intros; (first | unfold spec_BestJoin.j0 | unfold spec_BestJoin.l0); repeat' first | (with_reducible first | exact ih0 _ _ _ _ _ _ _ | exact ih1 _ _ _ _ _ _ _ _ | exact spec_l03Ok.mono _ _ | exact LeO.refl _ | exact LeO.none _ | refine LeO.ite ?_ ?_ | refine LeO.bind ?_ (fun _ => ?_)) | refine LeO.ite ?_ ?_ | refine LeO.bind ?_ (fun _ => ?_))
theorem spec_BestJoin.mono : ∀ a0 a1 a2 a3 a4 a5 k, LeO (spec_BestJoin.f k a0 a1 a2 a3 a4 a5) (spec_BestJoin.f (k + 1) a0 a1 a2 a3 a4 a5) := by
 intro a0 a1 a2 a3 a4 a5 k
 obtain ⟨ih0, ih1⟩ := spec_BestJoin.mono_l k
 unfold spec_BestJoin.f
 repeat' first | (with_reducible first | exact ih0 _ _ _ _ _ _ _ | exact ih1 _ _ _ _ _ _ _ _ | exact spec_l03Ok.mono _ _ | exact LeO.refl _ | exact LeO.none _ | refine LeO.ite ?_ ?_ | refine LeO.bind ?_ (fun _ => ?_)) | refine LeO.ite ?_ ?_ | refine LeO.bind ?_ (fun _ => ?_)
def spec_BestJoin.T9 : Bool × List (List Nat × List Nat) := (true, [([], []), ([], []), ([0, 1], [0, 1]), ([], []), ([], []), ([2, 3, 4], [2, 3, 4]), ([], []), ([6], [6]), ([5, 7], [5, 7])])
def spec_BestJoin.B9 : List Nat := [0, 0, 3, 0, 0, 31, 0, 64, 255]
theorem spec_BestJoin.tab9 : rtab .any (opsOf Try.f23 9) = spec_BestJoin.T9 := by kernel_rfl
theorem spec_BestJoin.bits9 : waitsOk spec_BestJoin.T9.2 spec_BestJoin.B9 = true := by kernel_rfl
def spec_BestJoin.T10 : Bool × List (List Nat × List Nat) := (true, [([], []), ([0], [0]), ([1], [1]), ([2], [2]), ([2], [2]), ([3, 4, 2], [2, 3, 4]), ([5, 2], [2, 5]), ([6, 2], [2, 6]), ([2], [2]), ([2], [2]), ([8, 9, 2], [2, 8, 9]), ([10, 2], [2, 10]), ([11, 2], [2, 11]), ([7, 12, 2], [2, 7, 12]), ([2, 13], [2, 13])])
def spec_BestJoin.B10 : List Nat := [0, 1, 3, 7, 7, 31, 63, 127, 7, 7, 775, 1799, 3847, 8191, 16383]
theorem spec_BestJoin.tab10 : rtab .any (opsOf Try.f23 10) = spec_BestJoin.T10 := by kernel_rfl
theorem spec_BestJoin.bits10 : waitsOk spec_BestJoin.T10.2 spec_BestJoin.B10 = true := by kernel_rfl
def spec_BestJoin.bF (n k : Nat) : Array Bool := ((List.range n).map fun i => k.testBit i).toArray
set_option maxHeartbeats 8000000 in
set_option maxRecDepth 100000 in
theorem spec_BestJoin.calls (k : Nat) (A0 : Option Addr) (c0 : Nat) (l0 : List (S61)) (a1_0 : Int) (a1_1 : Int) (a2_0 : Int) (a2_1 : Int) (a3 : Int) (r1 : Int) (r2 : Int) (w : World) (hr0 : Kd.C k61 w A0 l0.length l0) (hc0 : l0.length ≤ c0) (h : spec_BestJoin.f k l0 a1_0 a1_1 a2_0 a2_1 a3 = some (r1, r2)) :
  Calls Try.prog 23 #[.slice A0 l0.length c0, .agg #[.int .i64 a1_0, .int .i64 a1_1], .agg #[.int .i64 a2_0, .int .i64 a2_1], .int .i64 a3] w fun e w' => e = .returned (.tuple #[.int .i64 r1, .int .i64 r2]) ∧ Below w.heap.size w w' := by
 have hu45 := Try.underlying45
 have HR0 := aS hr0
 have HC0 := aS hc0
 clear hr0 hc0
 have HB := aS (Below.refl w.heap.size w)
 have H := h
 clear h
 unfold spec_BestJoin.f at H
 have HC5 := aS H
 clear H
 go_enter Try.func23, Try.ntmps23
 go_upto_region 1 with (first | ((with_reducible refine gate_dst (N := 5) rfl ?_); refine bx 5 #[.int .i64 a1_0, .int .i64 a1_1] 45 ?_; intro gb128 hg w6 hbox hb; have BK128 := aS (hbox); have GW128 := aS (gW hg (sW HB.out)); have GE128 := aS (gW hg (sW HB.out)); replace HB := aS (below_step (sW HB.out) hb); clear hb hbox hg) | ((with_reducible refine gate_dst (N := 6) rfl ?_); refine bx 6 #[.int .i64 a2_0, .int .i64 a2_1] 45 ?_; intro gb129 hg w7 hbox hb; have BK129 := aS (hbox); have GW129 := aS (gW hg (sW HB.out)); have GE129 := aS (gW hg (sW HB.out)); replace HB := aS (below_step (sW HB.out) hb); have NB128_129 := aS (nL hg (sB BK128.out)); have NB129_128 := aS (nG hg (sB BK128.out)); replace BK128 := aS (blk_below (sB BK128.out) hb); clear hb hbox hg))
 (try simp only [Act.put, List.setIfInBounds_toArray, List.set_cons_zero, List.set_cons_succ])
 go_cut [24] (fun v24 wc => ∃ (kq : Nat) (x24_4 : Bool), v24 = .bool x24_4 ∧ Aside0 (spec_BestJoin.j0 kq l0 a3 x24_4 a1_0 a1_1 a2_0 a2_1 = some (r1, r2)) ∧ Aside0 (kq ≤ k) ∧ Aside0 (wc.heap[gb128]? = some (.cells #[.int .i64 a1_0, .int .i64 a1_1] 45 (0, 0))) ∧ Aside0 (wc.heap[gb129]? = some (.cells #[.int .i64 a2_0, .int .i64 a2_1] 45 (0, 0))) ∧ Aside0 (Below w.heap.size w wc))
 case first =>
  have H := HC5.out
  clear HC5
  replace H := Option.bind_eq_some_iff.mp H
  obtain ⟨t130, A80, H⟩ := H
  replace H : (if t130 = true then ((spec_l03Piece.f a1_0 a1_1).bind fun t131 => (if t131 = true then ((spec_l03Piece.f a2_0 a2_1).bind fun t132 => (spec_BestJoin.j0 k l0 a3 (!t132) a1_0 a1_1 a2_0 a2_1)) else (spec_BestJoin.j0 k l0 a3 true a1_0 a1_1 a2_0 a2_1))) else (spec_BestJoin.j0 k l0 a3 true a1_0 a1_1 a2_0 a2_1)) = some (r1, r2) := H
  have A8 := aS A80
  clear A80
  by_cases c9 : t130 = true
  rotate_left
  ·
   replace c9 := Bool.eq_false_iff.mpr c9
   subst c9
   have H1 : (spec_BestJoin.j0 k l0 a3 true a1_0 a1_1 a2_0 a2_1) = some (r1, r2) := by rw [if_neg (show ¬ (false = true) by decide)] at H; exact H
   clear H
   have H := H1
   clear H1
   have H' := aS H
   clear H
   go_wp2_with (first | ((with_reducible refine gate_callee (f := 43) rfl ?_); refine goesL_ (some 13) rfl rfl Try.func43 (by kernel_rfl) rfl #[.slice A0 l0.length c0] rfl sG ?_; (with_reducible refine (spec_l03Ok.calls k _ _ l0 false _ ?side1 ?side2 A8.out).mono ?_); (case side1 => exact sC (Kd.C_below HR0.out HB.out)); (case side2 => exact HC0.out); rintro e w23 ⟨rfl, hb⟩; refine ⟨_, rfl, ?_⟩; replace BK128 := aS (blk_below (sB BK128.out) hb); replace BK129 := aS (blk_below (sB BK129.out) hb); replace HB := aS (below_step (sW HB.out) hb)))
   go_meet
   case rel => exact ⟨_, (true), eV, H', ⟨by first | omega | exact Nat.le_refl _⟩, (aS (sB BK128.out)), (aS (sB BK129.out)), (aS (sW HB.out))⟩
  subst c9
  have H1 : ((spec_l03Piece.f a1_0 a1_1).bind fun t131 => (if t131 = true then ((spec_l03Piece.f a2_0 a2_1).bind fun t132 => (spec_BestJoin.j0 k l0 a3 (!t132) a1_0 a1_1 a2_0 a2_1)) else (spec_BestJoin.j0 k l0 a3 true a1_0 a1_1 a2_0 a2_1))) = some (r1, r2) := by rw [if_pos rfl] at H; exact H
  clear H
  have H := H1
  clear H1
  replace H := Option.bind_eq_some_iff.mp H
  obtain ⟨t131, A100, H⟩ := H
  replace H : (if t131 = true then ((spec_l03Piece.f a2_0 a2_1).bind fun t132 => (spec_BestJoin.j0 k l0 a3 (!t132) a1_0 a1_1 a2_0 a2_1)) else (spec_BestJoin.j0 k l0 a3 true a1_0 a1_1 a2_0 a2_1)) = some (r1, r2) := H
  have A10 := aS A100
  clear A100
  by_cases c11 : t131 = true
  rotate_left
  ·
   replace c11 := Bool.eq_false_iff.mpr c11
   subst c11
   have H1 : (spec_BestJoin.j0 k l0 a3 true a1_0 a1_1 a2_0 a2_1) = some (r1, r2) := by rw [if_neg (show ¬ (false = true) by decide)] at H; exact H
   clear H
   have H := H1
   clear H1
   have H' := aS H
   clear H
   go_wp2_with (first | ((with_reducible refine gate_callee (f := 43) rfl ?_); refine goesL_ (some 13) rfl rfl Try.func43 (by kernel_rfl) rfl #[.slice A0 l0.length c0] rfl sG ?_; (with_reducible refine (spec_l03Ok.calls k _ _ l0 true _ ?side1 ?side2 A8.out).mono ?_); (case side1 => exact sC (Kd.C_below HR0.out HB.out)); (case side2 => exact HC0.out); rintro e w19 ⟨rfl, hb⟩; refine ⟨_, rfl, ?_⟩; replace BK128 := aS (blk_below (sB BK128.out) hb); replace BK129 := aS (blk_below (sB BK129.out) hb); replace HB := aS (below_step (sW HB.out) hb); (try clear hb); (try clear hb2); (try clear hk); (try clear hi); have hnb20 := NB128_129.out; have hnc20 := NB129_128.out; obtain ⟨hcz21_0, hcz21_1, hfz21_0, hfz21_1⟩ := z2 BK128.out) | (go_at_call 44; (with_reducible refine (spec_l03Piece.calls a1_0 a1_1 false _ A10.out).mono ?_); rintro e w22 ⟨rfl, hb⟩; replace BK128 := aS (blk_below (sB BK128.out) hb); replace BK129 := aS (blk_below (sB BK129.out) hb); replace HB := aS (below_step (sW HB.out) hb)))
   go_meet
   case rel => exact ⟨_, (true), eV, H', ⟨by first | omega | exact Nat.le_refl _⟩, (aS (sB BK128.out)), (aS (sB BK129.out)), (aS (sW HB.out))⟩
  subst c11
  have H1 : ((spec_l03Piece.f a2_0 a2_1).bind fun t132 => (spec_BestJoin.j0 k l0 a3 (!t132) a1_0 a1_1 a2_0 a2_1)) = some (r1, r2) := by rw [if_pos rfl] at H; exact H
  clear H
  have H := H1
  clear H1
  replace H := Option.bind_eq_some_iff.mp H
  obtain ⟨t132, A120, H⟩ := H
  replace H : (spec_BestJoin.j0 k l0 a3 (!t132) a1_0 a1_1 a2_0 a2_1) = some (r1, r2) := H
  have A12 := aS A120
  clear A120
  have H' := aS H
  clear H
  go_wp2_with (first | ((with_reducible refine gate_callee (f := 43) rfl ?_); refine goesL_ (some 13) rfl rfl Try.func43 (by kernel_rfl) rfl #[.slice A0 l0.length c0] rfl sG ?_; (with_reducible refine (spec_l03Ok.calls k _ _ l0 true _ ?side1 ?side2 A8.out).mono ?_); (case side1 => exact sC (Kd.C_below HR0.out HB.out)); (case side2 => exact HC0.out); rintro e w13 ⟨rfl, hb⟩; refine ⟨_, rfl, ?_⟩; replace BK128 := aS (blk_below (sB BK128.out) hb); replace BK129 := aS (blk_below (sB BK129.out) hb); replace HB := aS (below_step (sW HB.out) hb); (try clear hb); (try clear hb2); (try clear hk); (try clear hi); have hnb14 := NB128_129.out; have hnc14 := NB129_128.out; obtain ⟨hcz15_0, hcz15_1, hfz15_0, hfz15_1⟩ := z2 BK128.out) | (go_at_call 44; (with_reducible refine (spec_l03Piece.calls a1_0 a1_1 true _ A10.out).mono ?_); rintro e w16 ⟨rfl, hb⟩; replace BK128 := aS (blk_below (sB BK128.out) hb); replace BK129 := aS (blk_below (sB BK129.out) hb); replace HB := aS (below_step (sW HB.out) hb); (try clear hb); (try clear hb2); (try clear hk); (try clear hi); obtain ⟨hcz17_0, hcz17_1, hfz17_0, hfz17_1⟩ := z2 BK129.out) | (go_at_call 44; (with_reducible refine (spec_l03Piece.calls a2_0 a2_1 t132 _ A12.out).mono ?_); rintro e w18 ⟨rfl, hb⟩; replace BK128 := aS (blk_below (sB BK128.out) hb); replace BK129 := aS (blk_below (sB BK129.out) hb); replace HB := aS (below_step (sW HB.out) hb)))
  go_meet
  case rel => exact ⟨_, (!t132), eV, H', ⟨by first | omega | exact Nat.le_refl _⟩, (aS (sB BK128.out)), (aS (sB BK129.out)), (aS (sW HB.out))⟩
 case rest =>
  clear HC5
  obtain ⟨kq, x24_4, rfl, HA, HJ4, BK128, BK129, HB⟩ := hcut
  cases kq with
  | zero => exact absurd HA.out (by simp [spec_BestJoin.j0])
  | succ kj4 =>
   have H := HA.out
   clear HA
   simp only [spec_BestJoin.j0] at H
   by_cases c24 : x24_4 = true
   ·
    subst c24
    have H1 : (some (0, 1)) = some (r1, r2) := by rw [if_pos rfl] at H; exact H
    clear H
    have H := H1
    clear H1
    simp only [Option.some.injEq, Prod.mk.injEq] at H
    obtain ⟨rfl, rfl⟩ := H
    go_wp2
    go_ret2
    exact ⟨eE, sW HB.out⟩
   ·
    replace c24 := Bool.eq_false_iff.mpr c24
    subst c24
    have H1 : ((spec_l03Need.f a3).bind fun t133 => (if t133 = true then (spec_BestJoin.l0 kj4 l0 a3 (-1) 0 a1_0 a1_1 a2_0 a2_1) else (some (0, 2)))) = some (r1, r2) := by rw [if_neg (show ¬ (false = true) by decide)] at H; exact H
    clear H
    have H := H1
    clear H1
    replace H := Option.bind_eq_some_iff.mp H
    obtain ⟨t133, A250, H⟩ := H
    replace H : (if t133 = true then (spec_BestJoin.l0 kj4 l0 a3 (-1) 0 a1_0 a1_1 a2_0 a2_1) else (some (0, 2))) = some (r1, r2) := H
    have A25 := aS A250
    clear A250
    have HC26 := aS H
    clear H
    go_upto_if 27 with (first | ((with_reducible refine gate_callee (f := 45) rfl ?_); refine goesL_ (some 26) rfl rfl Try.func45 (by kernel_rfl) rfl #[.int .i64 a3] rfl sG ?_; (with_reducible refine (spec_l03Need.calls a3 t133 _ A25.out).mono ?_); rintro e w' ⟨rfl, ⟨nd, rfl⟩⟩; refine ⟨_, rfl, ?_⟩))
    (try simp only [Act.put, List.setIfInBounds_toArray, List.set_cons_zero, List.set_cons_succ])
    have H := HC26.out
    clear HC26
    by_cases c27 : t133 = true
    ·
     subst c27
     have H1 : (spec_BestJoin.l0 kj4 l0 a3 (-1) 0 a1_0 a1_1 a2_0 a2_1) = some (r1, r2) := by rw [if_pos rfl] at H; exact H
     clear H
     have H := H1
     clear H1
     have H' := aS H
     clear H
     go_wp2
     go_loopg [10, 11] kj4 (fun kq v10 v11 w' => ∃ (x10_2 : Int) (x11_2 : Int), v10 = .int .i64 x10_2 ∧ v11 = .int .i64 x11_2 ∧ Aside0 (spec_BestJoin.l0 kq l0 a3 x10_2 x11_2 a1_0 a1_1 a2_0 a2_1 = some (r1, r2)) ∧ Aside0 (kq ≤ kj4) ∧ Aside0 (w'.heap[gb128]? = some (.cells #[.int .i64 a1_0, .int .i64 a1_1] 45 (0, 0))) ∧ Aside0 (w'.heap[gb129]? = some (.cells #[.int .i64 a2_0, .int .i64 a2_1] 45 (0, 0))) ∧ Aside0 (Below w.heap.size w w'))
     case atStart => exact ⟨((-1)), (0), eV, eV, H', ⟨Nat.le_refl _⟩, (aS (sB BK128.out)), (aS (sB BK129.out)), (aS (sW HB.out))⟩
     case round =>
      clear H'
      obtain ⟨x10_2, x11_2, rfl, rfl, HA, HK2, BK128, BK129, HB⟩ := hrel
      cases gk with
      | zero => exact absurd HA.out (by simp [spec_BestJoin.l0])
      | succ k2 =>
       have H := HA.out
       clear HA
       simp only [spec_BestJoin.l0] at H
       replace H := iE H; rcases H with ⟨c28, H⟩ | ⟨c28, H⟩
       rotate_left
       ·
        have c28b0 := decide_eq_false c28
        clear c28
        (first | rw [c28b0] | (simp only [i64_w, i32_w]; rw [c28b0]) | (rw [c28b2]; simp only [Bool.not_false, Bool.not_true]) | skip)
        replace H := iE H; rcases H with ⟨c42, H⟩ | ⟨c42, H⟩
        ·
         have c42b0 := decide_eq_true c42
         clear c42
         simp only [Option.some.injEq, Prod.mk.injEq] at H
         obtain ⟨rfl, rfl⟩ := H
         go_wp2
         go_ret2
         exact ⟨eE, sW HB.out⟩
        have c42b0 := decide_eq_false c42
        clear c42
        simp only [Option.some.injEq, Prod.mk.injEq] at H
        obtain ⟨rfl, rfl⟩ := H
        go_wp2
        go_ret2
        exact ⟨eE, sW HB.out⟩
       have c28b0 := decide_eq_true c28
       clear c28
       (first | rw [c28b0] | (simp only [i64_w, i32_w]; rw [c28b0]) | (rw [c28b2]; simp only [Bool.not_false, Bool.not_true]) | skip)
       replace H := iN H
       obtain ⟨c29, H⟩ := H
       have c29b0 := decide_eq_true c29
       clear c29
       replace H := Option.bind_eq_some_iff.mp H
       obtain ⟨t135, A300, H⟩ := H
       replace H : (if t135 < (wrap64 (1000 * a3)) then (spec_BestJoin.l0 k2 l0 a3 x10_2 (wrap64 (x11_2 + 1)) a1_0 a1_1 a2_0 a2_1) else (if x10_2 < 0 then (spec_BestJoin.l0 k2 l0 a3 x11_2 (wrap64 (x11_2 + 1)) a1_0 a1_1 a2_0 a2_1) else (if 0 ≤ x10_2 then (if x10_2 < (l0.length : Int) then (if ((rd_T61 l0 x11_2).f2) < ((rd_T61 l0 x10_2).f2) then (spec_BestJoin.l0 k2 l0 a3 x11_2 (wrap64 (x11_2 + 1)) a1_0 a1_1 a2_0 a2_1) else (spec_BestJoin.l0 k2 l0 a3 x10_2 (wrap64 (x11_2 + 1)) a1_0 a1_1 a2_0 a2_1)) else (none)) else (none)))) = some (r1, r2) := H
       have A30 := aS A300
       clear A300
       have HC31 := aS H
       clear H
       try go_wp2
       replace BK128 := aS (blk_drew BK128.out); replace BK129 := aS (blk_drew BK129.out); replace HB := aS (below_drew1 HB.out)
       have p134 : 0 ≤ (x11_2 : Int) := sD
       have q134 : x11_2 < (l0.length : Int) := sD
       obtain ⟨ad134, e134, hx134_0, hx134_1, hx134_2⟩ := at_T61 HR0.out x11_2 p134 q134
       have hw134_2 := hx134_2
       have hw134_1 := hx134_1
       have hw134_0 := hx134_0
       cases e134
       replace hx134_0 := bC HB.out hx134_0
       replace hx134_1 := bC HB.out hx134_1
       replace hx134_2 := bC HB.out hx134_2
       replace p134 := eq_true p134
       replace q134 := eq_true q134
       refine start_ (n := 9) (S := fun w' => w'.cell? ⟨gb128, 0, none⟩ = some (.int .i64 a1_0) ∧ w'.cell? ⟨gb128, 1, none⟩ = some (.int .i64 a1_1) ∧ w'.cell? ⟨gb129, 0, none⟩ = some (.int .i64 a2_0) ∧ w'.cell? ⟨gb129, 1, none⟩ = some (.int .i64 a2_1) ∧ w'.cell? (ad134.add ((x11_2).toNat * 3)) = some (.string ((rd_T61 l0 x11_2).f0)) ∧ w'.cell? ⟨(ad134.add ((x11_2).toNat * 3)).block, (ad134.add ((x11_2).toNat * 3)).off + 1, none⟩ = some (.int .i64 ((rd_T61 l0 x11_2).f1)) ∧ w'.cell? ⟨(ad134.add ((x11_2).toNat * 3)).block, (ad134.add ((x11_2).toNat * 3)).off + 2, none⟩ = some (.int .i64 ((rd_T61 l0 x11_2).f2))) (ds := []) _ (by kernel_rfl) rfl rfl ⟨bq BK128.out 0, bq BK128.out 1, bq BK129.out 0, bq BK129.out 1, ((HB.out.cell (World.block_lt_of_cell? w _ hw134_0)).trans hw134_0), ((HB.out.cell (World.block_lt_of_cell? w _ hw134_1)).trans hw134_1), ((HB.out.cell (World.block_lt_of_cell? w _ hw134_2)).trans hw134_2)⟩ (fun hHeld => ?_); refine with_tabW spec_BestJoin.tab9 spec_BestJoin.bits9 (fun HT_ HW_ => ?_)
       generalize wr.drew = w32 at BK128 BK129 HB hx134_0 hx134_1 hx134_2 hHeld ⊢
       refine pX 0 34 ?_; refine pX 1 35 ?_; refine pX 2 36 ?_; refine pX 6 40 ?_; refine pX 7 41 ?_; refine tX 3 37 ?_; refine tX 4 38 ?_
       refine oX 5 (some 39) fun K hK => ?_
       refine goes_ Try.func69 (by kernel_rfl) rfl #[.pointer (some (ad134.add ((x11_2).toNat * 3))), .agg #[.int .i64 a1_0, .int .i64 a1_1], .agg #[.int .i64 a2_0, .int .i64 a2_1]] (by rfl) rfl rfl sG ?_
       with_reducible refine (spec_l03JoinedAt.calls _ 1 [rd_T61 l0 x11_2] a1_0 a1_1 a2_0 a2_1 t135 _ ?side1 ?side2 A30.out).mono ?_
       (case side1 => refine elem_C ?_ z61 x11_2 (sD) (sD); repeat (first | exact (Kd.C_below HR0.out HB.out) | (with_reducible refine Kd.C_alloc ?_ _) | (with_reducible refine Kd.C_drewN ?_ _) | (with_reducible refine Kd.C_drew ?_)))
       (case side2 => exact Nat.le_refl _)
       rintro e w33 ⟨rfl, hb⟩
       refine ⟨_, rfl, ?_⟩
       replace BK128 := aS (blk_below (sB BK128.out) hb); replace BK129 := aS (blk_below (sB BK129.out) hb); replace HB := aS (below_step (sW HB.out) hb)
       refine hK.out _ _ ⟨bq BK128.out 0, bq BK128.out 1, bq BK129.out 0, bq BK129.out 1, ((HB.out.cell (World.block_lt_of_cell? w _ hw134_0)).trans hw134_0), ((HB.out.cell (World.block_lt_of_cell? w _ hw134_1)).trans hw134_1), ((HB.out.cell (World.block_lt_of_cell? w _ hw134_2)).trans hw134_2)⟩ (fun hHeld => ?_)
       clear hK K
       refine nX 39 ?_
       refine pX 8 42 ?_
       refine dX ?_
       go_upto_if 42 with (fail)
       have H := HC31.out
       clear HC31
       replace H := iE H; rcases H with ⟨c34, H⟩ | ⟨c34, H⟩
       ·
        have c34b0 := decide_eq_true c34
        clear c34
        (first | rw [c34b0] | (simp only [i64_w, i32_w]; rw [c34b0]) | (rw [c34b2]; simp only [Bool.not_false, Bool.not_true]) | skip)
        have H' := aS H
        clear H
        go_wp2
        go_roundg k2
        case measure => have := HJ4.out; have := HK2.out; omega
        case rel => exact ⟨(x10_2), (wrap64 (x11_2 + 1)), eV, eV, H', ⟨by have := HJ4.out; have := HK2.out; omega⟩, (aS (sB BK128.out)), (aS (sB BK129.out)), (aS (sW HB.out))⟩
       have c34b0 := decide_eq_false c34
       clear c34
       (first | rw [c34b0] | (simp only [i64_w, i32_w]; rw [c34b0]) | (rw [c34b2]; simp only [Bool.not_false, Bool.not_true]) | skip)
       replace H := iE H; rcases H with ⟨c35, H⟩ | ⟨c35, H⟩
       ·
        have c35b0 := decide_eq_true c35
        clear c35
        have H' := aS H
        clear H
        try go_wp2
        replace BK128 := aS (blk_drew BK128.out); replace BK129 := aS (blk_drew BK129.out); replace HB := aS (below_drew1 HB.out)
        refine start_ (n := 15) (S := fun w' => True) (ds := []) _ (by kernel_rfl) rfl rfl trivial (fun hHeld => ?_); refine with_tabW spec_BestJoin.tab10 spec_BestJoin.bits10 (fun HT_ HW_ => ?_)
        generalize w33.drew = w36 at BK128 BK129 HB hHeld ⊢
        refine pX 0 43 ?_; refine pX 1 44 ?_; refine pX 2 45 ?_; refine pU 3 46 ?_; refine pU 4 47 ?_; refine pU 5 48 ?_; refine pU 6 49 ?_; refine pU 7 50 ?_; refine pU 8 51 ?_; refine pU 9 52 ?_; refine pU 10 53 ?_; refine pU 11 54 ?_; refine pU 12 55 ?_; refine pU 13 56 ?_; refine pX 14 57 ?_
        refine dX ?_
        try go_wp2
        go_roundg k2
        case measure => have := HJ4.out; have := HK2.out; omega
        case rel => exact ⟨(x11_2), (wrap64 (x11_2 + 1)), eV, eV, H', ⟨by have := HJ4.out; have := HK2.out; omega⟩, (aS (sB BK128.out)), (aS (sB BK129.out)), (aS (sW HB.out))⟩
       have c35b0 := decide_eq_false c35
       clear c35
       replace H := iN H
       obtain ⟨c37, H⟩ := H
       have c37b0 := decide_eq_true c37
       clear c37
       replace H := iN H
       obtain ⟨c38, H⟩ := H
       have c38b0 := decide_eq_true c38
       clear c38
       replace H := iE H; rcases H with ⟨c39, H⟩ | ⟨c39, H⟩
       ·
        have c39b0 := decide_eq_true c39
        clear c39
        have H' := aS H
        clear H
        try go_wp2
        replace BK128 := aS (blk_drew BK128.out); replace BK129 := aS (blk_drew BK129.out); replace HB := aS (below_drew1 HB.out)
        have p136 : 0 ≤ (x11_2 : Int) := sD
        have q136 : x11_2 < (l0.length : Int) := sD
        obtain ⟨ad136, e136, hx136_0, hx136_1, hx136_2⟩ := at_T61 HR0.out x11_2 p136 q136
        have hw136_2 := hx136_2
        have hw136_1 := hx136_1
        have hw136_0 := hx136_0
        obtain rfl : ad134 = ad136 := (by injection e136)
        replace hx136_0 := bC HB.out hx136_0
        replace hx136_1 := bC HB.out hx136_1
        replace hx136_2 := bC HB.out hx136_2
        replace p136 := eq_true p136
        replace q136 := eq_true q136
        have p137 : 0 ≤ (x10_2 : Int) := sD
        have q137 : x10_2 < (l0.length : Int) := sD
        obtain ⟨ad137, e137, hx137_0, hx137_1, hx137_2⟩ := at_T61 HR0.out x10_2 p137 q137
        have hw137_2 := hx137_2
        have hw137_1 := hx137_1
        have hw137_0 := hx137_0
        obtain rfl : ad134 = ad137 := (by injection e137)
        replace hx137_0 := bC HB.out hx137_0
        replace hx137_1 := bC HB.out hx137_1
        replace hx137_2 := bC HB.out hx137_2
        replace p137 := eq_true p137
        replace q137 := eq_true q137
        refine start_ (n := 15) (S := fun w' => w'.cell? (ad134.add ((x11_2).toNat * 3)) = some (.string ((rd_T61 l0 x11_2).f0)) ∧ w'.cell? ⟨(ad134.add ((x11_2).toNat * 3)).block, (ad134.add ((x11_2).toNat * 3)).off + 1, none⟩ = some (.int .i64 ((rd_T61 l0 x11_2).f1)) ∧ w'.cell? ⟨(ad134.add ((x11_2).toNat * 3)).block, (ad134.add ((x11_2).toNat * 3)).off + 2, none⟩ = some (.int .i64 ((rd_T61 l0 x11_2).f2)) ∧ w'.cell? (ad134.add ((x10_2).toNat * 3)) = some (.string ((rd_T61 l0 x10_2).f0)) ∧ w'.cell? ⟨(ad134.add ((x10_2).toNat * 3)).block, (ad134.add ((x10_2).toNat * 3)).off + 1, none⟩ = some (.int .i64 ((rd_T61 l0 x10_2).f1)) ∧ w'.cell? ⟨(ad134.add ((x10_2).toNat * 3)).block, (ad134.add ((x10_2).toNat * 3)).off + 2, none⟩ = some (.int .i64 ((rd_T61 l0 x10_2).f2))) (ds := []) _ (by kernel_rfl) rfl rfl ⟨((HB.out.cell (World.block_lt_of_cell? w _ hw136_0)).trans hw136_0), ((HB.out.cell (World.block_lt_of_cell? w _ hw136_1)).trans hw136_1), ((HB.out.cell (World.block_lt_of_cell? w _ hw136_2)).trans hw136_2), ((HB.out.cell (World.block_lt_of_cell? w _ hw137_0)).trans hw137_0), ((HB.out.cell (World.block_lt_of_cell? w _ hw137_1)).trans hw137_1), ((HB.out.cell (World.block_lt_of_cell? w _ hw137_2)).trans hw137_2)⟩ (fun hHeld => ?_); refine with_tabW spec_BestJoin.tab10 spec_BestJoin.bits10 (fun HT_ HW_ => ?_)
        generalize w33.drew = w40 at BK128 BK129 HB hx136_0 hx136_1 hx136_2 hx137_0 hx137_1 hx137_2 hHeld ⊢
        refine pX 0 43 ?_; refine pX 1 44 ?_; refine pX 2 45 ?_; refine pX 3 46 ?_; refine pX 4 47 ?_; refine pX 5 48 ?_; refine pX 6 49 ?_; refine pX 8 51 ?_; refine pX 9 52 ?_; refine pX 10 53 ?_; refine pX 11 54 ?_; refine tX 7 50 ?_; refine tX 12 55 ?_; refine pX 13 56 ?_; refine pX 14 57 ?_
        refine dX ?_
        try go_wp2
        go_roundg k2
        case measure => have := HJ4.out; have := HK2.out; omega
        case rel => exact ⟨(x11_2), (wrap64 (x11_2 + 1)), eV, eV, H', ⟨by have := HJ4.out; have := HK2.out; omega⟩, (aS (sB BK128.out)), (aS (sB BK129.out)), (aS (sW HB.out))⟩
       have c39b0 := decide_eq_false c39
       clear c39
       have H' := aS H
       clear H
       try go_wp2
       replace BK128 := aS (blk_drew BK128.out); replace BK129 := aS (blk_drew BK129.out); replace HB := aS (below_drew1 HB.out)
       have p136 : 0 ≤ (x11_2 : Int) := sD
       have q136 : x11_2 < (l0.length : Int) := sD
       obtain ⟨ad136, e136, hx136_0, hx136_1, hx136_2⟩ := at_T61 HR0.out x11_2 p136 q136
       have hw136_2 := hx136_2
       have hw136_1 := hx136_1
       have hw136_0 := hx136_0
       obtain rfl : ad134 = ad136 := (by injection e136)
       replace hx136_0 := bC HB.out hx136_0
       replace hx136_1 := bC HB.out hx136_1
       replace hx136_2 := bC HB.out hx136_2
       replace p136 := eq_true p136
       replace q136 := eq_true q136
       have p137 : 0 ≤ (x10_2 : Int) := sD
       have q137 : x10_2 < (l0.length : Int) := sD
       obtain ⟨ad137, e137, hx137_0, hx137_1, hx137_2⟩ := at_T61 HR0.out x10_2 p137 q137
       have hw137_2 := hx137_2
       have hw137_1 := hx137_1
       have hw137_0 := hx137_0
       obtain rfl : ad134 = ad137 := (by injection e137)
       replace hx137_0 := bC HB.out hx137_0
       replace hx137_1 := bC HB.out hx137_1
       replace hx137_2 := bC HB.out hx137_2
       replace p137 := eq_true p137
       replace q137 := eq_true q137
       refine start_ (n := 15) (S := fun w' => w'.cell? (ad134.add ((x11_2).toNat * 3)) = some (.string ((rd_T61 l0 x11_2).f0)) ∧ w'.cell? ⟨(ad134.add ((x11_2).toNat * 3)).block, (ad134.add ((x11_2).toNat * 3)).off + 1, none⟩ = some (.int .i64 ((rd_T61 l0 x11_2).f1)) ∧ w'.cell? ⟨(ad134.add ((x11_2).toNat * 3)).block, (ad134.add ((x11_2).toNat * 3)).off + 2, none⟩ = some (.int .i64 ((rd_T61 l0 x11_2).f2)) ∧ w'.cell? (ad134.add ((x10_2).toNat * 3)) = some (.string ((rd_T61 l0 x10_2).f0)) ∧ w'.cell? ⟨(ad134.add ((x10_2).toNat * 3)).block, (ad134.add ((x10_2).toNat * 3)).off + 1, none⟩ = some (.int .i64 ((rd_T61 l0 x10_2).f1)) ∧ w'.cell? ⟨(ad134.add ((x10_2).toNat * 3)).block, (ad134.add ((x10_2).toNat * 3)).off + 2, none⟩ = some (.int .i64 ((rd_T61 l0 x10_2).f2))) (ds := []) _ (by kernel_rfl) rfl rfl ⟨((HB.out.cell (World.block_lt_of_cell? w _ hw136_0)).trans hw136_0), ((HB.out.cell (World.block_lt_of_cell? w _ hw136_1)).trans hw136_1), ((HB.out.cell (World.block_lt_of_cell? w _ hw136_2)).trans hw136_2), ((HB.out.cell (World.block_lt_of_cell? w _ hw137_0)).trans hw137_0), ((HB.out.cell (World.block_lt_of_cell? w _ hw137_1)).trans hw137_1), ((HB.out.cell (World.block_lt_of_cell? w _ hw137_2)).trans hw137_2)⟩ (fun hHeld => ?_); refine with_tabW spec_BestJoin.tab10 spec_BestJoin.bits10 (fun HT_ HW_ => ?_)
       generalize w33.drew = w41 at BK128 BK129 HB hx136_0 hx136_1 hx136_2 hx137_0 hx137_1 hx137_2 hHeld ⊢
       refine pX 0 43 ?_; refine pX 1 44 ?_; refine pX 2 45 ?_; refine pX 3 46 ?_; refine pX 4 47 ?_; refine pX 5 48 ?_; refine pX 6 49 ?_; refine pX 8 51 ?_; refine pX 9 52 ?_; refine pX 10 53 ?_; refine pX 11 54 ?_; refine tX 7 50 ?_; refine tX 12 55 ?_; refine pX 13 56 ?_; refine pX 14 57 ?_
       refine dX ?_
       try go_wp2
       go_roundg k2
       case measure => have := HJ4.out; have := HK2.out; omega
       case rel => exact ⟨(x10_2), (wrap64 (x11_2 + 1)), eV, eV, H', ⟨by have := HJ4.out; have := HK2.out; omega⟩, (aS (sB BK128.out)), (aS (sB BK129.out)), (aS (sW HB.out))⟩
    ·
     replace c27 := Bool.eq_false_iff.mpr c27
     subst c27
     have H1 : (some (0, 2)) = some (r1, r2) := by rw [if_neg (show ¬ (false = true) by decide)] at H; exact H
     clear H
     have H := H1
     clear H1
     simp only [Option.some.injEq, Prod.mk.injEq] at H
     obtain ⟨rfl, rfl⟩ := H
     go_wp2
     go_ret2
     exact ⟨eE, sW HB.out⟩

end Go.Proofs.Ytginmioklkcgbaa.QFnBestJoins

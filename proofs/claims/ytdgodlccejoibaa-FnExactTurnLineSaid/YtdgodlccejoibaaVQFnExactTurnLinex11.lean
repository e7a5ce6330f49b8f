/- What the Go functions of this law compute, each as a Lean function, and that each call comes to that answer; written by a program of this session. No condition. -/
import Derived.Test.YtdgodlccejoibaaVQFnExactTurnLinex0
import Derived.Test.YtdgodlccejoibaaVQFnExactTurnLinex9
import Derived.Test.YtdgodlccejoibaaVQFnExactTurnLinex10
namespace Go.Proofs.Ytdgodlccejoibaa.QFnExactTurnLine
open Go.RowKit Go.Proofs.YtdgodlccejoibaaW.PrintWords Go.Proofs.YtdgodlccejoibaaW.PrintLast Go.Proofs.YtdgodlccejoibaaW.PrintMore
attribute [local go_sem] max2_int min2_int max_two min_two max_three min_three max_four min_four   -- for this text's walks alone
set_option linter.unusedVariables false
set_option linter.unusedSimpArgs false

/-! ### impl_TurnLine: function 34 -/
def impl_TurnLine.j0 : Nat → Bool → List (S44) → List Int → Option ((List (S44)) × List Int × Int)
 | 0, _, _, _ => none
 | k + 1, x15, x267000, x267001 => if x15 = true then (some (([] : List (S44)), ([] : List Int), 1)) else ((some (([] : List (S44)) : List (S44))).bind fun y270 => (if y270.length + x267000.length < 8796093022208 then ((some (([] : List Int) : List Int)).bind fun y276 => (if y276.length + x267001.length < 17592186044416 then ((impl_LinePiece.f k (y270 ++ x267000)).bind fun t283 => ((slices_Reverse_int64_int64.f k (y276 ++ x267001)).bind fun t284 => (some (t283, t284, 0)))) else (none))) else (none)))
def impl_TurnLine.f (k : Nat) (l0 : List (S68)) (l1_0 : List (S44)) (l1_1 : List Int) : Option ((List (S44)) × List Int × Int) := (impl_ValidJoins.f k l0).bind fun t268 => (if t268 = true then ((impl_validLine.f k l0 l1_0 l1_1).bind fun t269 => (impl_TurnLine.j0 k (!t269) l1_0 l1_1)) else (impl_TurnLine.j0 k true l1_0 l1_1))
theorem impl_TurnLine.mono_l : ∀ k, (∀ y0 y1 y2, LeO (impl_TurnLine.j0 k y0 y1 y2) (impl_TurnLine.j0 (k + 1) y0 y1 y2))
 | 0 => fun _ _ _ r h => by simp [impl_TurnLine.j0] at h
 | k + 1 => by
  have ih0 := impl_TurnLine.mono_l k
  ·
   intro y0 y1 y2
   unfold impl_TurnLine.j0
   repeat' first
   | (with_reducible exact ih0 _ _ _)
   | (with_reducible exact impl_LinePiece.mono _ _)
   | (with_reducible exact impl_ValidJoins.mono _ _)
   | (with_reducible exact impl_validLine.mono _ _ _ _)
   | (with_reducible exact slices_Reverse_int64_int64.mono _ _)
   | (with_reducible exact LeO.refl _)
   | (with_reducible exact LeO.none _)
   | (with_reducible refine LeO.ite ?_ ?_)
   | (with_reducible refine LeO.bind ?_ (fun _ => ?_))
   | exact ih0 _ _ _
   | exact impl_LinePiece.mono _ _
   | exact impl_ValidJoins.mono _ _
   | exact impl_validLine.mono _ _ _ _
   | exact slices_Reverse_int64_int64.mono _ _
   | exact LeO.none _
   | refine LeO.ite ?_ ?_
   | refine LeO.bind ?_ (fun _ => ?_)
theorem impl_TurnLine.mono : ∀ a0 a1 a2 k, LeO (impl_TurnLine.f k a0 a1 a2) (impl_TurnLine.f (k + 1) a0 a1 a2) := by
 intro a0 a1 a2 k
 have ih0 := impl_TurnLine.mono_l k
 unfold impl_TurnLine.f
 repeat' first
   | (with_reducible exact ih0 _ _ _)
   | (with_reducible exact impl_LinePiece.mono _ _)
   | (with_reducible exact impl_ValidJoins.mono _ _)
   | (with_reducible exact impl_validLine.mono _ _ _ _)
   | (with_reducible exact slices_Reverse_int64_int64.mono _ _)
   | (with_reducible exact LeO.refl _)
   | (with_reducible exact LeO.none _)
   | (with_reducible refine LeO.ite ?_ ?_)
   | (with_reducible refine LeO.bind ?_ (fun _ => ?_))
   | exact ih0 _ _ _
   | exact impl_LinePiece.mono _ _
   | exact impl_ValidJoins.mono _ _
   | exact impl_validLine.mono _ _ _ _
   | exact slices_Reverse_int64_int64.mono _ _
   | exact LeO.none _
   | refine LeO.ite ?_ ?_
   | refine LeO.bind ?_ (fun _ => ?_)
def impl_TurnLine.T3 : Bool × List (List Nat × List Nat) := (true, [([], []), ([], []), ([1], [1]), ([0, 2], [0, 2]), ([], []), ([], []), ([5], [5]), ([4, 6, 3], [4, 6]), ([3, 7], [3, 7]), ([], []), ([9, 8, 7, 0, 1, 2, 3, 4, 5, 6, 7, 8, 9], [8, 9])])
def impl_TurnLine.B3 : List Nat := [0, 0, 2, 7, 0, 0, 32, 127, 255, 0, 1023]
theorem impl_TurnLine.tab3 : rtab .any (opsOf Try.f34 3) = impl_TurnLine.T3 := by kernel_rfl
theorem impl_TurnLine.bits3 : waitsOk impl_TurnLine.T3.2 impl_TurnLine.B3 = true := by kernel_rfl
set_option maxHeartbeats 8000000 in
set_option maxRecDepth 100000 in
theorem impl_TurnLine.calls (k : Nat) (A0 : Option Addr) (c0 : Nat) (l0 : List (S68)) (A1_0 : Option Addr) (c1_0 : Nat) (l1_0 : List (S44)) (A1_1 : Option Addr) (c1_1 : Nat) (l1_1 : List Int) (r1 : List (S44)) (r2 : List Int) (r3 : Int) (w : World) (hr0 : Kd.C k68 w A0 l0.length l0) (hc0 : l0.length ≤ c0) (hr1_0 : Kd.C k44 w A1_0 l1_0.length l1_0) (hc1_0 : l1_0.length ≤ c1_0) (hr1_1 : Kd.C (Kd.int .i64) w A1_1 l1_1.length l1_1) (hc1_1 : l1_1.length ≤ c1_1) (h : impl_TurnLine.f k l0 l1_0 l1_1 = some (r1, r2, r3)) :
  Calls Try.prog 34 #[.slice A0 l0.length c0, .agg #[.slice A1_0 l1_0.length c1_0, .slice A1_1 l1_1.length c1_1]] w fun e w' => ∃ v0_ v1_ : Value, e = .returned (.tuple #[.agg #[v0_, v1_], .int .i64 r3]) ∧ Kd.R k44 44 w' w.heap.size (fun _ => True) v0_ r1 ∧ Kd.R (Kd.int .i64) 2 w' w.heap.size (fun _ => True) v1_ r2 ∧ Below w.heap.size w w' := by
 have hu37 := Try.underlying37
 have HR0 := aS hr0
 have HC0 := aS hc0
 clear hr0 hc0
 have HR1_0 := aS hr1_0
 have HC1_0 := aS hc1_0
 clear hr1_0 hc1_0
 have HR1_1 := aS hr1_1
 have HC1_1 := aS hc1_1
 clear hr1_1 hc1_1
 have HB := aS (Below.refl w.heap.size w)
 have H : ((impl_ValidJoins.f k l0).bind fun t268 => (if t268 = true then ((impl_validLine.f k l0 l1_0 l1_1).bind fun t269 => (impl_TurnLine.j0 k (!t269) l1_0 l1_1)) else (impl_TurnLine.j0 k true l1_0 l1_1))) = some (r1, r2, r3) := h
 clear h
 have HC3 := aS H
 clear H
 go_enter Try.func34, Try.ntmps34
 go_upto_region 1 with (first | ((with_reducible refine gate_dst (N := 3) rfl ?_); refine box_event ?hg (N := 3) ?hd (cs := #[.slice A1_0 l1_0.length c1_0, .slice A1_1 l1_1.length c1_1]) (t := 37) ?hr ?_; (case hd => rfl); (case hg => rfl); (case hr => first | (go_simp; done) | (go_simp; rfl)); intro gb266 hg w4 hbox hb; have n0_ := aS (below_step (sW HB.out) hb); have n1_ := aS (hbox); have n2_ := aS ((by rw [hg]; exact (below_size (sW HB.out)) : w.heap.size ≤ gb266)); have n3_ := aS ((by rw [hg]; exact (below_size (sW HB.out)) : w.heap.size ≤ gb266)); clear HB; have HB := n0_; have BK266 := n1_; have GW266 := n2_; have GE266 := n3_; clear n0_ n1_ n2_ n3_; clear hb hbox hg) | ((with_reducible refine gate_dst (N := 4) rfl ?_); refine box_event ?hg (N := 4) ?hd (cs := #[.slice none 0 0, .slice none 0 0]) (t := 37) ?hr ?_; (case hd => rfl); (case hg => rfl); (case hr => first | (go_simp; done) | (go_simp; rfl)); intro gb267 hg w5 hbox hb; have n0_ := aS (blk_below (g := gb266) (o := .cells #[.slice A1_0 l1_0.length c1_0, .slice A1_1 l1_1.length c1_1] 37 (0, 0)) (sB BK266.out) hb); have n1_ := aS (below_step (sW HB.out) hb); have n2_ := aS (hbox); have n3_ := aS ((by rw [hg]; exact (below_size (sW HB.out)) : w.heap.size ≤ gb267)); have n4_ := aS ((by rw [hg]; exact (below_size (sW HB.out)) : w.heap.size ≤ gb267)); have n5_ := aS ((by rw [hg]; exact Nat.ne_of_lt (blk_lt (g := gb266) (o := .cells #[.slice A1_0 l1_0.length c1_0, .slice A1_1 l1_1.length c1_1] 37 (0, 0)) (sB BK266.out)) : gb266 ≠ gb267)); have n6_ := aS ((by rw [hg]; exact Nat.ne_of_gt (blk_lt (g := gb266) (o := .cells #[.slice A1_0 l1_0.length c1_0, .slice A1_1 l1_1.length c1_1] 37 (0, 0)) (sB BK266.out)) : gb267 ≠ gb266)); clear BK266 HB; have BK266 := n0_; have HB := n1_; have BK267 := n2_; have GW267 := n3_; have GE267 := n4_; have NB266_267 := n5_; have NB267_266 := n6_; clear n0_ n1_ n2_ n3_ n4_ n5_ n6_; clear hb hbox hg))
 (try simp only [Act.put, List.setIfInBounds_toArray, List.set_cons_zero, List.set_cons_succ])
 go_cut [15] (fun v15 wc => ∃ (kq : Nat) (x15_2 : Bool), v15 = .bool x15_2 ∧ Aside0 (impl_TurnLine.j0 kq x15_2 l1_0 l1_1 = some (r1, r2, r3)) ∧ Aside0 (kq ≤ k) ∧ Aside0 (wc.heap[gb266]? = some (.cells #[(.slice A1_0 l1_0.length c1_0), (.slice A1_1 l1_1.length c1_1)] 37 (0, 0))) ∧ Aside0 (wc.heap[gb267]? = some (.cells #[(.slice none 0 0), (.slice none 0 0)] 37 (0, 0))) ∧ Aside0 (Below w.heap.size w wc))
 case first =>
  have H := HC3.out
  clear HC3
  replace H := Option.bind_eq_some_iff.mp H
  obtain ⟨t268, A60, H⟩ := H
  replace H : (if t268 = true then ((impl_validLine.f k l0 l1_0 l1_1).bind fun t269 => (impl_TurnLine.j0 k (!t269) l1_0 l1_1)) else (impl_TurnLine.j0 k true l1_0 l1_1)) = some (r1, r2, r3) := H
  have A6 := aS A60
  clear A60
  by_cases c7 : t268 = true
  ·
   subst c7
   have H1 : ((impl_validLine.f k l0 l1_0 l1_1).bind fun t269 => (impl_TurnLine.j0 k (!t269) l1_0 l1_1)) = some (r1, r2, r3) := by rw [if_pos rfl] at H; exact H
   clear H
   have H := H1
   clear H1
   replace H := Option.bind_eq_some_iff.mp H
   obtain ⟨t269, A80, H⟩ := H
   replace H : (impl_TurnLine.j0 k (!t269) l1_0 l1_1) = some (r1, r2, r3) := H
   have A8 := aS A80
   clear A80
   have H' := aS H
   clear H
   go_wp2_with (first | ((with_reducible refine gate_callee (f := 16) rfl ?_); refine goesL_ (some 8) rfl rfl Try.func16 (by kernel_rfl) rfl #[.slice A0 l0.length c0] rfl sG ?_; (with_reducible refine (impl_ValidJoins.calls k _ _ l0 true _ ?side1 ?side2 A6.out).mono ?_); (case side1 => exact sC (Kd.C_below HR0.out HB.out)); (case side2 => exact HC0.out); rintro e w9 ⟨rfl, hb⟩; refine ⟨_, rfl, ?_⟩; have n0_ := aS (blk_below (g := gb266) (o := .cells #[.slice A1_0 l1_0.length c1_0, .slice A1_1 l1_1.length c1_1] 37 (0, 0)) (sB BK266.out) hb); have n1_ := aS (blk_below (g := gb267) (o := .cells #[.slice none 0 0, .slice none 0 0] 37 (0, 0)) (sB BK267.out) hb); have n2_ := aS (below_step (sW HB.out) hb); clear BK266 BK267 HB; have BK266 := n0_; have BK267 := n1_; have HB := n2_; clear n0_ n1_ n2_; (try clear hb); (try clear hb2); (try clear hk); (try clear hi); have hnb10 := NB266_267.out; have hnc10 := NB267_266.out; have hcz11_0 : w9.cell? ⟨gb266, 0, none⟩ = some (.slice A1_0 l1_0.length c1_0) := (blk_cell BK266.out 0).trans rfl; have hcz11_1 : w9.cell? ⟨gb266, 1, none⟩ = some (.slice A1_1 l1_1.length c1_1) := (blk_cell BK266.out 1).trans rfl; have hfz11_0 := blk_frozen BK266.out 0; have hfz11_1 := blk_frozen BK266.out 1) | (go_at_call 67; (with_reducible refine (impl_validLine.calls k _ _ l0 _ _ l1_0 _ _ l1_1 t269 _ ?side1 ?side2 ?side3 ?side4 ?side5 ?side6 A8.out).mono ?_); (case side1 => exact sC (Kd.C_below HR0.out HB.out)); (case side2 => exact HC0.out); (case side3 => exact sC (Kd.C_below HR1_0.out HB.out)); (case side4 => exact HC1_0.out); (case side5 => exact sC (Kd.C_below HR1_1.out HB.out)); (case side6 => exact HC1_1.out); rintro e w12 ⟨rfl, hb⟩; have n0_ := aS (blk_below (g := gb266) (o := .cells #[.slice A1_0 l1_0.length c1_0, .slice A1_1 l1_1.length c1_1] 37 (0, 0)) (sB BK266.out) hb); have n1_ := aS (blk_below (g := gb267) (o := .cells #[.slice none 0 0, .slice none 0 0] 37 (0, 0)) (sB BK267.out) hb); have n2_ := aS (below_step (sW HB.out) hb); clear BK266 BK267 HB; have BK266 := n0_; have BK267 := n1_; have HB := n2_; clear n0_ n1_ n2_; (try clear hb); (try clear hb2); (try clear hk); (try clear hi)))
   go_meet
   case rel => exact ⟨_, (!t269), (by first | rfl | (simp; done) | (simp [*]; done) | (simp only [i64_w]; done) | (simp [i64_w]; done)), H', ⟨by first | omega | exact Nat.le_refl _⟩, ⟨by (with_reducible repeat (first | refine blk_drewN ?_ _ | refine blk_drew ?_ | refine blk_alloc ?_ _)); exact BK266.out⟩, ⟨by (with_reducible repeat (first | refine blk_drewN ?_ _ | refine blk_drew ?_ | refine blk_alloc ?_ _)); exact BK267.out⟩, ⟨by repeat (first | (with_reducible first | exact HB.out | apply below_alloc | apply pw_below_drewN | apply below_drew1 | refine below_set ?_ GE266.out | refine below_set ?_ GE267.out) | exact HB.out)⟩⟩
  ·
   replace c7 := Bool.eq_false_iff.mpr c7
   subst c7
   have H1 : (impl_TurnLine.j0 k true l1_0 l1_1) = some (r1, r2, r3) := by rw [if_neg (show ¬ (false = true) by decide)] at H; exact H
   clear H
   have H := H1
   clear H1
   have H' := aS H
   clear H
   go_wp2_with (first | ((with_reducible refine gate_callee (f := 16) rfl ?_); refine goesL_ (some 8) rfl rfl Try.func16 (by kernel_rfl) rfl #[.slice A0 l0.length c0] rfl sG ?_; (with_reducible refine (impl_ValidJoins.calls k _ _ l0 false _ ?side1 ?side2 A6.out).mono ?_); (case side1 => exact sC (Kd.C_below HR0.out HB.out)); (case side2 => exact HC0.out); rintro e w13 ⟨rfl, hb⟩; refine ⟨_, rfl, ?_⟩; have n0_ := aS (blk_below (g := gb266) (o := .cells #[.slice A1_0 l1_0.length c1_0, .slice A1_1 l1_1.length c1_1] 37 (0, 0)) (sB BK266.out) hb); have n1_ := aS (blk_below (g := gb267) (o := .cells #[.slice none 0 0, .slice none 0 0] 37 (0, 0)) (sB BK267.out) hb); have n2_ := aS (below_step (sW HB.out) hb); clear BK266 BK267 HB; have BK266 := n0_; have BK267 := n1_; have HB := n2_; clear n0_ n1_ n2_; (try clear hb); (try clear hb2); (try clear hk); (try clear hi)))
   go_meet
   case rel => exact ⟨_, (true), (by first | rfl | (simp; done) | (simp [*]; done) | (simp only [i64_w]; done) | (simp [i64_w]; done)), H', ⟨by first | omega | exact Nat.le_refl _⟩, ⟨by (with_reducible repeat (first | refine blk_drewN ?_ _ | refine blk_drew ?_ | refine blk_alloc ?_ _)); exact BK266.out⟩, ⟨by (with_reducible repeat (first | refine blk_drewN ?_ _ | refine blk_drew ?_ | refine blk_alloc ?_ _)); exact BK267.out⟩, ⟨by repeat (first | (with_reducible first | exact HB.out | apply below_alloc | apply pw_below_drewN | apply below_drew1 | refine below_set ?_ GE266.out | refine below_set ?_ GE267.out) | exact HB.out)⟩⟩
 case rest =>
  clear HC3
  (try clear c1); (try clear p2); (try clear c3); (try clear c7); (try clear c10); (try clear hcz11_0); (try clear hcz11_1); (try clear hfz11_0); (try clear hfz11_1)
  obtain ⟨kq, x15_2, rfl, HA, HJ2, BK266, BK267, HB⟩ := hcut
  cases kq with
  | zero => exact absurd HA.out (by simp [impl_TurnLine.j0])
  | succ kj2 =>
   have H := HA.out
   clear HA
   simp only [impl_TurnLine.j0] at H
   by_cases c14 : x15_2 = true
   ·
    subst c14
    have H1 : (some (([] : List (S44)), ([] : List Int), 1)) = some (r1, r2, r3) := by rw [if_pos rfl] at H; exact H
    clear H
    have H := H1
    clear H1
    simp only [Option.some.injEq, Prod.mk.injEq] at H
    obtain ⟨rfl, rfl, rfl⟩ := H
    have hnb15 := NB267_266.out
    have hnc15 := NB266_267.out
    have hcz16_0 : wc.cell? ⟨gb267, 0, none⟩ = some (.slice none 0 0) := (blk_cell BK267.out 0).trans rfl
    have hcz16_1 : wc.cell? ⟨gb267, 1, none⟩ = some (.slice none 0 0) := (blk_cell BK267.out 1).trans rfl
    have hfz16_0 := blk_frozen BK267.out 0
    have hfz16_1 := blk_frozen BK267.out 1
    go_wp2
    refine bodyPost_ret (results_ct rfl _ _ gb267 37 #[.slice none 0 0, .slice none 0 0] (0, 0) _ rfl (by (with_reducible repeat (first | refine blk_drewN ?_ _ | refine blk_drew ?_ | refine blk_alloc ?_ _)); refine blk_put (cs := #[.slice none 0 0, .slice none 0 0]) ?_ 1 _ rfl; (with_reducible repeat (first | refine blk_drewN ?_ _ | refine blk_drew ?_ | refine blk_alloc ?_ _)); refine blk_put (cs := #[.slice none 0 0, .slice none 0 0]) ?_ 0 _ rfl; (with_reducible repeat (first | refine blk_drewN ?_ _ | refine blk_drew ?_ | refine blk_alloc ?_ _)); exact BK267.out) Try.underlying37 rfl (by kernel_rfl)) rfl ?_
    exact ⟨_, _, by first | rfl | (simp [errW_none, errW_some, i64_w]; done) | (simp [errW_none, errW_some] <;> rfl) | (simp [*, errW_none, errW_some] <;> rfl), by first | exact Kd.R_nil _ _ _ _ _ | exact Kd.N_nil _ _ _ _ _ | exact Kd.V_nil _ _ _ _ _ | exact Kd.Q_nil _ _ _ _ _ | exact Kd.S_nil _ _ _ _ _, by first | exact Kd.R_nil _ _ _ _ _ | exact Kd.N_nil _ _ _ _ _ | exact Kd.V_nil _ _ _ _ _ | exact Kd.Q_nil _ _ _ _ _ | exact Kd.S_nil _ _ _ _ _, by repeat (first | (with_reducible first | exact HB.out | apply below_alloc | apply pw_below_drewN | apply below_drew1 | refine below_set ?_ GE266.out | refine below_set ?_ GE267.out) | exact HB.out)⟩
   ·
    replace c14 := Bool.eq_false_iff.mpr c14
    subst c14
    have H1 : ((some (([] : List (S44)) : List (S44))).bind fun y270 => (if y270.length + l1_0.length < 8796093022208 then ((some (([] : List Int) : List Int)).bind fun y276 => (if y276.length + l1_1.length < 17592186044416 then ((impl_LinePiece.f kj2 (y270 ++ l1_0)).bind fun t283 => ((slices_Reverse_int64_int64.f kj2 (y276 ++ l1_1)).bind fun t284 => (some (t283, t284, 0)))) else (none))) else (none))) = some (r1, r2, r3) := by rw [if_neg (show ¬ (false = true) by decide)] at H; exact H
    clear H
    have H := H1
    clear H1
    obtain ⟨y270, hy270⟩ : ∃ y_ : List (S44), y_ = (([] : List (S44))) := ⟨_, rfl⟩
    replace H : (if y270.length + l1_0.length < 8796093022208 then ((some (([] : List Int) : List Int)).bind fun y276 => (if y276.length + l1_1.length < 17592186044416 then ((impl_LinePiece.f kj2 (y270 ++ l1_0)).bind fun t283 => ((slices_Reverse_int64_int64.f kj2 (y276 ++ l1_1)).bind fun t284 => (some (t283, t284, 0)))) else (none))) else (none)) = some (r1, r2, r3) := by first | (rw [hy270]; with_reducible exact H) | (have H2_ := (Option.bind_some _ _).symm.trans H; rw [hy270]; with_reducible exact H2_) | (have H2_ := (Option.bind_some _ _).symm.trans H; with_reducible exact H2_) | with_reducible exact H | (rw [hy270]; exact H) | exact H
    have Ny270 := aS hy270
    clear hy270
    by_cases c17 : y270.length + l1_0.length < 8796093022208
    ·
     rw [if_pos c17] at H
     have LMc17 := aS c17
     clear c17
     obtain ⟨y273, hy273⟩ : ∃ y_ : List (S44), y_ = (y270 ++ l1_0) := ⟨_, rfl⟩
     replace H : ((some (([] : List Int) : List Int)).bind fun y276 => (if y276.length + l1_1.length < 17592186044416 then ((impl_LinePiece.f kj2 y273).bind fun t283 => ((slices_Reverse_int64_int64.f kj2 (y276 ++ l1_1)).bind fun t284 => (some (t283, t284, 0)))) else (none))) = some (r1, r2, r3) := by first | (rw [hy273]; with_reducible exact H) | (have H2_ := (Option.bind_some _ _).symm.trans H; rw [hy273]; with_reducible exact H2_) | (have H2_ := (Option.bind_some _ _).symm.trans H; with_reducible exact H2_) | with_reducible exact H | (rw [hy273]; exact H) | exact H
     have Ny273 := aS hy273
     clear hy273
     obtain ⟨y276, hy276⟩ : ∃ y_ : List Int, y_ = (([] : List Int)) := ⟨_, rfl⟩
     replace H : (if y276.length + l1_1.length < 17592186044416 then ((impl_LinePiece.f kj2 y273).bind fun t283 => ((slices_Reverse_int64_int64.f kj2 (y276 ++ l1_1)).bind fun t284 => (some (t283, t284, 0)))) else (none)) = some (r1, r2, r3) := by first | (rw [hy276]; with_reducible exact H) | (have H2_ := (Option.bind_some _ _).symm.trans H; rw [hy276]; with_reducible exact H2_) | (have H2_ := (Option.bind_some _ _).symm.trans H; with_reducible exact H2_) | with_reducible exact H | (rw [hy276]; exact H) | exact H
     have Ny276 := aS hy276
     clear hy276
     by_cases c18 : y276.length + l1_1.length < 17592186044416
     ·
      rw [if_pos c18] at H
      have LMc18 := aS c18
      clear c18
      obtain ⟨y279, hy279⟩ : ∃ y_ : List Int, y_ = (y276 ++ l1_1) := ⟨_, rfl⟩
      replace H : ((impl_LinePiece.f kj2 y273).bind fun t283 => ((slices_Reverse_int64_int64.f kj2 y279).bind fun t284 => (some (t283, t284, 0)))) = some (r1, r2, r3) := by first | (rw [hy279]; with_reducible exact H) | (have H2_ := (Option.bind_some _ _).symm.trans H; rw [hy279]; with_reducible exact H2_) | (have H2_ := (Option.bind_some _ _).symm.trans H; with_reducible exact H2_) | with_reducible exact H | (rw [hy279]; exact H) | exact H
      have Ny279 := aS hy279
      clear hy279
      replace H := Option.bind_eq_some_iff.mp H
      obtain ⟨t283, A190, H⟩ := H
      replace H : ((slices_Reverse_int64_int64.f kj2 y279).bind fun t284 => (some (t283, t284, 0))) = some (r1, r2, r3) := H
      have A19 := aS A190
      clear A190
      replace H := Option.bind_eq_some_iff.mp H
      obtain ⟨t284, A200, H⟩ := H
      replace H : (some (t283, t284, 0)) = some (r1, r2, r3) := H
      have A20 := aS A200
      clear A200
      simp only [Option.some.injEq, Prod.mk.injEq] at H
      obtain ⟨rfl, rfl, rfl⟩ := H
      try go_wp2
      have n0_ := aS (blk_drew BK266.out)
      have n1_ := aS (blk_drew BK267.out)
      have n2_ := aS (below_drew1 HB.out)
      clear BK266 BK267 HB
      have BK266 := n0_; have BK267 := n1_; have HB := n2_
      clear n0_ n1_ n2_
      refine start_ (n := 11) (S := fun w' => w'.cell? ⟨gb266, 0, none⟩ = some (.slice A1_0 l1_0.length c1_0) ∧ w'.cell? ⟨gb266, 1, none⟩ = some (.slice A1_1 l1_1.length c1_1)) (ds := []) #[false, false, false, false, false, false, false, false, false, false, false] (by kernel_rfl) rfl rfl ⟨(blk_cell BK266.out 0).trans rfl, (blk_cell BK266.out 1).trans rfl⟩ (fun hHeld => ?_); refine with_tabW impl_TurnLine.tab3 impl_TurnLine.bits3 (fun HT_ HW_ => ?_)
      generalize wc.drew = w21 at BK266 BK267 HB hHeld ⊢
      refine pure_ (i := 1) (N := some 18) (v := ?_) (a' := ?_) #[false, true, false, false, false, false, false, false, false, false, false] rfl rfl (any_of HT_.out (by kernel_rfl)) (fun _ _ _ h => h) (Or.inl ⟨by rfl, ?_⟩) ?_ ?_
      rotate_left
      ·
       intro w'
       go_simp
       with_reducible rfl
      rotate_left
      ·
       simp only [Act.put, List.setIfInBounds_toArray, List.set_cons_zero, List.set_cons_succ, i64_w, i32_w]
       rfl
      refine pure_ (i := 5) (N := some 22) (v := ?_) (a' := ?_) #[false, true, false, false, false, true, false, false, false, false, false] rfl rfl (any_of HT_.out (by kernel_rfl)) (fun _ _ _ h => h) (Or.inl ⟨by rfl, ?_⟩) ?_ ?_
      rotate_left
      ·
       intro w'
       go_simp
       with_reducible rfl
      rotate_left
      ·
       simp only [Act.put, List.setIfInBounds_toArray, List.set_cons_zero, List.set_cons_succ, i64_w, i32_w]
       rfl
      refine take_ (i := 2) (N := some 19) (v := ?_) (a' := ?_) #[false, true, true, false, false, true, false, false, false, false, false] rfl rfl (take_ofW HT_.out HW_.out (by kernel_rfl)) (fun _ _ _ h => h) (Or.inl ⟨by rfl, ?_⟩) hHeld ?_ ?_
      rotate_left
      ·
       rintro w' ⟨s0, s1⟩
       go_simp
       with_reducible rfl
      rotate_left
      ·
       simp only [Act.put, List.setIfInBounds_toArray, List.set_cons_zero, List.set_cons_succ, i64_w, i32_w]
       rfl
      refine take_ (i := 6) (N := some 23) (v := ?_) (a' := ?_) #[false, true, true, false, false, true, true, false, false, false, false] rfl rfl (take_ofW HT_.out HW_.out (by kernel_rfl)) (fun _ _ _ h => h) (Or.inl ⟨by rfl, ?_⟩) hHeld ?_ ?_
      rotate_left
      ·
       rintro w' ⟨s0, s1⟩
       go_simp
       with_reducible rfl
      rotate_left
      ·
       simp only [Act.put, List.setIfInBounds_toArray, List.set_cons_zero, List.set_cons_succ, i64_w, i32_w]
       rfl
      refine join_ (σ := Value × Value × Value × Value × Nat) 1 #[true, true, true, true, true, true, true, true, true, true, false] (fun s_ => [(17, s_.1), (20, s_.2.1), (21, s_.2.2.1), (24, s_.2.2.2.1), (6, .pointer (some ⟨s_.2.2.2.2, 0, none⟩)), (25, .agg #[s_.2.1, s_.2.2.2.1])]) (fun s_ w' => (w'.cell? ⟨gb266, 0, none⟩ = some (.slice A1_0 l1_0.length c1_0) ∧ w'.cell? ⟨gb266, 1, none⟩ = some (.slice A1_1 l1_1.length c1_1)) ∧ (Kd.R k44 44 w' w.heap.size (fun _ => True) s_.2.1 y273) ∧ (Kd.R (Kd.int .i64) 2 w' w.heap.size (fun _ => True) s_.2.2.2.1 y279) ∧ (w'.heap[gb266]? = some (.cells #[.slice A1_0 l1_0.length c1_0, .slice A1_1 l1_1.length c1_1] 37 (0, 0))) ∧ (w'.heap[gb267]? = some (.cells #[.slice none 0 0, .slice none 0 0] 37 (0, 0))) ∧ (w'.heap[s_.2.2.2.2]? = some (.cells #[.slice none 0 0, .slice none 0 0] 37 (0, 0))) ∧ (w.heap.size ≤ s_.2.2.2.2) ∧ (w.heap.size ≤ s_.2.2.2.2) ∧ (gb266 ≠ s_.2.2.2.2) ∧ (s_.2.2.2.2 ≠ gb266) ∧ (gb267 ≠ s_.2.2.2.2) ∧ (s_.2.2.2.2 ≠ gb267) ∧ (Below w.heap.size w w')) ?_ ?_
      rotate_left
      ·
       intro hJ0_3_4_7_9
       refine join_ (σ := Value × Value × Value × Value) 2 #[true, true, true, true, true, true, true, true, true, false, false] (fun s_ => [(17, s_.1), (20, s_.2.1), (21, s_.2.2.1), (24, s_.2.2.2), (25, .agg #[s_.2.1, s_.2.2.2])]) (fun s_ w' => (w'.cell? ⟨gb266, 0, none⟩ = some (.slice A1_0 l1_0.length c1_0) ∧ w'.cell? ⟨gb266, 1, none⟩ = some (.slice A1_1 l1_1.length c1_1)) ∧ (Kd.R k44 44 w' w.heap.size (fun _ => True) s_.2.1 y273) ∧ (Kd.R (Kd.int .i64) 2 w' w.heap.size (fun _ => True) s_.2.2.2 y279) ∧ (w'.heap[gb266]? = some (.cells #[.slice A1_0 l1_0.length c1_0, .slice A1_1 l1_1.length c1_1] 37 (0, 0))) ∧ (w'.heap[gb267]? = some (.cells #[.slice none 0 0, .slice none 0 0] 37 (0, 0))) ∧ (Below w.heap.size w w')) ?_ ?_
       rotate_left
       ·
        intro hJ0_3_4_7
        refine join_ (σ := Value × Value × Value × Nat) 3 #[true, true, true, true, true, true, true, false, false, true, false] (fun s_ => [(17, s_.1), (20, s_.2.1), (21, s_.2.2.1), (6, .pointer (some ⟨s_.2.2.2, 0, none⟩))]) (fun s_ w' => (w'.cell? ⟨gb266, 0, none⟩ = some (.slice A1_0 l1_0.length c1_0) ∧ w'.cell? ⟨gb266, 1, none⟩ = some (.slice A1_1 l1_1.length c1_1)) ∧ (Kd.R k44 44 w' w.heap.size (fun _ => True) s_.2.1 y273) ∧ (Kd.R (Kd.int .i64) 2 w' w.heap.size (fun _ => True) s_.2.2.1 y276) ∧ (w'.heap[gb266]? = some (.cells #[.slice A1_0 l1_0.length c1_0, .slice A1_1 l1_1.length c1_1] 37 (0, 0))) ∧ (w'.heap[gb267]? = some (.cells #[.slice none 0 0, .slice none 0 0] 37 (0, 0))) ∧ (w'.heap[s_.2.2.2]? = some (.cells #[.slice none 0 0, .slice none 0 0] 37 (0, 0))) ∧ (w.heap.size ≤ s_.2.2.2) ∧ (w.heap.size ≤ s_.2.2.2) ∧ (gb266 ≠ s_.2.2.2) ∧ (s_.2.2.2 ≠ gb266) ∧ (gb267 ≠ s_.2.2.2) ∧ (s_.2.2.2 ≠ gb267) ∧ (Below w.heap.size w w')) ?_ ?_
        rotate_left
        ·
         intro hJ0_3_4_9
         refine join_ (σ := Value × Value × Value) 4 #[true, true, true, true, true, true, true, false, false, false, false] (fun s_ => [(17, s_.1), (20, s_.2.1), (21, s_.2.2)]) (fun s_ w' => (w'.cell? ⟨gb266, 0, none⟩ = some (.slice A1_0 l1_0.length c1_0) ∧ w'.cell? ⟨gb266, 1, none⟩ = some (.slice A1_1 l1_1.length c1_1)) ∧ (Kd.R k44 44 w' w.heap.size (fun _ => True) s_.2.1 y273) ∧ (Kd.R (Kd.int .i64) 2 w' w.heap.size (fun _ => True) s_.2.2 y276) ∧ (w'.heap[gb266]? = some (.cells #[.slice A1_0 l1_0.length c1_0, .slice A1_1 l1_1.length c1_1] 37 (0, 0))) ∧ (w'.heap[gb267]? = some (.cells #[.slice none 0 0, .slice none 0 0] 37 (0, 0))) ∧ (Below w.heap.size w w')) ?_ ?_
         rotate_left
         ·
          intro hJ0_3_4
          refine join_ (σ := Value × Value × Nat) 4 #[true, true, true, true, false, true, true, false, false, true, false] (fun s_ => [(17, s_.1), (20, s_.2.1), (6, .pointer (some ⟨s_.2.2, 0, none⟩))]) (fun s_ w' => (w'.cell? ⟨gb266, 0, none⟩ = some (.slice A1_0 l1_0.length c1_0) ∧ w'.cell? ⟨gb266, 1, none⟩ = some (.slice A1_1 l1_1.length c1_1)) ∧ (Kd.R k44 44 w' w.heap.size (fun _ => True) s_.2.1 y273) ∧ (w'.heap[gb266]? = some (.cells #[.slice A1_0 l1_0.length c1_0, .slice A1_1 l1_1.length c1_1] 37 (0, 0))) ∧ (w'.heap[gb267]? = some (.cells #[.slice none 0 0, .slice none 0 0] 37 (0, 0))) ∧ (w'.heap[s_.2.2]? = some (.cells #[.slice none 0 0, .slice none 0 0] 37 (0, 0))) ∧ (w.heap.size ≤ s_.2.2) ∧ (w.heap.size ≤ s_.2.2) ∧ (gb266 ≠ s_.2.2) ∧ (s_.2.2 ≠ gb266) ∧ (gb267 ≠ s_.2.2) ∧ (s_.2.2 ≠ gb267) ∧ (Below w.heap.size w w')) ?_ ?_
          rotate_left
          ·
           intro hJ0_3_9
           refine join_ (σ := Value × Value × Nat) 4 #[true, true, true, false, true, true, true, false, false, true, false] (fun s_ => [(17, s_.1), (21, s_.2.1), (6, .pointer (some ⟨s_.2.2, 0, none⟩))]) (fun s_ w' => (w'.cell? ⟨gb266, 0, none⟩ = some (.slice A1_0 l1_0.length c1_0) ∧ w'.cell? ⟨gb266, 1, none⟩ = some (.slice A1_1 l1_1.length c1_1)) ∧ (Kd.R k44 44 w' w.heap.size (fun _ => True) s_.1 y270) ∧ (Kd.R (Kd.int .i64) 2 w' w.heap.size (fun _ => True) s_.2.1 y276) ∧ (w'.heap[gb266]? = some (.cells #[.slice A1_0 l1_0.length c1_0, .slice A1_1 l1_1.length c1_1] 37 (0, 0))) ∧ (w'.heap[gb267]? = some (.cells #[.slice none 0 0, .slice none 0 0] 37 (0, 0))) ∧ (w'.heap[s_.2.2]? = some (.cells #[.slice none 0 0, .slice none 0 0] 37 (0, 0))) ∧ (w.heap.size ≤ s_.2.2) ∧ (w.heap.size ≤ s_.2.2) ∧ (gb266 ≠ s_.2.2) ∧ (s_.2.2 ≠ gb266) ∧ (gb267 ≠ s_.2.2) ∧ (s_.2.2 ≠ gb267) ∧ (Below w.heap.size w w')) ?_ ?_
           rotate_left
           ·
            intro hJ0_4_9
            refine join_ (σ := Value × Value) 5 #[true, true, true, true, false, true, true, false, false, false, false] (fun s_ => [(17, s_.1), (20, s_.2)]) (fun s_ w' => (w'.cell? ⟨gb266, 0, none⟩ = some (.slice A1_0 l1_0.length c1_0) ∧ w'.cell? ⟨gb266, 1, none⟩ = some (.slice A1_1 l1_1.length c1_1)) ∧ (Kd.R k44 44 w' w.heap.size (fun _ => True) s_.2 y273) ∧ (w'.heap[gb266]? = some (.cells #[.slice A1_0 l1_0.length c1_0, .slice A1_1 l1_1.length c1_1] 37 (0, 0))) ∧ (w'.heap[gb267]? = some (.cells #[.slice none 0 0, .slice none 0 0] 37 (0, 0))) ∧ (Below w.heap.size w w')) ?_ ?_
            rotate_left
            ·
             intro hJ0_3
             refine join_ (σ := Value × Value) 5 #[true, true, true, false, true, true, true, false, false, false, false] (fun s_ => [(17, s_.1), (21, s_.2)]) (fun s_ w' => (w'.cell? ⟨gb266, 0, none⟩ = some (.slice A1_0 l1_0.length c1_0) ∧ w'.cell? ⟨gb266, 1, none⟩ = some (.slice A1_1 l1_1.length c1_1)) ∧ (Kd.R k44 44 w' w.heap.size (fun _ => True) s_.1 y270) ∧ (Kd.R (Kd.int .i64) 2 w' w.heap.size (fun _ => True) s_.2 y276) ∧ (w'.heap[gb266]? = some (.cells #[.slice A1_0 l1_0.length c1_0, .slice A1_1 l1_1.length c1_1] 37 (0, 0))) ∧ (w'.heap[gb267]? = some (.cells #[.slice none 0 0, .slice none 0 0] 37 (0, 0))) ∧ (Below w.heap.size w w')) ?_ ?_
             rotate_left
             ·
              intro hJ0_4
              refine join_ (σ := Value × Nat) 5 #[true, true, true, false, false, true, true, false, false, true, false] (fun s_ => [(17, s_.1), (6, .pointer (some ⟨s_.2, 0, none⟩))]) (fun s_ w' => (w'.cell? ⟨gb266, 0, none⟩ = some (.slice A1_0 l1_0.length c1_0) ∧ w'.cell? ⟨gb266, 1, none⟩ = some (.slice A1_1 l1_1.length c1_1)) ∧ (Kd.R k44 44 w' w.heap.size (fun _ => True) s_.1 y270) ∧ (w'.heap[gb266]? = some (.cells #[.slice A1_0 l1_0.length c1_0, .slice A1_1 l1_1.length c1_1] 37 (0, 0))) ∧ (w'.heap[gb267]? = some (.cells #[.slice none 0 0, .slice none 0 0] 37 (0, 0))) ∧ (w'.heap[s_.2]? = some (.cells #[.slice none 0 0, .slice none 0 0] 37 (0, 0))) ∧ (w.heap.size ≤ s_.2) ∧ (w.heap.size ≤ s_.2) ∧ (gb266 ≠ s_.2) ∧ (s_.2 ≠ gb266) ∧ (gb267 ≠ s_.2) ∧ (s_.2 ≠ gb267) ∧ (Below w.heap.size w w')) ?_ ?_
              rotate_left
              ·
               intro hJ0_9
               refine join_ (σ := Value × Nat) 5 #[false, true, true, false, true, true, true, false, false, true, false] (fun s_ => [(21, s_.1), (6, .pointer (some ⟨s_.2, 0, none⟩))]) (fun s_ w' => (w'.cell? ⟨gb266, 0, none⟩ = some (.slice A1_0 l1_0.length c1_0) ∧ w'.cell? ⟨gb266, 1, none⟩ = some (.slice A1_1 l1_1.length c1_1)) ∧ (Kd.R (Kd.int .i64) 2 w' w.heap.size (fun _ => True) s_.1 y276) ∧ (w'.heap[gb266]? = some (.cells #[.slice A1_0 l1_0.length c1_0, .slice A1_1 l1_1.length c1_1] 37 (0, 0))) ∧ (w'.heap[gb267]? = some (.cells #[.slice none 0 0, .slice none 0 0] 37 (0, 0))) ∧ (w'.heap[s_.2]? = some (.cells #[.slice none 0 0, .slice none 0 0] 37 (0, 0))) ∧ (w.heap.size ≤ s_.2) ∧ (w.heap.size ≤ s_.2) ∧ (gb266 ≠ s_.2) ∧ (s_.2 ≠ gb266) ∧ (gb267 ≠ s_.2) ∧ (s_.2 ≠ gb267) ∧ (Below w.heap.size w w')) ?_ ?_
               rotate_left
               ·
                intro hJ4_9
                refine join_ (σ := Value) 6 #[true, true, true, false, false, true, true, false, false, false, false] (fun s_ => [(17, s_)]) (fun s_ w' => (w'.cell? ⟨gb266, 0, none⟩ = some (.slice A1_0 l1_0.length c1_0) ∧ w'.cell? ⟨gb266, 1, none⟩ = some (.slice A1_1 l1_1.length c1_1)) ∧ (Kd.R k44 44 w' w.heap.size (fun _ => True) s_ y270) ∧ (w'.heap[gb266]? = some (.cells #[.slice A1_0 l1_0.length c1_0, .slice A1_1 l1_1.length c1_1] 37 (0, 0))) ∧ (w'.heap[gb267]? = some (.cells #[.slice none 0 0, .slice none 0 0] 37 (0, 0))) ∧ (Below w.heap.size w w')) ?_ ?_
                rotate_left
                ·
                 intro hJ0
                 refine join_ (σ := Value) 6 #[false, true, true, false, true, true, true, false, false, false, false] (fun s_ => [(21, s_)]) (fun s_ w' => (w'.cell? ⟨gb266, 0, none⟩ = some (.slice A1_0 l1_0.length c1_0) ∧ w'.cell? ⟨gb266, 1, none⟩ = some (.slice A1_1 l1_1.length c1_1)) ∧ (Kd.R (Kd.int .i64) 2 w' w.heap.size (fun _ => True) s_ y276) ∧ (w'.heap[gb266]? = some (.cells #[.slice A1_0 l1_0.length c1_0, .slice A1_1 l1_1.length c1_1] 37 (0, 0))) ∧ (w'.heap[gb267]? = some (.cells #[.slice none 0 0, .slice none 0 0] 37 (0, 0))) ∧ (Below w.heap.size w w')) ?_ ?_
                 rotate_left
                 ·
                  intro hJ4
                  refine join_ (σ := Nat) 6 #[false, true, true, false, false, true, true, false, false, true, false] (fun s_ => [(6, .pointer (some ⟨s_, 0, none⟩))]) (fun s_ w' => (w'.cell? ⟨gb266, 0, none⟩ = some (.slice A1_0 l1_0.length c1_0) ∧ w'.cell? ⟨gb266, 1, none⟩ = some (.slice A1_1 l1_1.length c1_1)) ∧ (w'.heap[gb266]? = some (.cells #[.slice A1_0 l1_0.length c1_0, .slice A1_1 l1_1.length c1_1] 37 (0, 0))) ∧ (w'.heap[gb267]? = some (.cells #[.slice none 0 0, .slice none 0 0] 37 (0, 0))) ∧ (w'.heap[s_]? = some (.cells #[.slice none 0 0, .slice none 0 0] 37 (0, 0))) ∧ (w.heap.size ≤ s_) ∧ (w.heap.size ≤ s_) ∧ (gb266 ≠ s_) ∧ (s_ ≠ gb266) ∧ (gb267 ≠ s_) ∧ (s_ ≠ gb267) ∧ (Below w.heap.size w w')) ?_ ?_
                  rotate_left
                  ·
                   intro hJ9
                   refine three_ (i := 0) (j := 4) (k := 9) (Ni := some 17) (Nj := some 21) (Nk := some 6) #[true, true, true, false, false, true, true, false, false, false, false] #[false, true, true, false, true, true, true, false, false, false, false] #[false, true, true, false, false, true, true, false, false, true, false] rfl rfl rfl rfl rfl rfl (three_of HT_.out (by kernel_rfl)) (by decide) (by decide) (by decide) (fun K hK => ?_) (fun K hK => ?_) (fun K hK => ?_)
                   ·
                    skip
                    refine Kd.R_lit_step k44 _ 44 ?hg (N := 17) ?hd (xs := ([] : List (S44))) (inner := []) (ok := fun _ => True) (okp := fun _ => True) ?hr ?hp (fun _ hk => hk) trivial (Below.refl _ _) (Nat.le_refl _) (by simp) ?_; (case hd => rfl); (case hg => rfl); (case hr => first | (go_simp; done) | (go_simp; rfl)); (case hp => exact (Reps.none _ _))
                    intro v271 w22 ho23 hb hg_ hnew_
                    clear hg_ hnew_
                    (first | rw [← Ny270.out] at ho23 | (simp only [Int.reduceToNat] at ho23; rw [← Ny270.out] at ho23))
                    have n0_ := aS (Kd.R_lower ho23 (below_size (sW HB.out)))
                    have n1_ := aS (blk_below (g := gb266) (o := .cells #[.slice A1_0 l1_0.length c1_0, .slice A1_1 l1_1.length c1_1] 37 (0, 0)) (sB BK266.out) hb)
                    have n2_ := aS (blk_below (g := gb267) (o := .cells #[.slice none 0 0, .slice none 0 0] 37 (0, 0)) (sB BK267.out) hb)
                    have n3_ := aS (below_step (sW HB.out) hb)
                    clear BK266 BK267 HB
                    have HO272 := n0_; have BK266 := n1_; have BK267 := n2_; have HB := n3_
                    clear n0_ n1_ n2_ n3_
                    clear hb ho23
                    refine hK.out _ _ ⟨(blk_cell BK266.out 0).trans rfl, (blk_cell BK266.out 1).trans rfl⟩ (fun hHeld => ?_)
                    clear hK K
                    refine norm_ (a' := ?_) ?_ ?_
                    rotate_left
                    ·
                     show Act.put _ (some 17) _ = _
                     simp only [Act.put, List.setIfInBounds_toArray, List.set_cons_zero, List.set_cons_succ, i64_w, i32_w]
                     rfl
                    exact norm_ (by first | (simp only [putAll, Act.put, List.setIfInBounds_toArray, List.set_cons_zero, List.set_cons_succ]; done) | (simp only [putAll, Act.put, List.setIfInBounds_toArray, List.set_cons_zero, List.set_cons_succ]; rfl)) (hJ0 (v271) _ ⟨hHeld, (sR HO272.out), (sB BK266.out), (sB BK267.out), (sW HB.out)⟩)
                   ·
                    skip
                    refine Kd.R_lit_step (Kd.int .i64) _ 2 ?hg (N := 21) ?hd (xs := ([] : List Int)) (inner := []) (ok := fun _ => True) (okp := fun _ => True) ?hr ?hp (fun _ hk => hk) trivial (Below.refl _ _) (Nat.le_refl _) (by simp) ?_; (case hd => rfl); (case hg => rfl); (case hr => first | (go_simp; done) | (go_simp; rfl)); (case hp => exact (Reps.none _ _))
                    intro v277 w22 ho23 hb hg_ hnew_
                    clear hg_ hnew_
                    (first | rw [← Ny276.out] at ho23 | (simp only [Int.reduceToNat] at ho23; rw [← Ny276.out] at ho23))
                    have n0_ := aS (Kd.R_lower ho23 (below_size (sW HB.out)))
                    have n1_ := aS (blk_below (g := gb266) (o := .cells #[.slice A1_0 l1_0.length c1_0, .slice A1_1 l1_1.length c1_1] 37 (0, 0)) (sB BK266.out) hb)
                    have n2_ := aS (blk_below (g := gb267) (o := .cells #[.slice none 0 0, .slice none 0 0] 37 (0, 0)) (sB BK267.out) hb)
                    have n3_ := aS (below_step (sW HB.out) hb)
                    clear BK266 BK267 HB
                    have HO278 := n0_; have BK266 := n1_; have BK267 := n2_; have HB := n3_
                    clear n0_ n1_ n2_ n3_
                    clear hb ho23
                    refine hK.out _ _ ⟨(blk_cell BK266.out 0).trans rfl, (blk_cell BK266.out 1).trans rfl⟩ (fun hHeld => ?_)
                    clear hK K
                    refine norm_ (a' := ?_) ?_ ?_
                    rotate_left
                    ·
                     show Act.put _ (some 21) _ = _
                     simp only [Act.put, List.setIfInBounds_toArray, List.set_cons_zero, List.set_cons_succ, i64_w, i32_w]
                     rfl
                    exact norm_ (by first | (simp only [putAll, Act.put, List.setIfInBounds_toArray, List.set_cons_zero, List.set_cons_succ]; done) | (simp only [putAll, Act.put, List.setIfInBounds_toArray, List.set_cons_zero, List.set_cons_succ]; rfl)) (hJ4 (v277) _ ⟨hHeld, (sR HO278.out), (sB BK266.out), (sB BK267.out), (sW HB.out)⟩)
                   ·
                    skip
                    refine box_step ?hg (N := 6) ?hd (cs := #[.slice none 0 0, .slice none 0 0]) (t := 37) ?hr ?_; (case hd => rfl); (case hg => rfl); (case hr => first | (go_simp; done) | (go_simp; rfl))
                    intro gb282 hg w22 hbox hb
                    have n0_ := aS (blk_below (g := gb266) (o := .cells #[.slice A1_0 l1_0.length c1_0, .slice A1_1 l1_1.length c1_1] 37 (0, 0)) (sB BK266.out) hb)
                    have n1_ := aS (blk_below (g := gb267) (o := .cells #[.slice none 0 0, .slice none 0 0] 37 (0, 0)) (sB BK267.out) hb)
                    have n2_ := aS (below_step (sW HB.out) hb)
                    have n3_ := aS (hbox)
                    have n4_ := aS ((by rw [hg]; exact (below_size (sW HB.out)) : w.heap.size ≤ gb282))
                    have n5_ := aS ((by rw [hg]; exact (below_size (sW HB.out)) : w.heap.size ≤ gb282))
                    have n6_ := aS ((by rw [hg]; exact Nat.ne_of_lt (blk_lt (g := gb266) (o := .cells #[.slice A1_0 l1_0.length c1_0, .slice A1_1 l1_1.length c1_1] 37 (0, 0)) (sB BK266.out)) : gb266 ≠ gb282))
                    have n7_ := aS ((by rw [hg]; exact Nat.ne_of_gt (blk_lt (g := gb266) (o := .cells #[.slice A1_0 l1_0.length c1_0, .slice A1_1 l1_1.length c1_1] 37 (0, 0)) (sB BK266.out)) : gb282 ≠ gb266))
                    have n8_ := aS ((by rw [hg]; exact Nat.ne_of_lt (blk_lt (g := gb267) (o := .cells #[.slice none 0 0, .slice none 0 0] 37 (0, 0)) (sB BK267.out)) : gb267 ≠ gb282))
                    have n9_ := aS ((by rw [hg]; exact Nat.ne_of_gt (blk_lt (g := gb267) (o := .cells #[.slice none 0 0, .slice none 0 0] 37 (0, 0)) (sB BK267.out)) : gb282 ≠ gb267))
                    clear BK266 BK267 HB
                    have BK266 := n0_; have BK267 := n1_; have HB := n2_; have BK282 := n3_; have GW282 := n4_; have GE282 := n5_; have NB266_282 := n6_; have NB282_266 := n7_; have NB267_282 := n8_; have NB282_267 := n9_
                    clear n0_ n1_ n2_ n3_ n4_ n5_ n6_ n7_ n8_ n9_
                    clear hb hbox hg
                    refine hK.out _ _ ⟨(blk_cell BK266.out 0).trans rfl, (blk_cell BK266.out 1).trans rfl⟩ (fun hHeld => ?_)
                    clear hK K
                    refine norm_ (a' := ?_) ?_ ?_
                    rotate_left
                    ·
                     show Act.put _ (some 6) _ = _
                     simp only [Act.put, List.setIfInBounds_toArray, List.set_cons_zero, List.set_cons_succ, i64_w, i32_w]
                     rfl
                    exact norm_ (by first | (simp only [putAll, Act.put, List.setIfInBounds_toArray, List.set_cons_zero, List.set_cons_succ]; done) | (simp only [putAll, Act.put, List.setIfInBounds_toArray, List.set_cons_zero, List.set_cons_succ]; rfl)) (hJ9 (gb282) _ ⟨hHeld, (sB BK266.out), (sB BK267.out), (sB BK282.out), GW282.out, GE282.out, NB266_282.out, NB282_266.out, NB267_282.out, NB282_267.out, (sW HB.out)⟩)
                  ·
                   skip
                   rintro gb282 w23 ⟨hS_, h0_, h1_, h2_, h3_, h4_, h5_, h6_, h7_, h8_, h9_⟩
                   have n0_ : Aside0 (w23.heap[gb266]? = some (.cells #[.slice A1_0 l1_0.length c1_0, .slice A1_1 l1_1.length c1_1] 37 (0, 0))) := ⟨h0_⟩
                   have n1_ : Aside0 (w23.heap[gb267]? = some (.cells #[.slice none 0 0, .slice none 0 0] 37 (0, 0))) := ⟨h1_⟩
                   have n2_ : Aside0 (w23.heap[gb282]? = some (.cells #[.slice none 0 0, .slice none 0 0] 37 (0, 0))) := ⟨h2_⟩
                   have n3_ : Aside0 (w.heap.size ≤ gb282) := ⟨h3_⟩
                   have n4_ : Aside0 (w.heap.size ≤ gb282) := ⟨h4_⟩
                   have n5_ : Aside0 (gb266 ≠ gb282) := ⟨h5_⟩
                   have n6_ : Aside0 (gb282 ≠ gb266) := ⟨h6_⟩
                   have n7_ : Aside0 (gb267 ≠ gb282) := ⟨h7_⟩
                   have n8_ : Aside0 (gb282 ≠ gb267) := ⟨h8_⟩
                   have n9_ : Aside0 (Below w.heap.size w w23) := ⟨h9_⟩
                   clear BK266 BK267 HB
                   clear h0_ h1_ h2_ h3_ h4_ h5_ h6_ h7_ h8_ h9_
                   have BK266 := n0_; have BK267 := n1_; have BK282 := n2_; have GW282 := n3_; have GE282 := n4_; have NB266_282 := n5_; have NB282_266 := n6_; have NB267_282 := n7_; have NB282_267 := n8_; have HB := n9_
                   clear n0_ n1_ n2_ n3_ n4_ n5_ n6_ n7_ n8_ n9_
                   have hHeld : w23.cell? ⟨gb266, 0, none⟩ = some (.slice A1_0 l1_0.length c1_0) ∧ w23.cell? ⟨gb266, 1, none⟩ = some (.slice A1_1 l1_1.length c1_1) := hS_
                   refine norm_ (a' := ?_) ?_ ?_
                   rotate_left
                   ·
                    simp only [putAll, Act.put, List.setIfInBounds_toArray, List.set_cons_zero, List.set_cons_succ]
                    rfl
                   refine two_ (i := 0) (j := 4) (Ni := some 17) (Nj := some 21) #[true, true, true, false, false, true, true, false, false, true, false] #[false, true, true, false, true, true, true, false, false, true, false] rfl rfl rfl rfl (two_of HT_.out (by kernel_rfl)) (by decide) (by decide) (fun K hK => ?_) (fun K hK => ?_)
                   ·
                    skip
                    refine Kd.R_lit_step k44 _ 44 ?hg (N := 17) ?hd (xs := ([] : List (S44))) (inner := []) (ok := fun _ => True) (okp := fun _ => True) ?hr ?hp (fun _ hk => hk) trivial (Below.refl _ _) (Nat.le_refl _) (by simp) ?_; (case hd => rfl); (case hg => rfl); (case hr => first | (go_simp; done) | (go_simp; rfl)); (case hp => exact (Reps.none _ _))
                    intro v271 w24 ho25 hb hg_ hnew_
                    clear hg_ hnew_
                    (first | rw [← Ny270.out] at ho25 | (simp only [Int.reduceToNat] at ho25; rw [← Ny270.out] at ho25))
                    have n0_ := aS (Kd.R_lower ho25 (below_size (sW HB.out)))
                    have n1_ := aS (blk_below (g := gb266) (o := .cells #[.slice A1_0 l1_0.length c1_0, .slice A1_1 l1_1.length c1_1] 37 (0, 0)) (sB BK266.out) hb)
                    have n2_ := aS (blk_below (g := gb267) (o := .cells #[.slice none 0 0, .slice none 0 0] 37 (0, 0)) (sB BK267.out) hb)
                    have n3_ := aS (blk_below (g := gb282) (o := .cells #[.slice none 0 0, .slice none 0 0] 37 (0, 0)) (sB BK282.out) hb)
                    have n4_ := aS (below_step (sW HB.out) hb)
                    clear BK266 BK267 BK282 HB
                    have HO272 := n0_; have BK266 := n1_; have BK267 := n2_; have BK282 := n3_; have HB := n4_
                    clear n0_ n1_ n2_ n3_ n4_
                    clear hb ho25
                    refine hK.out _ _ ⟨(blk_cell BK266.out 0).trans rfl, (blk_cell BK266.out 1).trans rfl⟩ (fun hHeld => ?_)
                    clear hK K
                    refine norm_ (a' := ?_) ?_ ?_
                    rotate_left
                    ·
                     show Act.put _ (some 17) _ = _
                     simp only [Act.put, List.setIfInBounds_toArray, List.set_cons_zero, List.set_cons_succ, i64_w, i32_w]
                     rfl
                    exact norm_ (by first | (simp only [putAll, Act.put, List.setIfInBounds_toArray, List.set_cons_zero, List.set_cons_succ]; done) | (simp only [putAll, Act.put, List.setIfInBounds_toArray, List.set_cons_zero, List.set_cons_succ]; rfl)) (hJ0_9 (v271, gb282) _ ⟨hHeld, (sR HO272.out), (sB BK266.out), (sB BK267.out), (sB BK282.out), GW282.out, GE282.out, NB266_282.out, NB282_266.out, NB267_282.out, NB282_267.out, (sW HB.out)⟩)
                   ·
                    skip
                    refine Kd.R_lit_step (Kd.int .i64) _ 2 ?hg (N := 21) ?hd (xs := ([] : List Int)) (inner := []) (ok := fun _ => True) (okp := fun _ => True) ?hr ?hp (fun _ hk => hk) trivial (Below.refl _ _) (Nat.le_refl _) (by simp) ?_; (case hd => rfl); (case hg => rfl); (case hr => first | (go_simp; done) | (go_simp; rfl)); (case hp => exact (Reps.none _ _))
                    intro v277 w24 ho25 hb hg_ hnew_
                    clear hg_ hnew_
                    (first | rw [← Ny276.out] at ho25 | (simp only [Int.reduceToNat] at ho25; rw [← Ny276.out] at ho25))
                    have n0_ := aS (Kd.R_lower ho25 (below_size (sW HB.out)))
                    have n1_ := aS (blk_below (g := gb266) (o := .cells #[.slice A1_0 l1_0.length c1_0, .slice A1_1 l1_1.length c1_1] 37 (0, 0)) (sB BK266.out) hb)
                    have n2_ := aS (blk_below (g := gb267) (o := .cells #[.slice none 0 0, .slice none 0 0] 37 (0, 0)) (sB BK267.out) hb)
                    have n3_ := aS (blk_below (g := gb282) (o := .cells #[.slice none 0 0, .slice none 0 0] 37 (0, 0)) (sB BK282.out) hb)
                    have n4_ := aS (below_step (sW HB.out) hb)
                    clear BK266 BK267 BK282 HB
                    have HO278 := n0_; have BK266 := n1_; have BK267 := n2_; have BK282 := n3_; have HB := n4_
                    clear n0_ n1_ n2_ n3_ n4_
                    clear hb ho25
                    refine hK.out _ _ ⟨(blk_cell BK266.out 0).trans rfl, (blk_cell BK266.out 1).trans rfl⟩ (fun hHeld => ?_)
                    clear hK K
                    refine norm_ (a' := ?_) ?_ ?_
                    rotate_left
                    ·
                     show Act.put _ (some 21) _ = _
                     simp only [Act.put, List.setIfInBounds_toArray, List.set_cons_zero, List.set_cons_succ, i64_w, i32_w]
                     rfl
                    exact norm_ (by first | (simp only [putAll, Act.put, List.setIfInBounds_toArray, List.set_cons_zero, List.set_cons_succ]; done) | (simp only [putAll, Act.put, List.setIfInBounds_toArray, List.set_cons_zero, List.set_cons_succ]; rfl)) (hJ4_9 (v277, gb282) _ ⟨hHeld, (sR HO278.out), (sB BK266.out), (sB BK267.out), (sB BK282.out), GW282.out, GE282.out, NB266_282.out, NB282_266.out, NB267_282.out, NB282_267.out, (sW HB.out)⟩)
                 ·
                  skip
                  rintro v277 w24 ⟨hS_, h0_, h1_, h2_, h3_⟩
                  have n0_ : Aside0 (Kd.R (Kd.int .i64) 2 w24 w.heap.size (fun _ => True) v277 y276) := ⟨h0_⟩
                  have n1_ : Aside0 (w24.heap[gb266]? = some (.cells #[.slice A1_0 l1_0.length c1_0, .slice A1_1 l1_1.length c1_1] 37 (0, 0))) := ⟨h1_⟩
                  have n2_ : Aside0 (w24.heap[gb267]? = some (.cells #[.slice none 0 0, .slice none 0 0] 37 (0, 0))) := ⟨h2_⟩
                  have n3_ : Aside0 (Below w.heap.size w w24) := ⟨h3_⟩
                  clear BK266 BK267 HB
                  clear h0_ h1_ h2_ h3_
                  have HO278 := n0_; have BK266 := n1_; have BK267 := n2_; have HB := n3_
                  clear n0_ n1_ n2_ n3_
                  have hHeld : w24.cell? ⟨gb266, 0, none⟩ = some (.slice A1_0 l1_0.length c1_0) ∧ w24.cell? ⟨gb266, 1, none⟩ = some (.slice A1_1 l1_1.length c1_1) := hS_
                  refine norm_ (a' := ?_) ?_ ?_
                  rotate_left
                  ·
                   simp only [putAll, Act.put, List.setIfInBounds_toArray, List.set_cons_zero, List.set_cons_succ]
                   rfl
                  refine two_ (i := 0) (j := 9) (Ni := some 17) (Nj := some 6) #[true, true, true, false, true, true, true, false, false, false, false] #[false, true, true, false, true, true, true, false, false, true, false] rfl rfl rfl rfl (two_of HT_.out (by kernel_rfl)) (by decide) (by decide) (fun K hK => ?_) (fun K hK => ?_)
                  ·
                   skip
                   refine Kd.R_lit_step k44 _ 44 ?hg (N := 17) ?hd (xs := ([] : List (S44))) (inner := []) (ok := fun _ => True) (okp := fun _ => True) ?hr ?hp (fun _ hk => hk) trivial (Below.refl _ _) (Nat.le_refl _) (by simp) ?_; (case hd => rfl); (case hg => rfl); (case hr => first | (go_simp; done) | (go_simp; rfl)); (case hp => exact (Reps.none _ _))
                   intro v271 w25 ho26 hb hg_ hnew_
                   clear hg_ hnew_
                   (first | rw [← Ny270.out] at ho26 | (simp only [Int.reduceToNat] at ho26; rw [← Ny270.out] at ho26))
                   have n0_ := aS (Kd.R_below (sR HO278.out) hb)
                   have n1_ := aS (Kd.R_lower ho26 (below_size (sW HB.out)))
                   have n2_ := aS (blk_below (g := gb266) (o := .cells #[.slice A1_0 l1_0.length c1_0, .slice A1_1 l1_1.length c1_1] 37 (0, 0)) (sB BK266.out) hb)
                   have n3_ := aS (blk_below (g := gb267) (o := .cells #[.slice none 0 0, .slice none 0 0] 37 (0, 0)) (sB BK267.out) hb)
                   have n4_ := aS (below_step (sW HB.out) hb)
                   clear HO278 BK266 BK267 HB
                   have HO278 := n0_; have HO272 := n1_; have BK266 := n2_; have BK267 := n3_; have HB := n4_
                   clear n0_ n1_ n2_ n3_ n4_
                   clear hb ho26
                   refine hK.out _ _ ⟨(blk_cell BK266.out 0).trans rfl, (blk_cell BK266.out 1).trans rfl⟩ (fun hHeld => ?_)
                   clear hK K
                   refine norm_ (a' := ?_) ?_ ?_
                   rotate_left
                   ·
                    show Act.put _ (some 17) _ = _
                    simp only [Act.put, List.setIfInBounds_toArray, List.set_cons_zero, List.set_cons_succ, i64_w, i32_w]
                    rfl
                   exact norm_ (by first | (simp only [putAll, Act.put, List.setIfInBounds_toArray, List.set_cons_zero, List.set_cons_succ]; done) | (simp only [putAll, Act.put, List.setIfInBounds_toArray, List.set_cons_zero, List.set_cons_succ]; rfl)) (hJ0_4 (v271, v277) _ ⟨hHeld, (sR HO272.out), (sR HO278.out), (sB BK266.out), (sB BK267.out), (sW HB.out)⟩)
                  ·
                   skip
                   refine box_step ?hg (N := 6) ?hd (cs := #[.slice none 0 0, .slice none 0 0]) (t := 37) ?hr ?_; (case hd => rfl); (case hg => rfl); (case hr => first | (go_simp; done) | (go_simp; rfl))
                   intro gb282 hg w25 hbox hb
                   have n0_ := aS (Kd.R_below (sR HO278.out) hb)
                   have n1_ := aS (blk_below (g := gb266) (o := .cells #[.slice A1_0 l1_0.length c1_0, .slice A1_1 l1_1.length c1_1] 37 (0, 0)) (sB BK266.out) hb)
                   have n2_ := aS (blk_below (g := gb267) (o := .cells #[.slice none 0 0, .slice none 0 0] 37 (0, 0)) (sB BK267.out) hb)
                   have n3_ := aS (below_step (sW HB.out) hb)
                   have n4_ := aS (hbox)
                   have n5_ := aS ((by rw [hg]; exact (below_size (sW HB.out)) : w.heap.size ≤ gb282))
                   have n6_ := aS ((by rw [hg]; exact (below_size (sW HB.out)) : w.heap.size ≤ gb282))
                   have n7_ := aS ((by rw [hg]; exact Nat.ne_of_lt (blk_lt (g := gb266) (o := .cells #[.slice A1_0 l1_0.length c1_0, .slice A1_1 l1_1.length c1_1] 37 (0, 0)) (sB BK266.out)) : gb266 ≠ gb282))
                   have n8_ := aS ((by rw [hg]; exact Nat.ne_of_gt (blk_lt (g := gb266) (o := .cells #[.slice A1_0 l1_0.length c1_0, .slice A1_1 l1_1.length c1_1] 37 (0, 0)) (sB BK266.out)) : gb282 ≠ gb266))
                   have n9_ := aS ((by rw [hg]; exact Nat.ne_of_lt (blk_lt (g := gb267) (o := .cells #[.slice none 0 0, .slice none 0 0] 37 (0, 0)) (sB BK267.out)) : gb267 ≠ gb282))
                   have n10_ := aS ((by rw [hg]; exact Nat.ne_of_gt (blk_lt (g := gb267) (o := .cells #[.slice none 0 0, .slice none 0 0] 37 (0, 0)) (sB BK267.out)) : gb282 ≠ gb267))
                   clear HO278 BK266 BK267 HB
                   have HO278 := n0_; have BK266 := n1_; have BK267 := n2_; have HB := n3_; have BK282 := n4_; have GW282 := n5_; have GE282 := n6_; have NB266_282 := n7_; have NB282_266 := n8_; have NB267_282 := n9_; have NB282_267 := n10_
                   clear n0_ n1_ n2_ n3_ n4_ n5_ n6_ n7_ n8_ n9_ n10_
                   clear hb hbox hg
                   refine hK.out _ _ ⟨(blk_cell BK266.out 0).trans rfl, (blk_cell BK266.out 1).trans rfl⟩ (fun hHeld => ?_)
                   clear hK K
                   refine norm_ (a' := ?_) ?_ ?_
                   rotate_left
                   ·
                    show Act.put _ (some 6) _ = _
                    simp only [Act.put, List.setIfInBounds_toArray, List.set_cons_zero, List.set_cons_succ, i64_w, i32_w]
                    rfl
                   exact norm_ (by first | (simp only [putAll, Act.put, List.setIfInBounds_toArray, List.set_cons_zero, List.set_cons_succ]; done) | (simp only [putAll, Act.put, List.setIfInBounds_toArray, List.set_cons_zero, List.set_cons_succ]; rfl)) (hJ4_9 (v277, gb282) _ ⟨hHeld, (sR HO278.out), (sB BK266.out), (sB BK267.out), (sB BK282.out), GW282.out, GE282.out, NB266_282.out, NB282_266.out, NB267_282.out, NB282_267.out, (sW HB.out)⟩)
                ·
                 skip
                 rintro v271 w24 ⟨hS_, h0_, h1_, h2_, h3_⟩
                 have n0_ : Aside0 (Kd.R k44 44 w24 w.heap.size (fun _ => True) v271 y270) := ⟨h0_⟩
                 have n1_ : Aside0 (w24.heap[gb266]? = some (.cells #[.slice A1_0 l1_0.length c1_0, .slice A1_1 l1_1.length c1_1] 37 (0, 0))) := ⟨h1_⟩
                 have n2_ : Aside0 (w24.heap[gb267]? = some (.cells #[.slice none 0 0, .slice none 0 0] 37 (0, 0))) := ⟨h2_⟩
                 have n3_ : Aside0 (Below w.heap.size w w24) := ⟨h3_⟩
                 clear BK266 BK267 HB
                 clear h0_ h1_ h2_ h3_
                 have HO272 := n0_; have BK266 := n1_; have BK267 := n2_; have HB := n3_
                 clear n0_ n1_ n2_ n3_
                 have hHeld : w24.cell? ⟨gb266, 0, none⟩ = some (.slice A1_0 l1_0.length c1_0) ∧ w24.cell? ⟨gb266, 1, none⟩ = some (.slice A1_1 l1_1.length c1_1) := hS_
                 refine norm_ (a' := ?_) ?_ ?_
                 rotate_left
                 ·
                  simp only [putAll, Act.put, List.setIfInBounds_toArray, List.set_cons_zero, List.set_cons_succ]
                  rfl
                 refine three_ (i := 3) (j := 4) (k := 9) (Ni := some 20) (Nj := some 21) (Nk := some 6) #[true, true, true, true, false, true, true, false, false, false, false] #[true, true, true, false, true, true, true, false, false, false, false] #[true, true, true, false, false, true, true, false, false, true, false] rfl rfl rfl rfl rfl rfl (three_of HT_.out (by kernel_rfl)) (by decide) (by decide) (by decide) (fun K hK => ?_) (fun K hK => ?_) (fun K hK => ?_)
                 ·
                  skip
                  refine Kd.R_append_rows_step k44 (w0 := w) w.heap.size (by rfl) (.tmp 17) (.tmp 19) 35 44 (.agg #[(.int .i64 0), (.int .i64 0)]) 16 rfl Try.underlying35 info44 rfl (by decide) (by omega) v271 y270 l1_0 _ _ _ (fun _ => True) (fun _ => False) rfl rfl ?aO ?aR (fun _ _ h => h) (fun _ h => h.elim) ?aF ?aB ?aS ?aL ?_
                  (case aR => repeat (first | exact (Kd.C_below HR1_0.out HB.out) | (with_reducible refine Kd.C_alloc ?_ _) | (with_reducible refine Kd.C_drewN ?_ _) | (with_reducible refine Kd.C_drew ?_)))
                  (case aB => exact (sW HB.out))
                  (case aF => exact (fun _ _ => trivial))
                  (case aO => exact (sR HO272.out))
                  (case aS => exact (below_size (sW HB.out)))
                  (case aL => have := LMc17.out; omega)
                  intro v274 w25 ho hb hg hat
                  rw [← Ny273.out] at ho
                  have n0_ := aS (blk_grown (g := gb266) (o := .cells #[.slice A1_0 l1_0.length c1_0, .slice A1_1 l1_1.length c1_1] 37 (0, 0)) (sB BK266.out) hg (Kd.R_ne HO272.out BK266.out (by decide)))
                  have n1_ := aS (blk_grown (g := gb267) (o := .cells #[.slice none 0 0, .slice none 0 0] 37 (0, 0)) (sB BK267.out) hg (Kd.R_ne HO272.out BK267.out (by decide)))
                  have n2_ := aS (hb)
                  have n3_ := aS (ho)
                  clear BK266 BK267 HB HO272
                  have BK266 := n0_; have BK267 := n1_; have HB := n2_; have HO275 := n3_
                  clear n0_ n1_ n2_ n3_
                  clear ho hb hg hat
                  refine hK.out _ _ ⟨(blk_cell BK266.out 0).trans rfl, (blk_cell BK266.out 1).trans rfl⟩ (fun hHeld => ?_)
                  clear hK K
                  refine norm_ (a' := ?_) ?_ ?_
                  rotate_left
                  ·
                   show Act.put _ (some 20) _ = _
                   simp only [Act.put, List.setIfInBounds_toArray, List.set_cons_zero, List.set_cons_succ, i64_w, i32_w]
                   rfl
                  exact norm_ (by first | (simp only [putAll, Act.put, List.setIfInBounds_toArray, List.set_cons_zero, List.set_cons_succ]; done) | (simp only [putAll, Act.put, List.setIfInBounds_toArray, List.set_cons_zero, List.set_cons_succ]; rfl)) (hJ0_3 (v271, v274) _ ⟨hHeld, (sR HO275.out), (sB BK266.out), (sB BK267.out), (sW HB.out)⟩)
                 ·
                  skip
                  refine Kd.R_lit_step (Kd.int .i64) _ 2 ?hg (N := 21) ?hd (xs := ([] : List Int)) (inner := []) (ok := fun _ => True) (okp := fun _ => True) ?hr ?hp (fun _ hk => hk) trivial (Below.refl _ _) (Nat.le_refl _) (by simp) ?_; (case hd => rfl); (case hg => rfl); (case hr => first | (go_simp; done) | (go_simp; rfl)); (case hp => exact (Reps.none _ _))
                  intro v277 w25 ho26 hb hg_ hnew_
                  clear hg_ hnew_
                  (first | rw [← Ny276.out] at ho26 | (simp only [Int.reduceToNat] at ho26; rw [← Ny276.out] at ho26))
                  have n0_ := aS (Kd.R_below (sR HO272.out) hb)
                  have n1_ := aS (Kd.R_lower ho26 (below_size (sW HB.out)))
                  have n2_ := aS (blk_below (g := gb266) (o := .cells #[.slice A1_0 l1_0.length c1_0, .slice A1_1 l1_1.length c1_1] 37 (0, 0)) (sB BK266.out) hb)
                  have n3_ := aS (blk_below (g := gb267) (o := .cells #[.slice none 0 0, .slice none 0 0] 37 (0, 0)) (sB BK267.out) hb)
                  have n4_ := aS (below_step (sW HB.out) hb)
                  clear HO272 BK266 BK267 HB
                  have HO272 := n0_; have HO278 := n1_; have BK266 := n2_; have BK267 := n3_; have HB := n4_
                  clear n0_ n1_ n2_ n3_ n4_
                  clear hb ho26
                  refine hK.out _ _ ⟨(blk_cell BK266.out 0).trans rfl, (blk_cell BK266.out 1).trans rfl⟩ (fun hHeld => ?_)
                  clear hK K
                  refine norm_ (a' := ?_) ?_ ?_
                  rotate_left
                  ·
                   show Act.put _ (some 21) _ = _
                   simp only [Act.put, List.setIfInBounds_toArray, List.set_cons_zero, List.set_cons_succ, i64_w, i32_w]
                   rfl
                  exact norm_ (by first | (simp only [putAll, Act.put, List.setIfInBounds_toArray, List.set_cons_zero, List.set_cons_succ]; done) | (simp only [putAll, Act.put, List.setIfInBounds_toArray, List.set_cons_zero, List.set_cons_succ]; rfl)) (hJ0_4 (v271, v277) _ ⟨hHeld, (sR HO272.out), (sR HO278.out), (sB BK266.out), (sB BK267.out), (sW HB.out)⟩)
                 ·
                  skip
                  refine box_step ?hg (N := 6) ?hd (cs := #[.slice none 0 0, .slice none 0 0]) (t := 37) ?hr ?_; (case hd => rfl); (case hg => rfl); (case hr => first | (go_simp; done) | (go_simp; rfl))
                  intro gb282 hg w25 hbox hb
                  have n0_ := aS (Kd.R_below (sR HO272.out) hb)
                  have n1_ := aS (blk_below (g := gb266) (o := .cells #[.slice A1_0 l1_0.length c1_0, .slice A1_1 l1_1.length c1_1] 37 (0, 0)) (sB BK266.out) hb)
                  have n2_ := aS (blk_below (g := gb267) (o := .cells #[.slice none 0 0, .slice none 0 0] 37 (0, 0)) (sB BK267.out) hb)
                  have n3_ := aS (below_step (sW HB.out) hb)
                  have n4_ := aS (hbox)
                  have n5_ := aS ((by rw [hg]; exact (below_size (sW HB.out)) : w.heap.size ≤ gb282))
                  have n6_ := aS ((by rw [hg]; exact (below_size (sW HB.out)) : w.heap.size ≤ gb282))
                  have n7_ := aS ((by rw [hg]; exact Nat.ne_of_lt (blk_lt (g := gb266) (o := .cells #[.slice A1_0 l1_0.length c1_0, .slice A1_1 l1_1.length c1_1] 37 (0, 0)) (sB BK266.out)) : gb266 ≠ gb282))
                  have n8_ := aS ((by rw [hg]; exact Nat.ne_of_gt (blk_lt (g := gb266) (o := .cells #[.slice A1_0 l1_0.length c1_0, .slice A1_1 l1_1.length c1_1] 37 (0, 0)) (sB BK266.out)) : gb282 ≠ gb266))
                  have n9_ := aS ((by rw [hg]; exact Nat.ne_of_lt (blk_lt (g := gb267) (o := .cells #[.slice none 0 0, .slice none 0 0] 37 (0, 0)) (sB BK267.out)) : gb267 ≠ gb282))
                  have n10_ := aS ((by rw [hg]; exact Nat.ne_of_gt (blk_lt (g := gb267) (o := .cells #[.slice none 0 0, .slice none 0 0] 37 (0, 0)) (sB BK267.out)) : gb282 ≠ gb267))
                  clear HO272 BK266 BK267 HB
                  have HO272 := n0_; have BK266 := n1_; have BK267 := n2_; have HB := n3_; have BK282 := n4_; have GW282 := n5_; have GE282 := n6_; have NB266_282 := n7_; have NB282_266 := n8_; have NB267_282 := n9_; have NB282_267 := n10_
                  clear n0_ n1_ n2_ n3_ n4_ n5_ n6_ n7_ n8_ n9_ n10_
                  clear hb hbox hg
                  refine hK.out _ _ ⟨(blk_cell BK266.out 0).trans rfl, (blk_cell BK266.out 1).trans rfl⟩ (fun hHeld => ?_)
                  clear hK K
                  refine norm_ (a' := ?_) ?_ ?_
                  rotate_left
                  ·
                   show Act.put _ (some 6) _ = _
                   simp only [Act.put, List.setIfInBounds_toArray, List.set_cons_zero, List.set_cons_succ, i64_w, i32_w]
                   rfl
                  exact norm_ (by first | (simp only [putAll, Act.put, List.setIfInBounds_toArray, List.set_cons_zero, List.set_cons_succ]; done) | (simp only [putAll, Act.put, List.setIfInBounds_toArray, List.set_cons_zero, List.set_cons_succ]; rfl)) (hJ0_9 (v271, gb282) _ ⟨hHeld, (sR HO272.out), (sB BK266.out), (sB BK267.out), (sB BK282.out), GW282.out, GE282.out, NB266_282.out, NB282_266.out, NB267_282.out, NB282_267.out, (sW HB.out)⟩)
               ·
                skip
                rintro ⟨v277, gb282⟩ w25 ⟨hS_, h0_, h1_, h2_, h3_, h4_, h5_, h6_, h7_, h8_, h9_, h10_⟩
                have n0_ : Aside0 (Kd.R (Kd.int .i64) 2 w25 w.heap.size (fun _ => True) v277 y276) := ⟨h0_⟩
                have n1_ : Aside0 (w25.heap[gb266]? = some (.cells #[.slice A1_0 l1_0.length c1_0, .slice A1_1 l1_1.length c1_1] 37 (0, 0))) := ⟨h1_⟩
                have n2_ : Aside0 (w25.heap[gb267]? = some (.cells #[.slice none 0 0, .slice none 0 0] 37 (0, 0))) := ⟨h2_⟩
                have n3_ : Aside0 (w25.heap[gb282]? = some (.cells #[.slice none 0 0, .slice none 0 0] 37 (0, 0))) := ⟨h3_⟩
                have n4_ : Aside0 (w.heap.size ≤ gb282) := ⟨h4_⟩
                have n5_ : Aside0 (w.heap.size ≤ gb282) := ⟨h5_⟩
                have n6_ : Aside0 (gb266 ≠ gb282) := ⟨h6_⟩
                have n7_ : Aside0 (gb282 ≠ gb266) := ⟨h7_⟩
                have n8_ : Aside0 (gb267 ≠ gb282) := ⟨h8_⟩
                have n9_ : Aside0 (gb282 ≠ gb267) := ⟨h9_⟩
                have n10_ : Aside0 (Below w.heap.size w w25) := ⟨h10_⟩
                clear BK266 BK267 HB
                clear h0_ h1_ h2_ h3_ h4_ h5_ h6_ h7_ h8_ h9_ h10_
                have HO278 := n0_; have BK266 := n1_; have BK267 := n2_; have BK282 := n3_; have GW282 := n4_; have GE282 := n5_; have NB266_282 := n6_; have NB282_266 := n7_; have NB267_282 := n8_; have NB282_267 := n9_; have HB := n10_
                clear n0_ n1_ n2_ n3_ n4_ n5_ n6_ n7_ n8_ n9_ n10_
                have hHeld : w25.cell? ⟨gb266, 0, none⟩ = some (.slice A1_0 l1_0.length c1_0) ∧ w25.cell? ⟨gb266, 1, none⟩ = some (.slice A1_1 l1_1.length c1_1) := hS_
                refine norm_ (a' := ?_) ?_ ?_
                rotate_left
                ·
                 simp only [putAll, Act.put, List.setIfInBounds_toArray, List.set_cons_zero, List.set_cons_succ]
                 rfl
                refine one_ (i := 0) (N := some 17) #[true, true, true, false, true, true, true, false, false, true, false] rfl rfl (one_of HT_.out (by kernel_rfl)) (by decide) (fun K hK => ?_)
                refine Kd.R_lit_step k44 _ 44 ?hg (N := 17) ?hd (xs := ([] : List (S44))) (inner := []) (ok := fun _ => True) (okp := fun _ => True) ?hr ?hp (fun _ hk => hk) trivial (Below.refl _ _) (Nat.le_refl _) (by simp) ?_; (case hd => rfl); (case hg => rfl); (case hr => first | (go_simp; done) | (go_simp; rfl)); (case hp => exact (Reps.none _ _))
                intro v271 w26 ho27 hb hg_ hnew_
                clear hg_ hnew_
                (first | rw [← Ny270.out] at ho27 | (simp only [Int.reduceToNat] at ho27; rw [← Ny270.out] at ho27))
                have n0_ := aS (Kd.R_below (sR HO278.out) hb)
                have n1_ := aS (Kd.R_lower ho27 (below_size (sW HB.out)))
                have n2_ := aS (blk_below (g := gb266) (o := .cells #[.slice A1_0 l1_0.length c1_0, .slice A1_1 l1_1.length c1_1] 37 (0, 0)) (sB BK266.out) hb)
                have n3_ := aS (blk_below (g := gb267) (o := .cells #[.slice none 0 0, .slice none 0 0] 37 (0, 0)) (sB BK267.out) hb)
                have n4_ := aS (blk_below (g := gb282) (o := .cells #[.slice none 0 0, .slice none 0 0] 37 (0, 0)) (sB BK282.out) hb)
                have n5_ := aS (below_step (sW HB.out) hb)
                clear HO278 BK266 BK267 BK282 HB
                have HO278 := n0_; have HO272 := n1_; have BK266 := n2_; have BK267 := n3_; have BK282 := n4_; have HB := n5_
                clear n0_ n1_ n2_ n3_ n4_ n5_
                clear hb ho27
                refine hK.out _ _ ⟨(blk_cell BK266.out 0).trans rfl, (blk_cell BK266.out 1).trans rfl⟩ (fun hHeld => ?_)
                clear hK K
                refine norm_ (a' := ?_) ?_ ?_
                rotate_left
                ·
                 show Act.put _ (some 17) _ = _
                 simp only [Act.put, List.setIfInBounds_toArray, List.set_cons_zero, List.set_cons_succ, i64_w, i32_w]
                 rfl
                exact norm_ (by first | (simp only [putAll, Act.put, List.setIfInBounds_toArray, List.set_cons_zero, List.set_cons_succ]; done) | (simp only [putAll, Act.put, List.setIfInBounds_toArray, List.set_cons_zero, List.set_cons_succ]; rfl)) (hJ0_4_9 (v271, v277, gb282) _ ⟨hHeld, (sR HO272.out), (sR HO278.out), (sB BK266.out), (sB BK267.out), (sB BK282.out), GW282.out, GE282.out, NB266_282.out, NB282_266.out, NB267_282.out, NB282_267.out, (sW HB.out)⟩)
              ·
               skip
               rintro ⟨v271, gb282⟩ w25 ⟨hS_, h0_, h1_, h2_, h3_, h4_, h5_, h6_, h7_, h8_, h9_, h10_⟩
               have n0_ : Aside0 (Kd.R k44 44 w25 w.heap.size (fun _ => True) v271 y270) := ⟨h0_⟩
               have n1_ : Aside0 (w25.heap[gb266]? = some (.cells #[.slice A1_0 l1_0.length c1_0, .slice A1_1 l1_1.length c1_1] 37 (0, 0))) := ⟨h1_⟩
               have n2_ : Aside0 (w25.heap[gb267]? = some (.cells #[.slice none 0 0, .slice none 0 0] 37 (0, 0))) := ⟨h2_⟩
               have n3_ : Aside0 (w25.heap[gb282]? = some (.cells #[.slice none 0 0, .slice none 0 0] 37 (0, 0))) := ⟨h3_⟩
               have n4_ : Aside0 (w.heap.size ≤ gb282) := ⟨h4_⟩
               have n5_ : Aside0 (w.heap.size ≤ gb282) := ⟨h5_⟩
               have n6_ : Aside0 (gb266 ≠ gb282) := ⟨h6_⟩
               have n7_ : Aside0 (gb282 ≠ gb266) := ⟨h7_⟩
               have n8_ : Aside0 (gb267 ≠ gb282) := ⟨h8_⟩
               have n9_ : Aside0 (gb282 ≠ gb267) := ⟨h9_⟩
               have n10_ : Aside0 (Below w.heap.size w w25) := ⟨h10_⟩
               clear BK266 BK267 HB
               clear h0_ h1_ h2_ h3_ h4_ h5_ h6_ h7_ h8_ h9_ h10_
               have HO272 := n0_; have BK266 := n1_; have BK267 := n2_; have BK282 := n3_; have GW282 := n4_; have GE282 := n5_; have NB266_282 := n6_; have NB282_266 := n7_; have NB267_282 := n8_; have NB282_267 := n9_; have HB := n10_
               clear n0_ n1_ n2_ n3_ n4_ n5_ n6_ n7_ n8_ n9_ n10_
               have hHeld : w25.cell? ⟨gb266, 0, none⟩ = some (.slice A1_0 l1_0.length c1_0) ∧ w25.cell? ⟨gb266, 1, none⟩ = some (.slice A1_1 l1_1.length c1_1) := hS_
               refine norm_ (a' := ?_) ?_ ?_
               rotate_left
               ·
                simp only [putAll, Act.put, List.setIfInBounds_toArray, List.set_cons_zero, List.set_cons_succ]
                rfl
               refine two_ (i := 3) (j := 4) (Ni := some 20) (Nj := some 21) #[true, true, true, true, false, true, true, false, false, true, false] #[true, true, true, false, true, true, true, false, false, true, false] rfl rfl rfl rfl (two_of HT_.out (by kernel_rfl)) (by decide) (by decide) (fun K hK => ?_) (fun K hK => ?_)
               ·
                skip
                refine Kd.R_append_rows_step k44 (w0 := w) w.heap.size (by rfl) (.tmp 17) (.tmp 19) 35 44 (.agg #[(.int .i64 0), (.int .i64 0)]) 16 rfl Try.underlying35 info44 rfl (by decide) (by omega) v271 y270 l1_0 _ _ _ (fun _ => True) (fun _ => False) rfl rfl ?aO ?aR (fun _ _ h => h) (fun _ h => h.elim) ?aF ?aB ?aS ?aL ?_
                (case aR => repeat (first | exact (Kd.C_below HR1_0.out HB.out) | (with_reducible refine Kd.C_alloc ?_ _) | (with_reducible refine Kd.C_drewN ?_ _) | (with_reducible refine Kd.C_drew ?_)))
                (case aB => exact (sW HB.out))
                (case aF => exact (fun _ _ => trivial))
                (case aO => exact (sR HO272.out))
                (case aS => exact (below_size (sW HB.out)))
                (case aL => have := LMc17.out; omega)
                intro v274 w26 ho hb hg hat
                rw [← Ny273.out] at ho
                have n0_ := aS (blk_grown (g := gb266) (o := .cells #[.slice A1_0 l1_0.length c1_0, .slice A1_1 l1_1.length c1_1] 37 (0, 0)) (sB BK266.out) hg (Kd.R_ne HO272.out BK266.out (by decide)))
                have n1_ := aS (blk_grown (g := gb267) (o := .cells #[.slice none 0 0, .slice none 0 0] 37 (0, 0)) (sB BK267.out) hg (Kd.R_ne HO272.out BK267.out (by decide)))
                have n2_ := aS (blk_grown (g := gb282) (o := .cells #[.slice none 0 0, .slice none 0 0] 37 (0, 0)) (sB BK282.out) hg (Kd.R_ne HO272.out BK282.out (by decide)))
                have n3_ := aS (hb)
                have n4_ := aS (ho)
                clear BK266 BK267 BK282 HB HO272
                have BK266 := n0_; have BK267 := n1_; have BK282 := n2_; have HB := n3_; have HO275 := n4_
                clear n0_ n1_ n2_ n3_ n4_
                clear ho hb hg hat
                refine hK.out _ _ ⟨(blk_cell BK266.out 0).trans rfl, (blk_cell BK266.out 1).trans rfl⟩ (fun hHeld => ?_)
                clear hK K
                refine norm_ (a' := ?_) ?_ ?_
                rotate_left
                ·
                 show Act.put _ (some 20) _ = _
                 simp only [Act.put, List.setIfInBounds_toArray, List.set_cons_zero, List.set_cons_succ, i64_w, i32_w]
                 rfl
                exact norm_ (by first | (simp only [putAll, Act.put, List.setIfInBounds_toArray, List.set_cons_zero, List.set_cons_succ]; done) | (simp only [putAll, Act.put, List.setIfInBounds_toArray, List.set_cons_zero, List.set_cons_succ]; rfl)) (hJ0_3_9 (v271, v274, gb282) _ ⟨hHeld, (sR HO275.out), (sB BK266.out), (sB BK267.out), (sB BK282.out), GW282.out, GE282.out, NB266_282.out, NB282_266.out, NB267_282.out, NB282_267.out, (sW HB.out)⟩)
               ·
                skip
                refine Kd.R_lit_step (Kd.int .i64) _ 2 ?hg (N := 21) ?hd (xs := ([] : List Int)) (inner := []) (ok := fun _ => True) (okp := fun _ => True) ?hr ?hp (fun _ hk => hk) trivial (Below.refl _ _) (Nat.le_refl _) (by simp) ?_; (case hd => rfl); (case hg => rfl); (case hr => first | (go_simp; done) | (go_simp; rfl)); (case hp => exact (Reps.none _ _))
                intro v277 w26 ho27 hb hg_ hnew_
                clear hg_ hnew_
                (first | rw [← Ny276.out] at ho27 | (simp only [Int.reduceToNat] at ho27; rw [← Ny276.out] at ho27))
                have n0_ := aS (Kd.R_below (sR HO272.out) hb)
                have n1_ := aS (Kd.R_lower ho27 (below_size (sW HB.out)))
                have n2_ := aS (blk_below (g := gb266) (o := .cells #[.slice A1_0 l1_0.length c1_0, .slice A1_1 l1_1.length c1_1] 37 (0, 0)) (sB BK266.out) hb)
                have n3_ := aS (blk_below (g := gb267) (o := .cells #[.slice none 0 0, .slice none 0 0] 37 (0, 0)) (sB BK267.out) hb)
                have n4_ := aS (blk_below (g := gb282) (o := .cells #[.slice none 0 0, .slice none 0 0] 37 (0, 0)) (sB BK282.out) hb)
                have n5_ := aS (below_step (sW HB.out) hb)
                clear HO272 BK266 BK267 BK282 HB
                have HO272 := n0_; have HO278 := n1_; have BK266 := n2_; have BK267 := n3_; have BK282 := n4_; have HB := n5_
                clear n0_ n1_ n2_ n3_ n4_ n5_
                clear hb ho27
                refine hK.out _ _ ⟨(blk_cell BK266.out 0).trans rfl, (blk_cell BK266.out 1).trans rfl⟩ (fun hHeld => ?_)
                clear hK K
                refine norm_ (a' := ?_) ?_ ?_
                rotate_left
                ·
                 show Act.put _ (some 21) _ = _
                 simp only [Act.put, List.setIfInBounds_toArray, List.set_cons_zero, List.set_cons_succ, i64_w, i32_w]
                 rfl
                exact norm_ (by first | (simp only [putAll, Act.put, List.setIfInBounds_toArray, List.set_cons_zero, List.set_cons_succ]; done) | (simp only [putAll, Act.put, List.setIfInBounds_toArray, List.set_cons_zero, List.set_cons_succ]; rfl)) (hJ0_4_9 (v271, v277, gb282) _ ⟨hHeld, (sR HO272.out), (sR HO278.out), (sB BK266.out), (sB BK267.out), (sB BK282.out), GW282.out, GE282.out, NB266_282.out, NB282_266.out, NB267_282.out, NB282_267.out, (sW HB.out)⟩)
             ·
              skip
              rintro ⟨v271, v277⟩ w26 ⟨hS_, h0_, h1_, h2_, h3_, h4_⟩
              have n0_ : Aside0 (Kd.R k44 44 w26 w.heap.size (fun _ => True) v271 y270) := ⟨h0_⟩
              have n1_ : Aside0 (Kd.R (Kd.int .i64) 2 w26 w.heap.size (fun _ => True) v277 y276) := ⟨h1_⟩
              have n2_ : Aside0 (w26.heap[gb266]? = some (.cells #[.slice A1_0 l1_0.length c1_0, .slice A1_1 l1_1.length c1_1] 37 (0, 0))) := ⟨h2_⟩
              have n3_ : Aside0 (w26.heap[gb267]? = some (.cells #[.slice none 0 0, .slice none 0 0] 37 (0, 0))) := ⟨h3_⟩
              have n4_ : Aside0 (Below w.heap.size w w26) := ⟨h4_⟩
              clear BK266 BK267 HB
              clear h0_ h1_ h2_ h3_ h4_
              have HO272 := n0_; have HO278 := n1_; have BK266 := n2_; have BK267 := n3_; have HB := n4_
              clear n0_ n1_ n2_ n3_ n4_
              have hHeld : w26.cell? ⟨gb266, 0, none⟩ = some (.slice A1_0 l1_0.length c1_0) ∧ w26.cell? ⟨gb266, 1, none⟩ = some (.slice A1_1 l1_1.length c1_1) := hS_
              refine norm_ (a' := ?_) ?_ ?_
              rotate_left
              ·
               simp only [putAll, Act.put, List.setIfInBounds_toArray, List.set_cons_zero, List.set_cons_succ]
               rfl
              refine two_ (i := 3) (j := 9) (Ni := some 20) (Nj := some 6) #[true, true, true, true, true, true, true, false, false, false, false] #[true, true, true, false, true, true, true, false, false, true, false] rfl rfl rfl rfl (two_of HT_.out (by kernel_rfl)) (by decide) (by decide) (fun K hK => ?_) (fun K hK => ?_)
              ·
               skip
               refine Kd.R_append_rows_step k44 (w0 := w) w.heap.size (by rfl) (.tmp 17) (.tmp 19) 35 44 (.agg #[(.int .i64 0), (.int .i64 0)]) 16 rfl Try.underlying35 info44 rfl (by decide) (by omega) v271 y270 l1_0 _ _ _ (fun _ => True) (fun _ => False) rfl rfl ?aO ?aR (fun _ _ h => h) (fun _ h => h.elim) ?aF ?aB ?aS ?aL ?_
               (case aR => repeat (first | exact (Kd.C_below HR1_0.out HB.out) | (with_reducible refine Kd.C_alloc ?_ _) | (with_reducible refine Kd.C_drewN ?_ _) | (with_reducible refine Kd.C_drew ?_)))
               (case aB => exact (sW HB.out))
               (case aF => exact (fun _ _ => trivial))
               (case aO => exact (sR HO272.out))
               (case aS => exact (below_size (sW HB.out)))
               (case aL => have := LMc17.out; omega)
               intro v274 w27 ho hb hg hat
               rw [← Ny273.out] at ho
               have n0_ := aS (blk_grown (g := gb266) (o := .cells #[.slice A1_0 l1_0.length c1_0, .slice A1_1 l1_1.length c1_1] 37 (0, 0)) (sB BK266.out) hg (Kd.R_ne HO272.out BK266.out (by decide)))
               have n1_ := aS (blk_grown (g := gb267) (o := .cells #[.slice none 0 0, .slice none 0 0] 37 (0, 0)) (sB BK267.out) hg (Kd.R_ne HO272.out BK267.out (by decide)))
               have n2_ := aS (Kd.R_over' (sR HO278.out) (Kd.R_typed (sR HO272.out)) (by decide) hg)
               have n3_ := aS (hb)
               have n4_ := aS (ho)
               clear BK266 BK267 HO278 HB HO272
               have BK266 := n0_; have BK267 := n1_; have HO278 := n2_; have HB := n3_; have HO275 := n4_
               clear n0_ n1_ n2_ n3_ n4_
               clear ho hb hg hat
               refine hK.out _ _ ⟨(blk_cell BK266.out 0).trans rfl, (blk_cell BK266.out 1).trans rfl⟩ (fun hHeld => ?_)
               clear hK K
               refine norm_ (a' := ?_) ?_ ?_
               rotate_left
               ·
                show Act.put _ (some 20) _ = _
                simp only [Act.put, List.setIfInBounds_toArray, List.set_cons_zero, List.set_cons_succ, i64_w, i32_w]
                rfl
               exact norm_ (by first | (simp only [putAll, Act.put, List.setIfInBounds_toArray, List.set_cons_zero, List.set_cons_succ]; done) | (simp only [putAll, Act.put, List.setIfInBounds_toArray, List.set_cons_zero, List.set_cons_succ]; rfl)) (hJ0_3_4 (v271, v274, v277) _ ⟨hHeld, (sR HO275.out), (sR HO278.out), (sB BK266.out), (sB BK267.out), (sW HB.out)⟩)
              ·
               skip
               refine box_step ?hg (N := 6) ?hd (cs := #[.slice none 0 0, .slice none 0 0]) (t := 37) ?hr ?_; (case hd => rfl); (case hg => rfl); (case hr => first | (go_simp; done) | (go_simp; rfl))
               intro gb282 hg w27 hbox hb
               have n0_ := aS (Kd.R_below (sR HO272.out) hb)
               have n1_ := aS (Kd.R_below (sR HO278.out) hb)
               have n2_ := aS (blk_below (g := gb266) (o := .cells #[.slice A1_0 l1_0.length c1_0, .slice A1_1 l1_1.length c1_1] 37 (0, 0)) (sB BK266.out) hb)
               have n3_ := aS (blk_below (g := gb267) (o := .cells #[.slice none 0 0, .slice none 0 0] 37 (0, 0)) (sB BK267.out) hb)
               have n4_ := aS (below_step (sW HB.out) hb)
               have n5_ := aS (hbox)
               have n6_ := aS ((by rw [hg]; exact (below_size (sW HB.out)) : w.heap.size ≤ gb282))
               have n7_ := aS ((by rw [hg]; exact (below_size (sW HB.out)) : w.heap.size ≤ gb282))
               have n8_ := aS ((by rw [hg]; exact Nat.ne_of_lt (blk_lt (g := gb266) (o := .cells #[.slice A1_0 l1_0.length c1_0, .slice A1_1 l1_1.length c1_1] 37 (0, 0)) (sB BK266.out)) : gb266 ≠ gb282))
               have n9_ := aS ((by rw [hg]; exact Nat.ne_of_gt (blk_lt (g := gb266) (o := .cells #[.slice A1_0 l1_0.length c1_0, .slice A1_1 l1_1.length c1_1] 37 (0, 0)) (sB BK266.out)) : gb282 ≠ gb266))
               have n10_ := aS ((by rw [hg]; exact Nat.ne_of_lt (blk_lt (g := gb267) (o := .cells #[.slice none 0 0, .slice none 0 0] 37 (0, 0)) (sB BK267.out)) : gb267 ≠ gb282))
               have n11_ := aS ((by rw [hg]; exact Nat.ne_of_gt (blk_lt (g := gb267) (o := .cells #[.slice none 0 0, .slice none 0 0] 37 (0, 0)) (sB BK267.out)) : gb282 ≠ gb267))
               clear HO272 HO278 BK266 BK267 HB
               have HO272 := n0_; have HO278 := n1_; have BK266 := n2_; have BK267 := n3_; have HB := n4_; have BK282 := n5_; have GW282 := n6_; have GE282 := n7_; have NB266_282 := n8_; have NB282_266 := n9_; have NB267_282 := n10_; have NB282_267 := n11_
               clear n0_ n1_ n2_ n3_ n4_ n5_ n6_ n7_ n8_ n9_ n10_ n11_
               clear hb hbox hg
               refine hK.out _ _ ⟨(blk_cell BK266.out 0).trans rfl, (blk_cell BK266.out 1).trans rfl⟩ (fun hHeld => ?_)
               clear hK K
               refine norm_ (a' := ?_) ?_ ?_
               rotate_left
               ·
                show Act.put _ (some 6) _ = _
                simp only [Act.put, List.setIfInBounds_toArray, List.set_cons_zero, List.set_cons_succ, i64_w, i32_w]
                rfl
               exact norm_ (by first | (simp only [putAll, Act.put, List.setIfInBounds_toArray, List.set_cons_zero, List.set_cons_succ]; done) | (simp only [putAll, Act.put, List.setIfInBounds_toArray, List.set_cons_zero, List.set_cons_succ]; rfl)) (hJ0_4_9 (v271, v277, gb282) _ ⟨hHeld, (sR HO272.out), (sR HO278.out), (sB BK266.out), (sB BK267.out), (sB BK282.out), GW282.out, GE282.out, NB266_282.out, NB282_266.out, NB267_282.out, NB282_267.out, (sW HB.out)⟩)
            ·
             skip
             rintro ⟨v271, v274⟩ w25 ⟨hS_, h0_, h1_, h2_, h3_⟩
             have n0_ : Aside0 (Kd.R k44 44 w25 w.heap.size (fun _ => True) v274 y273) := ⟨h0_⟩
             have n1_ : Aside0 (w25.heap[gb266]? = some (.cells #[.slice A1_0 l1_0.length c1_0, .slice A1_1 l1_1.length c1_1] 37 (0, 0))) := ⟨h1_⟩
             have n2_ : Aside0 (w25.heap[gb267]? = some (.cells #[.slice none 0 0, .slice none 0 0] 37 (0, 0))) := ⟨h2_⟩
             have n3_ : Aside0 (Below w.heap.size w w25) := ⟨h3_⟩
             clear BK266 BK267 HB
             clear h0_ h1_ h2_ h3_
             have HO275 := n0_; have BK266 := n1_; have BK267 := n2_; have HB := n3_
             clear n0_ n1_ n2_ n3_
             have hHeld : w25.cell? ⟨gb266, 0, none⟩ = some (.slice A1_0 l1_0.length c1_0) ∧ w25.cell? ⟨gb266, 1, none⟩ = some (.slice A1_1 l1_1.length c1_1) := hS_
             refine norm_ (a' := ?_) ?_ ?_
             rotate_left
             ·
              simp only [putAll, Act.put, List.setIfInBounds_toArray, List.set_cons_zero, List.set_cons_succ]
              rfl
             refine two_ (i := 4) (j := 9) (Ni := some 21) (Nj := some 6) #[true, true, true, true, true, true, true, false, false, false, false] #[true, true, true, true, false, true, true, false, false, true, false] rfl rfl rfl rfl (two_of HT_.out (by kernel_rfl)) (by decide) (by decide) (fun K hK => ?_) (fun K hK => ?_)
             ·
              skip
              refine Kd.R_lit_step (Kd.int .i64) _ 2 ?hg (N := 21) ?hd (xs := ([] : List Int)) (inner := []) (ok := fun _ => True) (okp := fun _ => True) ?hr ?hp (fun _ hk => hk) trivial (Below.refl _ _) (Nat.le_refl _) (by simp) ?_; (case hd => rfl); (case hg => rfl); (case hr => first | (go_simp; done) | (go_simp; rfl)); (case hp => exact (Reps.none _ _))
              intro v277 w26 ho27 hb hg_ hnew_
              clear hg_ hnew_
              (first | rw [← Ny276.out] at ho27 | (simp only [Int.reduceToNat] at ho27; rw [← Ny276.out] at ho27))
              have n0_ := aS (Kd.R_below (sR HO275.out) hb)
              have n1_ := aS (Kd.R_lower ho27 (below_size (sW HB.out)))
              have n2_ := aS (blk_below (g := gb266) (o := .cells #[.slice A1_0 l1_0.length c1_0, .slice A1_1 l1_1.length c1_1] 37 (0, 0)) (sB BK266.out) hb)
              have n3_ := aS (blk_below (g := gb267) (o := .cells #[.slice none 0 0, .slice none 0 0] 37 (0, 0)) (sB BK267.out) hb)
              have n4_ := aS (below_step (sW HB.out) hb)
              clear HO275 BK266 BK267 HB
              have HO275 := n0_; have HO278 := n1_; have BK266 := n2_; have BK267 := n3_; have HB := n4_
              clear n0_ n1_ n2_ n3_ n4_
              clear hb ho27
              refine hK.out _ _ ⟨(blk_cell BK266.out 0).trans rfl, (blk_cell BK266.out 1).trans rfl⟩ (fun hHeld => ?_)
              clear hK K
              refine norm_ (a' := ?_) ?_ ?_
              rotate_left
              ·
               show Act.put _ (some 21) _ = _
               simp only [Act.put, List.setIfInBounds_toArray, List.set_cons_zero, List.set_cons_succ, i64_w, i32_w]
               rfl
              exact norm_ (by first | (simp only [putAll, Act.put, List.setIfInBounds_toArray, List.set_cons_zero, List.set_cons_succ]; done) | (simp only [putAll, Act.put, List.setIfInBounds_toArray, List.set_cons_zero, List.set_cons_succ]; rfl)) (hJ0_3_4 (v271, v274, v277) _ ⟨hHeld, (sR HO275.out), (sR HO278.out), (sB BK266.out), (sB BK267.out), (sW HB.out)⟩)
             ·
              skip
              refine box_step ?hg (N := 6) ?hd (cs := #[.slice none 0 0, .slice none 0 0]) (t := 37) ?hr ?_; (case hd => rfl); (case hg => rfl); (case hr => first | (go_simp; done) | (go_simp; rfl))
              intro gb282 hg w26 hbox hb
              have n0_ := aS (Kd.R_below (sR HO275.out) hb)
              have n1_ := aS (blk_below (g := gb266) (o := .cells #[.slice A1_0 l1_0.length c1_0, .slice A1_1 l1_1.length c1_1] 37 (0, 0)) (sB BK266.out) hb)
              have n2_ := aS (blk_below (g := gb267) (o := .cells #[.slice none 0 0, .slice none 0 0] 37 (0, 0)) (sB BK267.out) hb)
              have n3_ := aS (below_step (sW HB.out) hb)
              have n4_ := aS (hbox)
              have n5_ := aS ((by rw [hg]; exact (below_size (sW HB.out)) : w.heap.size ≤ gb282))
              have n6_ := aS ((by rw [hg]; exact (below_size (sW HB.out)) : w.heap.size ≤ gb282))
              have n7_ := aS ((by rw [hg]; exact Nat.ne_of_lt (blk_lt (g := gb266) (o := .cells #[.slice A1_0 l1_0.length c1_0, .slice A1_1 l1_1.length c1_1] 37 (0, 0)) (sB BK266.out)) : gb266 ≠ gb282))
              have n8_ := aS ((by rw [hg]; exact Nat.ne_of_gt (blk_lt (g := gb266) (o := .cells #[.slice A1_0 l1_0.length c1_0, .slice A1_1 l1_1.length c1_1] 37 (0, 0)) (sB BK266.out)) : gb282 ≠ gb266))
              have n9_ := aS ((by rw [hg]; exact Nat.ne_of_lt (blk_lt (g := gb267) (o := .cells #[.slice none 0 0, .slice none 0 0] 37 (0, 0)) (sB BK267.out)) : gb267 ≠ gb282))
              have n10_ := aS ((by rw [hg]; exact Nat.ne_of_gt (blk_lt (g := gb267) (o := .cells #[.slice none 0 0, .slice none 0 0] 37 (0, 0)) (sB BK267.out)) : gb282 ≠ gb267))
              clear HO275 BK266 BK267 HB
              have HO275 := n0_; have BK266 := n1_; have BK267 := n2_; have HB := n3_; have BK282 := n4_; have GW282 := n5_; have GE282 := n6_; have NB266_282 := n7_; have NB282_266 := n8_; have NB267_282 := n9_; have NB282_267 := n10_
              clear n0_ n1_ n2_ n3_ n4_ n5_ n6_ n7_ n8_ n9_ n10_
              clear hb hbox hg
              refine hK.out _ _ ⟨(blk_cell BK266.out 0).trans rfl, (blk_cell BK266.out 1).trans rfl⟩ (fun hHeld => ?_)
              clear hK K
              refine norm_ (a' := ?_) ?_ ?_
              rotate_left
              ·
               show Act.put _ (some 6) _ = _
               simp only [Act.put, List.setIfInBounds_toArray, List.set_cons_zero, List.set_cons_succ, i64_w, i32_w]
               rfl
              exact norm_ (by first | (simp only [putAll, Act.put, List.setIfInBounds_toArray, List.set_cons_zero, List.set_cons_succ]; done) | (simp only [putAll, Act.put, List.setIfInBounds_toArray, List.set_cons_zero, List.set_cons_succ]; rfl)) (hJ0_3_9 (v271, v274, gb282) _ ⟨hHeld, (sR HO275.out), (sB BK266.out), (sB BK267.out), (sB BK282.out), GW282.out, GE282.out, NB266_282.out, NB282_266.out, NB267_282.out, NB282_267.out, (sW HB.out)⟩)
           ·
            skip
            rintro ⟨v271, v277, gb282⟩ w27 ⟨hS_, h0_, h1_, h2_, h3_, h4_, h5_, h6_, h7_, h8_, h9_, h10_, h11_⟩
            have n0_ : Aside0 (Kd.R k44 44 w27 w.heap.size (fun _ => True) v271 y270) := ⟨h0_⟩
            have n1_ : Aside0 (Kd.R (Kd.int .i64) 2 w27 w.heap.size (fun _ => True) v277 y276) := ⟨h1_⟩
            have n2_ : Aside0 (w27.heap[gb266]? = some (.cells #[.slice A1_0 l1_0.length c1_0, .slice A1_1 l1_1.length c1_1] 37 (0, 0))) := ⟨h2_⟩
            have n3_ : Aside0 (w27.heap[gb267]? = some (.cells #[.slice none 0 0, .slice none 0 0] 37 (0, 0))) := ⟨h3_⟩
            have n4_ : Aside0 (w27.heap[gb282]? = some (.cells #[.slice none 0 0, .slice none 0 0] 37 (0, 0))) := ⟨h4_⟩
            have n5_ : Aside0 (w.heap.size ≤ gb282) := ⟨h5_⟩
            have n6_ : Aside0 (w.heap.size ≤ gb282) := ⟨h6_⟩
            have n7_ : Aside0 (gb266 ≠ gb282) := ⟨h7_⟩
            have n8_ : Aside0 (gb282 ≠ gb266) := ⟨h8_⟩
            have n9_ : Aside0 (gb267 ≠ gb282) := ⟨h9_⟩
            have n10_ : Aside0 (gb282 ≠ gb267) := ⟨h10_⟩
            have n11_ : Aside0 (Below w.heap.size w w27) := ⟨h11_⟩
            clear BK266 BK267 HB
            clear h0_ h1_ h2_ h3_ h4_ h5_ h6_ h7_ h8_ h9_ h10_ h11_
            have HO272 := n0_; have HO278 := n1_; have BK266 := n2_; have BK267 := n3_; have BK282 := n4_; have GW282 := n5_; have GE282 := n6_; have NB266_282 := n7_; have NB282_266 := n8_; have NB267_282 := n9_; have NB282_267 := n10_; have HB := n11_
            clear n0_ n1_ n2_ n3_ n4_ n5_ n6_ n7_ n8_ n9_ n10_ n11_
            have hHeld : w27.cell? ⟨gb266, 0, none⟩ = some (.slice A1_0 l1_0.length c1_0) ∧ w27.cell? ⟨gb266, 1, none⟩ = some (.slice A1_1 l1_1.length c1_1) := hS_
            refine norm_ (a' := ?_) ?_ ?_
            rotate_left
            ·
             simp only [putAll, Act.put, List.setIfInBounds_toArray, List.set_cons_zero, List.set_cons_succ]
             rfl
            refine one_ (i := 3) (N := some 20) #[true, true, true, true, true, true, true, false, false, true, false] rfl rfl (one_of HT_.out (by kernel_rfl)) (by decide) (fun K hK => ?_)
            refine Kd.R_append_rows_step k44 (w0 := w) w.heap.size (by rfl) (.tmp 17) (.tmp 19) 35 44 (.agg #[(.int .i64 0), (.int .i64 0)]) 16 rfl Try.underlying35 info44 rfl (by decide) (by omega) v271 y270 l1_0 _ _ _ (fun _ => True) (fun _ => False) rfl rfl ?aO ?aR (fun _ _ h => h) (fun _ h => h.elim) ?aF ?aB ?aS ?aL ?_
            (case aR => repeat (first | exact (Kd.C_below HR1_0.out HB.out) | (with_reducible refine Kd.C_alloc ?_ _) | (with_reducible refine Kd.C_drewN ?_ _) | (with_reducible refine Kd.C_drew ?_)))
            (case aB => exact (sW HB.out))
            (case aF => exact (fun _ _ => trivial))
            (case aO => exact (sR HO272.out))
            (case aS => exact (below_size (sW HB.out)))
            (case aL => have := LMc17.out; omega)
            intro v274 w28 ho hb hg hat
            rw [← Ny273.out] at ho
            have n0_ := aS (blk_grown (g := gb266) (o := .cells #[.slice A1_0 l1_0.length c1_0, .slice A1_1 l1_1.length c1_1] 37 (0, 0)) (sB BK266.out) hg (Kd.R_ne HO272.out BK266.out (by decide)))
            have n1_ := aS (blk_grown (g := gb267) (o := .cells #[.slice none 0 0, .slice none 0 0] 37 (0, 0)) (sB BK267.out) hg (Kd.R_ne HO272.out BK267.out (by decide)))
            have n2_ := aS (Kd.R_over' (sR HO278.out) (Kd.R_typed (sR HO272.out)) (by decide) hg)
            have n3_ := aS (blk_grown (g := gb282) (o := .cells #[.slice none 0 0, .slice none 0 0] 37 (0, 0)) (sB BK282.out) hg (Kd.R_ne HO272.out BK282.out (by decide)))
            have n4_ := aS (hb)
            have n5_ := aS (ho)
            clear BK266 BK267 HO278 BK282 HB HO272
            have BK266 := n0_; have BK267 := n1_; have HO278 := n2_; have BK282 := n3_; have HB := n4_; have HO275 := n5_
            clear n0_ n1_ n2_ n3_ n4_ n5_
            clear ho hb hg hat
            refine hK.out _ _ ⟨(blk_cell BK266.out 0).trans rfl, (blk_cell BK266.out 1).trans rfl⟩ (fun hHeld => ?_)
            clear hK K
            refine norm_ (a' := ?_) ?_ ?_
            rotate_left
            ·
             show Act.put _ (some 20) _ = _
             simp only [Act.put, List.setIfInBounds_toArray, List.set_cons_zero, List.set_cons_succ, i64_w, i32_w]
             rfl
            exact norm_ (by first | (simp only [putAll, Act.put, List.setIfInBounds_toArray, List.set_cons_zero, List.set_cons_succ]; done) | (simp only [putAll, Act.put, List.setIfInBounds_toArray, List.set_cons_zero, List.set_cons_succ]; rfl)) (hJ0_3_4_9 (v271, v274, v277, gb282) _ ⟨hHeld, (sR HO275.out), (sR HO278.out), (sB BK266.out), (sB BK267.out), (sB BK282.out), GW282.out, GE282.out, NB266_282.out, NB282_266.out, NB267_282.out, NB282_267.out, (sW HB.out)⟩)
          ·
           skip
           rintro ⟨v271, v274, gb282⟩ w26 ⟨hS_, h0_, h1_, h2_, h3_, h4_, h5_, h6_, h7_, h8_, h9_, h10_⟩
           have n0_ : Aside0 (Kd.R k44 44 w26 w.heap.size (fun _ => True) v274 y273) := ⟨h0_⟩
           have n1_ : Aside0 (w26.heap[gb266]? = some (.cells #[.slice A1_0 l1_0.length c1_0, .slice A1_1 l1_1.length c1_1] 37 (0, 0))) := ⟨h1_⟩
           have n2_ : Aside0 (w26.heap[gb267]? = some (.cells #[.slice none 0 0, .slice none 0 0] 37 (0, 0))) := ⟨h2_⟩
           have n3_ : Aside0 (w26.heap[gb282]? = some (.cells #[.slice none 0 0, .slice none 0 0] 37 (0, 0))) := ⟨h3_⟩
           have n4_ : Aside0 (w.heap.size ≤ gb282) := ⟨h4_⟩
           have n5_ : Aside0 (w.heap.size ≤ gb282) := ⟨h5_⟩
           have n6_ : Aside0 (gb266 ≠ gb282) := ⟨h6_⟩
           have n7_ : Aside0 (gb282 ≠ gb266) := ⟨h7_⟩
           have n8_ : Aside0 (gb267 ≠ gb282) := ⟨h8_⟩
           have n9_ : Aside0 (gb282 ≠ gb267) := ⟨h9_⟩
           have n10_ : Aside0 (Below w.heap.size w w26) := ⟨h10_⟩
           clear BK266 BK267 HB
           clear h0_ h1_ h2_ h3_ h4_ h5_ h6_ h7_ h8_ h9_ h10_
           have HO275 := n0_; have BK266 := n1_; have BK267 := n2_; have BK282 := n3_; have GW282 := n4_; have GE282 := n5_; have NB266_282 := n6_; have NB282_266 := n7_; have NB267_282 := n8_; have NB282_267 := n9_; have HB := n10_
           clear n0_ n1_ n2_ n3_ n4_ n5_ n6_ n7_ n8_ n9_ n10_
           have hHeld : w26.cell? ⟨gb266, 0, none⟩ = some (.slice A1_0 l1_0.length c1_0) ∧ w26.cell? ⟨gb266, 1, none⟩ = some (.slice A1_1 l1_1.length c1_1) := hS_
           refine norm_ (a' := ?_) ?_ ?_
           rotate_left
           ·
            simp only [putAll, Act.put, List.setIfInBounds_toArray, List.set_cons_zero, List.set_cons_succ]
            rfl
           refine one_ (i := 4) (N := some 21) #[true, true, true, true, true, true, true, false, false, true, false] rfl rfl (one_of HT_.out (by kernel_rfl)) (by decide) (fun K hK => ?_)
           refine Kd.R_lit_step (Kd.int .i64) _ 2 ?hg (N := 21) ?hd (xs := ([] : List Int)) (inner := []) (ok := fun _ => True) (okp := fun _ => True) ?hr ?hp (fun _ hk => hk) trivial (Below.refl _ _) (Nat.le_refl _) (by simp) ?_; (case hd => rfl); (case hg => rfl); (case hr => first | (go_simp; done) | (go_simp; rfl)); (case hp => exact (Reps.none _ _))
           intro v277 w27 ho28 hb hg_ hnew_
           clear hg_ hnew_
           (first | rw [← Ny276.out] at ho28 | (simp only [Int.reduceToNat] at ho28; rw [← Ny276.out] at ho28))
           have n0_ := aS (Kd.R_below (sR HO275.out) hb)
           have n1_ := aS (Kd.R_lower ho28 (below_size (sW HB.out)))
           have n2_ := aS (blk_below (g := gb266) (o := .cells #[.slice A1_0 l1_0.length c1_0, .slice A1_1 l1_1.length c1_1] 37 (0, 0)) (sB BK266.out) hb)
           have n3_ := aS (blk_below (g := gb267) (o := .cells #[.slice none 0 0, .slice none 0 0] 37 (0, 0)) (sB BK267.out) hb)
           have n4_ := aS (blk_below (g := gb282) (o := .cells #[.slice none 0 0, .slice none 0 0] 37 (0, 0)) (sB BK282.out) hb)
           have n5_ := aS (below_step (sW HB.out) hb)
           clear HO275 BK266 BK267 BK282 HB
           have HO275 := n0_; have HO278 := n1_; have BK266 := n2_; have BK267 := n3_; have BK282 := n4_; have HB := n5_
           clear n0_ n1_ n2_ n3_ n4_ n5_
           clear hb ho28
           refine hK.out _ _ ⟨(blk_cell BK266.out 0).trans rfl, (blk_cell BK266.out 1).trans rfl⟩ (fun hHeld => ?_)
           clear hK K
           refine norm_ (a' := ?_) ?_ ?_
           rotate_left
           ·
            show Act.put _ (some 21) _ = _
            simp only [Act.put, List.setIfInBounds_toArray, List.set_cons_zero, List.set_cons_succ, i64_w, i32_w]
            rfl
           exact norm_ (by first | (simp only [putAll, Act.put, List.setIfInBounds_toArray, List.set_cons_zero, List.set_cons_succ]; done) | (simp only [putAll, Act.put, List.setIfInBounds_toArray, List.set_cons_zero, List.set_cons_succ]; rfl)) (hJ0_3_4_9 (v271, v274, v277, gb282) _ ⟨hHeld, (sR HO275.out), (sR HO278.out), (sB BK266.out), (sB BK267.out), (sB BK282.out), GW282.out, GE282.out, NB266_282.out, NB282_266.out, NB267_282.out, NB282_267.out, (sW HB.out)⟩)
         ·
          skip
          rintro ⟨v271, v274, v277⟩ w27 ⟨hS_, h0_, h1_, h2_, h3_, h4_⟩
          have n0_ : Aside0 (Kd.R k44 44 w27 w.heap.size (fun _ => True) v274 y273) := ⟨h0_⟩
          have n1_ : Aside0 (Kd.R (Kd.int .i64) 2 w27 w.heap.size (fun _ => True) v277 y276) := ⟨h1_⟩
          have n2_ : Aside0 (w27.heap[gb266]? = some (.cells #[.slice A1_0 l1_0.length c1_0, .slice A1_1 l1_1.length c1_1] 37 (0, 0))) := ⟨h2_⟩
          have n3_ : Aside0 (w27.heap[gb267]? = some (.cells #[.slice none 0 0, .slice none 0 0] 37 (0, 0))) := ⟨h3_⟩
          have n4_ : Aside0 (Below w.heap.size w w27) := ⟨h4_⟩
          clear BK266 BK267 HB
          clear h0_ h1_ h2_ h3_ h4_
          have HO275 := n0_; have HO278 := n1_; have BK266 := n2_; have BK267 := n3_; have HB := n4_
          clear n0_ n1_ n2_ n3_ n4_
          have hHeld : w27.cell? ⟨gb266, 0, none⟩ = some (.slice A1_0 l1_0.length c1_0) ∧ w27.cell? ⟨gb266, 1, none⟩ = some (.slice A1_1 l1_1.length c1_1) := hS_
          refine norm_ (a' := ?_) ?_ ?_
          rotate_left
          ·
           simp only [putAll, Act.put, List.setIfInBounds_toArray, List.set_cons_zero, List.set_cons_succ]
           rfl
          refine two_ (i := 7) (j := 9) (Ni := some 24) (Nj := some 6) #[true, true, true, true, true, true, true, true, false, false, false] #[true, true, true, true, true, true, true, false, false, true, false] rfl rfl rfl rfl (two_of HT_.out (by kernel_rfl)) (by decide) (by decide) (fun K hK => ?_) (fun K hK => ?_)
          ·
           skip
           refine Kd.R_append_rows_step (Kd.int .i64) (w0 := w) w.heap.size (by rfl) (.tmp 21) (.tmp 23) 30 2 (.int .i64 0) 8 rfl Try.underlying30 info2 rfl (by decide) (by omega) v277 y276 l1_1 _ _ _ (fun _ => True) (fun _ => False) rfl rfl ?aO ?aR (fun _ _ h => h) (fun _ h => h.elim) ?aF ?aB ?aS ?aL ?_
           (case aR => repeat (first | exact (Kd.C_below HR1_1.out HB.out) | (with_reducible refine Kd.C_alloc ?_ _) | (with_reducible refine Kd.C_drewN ?_ _) | (with_reducible refine Kd.C_drew ?_)))
           (case aB => exact (sW HB.out))
           (case aF => exact (fun _ _ => trivial))
           (case aO => exact (sR HO278.out))
           (case aS => exact (below_size (sW HB.out)))
           (case aL => have := LMc18.out; omega)
           intro v280 w28 ho hb hg hat
           rw [← Ny279.out] at ho
           have n0_ := aS (blk_grown (g := gb266) (o := .cells #[.slice A1_0 l1_0.length c1_0, .slice A1_1 l1_1.length c1_1] 37 (0, 0)) (sB BK266.out) hg (Kd.R_ne HO278.out BK266.out (by decide)))
           have n1_ := aS (blk_grown (g := gb267) (o := .cells #[.slice none 0 0, .slice none 0 0] 37 (0, 0)) (sB BK267.out) hg (Kd.R_ne HO278.out BK267.out (by decide)))
           have n2_ := aS (Kd.R_over' (sR HO275.out) (Kd.R_typed (sR HO278.out)) (by decide) hg)
           have n3_ := aS (hb)
           have n4_ := aS (ho)
           clear BK266 BK267 HO275 HB HO278
           have BK266 := n0_; have BK267 := n1_; have HO275 := n2_; have HB := n3_; have HO281 := n4_
           clear n0_ n1_ n2_ n3_ n4_
           clear ho hb hg hat
           obtain ⟨Ao29, co29, eo29⟩ := Kd.R_slice HO281.out
           (first | subst eo29 | (injection eo29 with f1_ f2_ f3_; have f4_ := f1_.symm; have f5_ := f3_.symm; clear f1_ f2_ f3_; subst f4_; subst f5_))
           obtain ⟨Ao30, co30, eo30⟩ := Kd.R_slice HO275.out
           (first | subst eo30 | (injection eo30 with f1_ f2_ f3_; have f4_ := f1_.symm; have f5_ := f3_.symm; clear f1_ f2_ f3_; subst f4_; subst f5_))
           refine hK.out _ _ ⟨(blk_cell BK266.out 0).trans rfl, (blk_cell BK266.out 1).trans rfl⟩ (fun hHeld => ?_)
           clear hK K
           refine norm_ (a' := ?_) ?_ ?_
           rotate_left
           ·
            show Act.put _ (some 24) _ = _
            simp only [Act.put, List.setIfInBounds_toArray, List.set_cons_zero, List.set_cons_succ, i64_w, i32_w]
            rfl
           refine pure_ (i := 8) (N := some 25) (v := ?_) (a' := ?_) #[true, true, true, true, true, true, true, true, true, false, false] rfl rfl (any_of HT_.out (by kernel_rfl)) (fun _ _ _ h => h) (Or.inl ⟨by rfl, ?_⟩) ?_ ?_
           rotate_left
           ·
            intro w'
            go_simp
            with_reducible rfl
           rotate_left
           ·
            simp only [Act.put, List.setIfInBounds_toArray, List.set_cons_zero, List.set_cons_succ, i64_w, i32_w]
            rfl
           exact norm_ (by first | (simp only [putAll, Act.put, List.setIfInBounds_toArray, List.set_cons_zero, List.set_cons_succ]; done) | (simp only [putAll, Act.put, List.setIfInBounds_toArray, List.set_cons_zero, List.set_cons_succ]; rfl)) (hJ0_3_4_7 (v271, .slice Ao30 y273.length co30, v277, .slice Ao29 y279.length co29) _ ⟨hHeld, (sR HO275.out), (sR HO281.out), (sB BK266.out), (sB BK267.out), (sW HB.out)⟩)
          ·
           skip
           refine box_step ?hg (N := 6) ?hd (cs := #[.slice none 0 0, .slice none 0 0]) (t := 37) ?hr ?_; (case hd => rfl); (case hg => rfl); (case hr => first | (go_simp; done) | (go_simp; rfl))
           intro gb282 hg w28 hbox hb
           have n0_ := aS (Kd.R_below (sR HO275.out) hb)
           have n1_ := aS (Kd.R_below (sR HO278.out) hb)
           have n2_ := aS (blk_below (g := gb266) (o := .cells #[.slice A1_0 l1_0.length c1_0, .slice A1_1 l1_1.length c1_1] 37 (0, 0)) (sB BK266.out) hb)
           have n3_ := aS (blk_below (g := gb267) (o := .cells #[.slice none 0 0, .slice none 0 0] 37 (0, 0)) (sB BK267.out) hb)
           have n4_ := aS (below_step (sW HB.out) hb)
           have n5_ := aS (hbox)
           have n6_ := aS ((by rw [hg]; exact (below_size (sW HB.out)) : w.heap.size ≤ gb282))
           have n7_ := aS ((by rw [hg]; exact (below_size (sW HB.out)) : w.heap.size ≤ gb282))
           have n8_ := aS ((by rw [hg]; exact Nat.ne_of_lt (blk_lt (g := gb266) (o := .cells #[.slice A1_0 l1_0.length c1_0, .slice A1_1 l1_1.length c1_1] 37 (0, 0)) (sB BK266.out)) : gb266 ≠ gb282))
           have n9_ := aS ((by rw [hg]; exact Nat.ne_of_gt (blk_lt (g := gb266) (o := .cells #[.slice A1_0 l1_0.length c1_0, .slice A1_1 l1_1.length c1_1] 37 (0, 0)) (sB BK266.out)) : gb282 ≠ gb266))
           have n10_ := aS ((by rw [hg]; exact Nat.ne_of_lt (blk_lt (g := gb267) (o := .cells #[.slice none 0 0, .slice none 0 0] 37 (0, 0)) (sB BK267.out)) : gb267 ≠ gb282))
           have n11_ := aS ((by rw [hg]; exact Nat.ne_of_gt (blk_lt (g := gb267) (o := .cells #[.slice none 0 0, .slice none 0 0] 37 (0, 0)) (sB BK267.out)) : gb282 ≠ gb267))
           clear HO275 HO278 BK266 BK267 HB
           have HO275 := n0_; have HO278 := n1_; have BK266 := n2_; have BK267 := n3_; have HB := n4_; have BK282 := n5_; have GW282 := n6_; have GE282 := n7_; have NB266_282 := n8_; have NB282_266 := n9_; have NB267_282 := n10_; have NB282_267 := n11_
           clear n0_ n1_ n2_ n3_ n4_ n5_ n6_ n7_ n8_ n9_ n10_ n11_
           clear hb hbox hg
           refine hK.out _ _ ⟨(blk_cell BK266.out 0).trans rfl, (blk_cell BK266.out 1).trans rfl⟩ (fun hHeld => ?_)
           clear hK K
           refine norm_ (a' := ?_) ?_ ?_
           rotate_left
           ·
            show Act.put _ (some 6) _ = _
            simp only [Act.put, List.setIfInBounds_toArray, List.set_cons_zero, List.set_cons_succ, i64_w, i32_w]
            rfl
           exact norm_ (by first | (simp only [putAll, Act.put, List.setIfInBounds_toArray, List.set_cons_zero, List.set_cons_succ]; done) | (simp only [putAll, Act.put, List.setIfInBounds_toArray, List.set_cons_zero, List.set_cons_succ]; rfl)) (hJ0_3_4_9 (v271, v274, v277, gb282) _ ⟨hHeld, (sR HO275.out), (sR HO278.out), (sB BK266.out), (sB BK267.out), (sB BK282.out), GW282.out, GE282.out, NB266_282.out, NB282_266.out, NB267_282.out, NB282_267.out, (sW HB.out)⟩)
        ·
         skip
         rintro ⟨v271, v274, v277, gb282⟩ w28 ⟨hS_, h0_, h1_, h2_, h3_, h4_, h5_, h6_, h7_, h8_, h9_, h10_, h11_⟩
         have n0_ : Aside0 (Kd.R k44 44 w28 w.heap.size (fun _ => True) v274 y273) := ⟨h0_⟩
         have n1_ : Aside0 (Kd.R (Kd.int .i64) 2 w28 w.heap.size (fun _ => True) v277 y276) := ⟨h1_⟩
         have n2_ : Aside0 (w28.heap[gb266]? = some (.cells #[.slice A1_0 l1_0.length c1_0, .slice A1_1 l1_1.length c1_1] 37 (0, 0))) := ⟨h2_⟩
         have n3_ : Aside0 (w28.heap[gb267]? = some (.cells #[.slice none 0 0, .slice none 0 0] 37 (0, 0))) := ⟨h3_⟩
         have n4_ : Aside0 (w28.heap[gb282]? = some (.cells #[.slice none 0 0, .slice none 0 0] 37 (0, 0))) := ⟨h4_⟩
         have n5_ : Aside0 (w.heap.size ≤ gb282) := ⟨h5_⟩
         have n6_ : Aside0 (w.heap.size ≤ gb282) := ⟨h6_⟩
         have n7_ : Aside0 (gb266 ≠ gb282) := ⟨h7_⟩
         have n8_ : Aside0 (gb282 ≠ gb266) := ⟨h8_⟩
         have n9_ : Aside0 (gb267 ≠ gb282) := ⟨h9_⟩
         have n10_ : Aside0 (gb282 ≠ gb267) := ⟨h10_⟩
         have n11_ : Aside0 (Below w.heap.size w w28) := ⟨h11_⟩
         clear BK266 BK267 HB
         clear h0_ h1_ h2_ h3_ h4_ h5_ h6_ h7_ h8_ h9_ h10_ h11_
         have HO275 := n0_; have HO278 := n1_; have BK266 := n2_; have BK267 := n3_; have BK282 := n4_; have GW282 := n5_; have GE282 := n6_; have NB266_282 := n7_; have NB282_266 := n8_; have NB267_282 := n9_; have NB282_267 := n10_; have HB := n11_
         clear n0_ n1_ n2_ n3_ n4_ n5_ n6_ n7_ n8_ n9_ n10_ n11_
         have hHeld : w28.cell? ⟨gb266, 0, none⟩ = some (.slice A1_0 l1_0.length c1_0) ∧ w28.cell? ⟨gb266, 1, none⟩ = some (.slice A1_1 l1_1.length c1_1) := hS_
         refine norm_ (a' := ?_) ?_ ?_
         rotate_left
         ·
          simp only [putAll, Act.put, List.setIfInBounds_toArray, List.set_cons_zero, List.set_cons_succ]
          rfl
         refine one_ (i := 7) (N := some 24) #[true, true, true, true, true, true, true, true, false, true, false] rfl rfl (one_of HT_.out (by kernel_rfl)) (by decide) (fun K hK => ?_)
         refine Kd.R_append_rows_step (Kd.int .i64) (w0 := w) w.heap.size (by rfl) (.tmp 21) (.tmp 23) 30 2 (.int .i64 0) 8 rfl Try.underlying30 info2 rfl (by decide) (by omega) v277 y276 l1_1 _ _ _ (fun _ => True) (fun _ => False) rfl rfl ?aO ?aR (fun _ _ h => h) (fun _ h => h.elim) ?aF ?aB ?aS ?aL ?_
         (case aR => repeat (first | exact (Kd.C_below HR1_1.out HB.out) | (with_reducible refine Kd.C_alloc ?_ _) | (with_reducible refine Kd.C_drewN ?_ _) | (with_reducible refine Kd.C_drew ?_)))
         (case aB => exact (sW HB.out))
         (case aF => exact (fun _ _ => trivial))
         (case aO => exact (sR HO278.out))
         (case aS => exact (below_size (sW HB.out)))
         (case aL => have := LMc18.out; omega)
         intro v280 w29 ho hb hg hat
         rw [← Ny279.out] at ho
         have n0_ := aS (blk_grown (g := gb266) (o := .cells #[.slice A1_0 l1_0.length c1_0, .slice A1_1 l1_1.length c1_1] 37 (0, 0)) (sB BK266.out) hg (Kd.R_ne HO278.out BK266.out (by decide)))
         have n1_ := aS (blk_grown (g := gb267) (o := .cells #[.slice none 0 0, .slice none 0 0] 37 (0, 0)) (sB BK267.out) hg (Kd.R_ne HO278.out BK267.out (by decide)))
         have n2_ := aS (Kd.R_over' (sR HO275.out) (Kd.R_typed (sR HO278.out)) (by decide) hg)
         have n3_ := aS (blk_grown (g := gb282) (o := .cells #[.slice none 0 0, .slice none 0 0] 37 (0, 0)) (sB BK282.out) hg (Kd.R_ne HO278.out BK282.out (by decide)))
         have n4_ := aS (hb)
         have n5_ := aS (ho)
         clear BK266 BK267 HO275 BK282 HB HO278
         have BK266 := n0_; have BK267 := n1_; have HO275 := n2_; have BK282 := n3_; have HB := n4_; have HO281 := n5_
         clear n0_ n1_ n2_ n3_ n4_ n5_
         clear ho hb hg hat
         obtain ⟨Ao30, co30, eo30⟩ := Kd.R_slice HO281.out
         (first | subst eo30 | (injection eo30 with f1_ f2_ f3_; have f4_ := f1_.symm; have f5_ := f3_.symm; clear f1_ f2_ f3_; subst f4_; subst f5_))
         obtain ⟨Ao31, co31, eo31⟩ := Kd.R_slice HO275.out
         (first | subst eo31 | (injection eo31 with f1_ f2_ f3_; have f4_ := f1_.symm; have f5_ := f3_.symm; clear f1_ f2_ f3_; subst f4_; subst f5_))
         refine hK.out _ _ ⟨(blk_cell BK266.out 0).trans rfl, (blk_cell BK266.out 1).trans rfl⟩ (fun hHeld => ?_)
         clear hK K
         refine norm_ (a' := ?_) ?_ ?_
         rotate_left
         ·
          show Act.put _ (some 24) _ = _
          simp only [Act.put, List.setIfInBounds_toArray, List.set_cons_zero, List.set_cons_succ, i64_w, i32_w]
          rfl
         refine pure_ (i := 8) (N := some 25) (v := ?_) (a' := ?_) #[true, true, true, true, true, true, true, true, true, true, false] rfl rfl (any_of HT_.out (by kernel_rfl)) (fun _ _ _ h => h) (Or.inl ⟨by rfl, ?_⟩) ?_ ?_
         rotate_left
         ·
          intro w'
          go_simp
          with_reducible rfl
         rotate_left
         ·
          simp only [Act.put, List.setIfInBounds_toArray, List.set_cons_zero, List.set_cons_succ, i64_w, i32_w]
          rfl
         exact norm_ (by first | (simp only [putAll, Act.put, List.setIfInBounds_toArray, List.set_cons_zero, List.set_cons_succ]; done) | (simp only [putAll, Act.put, List.setIfInBounds_toArray, List.set_cons_zero, List.set_cons_succ]; rfl)) (hJ0_3_4_7_9 (v271, .slice Ao31 y273.length co31, v277, .slice Ao30 y279.length co30, gb282) _ ⟨hHeld, (sR HO275.out), (sR HO281.out), (sB BK266.out), (sB BK267.out), (sB BK282.out), GW282.out, GE282.out, NB266_282.out, NB282_266.out, NB267_282.out, NB282_267.out, (sW HB.out)⟩)
       ·
        skip
        rintro ⟨v271, v274, v277, v280⟩ w30 ⟨hS_, h0_, h1_, h2_, h3_, h4_⟩
        have n0_ : Aside0 (Kd.R k44 44 w30 w.heap.size (fun _ => True) v274 y273) := ⟨h0_⟩
        have n1_ : Aside0 (Kd.R (Kd.int .i64) 2 w30 w.heap.size (fun _ => True) v280 y279) := ⟨h1_⟩
        have n2_ : Aside0 (w30.heap[gb266]? = some (.cells #[.slice A1_0 l1_0.length c1_0, .slice A1_1 l1_1.length c1_1] 37 (0, 0))) := ⟨h2_⟩
        have n3_ : Aside0 (w30.heap[gb267]? = some (.cells #[.slice none 0 0, .slice none 0 0] 37 (0, 0))) := ⟨h3_⟩
        have n4_ : Aside0 (Below w.heap.size w w30) := ⟨h4_⟩
        clear BK266 BK267 HB
        clear h0_ h1_ h2_ h3_ h4_
        have HO275 := n0_; have HO281 := n1_; have BK266 := n2_; have BK267 := n3_; have HB := n4_
        clear n0_ n1_ n2_ n3_ n4_
        have hHeld : w30.cell? ⟨gb266, 0, none⟩ = some (.slice A1_0 l1_0.length c1_0) ∧ w30.cell? ⟨gb266, 1, none⟩ = some (.slice A1_1 l1_1.length c1_1) := hS_
        obtain ⟨Ao31, co31, eo31⟩ := Kd.R_slice HO281.out
        (first | subst eo31 | (injection eo31 with f1_ f2_ f3_; have f4_ := f1_.symm; have f5_ := f3_.symm; clear f1_ f2_ f3_; subst f4_; subst f5_))
        obtain ⟨Ao32, co32, eo32⟩ := Kd.R_slice HO275.out
        (first | subst eo32 | (injection eo32 with f1_ f2_ f3_; have f4_ := f1_.symm; have f5_ := f3_.symm; clear f1_ f2_ f3_; subst f4_; subst f5_))
        refine norm_ (a' := ?_) ?_ ?_
        rotate_left
        ·
         simp only [putAll, Act.put, List.setIfInBounds_toArray, List.set_cons_zero, List.set_cons_succ]
         rfl
        refine one_ (i := 9) (N := some 6) #[true, true, true, true, true, true, true, true, true, true, false] rfl rfl (one_of HT_.out (by kernel_rfl)) (by decide) (fun K hK => ?_)
        refine box_step ?hg (N := 6) ?hd (cs := #[.slice none 0 0, .slice none 0 0]) (t := 37) ?hr ?_; (case hd => rfl); (case hg => rfl); (case hr => first | (go_simp; done) | (go_simp; rfl))
        intro gb282 hg w33 hbox hb
        have n0_ := aS (Kd.R_below (sR HO275.out) hb)
        have n1_ := aS (Kd.R_below (sR HO281.out) hb)
        have n2_ := aS (blk_below (g := gb266) (o := .cells #[.slice A1_0 l1_0.length c1_0, .slice A1_1 l1_1.length c1_1] 37 (0, 0)) (sB BK266.out) hb)
        have n3_ := aS (blk_below (g := gb267) (o := .cells #[.slice none 0 0, .slice none 0 0] 37 (0, 0)) (sB BK267.out) hb)
        have n4_ := aS (below_step (sW HB.out) hb)
        have n5_ := aS (hbox)
        have n6_ := aS ((by rw [hg]; exact (below_size (sW HB.out)) : w.heap.size ≤ gb282))
        have n7_ := aS ((by rw [hg]; exact (below_size (sW HB.out)) : w.heap.size ≤ gb282))
        have n8_ := aS ((by rw [hg]; exact Nat.ne_of_lt (blk_lt (g := gb266) (o := .cells #[.slice A1_0 l1_0.length c1_0, .slice A1_1 l1_1.length c1_1] 37 (0, 0)) (sB BK266.out)) : gb266 ≠ gb282))
        have n9_ := aS ((by rw [hg]; exact Nat.ne_of_gt (blk_lt (g := gb266) (o := .cells #[.slice A1_0 l1_0.length c1_0, .slice A1_1 l1_1.length c1_1] 37 (0, 0)) (sB BK266.out)) : gb282 ≠ gb266))
        have n10_ := aS ((by rw [hg]; exact Nat.ne_of_lt (blk_lt (g := gb267) (o := .cells #[.slice none 0 0, .slice none 0 0] 37 (0, 0)) (sB BK267.out)) : gb267 ≠ gb282))
        have n11_ := aS ((by rw [hg]; exact Nat.ne_of_gt (blk_lt (g := gb267) (o := .cells #[.slice none 0 0, .slice none 0 0] 37 (0, 0)) (sB BK267.out)) : gb282 ≠ gb267))
        clear HO275 HO281 BK266 BK267 HB
        have HO275 := n0_; have HO281 := n1_; have BK266 := n2_; have BK267 := n3_; have HB := n4_; have BK282 := n5_; have GW282 := n6_; have GE282 := n7_; have NB266_282 := n8_; have NB282_266 := n9_; have NB267_282 := n10_; have NB282_267 := n11_
        clear n0_ n1_ n2_ n3_ n4_ n5_ n6_ n7_ n8_ n9_ n10_ n11_
        clear hb hbox hg
        refine hK.out _ _ ⟨(blk_cell BK266.out 0).trans rfl, (blk_cell BK266.out 1).trans rfl⟩ (fun hHeld => ?_)
        clear hK K
        refine norm_ (a' := ?_) ?_ ?_
        rotate_left
        ·
         show Act.put _ (some 6) _ = _
         simp only [Act.put, List.setIfInBounds_toArray, List.set_cons_zero, List.set_cons_succ, i64_w, i32_w]
         rfl
        exact norm_ (by first | (simp only [putAll, Act.put, List.setIfInBounds_toArray, List.set_cons_zero, List.set_cons_succ]; done) | (simp only [putAll, Act.put, List.setIfInBounds_toArray, List.set_cons_zero, List.set_cons_succ]; rfl)) (hJ0_3_4_7_9 (v271, .slice Ao32 y273.length co32, v277, .slice Ao31 y279.length co31, gb282) _ ⟨hHeld, (sR HO275.out), (sR HO281.out), (sB BK266.out), (sB BK267.out), (sB BK282.out), GW282.out, GE282.out, NB266_282.out, NB282_266.out, NB267_282.out, NB282_267.out, (sW HB.out)⟩)
      rintro ⟨v271, v274, v277, v280, gb282⟩ w31 ⟨hS_, h0_, h1_, h2_, h3_, h4_, h5_, h6_, h7_, h8_, h9_, h10_, h11_⟩
      have n0_ : Aside0 (Kd.R k44 44 w31 w.heap.size (fun _ => True) v274 y273) := ⟨h0_⟩
      have n1_ : Aside0 (Kd.R (Kd.int .i64) 2 w31 w.heap.size (fun _ => True) v280 y279) := ⟨h1_⟩
      have n2_ : Aside0 (w31.heap[gb266]? = some (.cells #[.slice A1_0 l1_0.length c1_0, .slice A1_1 l1_1.length c1_1] 37 (0, 0))) := ⟨h2_⟩
      have n3_ : Aside0 (w31.heap[gb267]? = some (.cells #[.slice none 0 0, .slice none 0 0] 37 (0, 0))) := ⟨h3_⟩
      have n4_ : Aside0 (w31.heap[gb282]? = some (.cells #[.slice none 0 0, .slice none 0 0] 37 (0, 0))) := ⟨h4_⟩
      have n5_ : Aside0 (w.heap.size ≤ gb282) := ⟨h5_⟩
      have n6_ : Aside0 (w.heap.size ≤ gb282) := ⟨h6_⟩
      have n7_ : Aside0 (gb266 ≠ gb282) := ⟨h7_⟩
      have n8_ : Aside0 (gb282 ≠ gb266) := ⟨h8_⟩
      have n9_ : Aside0 (gb267 ≠ gb282) := ⟨h9_⟩
      have n10_ : Aside0 (gb282 ≠ gb267) := ⟨h10_⟩
      have n11_ : Aside0 (Below w.heap.size w w31) := ⟨h11_⟩
      clear BK266 BK267 HB
      clear h0_ h1_ h2_ h3_ h4_ h5_ h6_ h7_ h8_ h9_ h10_ h11_
      have HO275 := n0_; have HO281 := n1_; have BK266 := n2_; have BK267 := n3_; have BK282 := n4_; have GW282 := n5_; have GE282 := n6_; have NB266_282 := n7_; have NB282_266 := n8_; have NB267_282 := n9_; have NB282_267 := n10_; have HB := n11_
      clear n0_ n1_ n2_ n3_ n4_ n5_ n6_ n7_ n8_ n9_ n10_ n11_
      have hHeld : w31.cell? ⟨gb266, 0, none⟩ = some (.slice A1_0 l1_0.length c1_0) ∧ w31.cell? ⟨gb266, 1, none⟩ = some (.slice A1_1 l1_1.length c1_1) := hS_
      obtain ⟨Ao32, co32, eo32⟩ := Kd.R_slice HO281.out
      (first | subst eo32 | (injection eo32 with f1_ f2_ f3_; have f4_ := f1_.symm; have f5_ := f3_.symm; clear f1_ f2_ f3_; subst f4_; subst f5_))
      obtain ⟨Ao33, co33, eo33⟩ := Kd.R_slice HO275.out
      (first | subst eo33 | (injection eo33 with f1_ f2_ f3_; have f4_ := f1_.symm; have f5_ := f3_.symm; clear f1_ f2_ f3_; subst f4_; subst f5_))
      refine norm_ (a' := ?_) ?_ ?_
      rotate_left
      ·
       simp only [putAll, Act.put, List.setIfInBounds_toArray, List.set_cons_zero, List.set_cons_succ]
       rfl
      refine one_ (i := 10) (N := none) #[true, true, true, true, true, true, true, true, true, true, true] rfl rfl (one_of HT_.out (by kernel_rfl)) (by decide) (fun K hK => ?_)
      have hs34 : w31.cell? ⟨gb282, 0, none⟩ = some (.slice none 0 0) := (blk_cell BK282.out 0).trans rfl
      have hfs34 := blk_frozen BK282.out 0
      have hns34_0 := NB266_282.out
      have hns34_1 := NB267_282.out
      have hms34_0 := NB282_266.out
      have hms34_1 := NB282_267.out
      have hs35 : w31.cell? ⟨gb282, 1, none⟩ = some (.slice none 0 0) := (blk_cell BK282.out 1).trans rfl
      have hfs35 := blk_frozen BK282.out 1
      have hns35_0 := NB266_282.out
      have hns35_1 := NB267_282.out
      have hms35_0 := NB282_266.out
      have hms35_1 := NB282_267.out
      refine skip_ (w1 := ?_) (by rfl) rfl ?_ ?_
      rotate_left
      ·
       go_simp
       rfl
      refine hK.out _ _ ⟨((cell_far (p := ⟨gb282, _, none⟩) NB266_282.out _).trans (((cell_far (p := ⟨gb282, _, none⟩) NB266_282.out _).trans (hHeld.1)))), ((cell_far (p := ⟨gb282, _, none⟩) NB266_282.out _).trans (((cell_far (p := ⟨gb282, _, none⟩) NB266_282.out _).trans (hHeld.2))))⟩ (fun hHeld => ?_)
      clear hK K
      refine done_ (done_of HT_.out (by kernel_rfl)) ?_
      have n0_ : Aside0 (Kd.R k44 44 ((w31.setCell ⟨gb282, 0, none⟩ (.slice Ao33 y273.length co33)).setCell ⟨gb282, 1, none⟩ (.slice Ao32 y279.length co32)) w.heap.size (fun _ => True) (.slice Ao33 y273.length co33) y273) := ⟨by (with_reducible repeat (first | apply Kd.R_alloc | apply Kd.R_drewN | apply Kd.R_drew)); exact Kd.R_mono (Kd.R_far (p := ⟨gb282, 1, none⟩) (Kd.R_far (p := ⟨gb282, 0, none⟩) (Kd.R_types HO275.out BK282.out (by decide)) (fun _ hk => hk.2) (.slice Ao33 y273.length co33)) (fun _ hk => hk.2) (.slice Ao32 y279.length co32)) (fun _ hk => trivial)⟩
      have n1_ : Aside0 (Kd.R (Kd.int .i64) 2 ((w31.setCell ⟨gb282, 0, none⟩ (.slice Ao33 y273.length co33)).setCell ⟨gb282, 1, none⟩ (.slice Ao32 y279.length co32)) w.heap.size (fun _ => True) (.slice Ao32 y279.length co32) y279) := ⟨by (with_reducible repeat (first | apply Kd.R_alloc | apply Kd.R_drewN | apply Kd.R_drew)); exact Kd.R_mono (Kd.R_far (p := ⟨gb282, 1, none⟩) (Kd.R_far (p := ⟨gb282, 0, none⟩) (Kd.R_types HO281.out BK282.out (by decide)) (fun _ hk => hk.2) (.slice Ao33 y273.length co33)) (fun _ hk => hk.2) (.slice Ao32 y279.length co32)) (fun _ hk => trivial)⟩
      have n2_ : Aside0 (((w31.setCell ⟨gb282, 0, none⟩ (.slice Ao33 y273.length co33)).setCell ⟨gb282, 1, none⟩ (.slice Ao32 y279.length co32)).heap[gb266]? = some (.cells #[.slice A1_0 l1_0.length c1_0, .slice A1_1 l1_1.length c1_1] 37 (0, 0))) := ⟨by (with_reducible repeat (first | refine blk_drewN ?_ _ | refine blk_drew ?_ | refine blk_alloc ?_ _)); refine blk_far ?_ NB266_282.out _; (with_reducible repeat (first | refine blk_drewN ?_ _ | refine blk_drew ?_ | refine blk_alloc ?_ _)); refine blk_far ?_ NB266_282.out _; (with_reducible repeat (first | refine blk_drewN ?_ _ | refine blk_drew ?_ | refine blk_alloc ?_ _)); exact BK266.out⟩
      have n3_ : Aside0 (((w31.setCell ⟨gb282, 0, none⟩ (.slice Ao33 y273.length co33)).setCell ⟨gb282, 1, none⟩ (.slice Ao32 y279.length co32)).heap[gb267]? = some (.cells #[.slice none 0 0, .slice none 0 0] 37 (0, 0))) := ⟨by (with_reducible repeat (first | refine blk_drewN ?_ _ | refine blk_drew ?_ | refine blk_alloc ?_ _)); refine blk_far ?_ NB267_282.out _; (with_reducible repeat (first | refine blk_drewN ?_ _ | refine blk_drew ?_ | refine blk_alloc ?_ _)); refine blk_far ?_ NB267_282.out _; (with_reducible repeat (first | refine blk_drewN ?_ _ | refine blk_drew ?_ | refine blk_alloc ?_ _)); exact BK267.out⟩
      have n4_ : Aside0 (((w31.setCell ⟨gb282, 0, none⟩ (.slice Ao33 y273.length co33)).setCell ⟨gb282, 1, none⟩ (.slice Ao32 y279.length co32)).heap[gb282]? = some (.cells #[.slice Ao33 y273.length co33, .slice Ao32 y279.length co32] 37 (0, 0))) := ⟨by (with_reducible repeat (first | refine blk_drewN ?_ _ | refine blk_drew ?_ | refine blk_alloc ?_ _)); refine blk_put (cs := #[.slice Ao33 y273.length co33, .slice none 0 0]) ?_ 1 _ rfl; (with_reducible repeat (first | refine blk_drewN ?_ _ | refine blk_drew ?_ | refine blk_alloc ?_ _)); refine blk_put (cs := #[.slice none 0 0, .slice none 0 0]) ?_ 0 _ rfl; (with_reducible repeat (first | refine blk_drewN ?_ _ | refine blk_drew ?_ | refine blk_alloc ?_ _)); exact BK282.out⟩
      have n5_ : Aside0 (Below w.heap.size w ((w31.setCell ⟨gb282, 0, none⟩ (.slice Ao33 y273.length co33)).setCell ⟨gb282, 1, none⟩ (.slice Ao32 y279.length co32))) := ⟨by repeat (first | (with_reducible first | exact HB.out | apply below_alloc | apply pw_below_drewN | apply below_drew1 | refine below_set ?_ GE266.out | refine below_set ?_ GE267.out | refine below_set ?_ GE282.out) | exact HB.out)⟩
      (try clear HO275); (try clear HO281); (try clear BK266); (try clear BK267); (try clear BK282); (try clear HB)
      generalize ((w31.setCell ⟨gb282, 0, none⟩ (.slice Ao33 y273.length co33)).setCell ⟨gb282, 1, none⟩ (.slice Ao32 y279.length co32)) = w36 at n0_ n1_ n2_ n3_ n4_ n5_ ⊢
      have HO275 := n0_; have HO281 := n1_; have BK266 := n2_; have BK267 := n3_; have BK282 := n4_; have HB := n5_
      clear n0_ n1_ n2_ n3_ n4_ n5_
      have hnb37 := NB282_266.out
      have hnc37 := NB266_282.out
      have hnb38 := NB282_267.out
      have hnc38 := NB267_282.out
      have hcz39_0 : w36.cell? ⟨gb282, 0, none⟩ = some (.slice Ao33 y273.length co33) := (blk_cell BK282.out 0).trans rfl
      have hcz39_1 : w36.cell? ⟨gb282, 1, none⟩ = some (.slice Ao32 y279.length co32) := (blk_cell BK282.out 1).trans rfl
      have hfz39_0 := blk_frozen BK282.out 0
      have hfz39_1 := blk_frozen BK282.out 1
      try go_wp2_with (first | ((with_reducible refine gate_callee (f := 73) rfl ?_); refine goesL_ (some 28) rfl rfl Try.func73 (by kernel_rfl) rfl #[.slice Ao33 y273.length co33] rfl sG ?_; (with_reducible refine (impl_LinePiece.calls kj2 (fun k_ => some k_ = (.slice Ao33 y273.length co33 : Value).ownBlock) (.slice Ao33 y273.length co33) y273 t283 w _ ?side1 ?side2 A19.out).mono ?_); (case side1 => repeat (first | (with_reducible first | exact HB.out | apply below_alloc | apply pw_below_drewN | apply below_drew1 | refine below_set ?_ GE266.out | refine below_set ?_ GE267.out | refine below_set ?_ GE282.out) | exact HB.out)); (case side2 => exact Kd.R_tight rfl HO275.out); rintro e w40 ⟨rfl, hy0, hb, hkp⟩; refine ⟨_, rfl, ?_⟩; have n0_ := aS (blk_kept (sB BK266.out) hkp (fun hs_ => (fun e_ => (Kd.R_ne HO275.out BK266.out (by decide)) e_) hs_)); have n1_ := aS (blk_kept (sB BK267.out) hkp (fun hs_ => (fun e_ => (Kd.R_ne HO275.out BK267.out (by decide)) e_) hs_)); have n2_ := aS (Kd.R_reok rfl hy0 (fun k_ e_ => HO275.out.1 k_ e_)); have n3_ := aS (Kd.R_mono (ok' := fun k_ => True) (Kd.R_keptB ((Kd.R_apart' HO281.out (Kd.R_typed HO275.out) (by decide))) hkp (fun k_ hk_ hs_ => (hk_.2) hs_)) (fun k_ hk_ => trivial)); have n4_ := aS (blk_kept (sB BK282.out) hkp (fun hs_ => (fun e_ => (Kd.R_ne HO275.out BK282.out (by decide)) e_) hs_)); have n5_ := aS (hb); clear BK266 BK267 HO275 HO281 BK282 HB; have BK266 := n0_; have BK267 := n1_; have HO275 := n2_; have HO281 := n3_; have BK282 := n4_; have HB := n5_; clear n0_ n1_ n2_ n3_ n4_ n5_; (try clear hb); (try clear hkp); (try clear hy0); have hcz41_0 : w40.cell? ⟨gb282, 0, none⟩ = some (.slice Ao33 y273.length co33) := (blk_cell BK282.out 0).trans rfl; have hcz41_1 : w40.cell? ⟨gb282, 1, none⟩ = some (.slice Ao32 y279.length co32) := (blk_cell BK282.out 1).trans rfl; have hfz41_0 := blk_frozen BK282.out 0; have hfz41_1 := blk_frozen BK282.out 1) | ((with_reducible refine gate_callee (f := 74) rfl ?_); refine goesL_ (some 31) rfl rfl Try.func74 (by kernel_rfl) rfl #[.slice Ao32 y279.length co32] rfl sG ?_; (with_reducible refine (slices_Reverse_int64_int64.calls kj2 (fun k_ => some k_ = (.slice Ao32 y279.length co32 : Value).ownBlock) (.slice Ao32 y279.length co32) y279 t284 w _ ?side1 ?side2 A20.out).mono ?_); (case side1 => repeat (first | (with_reducible first | exact HB.out | apply below_alloc | apply pw_below_drewN | apply below_drew1 | refine below_set ?_ GE266.out | refine below_set ?_ GE267.out | refine below_set ?_ GE282.out) | exact HB.out)); (case side2 => exact Kd.R_tight rfl HO281.out); rintro e w42 ⟨rfl, hy0, hb, hkp⟩; refine ⟨_, rfl, ?_⟩; have n0_ := aS (blk_kept (sB BK266.out) hkp (fun hs_ => (fun e_ => (Kd.R_ne HO281.out BK266.out (by decide)) e_) hs_)); have n1_ := aS (blk_kept (sB BK267.out) hkp (fun hs_ => (fun e_ => (Kd.R_ne HO281.out BK267.out (by decide)) e_) hs_)); have n2_ := aS (Kd.R_mono (ok' := fun k_ => True) (Kd.R_keptB ((Kd.R_apart' HO275.out (Kd.R_typed HO281.out) (by decide))) hkp (fun k_ hk_ hs_ => (hk_.2) hs_)) (fun k_ hk_ => trivial)); have n3_ := aS (Kd.R_reok rfl hy0 (fun k_ e_ => HO281.out.1 k_ e_)); have n4_ := aS (blk_kept (sB BK282.out) hkp (fun hs_ => (fun e_ => (Kd.R_ne HO281.out BK282.out (by decide)) e_) hs_)); have n5_ := aS (hb); clear BK266 BK267 HO275 HO281 BK282 HB; have BK266 := n0_; have BK267 := n1_; have HO275 := n2_; have HO281 := n3_; have BK282 := n4_; have HB := n5_; clear n0_ n1_ n2_ n3_ n4_ n5_; (try clear hb); (try clear hkp); (try clear hy0); have hcz43_0 : w42.cell? ⟨gb282, 0, none⟩ = some (.slice Ao33 y273.length co33) := (blk_cell BK282.out 0).trans rfl; have hcz43_1 : w42.cell? ⟨gb282, 1, none⟩ = some (.slice Ao32 y279.length co32) := (blk_cell BK282.out 1).trans rfl; have hfz43_0 := blk_frozen BK282.out 0; have hfz43_1 := blk_frozen BK282.out 1; have hnb44 := NB267_266.out; have hnc44 := NB266_267.out; have hcz45_0 : w42.cell? ⟨gb267, 0, none⟩ = some (.slice none 0 0) := (blk_cell BK267.out 0).trans rfl; have hcz45_1 : w42.cell? ⟨gb267, 1, none⟩ = some (.slice none 0 0) := (blk_cell BK267.out 1).trans rfl; have hfz45_0 := blk_frozen BK267.out 0; have hfz45_1 := blk_frozen BK267.out 1))
      refine bodyPost_ret (results_ct rfl _ _ gb267 37 #[.slice Ao33 y273.length co33, .slice Ao32 y279.length co32] (0, 0) _ rfl (by (with_reducible repeat (first | refine blk_drewN ?_ _ | refine blk_drew ?_ | refine blk_alloc ?_ _)); refine blk_put (cs := #[.slice Ao33 y273.length co33, .slice none 0 0]) ?_ 1 _ rfl; (with_reducible repeat (first | refine blk_drewN ?_ _ | refine blk_drew ?_ | refine blk_alloc ?_ _)); refine blk_put (cs := #[.slice none 0 0, .slice none 0 0]) ?_ 0 _ rfl; (with_reducible repeat (first | refine blk_drewN ?_ _ | refine blk_drew ?_ | refine blk_alloc ?_ _)); exact BK267.out) Try.underlying37 rfl (by kernel_rfl)) rfl ?_
      exact ⟨_, _, by first | rfl | (simp [errW_none, errW_some, i64_w]; done) | (simp [errW_none, errW_some] <;> rfl) | (simp [*, errW_none, errW_some] <;> rfl), by (with_reducible repeat (first | apply Kd.R_alloc | apply Kd.R_drewN | apply Kd.R_drew)); exact Kd.R_mono (Kd.R_far (p := ⟨gb267, 1, none⟩) (Kd.R_far (p := ⟨gb267, 0, none⟩) (Kd.R_types HO275.out BK267.out (by decide)) (fun _ hk => hk.2) (.slice Ao33 y273.length co33)) (fun _ hk => hk.2) (.slice Ao32 y279.length co32)) (fun _ hk => trivial), by (with_reducible repeat (first | apply Kd.R_alloc | apply Kd.R_drewN | apply Kd.R_drew)); exact Kd.R_mono (Kd.R_far (p := ⟨gb267, 1, none⟩) (Kd.R_far (p := ⟨gb267, 0, none⟩) (Kd.R_types HO281.out BK267.out (by decide)) (fun _ hk => hk.2) (.slice Ao33 y273.length co33)) (fun _ hk => hk.2) (.slice Ao32 y279.length co32)) (fun _ hk => trivial), by repeat (first | (with_reducible first | exact HB.out | apply below_alloc | apply pw_below_drewN | apply below_drew1 | refine below_set ?_ GE266.out | refine below_set ?_ GE267.out | refine below_set ?_ GE282.out) | exact HB.out)⟩
     ·
      rw [if_neg c18] at H
      exact absurd H (by simp)
    ·
     rw [if_neg c17] at H
     exact absurd H (by simp)

end Go.Proofs.Ytdgodlccejoibaa.QFnExactTurnLine

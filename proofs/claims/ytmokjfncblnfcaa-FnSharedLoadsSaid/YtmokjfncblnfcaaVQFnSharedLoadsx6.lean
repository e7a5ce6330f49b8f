/- What the Go functions of this law compute, each as a Lean function, and that each call comes to that answer; written by a program of this session. No condition. -/
import Derived.Test.YtmokjfncblnfcaaVQFnSharedLoadsx0
import Derived.Test.YtmokjfncblnfcaaVQFnSharedLoadsx2
import Derived.Test.YtmokjfncblnfcaaVQFnSharedLoadsx3
import Derived.Test.YtmokjfncblnfcaaVQFnSharedLoadsx5
namespace Go.Proofs.Ytmokjfncblnfcaa.QFnSharedLoads
open Go.RowKit Go.Proofs.YtmokjfncblnfcaaW.PrintWords Go.Proofs.YtmokjfncblnfcaaW.PrintLast Go.Proofs.YtmokjfncblnfcaaW.PrintMore
attribute [local go_sem] max2_int min2_int max_two min_two max_three min_three max_four min_four   -- for this text's walks alone
set_option linter.unusedVariables false
set_option linter.unusedSimpArgs false

/-! ### impl_sharedLength: function 63 -/
def impl_sharedLength.l0 : Nat → Int → List (S28) → Int → List (S28) → Int → Int → Int → Int → Int → Int → Option (Int × Int)
 | 0, _, _, _, _, _, _, _, _, _, _ => none
 | k + 1, x1, x5, x6, x25, x26, x27, x214000, x214001, x215000, x215001 => if x27 < x26 then (if 0 ≤ x27 then (if x27 < (x25.length : Int) then ((impl_fraction.f k ((rd_T28 x25 x27).f1) ((rd_T28 x25 x27).f0)).bind fun bt217 => ((impl_addFractions.f k x214000 x214001 bt217.1 bt217.2).bind fun bt219 => ((impl_fraction.f k (wrap64 ((wrap64 (x1 + (wrap64 (x6 + ((rd_T28 x25 x27).f1))))) * bt219.2)) bt219.1).bind fun bt221 => (if (wrap64 (x27 + 1)) = (x5.length : Int) then (some (bt221.1, bt221.2)) else (if 0 ≤ (wrap64 (x27 + 1)) then (if (wrap64 (x27 + 1)) < (x5.length : Int) then (if bt221.1 ≤ (wrap64 (((rd_T28 x5 (wrap64 (x27 + 1))).f0) * bt221.2)) then (some (bt221.1, bt221.2)) else (impl_sharedLength.l0 k x1 x5 (wrap64 (x6 + ((rd_T28 x25 x27).f1))) x25 x26 (wrap64 (x27 + 1)) bt219.1 bt219.2 bt221.1 bt221.2)) else (none)) else (none)))))) else (none)) else (none)) else (some (x215000, x215001))
def impl_sharedLength.f (k : Nat) (l0 : List (S28)) (a1 : Int) : Option (Int × Int) := (some (([] : List (S28)) : List (S28))).bind fun y201 => (if y201.length + l0.length < 8796093022208 then ((some (y201 ++ l0 : List (S28))).bind fun y204 => ((impl_Spring_71.f k y204 0).bind fun t207 => (if a1 = 0 then (if 0 < (y204.length : Int) then ((impl_fraction.f k ((rd_T28 t207 0).f0) 1).bind fun bt209 => (some (bt209.1, bt209.2))) else (none)) else ((impl_fraction.f k 0 1).bind fun bt211 => (impl_sharedLength.l0 k a1 t207 0 t207 (y204.length : Int) 0 bt211.1 bt211.2 0 0))))) else (none))
theorem impl_sharedLength.mono_l : ∀ k, (∀ y0 y1 y2 y3 y4 y5 y6 y7 y8 y9, LeO (impl_sharedLength.l0 k y0 y1 y2 y3 y4 y5 y6 y7 y8 y9) (impl_sharedLength.l0 (k + 1) y0 y1 y2 y3 y4 y5 y6 y7 y8 y9))
 | 0 => fun _ _ _ _ _ _ _ _ _ _ r h => by simp [impl_sharedLength.l0] at h
 | k + 1 => by
  have ih0 := impl_sharedLength.mono_l k
  ·
   intro y0 y1 y2 y3 y4 y5 y6 y7 y8 y9
   unfold impl_sharedLength.l0
   repeat' first
   | (with_reducible exact ih0 _ _ _ _ _ _ _ _ _ _)
   | (with_reducible exact impl_Spring_71.mono _ _ _)
   | (with_reducible exact impl_addFractions.mono _ _ _ _ _)
   | (with_reducible exact impl_fraction.mono _ _ _)
   | (with_reducible exact LeO.refl _)
   | (with_reducible exact LeO.none _)
   | (with_reducible refine LeO.ite ?_ ?_)
   | (with_reducible refine LeO.bind ?_ (fun _ => ?_))
   | exact ih0 _ _ _ _ _ _ _ _ _ _
   | exact impl_Spring_71.mono _ _ _
   | exact impl_addFractions.mono _ _ _ _ _
   | exact impl_fraction.mono _ _ _
   | exact LeO.none _
   | refine LeO.ite ?_ ?_
   | refine LeO.bind ?_ (fun _ => ?_)
theorem impl_sharedLength.mono : ∀ a0 a1 k, LeO (impl_sharedLength.f k a0 a1) (impl_sharedLength.f (k + 1) a0 a1) := by
 intro a0 a1 k
 have ih0 := impl_sharedLength.mono_l k
 unfold impl_sharedLength.f
 repeat' first
   | (with_reducible exact ih0 _ _ _ _ _ _ _ _ _ _)
   | (with_reducible exact impl_Spring_71.mono _ _ _)
   | (with_reducible exact impl_addFractions.mono _ _ _ _ _)
   | (with_reducible exact impl_fraction.mono _ _ _)
   | (with_reducible exact LeO.refl _)
   | (with_reducible exact LeO.none _)
   | (with_reducible refine LeO.ite ?_ ?_)
   | (with_reducible refine LeO.bind ?_ (fun _ => ?_))
   | exact ih0 _ _ _ _ _ _ _ _ _ _
   | exact impl_Spring_71.mono _ _ _
   | exact impl_addFractions.mono _ _ _ _ _
   | exact impl_fraction.mono _ _ _
   | exact LeO.none _
   | refine LeO.ite ?_ ?_
   | refine LeO.bind ?_ (fun _ => ?_)
def impl_sharedLength.T12 : Bool × List (List Nat × List Nat) := (true, [([], []), ([], []), ([1], [1]), ([], []), ([3], [3]), ([2, 4], [2, 4]), ([0, 5, 5], [0, 5]), ([6, 6, 0, 1, 2, 3, 4, 5, 6], [6])])
def impl_sharedLength.B12 : List Nat := [0, 0, 2, 0, 8, 30, 63, 127]
theorem impl_sharedLength.tab12 : rtab .any (opsOf Try.f63 12) = impl_sharedLength.T12 := by kernel_rfl
theorem impl_sharedLength.bits12 : waitsOk impl_sharedLength.T12.2 impl_sharedLength.B12 = true := by kernel_rfl
def impl_sharedLength.T14 : Bool × List (List Nat × List Nat) := (true, [([], []), ([0], [0]), ([], []), ([2], [2]), ([1, 3], [1, 3]), ([4], [4]), ([5], [5]), ([6, 5], [5, 6]), ([5], [5]), ([5], [5]), ([9, 5], [5, 9]), ([8, 10, 5], [5, 8, 10]), ([11, 5], [5, 11]), ([12, 5], [5, 12]), ([5], [5]), ([14, 5], [5, 14]), ([13, 15, 5], [5, 13, 15]), ([7, 16, 5], [5, 7, 16]), ([5, 17], [5, 17])])
def impl_sharedLength.B14 : List Nat := [0, 1, 0, 4, 15, 31, 63, 127, 63, 63, 575, 1855, 3903, 7999, 63, 16447, 65343, 131071, 262143]
theorem impl_sharedLength.tab14 : rtab .any (opsOf Try.f63 14) = impl_sharedLength.T14 := by kernel_rfl
theorem impl_sharedLength.bits14 : waitsOk impl_sharedLength.T14.2 impl_sharedLength.B14 = true := by kernel_rfl
set_option maxHeartbeats 8000000 in
set_option maxRecDepth 100000 in
theorem impl_sharedLength.calls (k : Nat) (A0 : Option Addr) (c0 : Nat) (l0 : List (S28)) (a1 : Int) (r1 : Int) (r2 : Int) (w : World) (hr0 : Kd.C k28 w A0 l0.length l0) (hc0 : l0.length ≤ c0) (h : impl_sharedLength.f k l0 a1 = some (r1, r2)) :
  Calls Try.prog 63 #[.slice A0 l0.length c0, .int .i64 a1] w fun e w' => e = .returned (.agg #[.int .i64 r1, .int .i64 r2]) ∧ Below w.heap.size w w' := by
 have hu25 := Try.underlying25
 have hu28 := Try.underlying28
 have HR0 := aS hr0
 have HC0 := aS hc0
 clear hr0 hc0
 have HB := aS (Below.refl w.heap.size w)
 have H : ((some (([] : List (S28)) : List (S28))).bind fun y201 => (if y201.length + l0.length < 8796093022208 then ((some (y201 ++ l0 : List (S28))).bind fun y204 => ((impl_Spring_71.f k y204 0).bind fun t207 => (if a1 = 0 then (if 0 < (y204.length : Int) then ((impl_fraction.f k ((rd_T28 t207 0).f0) 1).bind fun bt209 => (some (bt209.1, bt209.2))) else (none)) else ((impl_fraction.f k 0 1).bind fun bt211 => (impl_sharedLength.l0 k a1 t207 0 t207 (y204.length : Int) 0 bt211.1 bt211.2 0 0))))) else (none))) = some (r1, r2) := h
 clear h
 obtain ⟨y201, hy201⟩ : ∃ y_ : List (S28), y_ = (([] : List (S28))) := ⟨_, rfl⟩
 replace H : (if y201.length + l0.length < 8796093022208 then ((some (y201 ++ l0 : List (S28))).bind fun y204 => ((impl_Spring_71.f k y204 0).bind fun t207 => (if a1 = 0 then (if 0 < (y204.length : Int) then ((impl_fraction.f k ((rd_T28 t207 0).f0) 1).bind fun bt209 => (some (bt209.1, bt209.2))) else (none)) else ((impl_fraction.f k 0 1).bind fun bt211 => (impl_sharedLength.l0 k a1 t207 0 t207 (y204.length : Int) 0 bt211.1 bt211.2 0 0))))) else (none)) = some (r1, r2) := by first | (rw [hy201]; with_reducible exact H) | (have H2_ := (Option.bind_some _ _).symm.trans H; rw [hy201]; with_reducible exact H2_) | (have H2_ := (Option.bind_some _ _).symm.trans H; with_reducible exact H2_) | with_reducible exact H | (rw [hy201]; exact H) | exact H
 have Ny201 := aS hy201
 clear hy201
 by_cases c3 : y201.length + l0.length < 8796093022208
 ·
  rw [if_pos c3] at H
  have LMc3 := aS c3
  clear c3
  obtain ⟨y204, hy204⟩ : ∃ y_ : List (S28), y_ = (y201 ++ l0) := ⟨_, rfl⟩
  replace H : ((impl_Spring_71.f k y204 0).bind fun t207 => (if a1 = 0 then (if 0 < (y204.length : Int) then ((impl_fraction.f k ((rd_T28 t207 0).f0) 1).bind fun bt209 => (some (bt209.1, bt209.2))) else (none)) else ((impl_fraction.f k 0 1).bind fun bt211 => (impl_sharedLength.l0 k a1 t207 0 t207 (y204.length : Int) 0 bt211.1 bt211.2 0 0)))) = some (r1, r2) := by first | (rw [hy204]; with_reducible exact H) | (have H2_ := (Option.bind_some _ _).symm.trans H; rw [hy204]; with_reducible exact H2_) | (have H2_ := (Option.bind_some _ _).symm.trans H; with_reducible exact H2_) | with_reducible exact H | (rw [hy204]; exact H) | exact H
  have Ny204 := aS hy204
  clear hy204
  replace H := Option.bind_eq_some_iff.mp H
  obtain ⟨t207, A40, H⟩ := H
  replace H : (if a1 = 0 then (if 0 < (y204.length : Int) then ((impl_fraction.f k ((rd_T28 t207 0).f0) 1).bind fun bt209 => (some (bt209.1, bt209.2))) else (none)) else ((impl_fraction.f k 0 1).bind fun bt211 => (impl_sharedLength.l0 k a1 t207 0 t207 (y204.length : Int) 0 bt211.1 bt211.2 0 0))) = some (r1, r2) := H
  have A4 := aS A40
  clear A40
  by_cases c5 : a1 = 0
  ·
   rw [if_pos c5] at H
   have c5b0 : (a1 == 0) = true := beq_iff_eq.mpr c5
   have c5b1 : (a1 != 0) = false := bne_eq_false_iff_eq.mpr c5
   clear c5
   by_cases c6 : 0 < (y204.length : Int)
   ·
    rw [if_pos c6] at H
    have c6b0 : decide (0 < (y204.length : Int)) = true := decide_eq_true c6
    have c6b1 : decide (0 < y204.length) = true := decide_eq_true (by omega)
    clear c6
    replace H := Option.bind_eq_some_iff.mp H
    obtain ⟨⟨t209, t210⟩, A70, H⟩ := H
    replace H : (some (t209, t210)) = some (r1, r2) := H
    have A7 := aS A70
    clear A70
    simp only [Option.some.injEq, Prod.mk.injEq] at H
    obtain ⟨rfl, rfl⟩ := H
    go_enter Try.func63, Try.ntmps63
    go_wp2_with (first | ((with_reducible refine gate_dst (N := 4) rfl ?_); refine box_event ?hg (N := 4) ?hd (cs := #[.int .i64 0, .int .i64 0]) (t := 25) ?hr ?_; (case hd => rfl); (case hg => rfl); (case hr => first | (go_simp; done) | (go_simp; rfl)); intro gb200 hg w8 hbox hb; have n0_ := aS (below_step (sW HB.out) hb); have n1_ := aS (hbox); have n2_ := aS ((by rw [hg]; exact (below_size (sW HB.out)) : w.heap.size ≤ gb200)); have n3_ := aS ((by rw [hg]; exact (below_size (sW HB.out)) : w.heap.size ≤ gb200)); clear HB; have HB := n0_; have BK200 := n1_; have GW200 := n2_; have GE200 := n3_; clear n0_ n1_ n2_ n3_; clear hb hbox hg) | ((with_reducible refine gate_dst (N := 11) rfl ?_); refine Kd.R_lit k28 _ 28 ?hg (N := 11) ?hd (xs := ([] : List (S28))) (inner := []) (ok := fun _ => True) (okp := fun _ => True) ?hr ?hp (fun _ hk => hk) trivial (Below.refl _ _) (Nat.le_refl _) (by simp) ?_; (case hd => rfl); (case hg => rfl); (case hr => first | (go_simp; done) | (go_simp; rfl)); (case hp => exact (Reps.none _ _)); intro v202 w9 ho10 hb hg_ hnew_; clear hg_ hnew_; (first | rw [← Ny201.out] at ho10 | (simp only [Int.reduceToNat] at ho10; rw [← Ny201.out] at ho10)); have n0_ := aS (Kd.R_lower ho10 (below_size (sW HB.out))); have n1_ := aS (blk_below (g := gb200) (o := .cells #[.int .i64 0, .int .i64 0] 25 (0, 0)) (sB BK200.out) hb); have n2_ := aS (below_step (sW HB.out) hb); clear BK200 HB; have HO203 := n0_; have BK200 := n1_; have HB := n2_; clear n0_ n1_ n2_; clear hb ho10) | ((with_reducible refine gate_builtin (b := .append) (xs := #[.tmp 11, .tmp 12]) rfl ?_); at_builtin; refine Kd.R_append_rows k28 (w0 := w) w.heap.size rfl (.tmp 11) (.tmp 12) 34 28 (.agg #[(.int .i64 0), (.int .i64 0)]) 16 rfl Try.underlying34 info28 rfl (by decide) (by omega) v202 y201 l0 _ _ _ (fun _ => True) (fun _ => False) rfl rfl ?aO ?aR (fun _ _ h => h) (fun _ h => h.elim) ?aF ?aB ?aS ?aL ?_; (case aR => repeat (first | exact (Kd.C_below HR0.out HB.out) | (with_reducible refine Kd.C_alloc ?_ _) | (with_reducible refine Kd.C_drewN ?_ _) | (with_reducible refine Kd.C_drew ?_))); (case aB => exact (sW HB.out)); (case aF => exact (fun _ _ => trivial)); (case aO => exact (sR HO203.out)); (case aS => exact (below_size (sW HB.out))); (case aL => have := LMc3.out; omega); intro v205 w11 ho hb hg hat; rw [← Ny204.out] at ho; have n0_ := aS (blk_grown (g := gb200) (o := .cells #[.int .i64 0, .int .i64 0] 25 (0, 0)) (sB BK200.out) hg (Kd.R_ne HO203.out BK200.out (by decide))); have n1_ := aS (hb); have n2_ := aS (ho); clear BK200 HB HO203; have BK200 := n0_; have HB := n1_; have HO206 := n2_; clear n0_ n1_ n2_; clear ho hb hg hat; obtain ⟨Ao12, co12, eo12⟩ := Kd.R_slice HO206.out; subst eo12) | ((with_reducible refine gate_callee (f := 71) rfl ?_); refine goesL_ (some 15) rfl rfl Try.func71 (by kernel_rfl) rfl #[.slice Ao12 y204.length co12, .func (.func 72) #[] #[]] rfl sG ?_; (with_reducible refine (impl_Spring_71.calls k (fun k_ => some k_ = (.slice Ao12 y204.length co12 : Value).ownBlock) (.slice Ao12 y204.length co12) y204 0 t207 w _ ?side1 ?side2 A4.out).mono ?_); (case side1 => repeat (first | (with_reducible first | exact HB.out | apply below_alloc | apply pw_below_drewN | apply below_drew1 | refine below_set ?_ GE200.out) | exact HB.out)); (case side2 => exact Kd.R_tight rfl HO206.out); rintro e w13 ⟨rfl, hy0, hb, hkp⟩; refine ⟨_, rfl, ?_⟩; have n0_ := aS (blk_kept (sB BK200.out) hkp (fun hs_ => (fun e_ => (Kd.R_ne HO206.out BK200.out (by decide)) e_) hs_)); have n1_ := aS (Kd.R_reok rfl hy0 (fun k_ e_ => HO206.out.1 k_ e_)); have n2_ := aS (hb); clear BK200 HO206 HB; have BK200 := n0_; have HO206 := n1_; have HB := n2_; clear n0_ n1_ n2_; (try clear hb); (try clear hkp); (try clear hy0); have p208 : 0 ≤ (0 : Int) := (by omega); have q208 : 0 < (t207.length : Int) := (by have h_ : (0 : Int) < ((y204.length : Int) : Int) := of_decide_eq_true (by first | (with_reducible assumption) | assumption); have e_ := (Kd.R_reads' HO206.out).1; omega); have ql208 : ((0 : Int) < ((y204.length : Int) : Int)) = True := eq_true (of_decide_eq_true (by first | (with_reducible assumption) | assumption)); (try have qn208 : (0 < y204.length) = True := eq_true (by have h_ : (0 : Int) < ((y204.length : Int) : Int) := of_decide_eq_true (by first | (with_reducible assumption) | assumption); omega)); obtain ⟨ad208, e208, hx208_0, hx208_1⟩ := at_T28 (Kd.R_reads' HO206.out).2.2 0 p208 q208; cases e208; have qi208 : (0 < t207.length) = True := eq_true (by omega); (try rw [show ((0 : Int)).toNat = 0 from rfl] at hx208_0); (try rw [show 0 * 2 = 0 from rfl] at hx208_0); (try rw [Addr.add_zero'] at hx208_0); (try rw [show ((0 : Int)).toNat = 0 from rfl] at hx208_1); (try rw [show 0 * 2 = 0 from rfl] at hx208_1); (try rw [Addr.add_zero'] at hx208_1); replace p208 := eq_true p208; replace q208 := eq_true q208) | ((with_reducible refine gate_callee (f := 50) rfl ?_); refine goesL_ (some 22) rfl rfl Try.func50 (by kernel_rfl) rfl #[.int .i64 ((rd_T28 t207 0).f0), .int .i64 1] rfl sG ?_; (with_reducible refine (impl_fraction.calls k ((rd_T28 t207 0).f0) 1 t209 t210 _ A7.out).mono ?_); rintro e w14 ⟨rfl, hb⟩; refine ⟨_, rfl, ?_⟩; have n0_ := aS (Kd.R_below (sR HO206.out) hb); have n1_ := aS (blk_below (g := gb200) (o := .cells #[.int .i64 0, .int .i64 0] 25 (0, 0)) (sB BK200.out) hb); have n2_ := aS (below_step (sW HB.out) hb); clear HO206 BK200 HB; have HO206 := n0_; have BK200 := n1_; have HB := n2_; clear n0_ n1_ n2_; (try clear hb); (try clear hb2); (try clear hk); (try clear hi); have hcz15_0 : w14.cell? ⟨gb200, 0, none⟩ = some (.int .i64 0) := (blk_cell BK200.out 0).trans rfl; have hcz15_1 : w14.cell? ⟨gb200, 1, none⟩ = some (.int .i64 0) := (blk_cell BK200.out 1).trans rfl; have hfz15_0 := blk_frozen BK200.out 0; have hfz15_1 := blk_frozen BK200.out 1))
    refine bodyPost_ret (results_cell_row rfl _ _ gb200 25 #[.int .i64 t209, .int .i64 t210] (0, 0) _ rfl (by (with_reducible repeat (first | refine blk_drewN ?_ _ | refine blk_drew ?_ | refine blk_alloc ?_ _)); refine blk_put (cs := #[.int .i64 t209, .int .i64 0]) ?_ 1 _ rfl; (with_reducible repeat (first | refine blk_drewN ?_ _ | refine blk_drew ?_ | refine blk_alloc ?_ _)); refine blk_put (cs := #[.int .i64 0, .int .i64 0]) ?_ 0 _ rfl; (with_reducible repeat (first | refine blk_drewN ?_ _ | refine blk_drew ?_ | refine blk_alloc ?_ _)); exact BK200.out) Try.underlying25 rfl (by kernel_rfl)) rfl ?_
    exact ⟨by first | rfl | (simp [errW_none, errW_some, i64_w]; done) | (simp [errW_none, errW_some] <;> rfl) | (simp [*, errW_none, errW_some] <;> rfl), by repeat (first | (with_reducible first | exact HB.out | apply below_alloc | apply pw_below_drewN | apply below_drew1 | refine below_set ?_ GE200.out) | exact HB.out)⟩
   ·
    rw [if_neg c6] at H
    exact absurd H (by simp)
  ·
   rw [if_neg c5] at H
   have c5b0 : (a1 == 0) = false := beq_eq_false_iff_ne.mpr c5
   have c5b1 : (a1 != 0) = true := bne_iff_ne.mpr c5
   replace H := Option.bind_eq_some_iff.mp H
   obtain ⟨⟨t211, t212⟩, A160, H⟩ := H
   replace H : (impl_sharedLength.l0 k a1 t207 0 t207 (y204.length : Int) 0 t211 t212 0 0) = some (r1, r2) := H
   have A16 := aS A160
   clear A160
   have H' := aS H
   clear H
   go_enter Try.func63, Try.ntmps63
   go_wp2_with (first | ((with_reducible refine gate_dst (N := 4) rfl ?_); refine box_event ?hg (N := 4) ?hd (cs := #[.int .i64 0, .int .i64 0]) (t := 25) ?hr ?_; (case hd => rfl); (case hg => rfl); (case hr => first | (go_simp; done) | (go_simp; rfl)); intro gb200 hg w17 hbox hb; have n0_ := aS (below_step (sW HB.out) hb); have n1_ := aS (hbox); have n2_ := aS ((by rw [hg]; exact (below_size (sW HB.out)) : w.heap.size ≤ gb200)); have n3_ := aS ((by rw [hg]; exact (below_size (sW HB.out)) : w.heap.size ≤ gb200)); clear HB; have HB := n0_; have BK200 := n1_; have GW200 := n2_; have GE200 := n3_; clear n0_ n1_ n2_ n3_; clear hb hbox hg) | ((with_reducible refine gate_dst (N := 11) rfl ?_); refine Kd.R_lit k28 _ 28 ?hg (N := 11) ?hd (xs := ([] : List (S28))) (inner := []) (ok := fun _ => True) (okp := fun _ => True) ?hr ?hp (fun _ hk => hk) trivial (Below.refl _ _) (Nat.le_refl _) (by simp) ?_; (case hd => rfl); (case hg => rfl); (case hr => first | (go_simp; done) | (go_simp; rfl)); (case hp => exact (Reps.none _ _)); intro v202 w18 ho19 hb hg_ hnew_; clear hg_ hnew_; (first | rw [← Ny201.out] at ho19 | (simp only [Int.reduceToNat] at ho19; rw [← Ny201.out] at ho19)); have n0_ := aS (Kd.R_lower ho19 (below_size (sW HB.out))); have n1_ := aS (blk_below (g := gb200) (o := .cells #[.int .i64 0, .int .i64 0] 25 (0, 0)) (sB BK200.out) hb); have n2_ := aS (below_step (sW HB.out) hb); clear BK200 HB; have HO203 := n0_; have BK200 := n1_; have HB := n2_; clear n0_ n1_ n2_; clear hb ho19) | ((with_reducible refine gate_builtin (b := .append) (xs := #[.tmp 11, .tmp 12]) rfl ?_); at_builtin; refine Kd.R_append_rows k28 (w0 := w) w.heap.size rfl (.tmp 11) (.tmp 12) 34 28 (.agg #[(.int .i64 0), (.int .i64 0)]) 16 rfl Try.underlying34 info28 rfl (by decide) (by omega) v202 y201 l0 _ _ _ (fun _ => True) (fun _ => False) rfl rfl ?aO ?aR (fun _ _ h => h) (fun _ h => h.elim) ?aF ?aB ?aS ?aL ?_; (case aR => repeat (first | exact (Kd.C_below HR0.out HB.out) | (with_reducible refine Kd.C_alloc ?_ _) | (with_reducible refine Kd.C_drewN ?_ _) | (with_reducible refine Kd.C_drew ?_))); (case aB => exact (sW HB.out)); (case aF => exact (fun _ _ => trivial)); (case aO => exact (sR HO203.out)); (case aS => exact (below_size (sW HB.out))); (case aL => have := LMc3.out; omega); intro v205 w20 ho hb hg hat; rw [← Ny204.out] at ho; have n0_ := aS (blk_grown (g := gb200) (o := .cells #[.int .i64 0, .int .i64 0] 25 (0, 0)) (sB BK200.out) hg (Kd.R_ne HO203.out BK200.out (by decide))); have n1_ := aS (hb); have n2_ := aS (ho); clear BK200 HB HO203; have BK200 := n0_; have HB := n1_; have HO206 := n2_; clear n0_ n1_ n2_; clear ho hb hg hat; obtain ⟨Ao21, co21, eo21⟩ := Kd.R_slice HO206.out; subst eo21) | ((with_reducible refine gate_callee (f := 71) rfl ?_); refine goesL_ (some 15) rfl rfl Try.func71 (by kernel_rfl) rfl #[.slice Ao21 y204.length co21, .func (.func 72) #[] #[]] rfl sG ?_; (with_reducible refine (impl_Spring_71.calls k (fun k_ => some k_ = (.slice Ao21 y204.length co21 : Value).ownBlock) (.slice Ao21 y204.length co21) y204 0 t207 w _ ?side1 ?side2 A4.out).mono ?_); (case side1 => repeat (first | (with_reducible first | exact HB.out | apply below_alloc | apply pw_below_drewN | apply below_drew1 | refine below_set ?_ GE200.out) | exact HB.out)); (case side2 => exact Kd.R_tight rfl HO206.out); rintro e w22 ⟨rfl, hy0, hb, hkp⟩; refine ⟨_, rfl, ?_⟩; have n0_ := aS (blk_kept (sB BK200.out) hkp (fun hs_ => (fun e_ => (Kd.R_ne HO206.out BK200.out (by decide)) e_) hs_)); have n1_ := aS (Kd.R_reok rfl hy0 (fun k_ e_ => HO206.out.1 k_ e_)); have n2_ := aS (hb); clear BK200 HO206 HB; have BK200 := n0_; have HO206 := n1_; have HB := n2_; clear n0_ n1_ n2_; (try clear hb); (try clear hkp); (try clear hy0)) | ((with_reducible refine gate_callee (f := 50) rfl ?_); refine goesL_ (some 23) rfl rfl Try.func50 (by kernel_rfl) rfl #[.int .i64 0, .int .i64 1] rfl sG ?_; (with_reducible refine (impl_fraction.calls k 0 1 t211 t212 _ A16.out).mono ?_); rintro e w23 ⟨rfl, hb⟩; refine ⟨_, rfl, ?_⟩; have n0_ := aS (Kd.R_below (sR HO206.out) hb); have n1_ := aS (blk_below (g := gb200) (o := .cells #[.int .i64 0, .int .i64 0] 25 (0, 0)) (sB BK200.out) hb); have n2_ := aS (below_step (sW HB.out) hb); clear HO206 BK200 HB; have HO206 := n0_; have BK200 := n1_; have HB := n2_; clear n0_ n1_ n2_; (try clear hb); (try clear hb2); (try clear hk); (try clear hi)) | ((with_reducible refine gate_dst (N := 7) rfl ?_); refine box_event ?hg (N := 7) ?hd (cs := #[.int .i64 0, .int .i64 0]) (t := 25) ?hr ?_; (case hd => rfl); (case hg => rfl); (case hr => first | (go_simp; done) | (go_simp; rfl)); intro gb213 hg w24 hbox hb; have n0_ := aS (Kd.R_below (sR HO206.out) hb); have n1_ := aS (blk_below (g := gb200) (o := .cells #[.int .i64 0, .int .i64 0] 25 (0, 0)) (sB BK200.out) hb); have n2_ := aS (below_step (sW HB.out) hb); have n3_ := aS (hbox); have n4_ := aS ((by rw [hg]; exact (below_size (sW HB.out)) : w.heap.size ≤ gb213)); have n5_ := aS ((by rw [hg]; exact (below_size (sW HB.out)) : w.heap.size ≤ gb213)); have n6_ := aS ((by rw [hg]; exact Nat.ne_of_lt (blk_lt (g := gb200) (o := .cells #[.int .i64 0, .int .i64 0] 25 (0, 0)) (sB BK200.out)) : gb200 ≠ gb213)); have n7_ := aS ((by rw [hg]; exact Nat.ne_of_gt (blk_lt (g := gb200) (o := .cells #[.int .i64 0, .int .i64 0] 25 (0, 0)) (sB BK200.out)) : gb213 ≠ gb200)); clear HO206 BK200 HB; have HO206 := n0_; have BK200 := n1_; have HB := n2_; have BK213 := n3_; have GW213 := n4_; have GE213 := n5_; have NB200_213 := n6_; have NB213_200 := n7_; clear n0_ n1_ n2_ n3_ n4_ n5_ n6_ n7_; clear hb hbox hg; have hnb25 := NB213_200.out; have hnc25 := NB200_213.out; have hcz26_0 : w24.cell? ⟨gb213, 0, none⟩ = some (.int .i64 0) := (blk_cell BK213.out 0).trans rfl; have hcz26_1 : w24.cell? ⟨gb213, 1, none⟩ = some (.int .i64 0) := (blk_cell BK213.out 1).trans rfl; have hfz26_0 := blk_frozen BK213.out 0; have hfz26_1 := blk_frozen BK213.out 1) | ((with_reducible refine gate_dst (N := 8) rfl ?_); refine box_event ?hg (N := 8) ?hd (cs := #[.int .i64 0, .int .i64 0]) (t := 25) ?hr ?_; (case hd => rfl); (case hg => rfl); (case hr => first | (go_simp; done) | (go_simp; rfl)); intro gb214 hg w27 hbox hb; have n0_ := aS (Kd.R_below (sR (Kd.R_mono (Kd.R_far (p := ⟨gb213, 1, none⟩) (Kd.R_far (p := ⟨gb213, 0, none⟩) (Kd.R_types HO206.out BK213.out (by decide)) (fun _ hk => hk.2) (.int .i64 t211)) (fun _ hk => hk.2) (.int .i64 t212)) (fun _ h_ => h_.1))) hb); have n1_ := aS (blk_below (g := gb200) (o := .cells #[.int .i64 0, .int .i64 0] 25 (0, 0)) (by (with_reducible repeat (first | refine blk_drewN ?_ _ | refine blk_drew ?_ | refine blk_alloc ?_ _)); refine blk_far ?_ NB200_213.out _; (with_reducible repeat (first | refine blk_drewN ?_ _ | refine blk_drew ?_ | refine blk_alloc ?_ _)); refine blk_far ?_ NB200_213.out _; (with_reducible repeat (first | refine blk_drewN ?_ _ | refine blk_drew ?_ | refine blk_alloc ?_ _)); exact BK200.out) hb); have n2_ := aS (blk_below (g := gb213) (o := .cells #[.int .i64 t211, .int .i64 t212] 25 (0, 0)) (by (with_reducible repeat (first | refine blk_drewN ?_ _ | refine blk_drew ?_ | refine blk_alloc ?_ _)); refine blk_put (cs := #[.int .i64 t211, .int .i64 0]) ?_ 1 _ rfl; (with_reducible repeat (first | refine blk_drewN ?_ _ | refine blk_drew ?_ | refine blk_alloc ?_ _)); refine blk_put (cs := #[.int .i64 0, .int .i64 0]) ?_ 0 _ rfl; (with_reducible repeat (first | refine blk_drewN ?_ _ | refine blk_drew ?_ | refine blk_alloc ?_ _)); exact BK213.out) hb); have n3_ := aS (below_step (sW HB.out) hb); have n4_ := aS (hbox); have n5_ := aS ((by rw [hg]; exact (below_size (sW HB.out)) : w.heap.size ≤ gb214)); have n6_ := aS ((by rw [hg]; exact (below_size (sW HB.out)) : w.heap.size ≤ gb214)); have n7_ := aS ((by rw [hg]; exact Nat.ne_of_lt (blk_lt (g := gb200) (o := .cells #[.int .i64 0, .int .i64 0] 25 (0, 0)) (by (with_reducible repeat (first | refine blk_drewN ?_ _ | refine blk_drew ?_ | refine blk_alloc ?_ _)); refine blk_far ?_ NB200_213.out _; (with_reducible repeat (first | refine blk_drewN ?_ _ | refine blk_drew ?_ | refine blk_alloc ?_ _)); refine blk_far ?_ NB200_213.out _; (with_reducible repeat (first | refine blk_drewN ?_ _ | refine blk_drew ?_ | refine blk_alloc ?_ _)); exact BK200.out)) : gb200 ≠ gb214)); have n8_ := aS ((by rw [hg]; exact Nat.ne_of_gt (blk_lt (g := gb200) (o := .cells #[.int .i64 0, .int .i64 0] 25 (0, 0)) (by (with_reducible repeat (first | refine blk_drewN ?_ _ | refine blk_drew ?_ | refine blk_alloc ?_ _)); refine blk_far ?_ NB200_213.out _; (with_reducible repeat (first | refine blk_drewN ?_ _ | refine blk_drew ?_ | refine blk_alloc ?_ _)); refine blk_far ?_ NB200_213.out _; (with_reducible repeat (first | refine blk_drewN ?_ _ | refine blk_drew ?_ | refine blk_alloc ?_ _)); exact BK200.out)) : gb214 ≠ gb200)); have n9_ := aS ((by rw [hg]; exact Nat.ne_of_lt (blk_lt (g := gb213) (o := .cells #[.int .i64 t211, .int .i64 t212] 25 (0, 0)) (by (with_reducible repeat (first | refine blk_drewN ?_ _ | refine blk_drew ?_ | refine blk_alloc ?_ _)); refine blk_put (cs := #[.int .i64 t211, .int .i64 0]) ?_ 1 _ rfl; (with_reducible repeat (first | refine blk_drewN ?_ _ | refine blk_drew ?_ | refine blk_alloc ?_ _)); refine blk_put (cs := #[.int .i64 0, .int .i64 0]) ?_ 0 _ rfl; (with_reducible repeat (first | refine blk_drewN ?_ _ | refine blk_drew ?_ | refine blk_alloc ?_ _)); exact BK213.out)) : gb213 ≠ gb214)); have n10_ := aS ((by rw [hg]; exact Nat.ne_of_gt (blk_lt (g := gb213) (o := .cells #[.int .i64 t211, .int .i64 t212] 25 (0, 0)) (by (with_reducible repeat (first | refine blk_drewN ?_ _ | refine blk_drew ?_ | refine blk_alloc ?_ _)); refine blk_put (cs := #[.int .i64 t211, .int .i64 0]) ?_ 1 _ rfl; (with_reducible repeat (first | refine blk_drewN ?_ _ | refine blk_drew ?_ | refine blk_alloc ?_ _)); refine blk_put (cs := #[.int .i64 0, .int .i64 0]) ?_ 0 _ rfl; (with_reducible repeat (first | refine blk_drewN ?_ _ | refine blk_drew ?_ | refine blk_alloc ?_ _)); exact BK213.out)) : gb214 ≠ gb213)); clear HO206 BK200 BK213 HB; have HO206 := n0_; have BK200 := n1_; have BK213 := n2_; have HB := n3_; have BK214 := n4_; have GW214 := n5_; have GE214 := n6_; have NB200_214 := n7_; have NB214_200 := n8_; have NB213_214 := n9_; have NB214_213 := n10_; clear n0_ n1_ n2_ n3_ n4_ n5_ n6_ n7_ n8_ n9_ n10_; clear hb hbox hg; have hnb28 := NB214_200.out; have hnc28 := NB200_214.out; have hnb29 := NB214_213.out; have hnc29 := NB213_214.out; have hcz30_0 : w27.cell? ⟨gb214, 0, none⟩ = some (.int .i64 0) := (blk_cell BK214.out 0).trans rfl; have hcz30_1 : w27.cell? ⟨gb214, 1, none⟩ = some (.int .i64 0) := (blk_cell BK214.out 1).trans rfl; have hfz30_0 := blk_frozen BK214.out 0; have hfz30_1 := blk_frozen BK214.out 1))
   (try simp only [Act.put, List.setIfInBounds_toArray, List.set_cons_zero, List.set_cons_succ])
   go_loopg [6, 27] k (fun kq v6 v27 w' => ∃ (x6_1 : Int) (x27_1 : Int) (x214000_1 : Int) (x214001_1 : Int) (x215000_1 : Int) (x215001_1 : Int), v6 = .int .i64 x6_1 ∧ v27 = .int .i64 x27_1 ∧ Aside0 (impl_sharedLength.l0 kq a1 t207 x6_1 t207 (y204.length : Int) x27_1 x214000_1 x214001_1 x215000_1 x215001_1 = some (r1, r2)) ∧ Aside0 (kq ≤ k) ∧ Aside0 (Kd.R k28 28 w' w.heap.size (fun _ => True) (.slice Ao21 y204.length co21) t207) ∧ Aside0 (Kd.R k28 28 w' w.heap.size (fun _ => True) (.slice Ao21 y204.length co21) t207) ∧ Aside0 (w'.heap[gb200]? = some (.cells #[.int .i64 0, .int .i64 0] 25 (0, 0))) ∧ Aside0 (w'.heap[gb213]? = some (.cells #[.int .i64 x214000_1, .int .i64 x214001_1] 25 (0, 0))) ∧ Aside0 (w'.heap[gb214]? = some (.cells #[.int .i64 x215000_1, .int .i64 x215001_1] 25 (0, 0))) ∧ Aside0 (Below w.heap.size w w'))
   case atStart => exact ⟨(0), (0), (t211), (t212), (0), (0), (by first | rfl | (simp; done) | (simp [*]; done) | (simp only [i64_w]; done) | (simp [i64_w]; done)), (by first | rfl | (simp; done) | (simp [*]; done) | (simp only [i64_w]; done) | (simp [i64_w]; done)), H', ⟨Nat.le_refl _⟩, ⟨by (with_reducible repeat (first | apply Kd.R_alloc | apply Kd.R_drewN | apply Kd.R_drew)); exact Kd.R_mono (Kd.R_far (p := ⟨gb214, 1, none⟩) (Kd.R_far (p := ⟨gb214, 0, none⟩) (Kd.R_types HO206.out BK214.out (by decide)) (fun _ hk => hk.2) (.int .i64 0)) (fun _ hk => hk.2) (.int .i64 0)) (fun _ hk => trivial)⟩, ⟨by (with_reducible repeat (first | apply Kd.R_alloc | apply Kd.R_drewN | apply Kd.R_drew)); exact Kd.R_mono (Kd.R_far (p := ⟨gb214, 1, none⟩) (Kd.R_far (p := ⟨gb214, 0, none⟩) (Kd.R_types HO206.out BK214.out (by decide)) (fun _ hk => hk.2) (.int .i64 0)) (fun _ hk => hk.2) (.int .i64 0)) (fun _ hk => trivial)⟩, ⟨by (with_reducible repeat (first | refine blk_drewN ?_ _ | refine blk_drew ?_ | refine blk_alloc ?_ _)); refine blk_far ?_ NB200_214.out _; (with_reducible repeat (first | refine blk_drewN ?_ _ | refine blk_drew ?_ | refine blk_alloc ?_ _)); refine blk_far ?_ NB200_214.out _; (with_reducible repeat (first | refine blk_drewN ?_ _ | refine blk_drew ?_ | refine blk_alloc ?_ _)); exact BK200.out⟩, ⟨by (with_reducible repeat (first | refine blk_drewN ?_ _ | refine blk_drew ?_ | refine blk_alloc ?_ _)); refine blk_far ?_ NB213_214.out _; (with_reducible repeat (first | refine blk_drewN ?_ _ | refine blk_drew ?_ | refine blk_alloc ?_ _)); refine blk_far ?_ NB213_214.out _; (with_reducible repeat (first | refine blk_drewN ?_ _ | refine blk_drew ?_ | refine blk_alloc ?_ _)); exact BK213.out⟩, ⟨by (with_reducible repeat (first | refine blk_drewN ?_ _ | refine blk_drew ?_ | refine blk_alloc ?_ _)); refine blk_put (cs := #[.int .i64 0, .int .i64 0]) ?_ 1 _ rfl; (with_reducible repeat (first | refine blk_drewN ?_ _ | refine blk_drew ?_ | refine blk_alloc ?_ _)); refine blk_put (cs := #[.int .i64 0, .int .i64 0]) ?_ 0 _ rfl; (with_reducible repeat (first | refine blk_drewN ?_ _ | refine blk_drew ?_ | refine blk_alloc ?_ _)); exact BK214.out⟩, ⟨by repeat (first | (with_reducible first | exact HB.out | apply below_alloc | apply pw_below_drewN | apply below_drew1 | refine below_set ?_ GE200.out | refine below_set ?_ GE213.out | refine below_set ?_ GE214.out) | exact HB.out)⟩⟩
   case round =>
    clear H'
    (try clear c2); (try clear p2); (try clear q2); (try clear hx2); (try clear qi2); (try clear c3); (try clear c5); (try clear c5b0); (try clear c5b1); (try clear c6); (try clear c6b0); (try clear c6b1); (try clear c7); (try clear p20); (try clear q20); (try clear hx20); (try clear qi20); (try clear c25); (try clear c28); (try clear c29); (try clear hcz15_0); (try clear hcz15_1); (try clear hcz26_0); (try clear hcz26_1); (try clear hcz30_0); (try clear hcz30_1); (try clear hfz15_0); (try clear hfz15_1); (try clear hfz26_0); (try clear hfz26_1); (try clear hfz30_0); (try clear hfz30_1); (try clear hx208_0); (try clear hx208_1); (try clear p208); (try clear q208)
    obtain ⟨x6_1, x27_1, x214000_1, x214001_1, x215000_1, x215001_1, rfl, rfl, HA, HK1, HO_5, HO_25, BK200, BK213, BK214, HB⟩ := hrel
    have hl5_1 := (Kd.R_reads' HO_5.out).1
    rw [hl5_1] at HO_5
    (try simp only [hl5_1])
    (try simp only [hl5_1] at BK200)
    (try simp only [hl5_1] at BK213)
    (try simp only [hl5_1] at BK214)
    (try simp only [hl5_1] at HO_25)
    cases gk with
    | zero => exact absurd HA.out (by simp [impl_sharedLength.l0])
    | succ k1 =>
     have H := HA.out
     clear HA
     simp only [impl_sharedLength.l0] at H
     by_cases c31 : x27_1 < (y204.length : Int)
     ·
      rw [if_pos c31] at H
      have c31b0 : decide (x27_1 < (y204.length : Int)) = true := decide_eq_true c31
      (try (have c31b0hl5_1 := c31b0; simp only [hl5_1] at c31b0hl5_1))
      clear c31
      by_cases c32 : 0 ≤ x27_1
      ·
       rw [if_pos c32] at H
       have c32b0 : decide (0 ≤ x27_1) = true := decide_eq_true c32
       clear c32
       by_cases c33 : x27_1 < (t207.length : Int)
       ·
        rw [if_pos c33] at H
        have c33b0 : decide (x27_1 < (t207.length : Int)) = true := decide_eq_true c33
        (try (have c33b0hl5_1 := c33b0; simp only [hl5_1] at c33b0hl5_1))
        clear c33
        replace H := Option.bind_eq_some_iff.mp H
        obtain ⟨⟨t217, t218⟩, A340, H⟩ := H
        replace H : ((impl_addFractions.f k1 x214000_1 x214001_1 t217 t218).bind fun bt219 => ((impl_fraction.f k1 (wrap64 ((wrap64 (a1 + (wrap64 (x6_1 + ((rd_T28 t207 x27_1).f1))))) * bt219.2)) bt219.1).bind fun bt221 => (if (wrap64 (x27_1 + 1)) = (t207.length : Int) then (some (bt221.1, bt221.2)) else (if 0 ≤ (wrap64 (x27_1 + 1)) then (if (wrap64 (x27_1 + 1)) < (t207.length : Int) then (if bt221.1 ≤ (wrap64 (((rd_T28 t207 (wrap64 (x27_1 + 1))).f0) * bt221.2)) then (some (bt221.1, bt221.2)) else (impl_sharedLength.l0 k1 a1 t207 (wrap64 (x6_1 + ((rd_T28 t207 x27_1).f1))) t207 (y204.length : Int) (wrap64 (x27_1 + 1)) bt219.1 bt219.2 bt221.1 bt221.2)) else (none)) else (none))))) = some (r1, r2) := H
        have A34 := aS A340
        clear A340
        replace H := Option.bind_eq_some_iff.mp H
        obtain ⟨⟨t219, t220⟩, A350, H⟩ := H
        replace H : ((impl_fraction.f k1 (wrap64 ((wrap64 (a1 + (wrap64 (x6_1 + ((rd_T28 t207 x27_1).f1))))) * t220)) t219).bind fun bt221 => (if (wrap64 (x27_1 + 1)) = (t207.length : Int) then (some (bt221.1, bt221.2)) else (if 0 ≤ (wrap64 (x27_1 + 1)) then (if (wrap64 (x27_1 + 1)) < (t207.length : Int) then (if bt221.1 ≤ (wrap64 (((rd_T28 t207 (wrap64 (x27_1 + 1))).f0) * bt221.2)) then (some (bt221.1, bt221.2)) else (impl_sharedLength.l0 k1 a1 t207 (wrap64 (x6_1 + ((rd_T28 t207 x27_1).f1))) t207 (y204.length : Int) (wrap64 (x27_1 + 1)) t219 t220 bt221.1 bt221.2)) else (none)) else (none)))) = some (r1, r2) := H
        have A35 := aS A350
        clear A350
        replace H := Option.bind_eq_some_iff.mp H
        obtain ⟨⟨t221, t222⟩, A360, H⟩ := H
        replace H : (if (wrap64 (x27_1 + 1)) = (t207.length : Int) then (some (t221, t222)) else (if 0 ≤ (wrap64 (x27_1 + 1)) then (if (wrap64 (x27_1 + 1)) < (t207.length : Int) then (if t221 ≤ (wrap64 (((rd_T28 t207 (wrap64 (x27_1 + 1))).f0) * t222)) then (some (t221, t222)) else (impl_sharedLength.l0 k1 a1 t207 (wrap64 (x6_1 + ((rd_T28 t207 x27_1).f1))) t207 (y204.length : Int) (wrap64 (x27_1 + 1)) t219 t220 t221 t222)) else (none)) else (none))) = some (r1, r2) := H
        have A36 := aS A360
        clear A360
        by_cases c37 : (wrap64 (x27_1 + 1)) = (t207.length : Int)
        ·
         rw [if_pos c37] at H
         have c37b0 : ((wrap64 (x27_1 + 1)) == (t207.length : Int)) = true := beq_iff_eq.mpr c37
         have c37b1 : ((wrap64 (x27_1 + 1)) != (t207.length : Int)) = false := bne_eq_false_iff_eq.mpr c37
         (try (have c37b0hl5_1 := c37b0; simp only [hl5_1] at c37b0hl5_1))
         clear c37
         simp only [Option.some.injEq, Prod.mk.injEq] at H
         obtain ⟨rfl, rfl⟩ := H
         have p215 : 0 ≤ (x27_1 : Int) := of_decide_eq_true (by first | (with_reducible assumption) | assumption)
         have q215 : x27_1 < (t207.length : Int) := of_decide_eq_true (by first | (with_reducible assumption) | assumption)
         obtain ⟨ad215, e215, hx215_0, hx215_1⟩ := at_T28 (Kd.R_reads' HO_25.out).2.2 x27_1 p215 q215
         cases e215
         replace p215 := eq_true p215
         replace q215 := eq_true q215
         try go_wp2_with (first | ((with_reducible refine gate_dst (N := 10) rfl ?_); refine box_event ?hg (N := 10) ?hd (cs := #[.int .i64 0, .int .i64 0]) (t := 28) ?hr ?_; (case hd => rfl); (case hg => rfl); (case hr => first | (go_simp; done) | (go_simp; rfl)); intro gb216 hg w38 hbox hb; have n0_ := aS (Kd.R_below (Kd.R_elderB (sR HO_5.out) gb216 (Nat.le_of_eq hg.symm)) hb); have n1_ := aS (Kd.R_below (Kd.R_elderB (sR HO_25.out) gb216 (Nat.le_of_eq hg.symm)) hb); have n2_ := aS (blk_below (g := gb200) (o := .cells #[.int .i64 0, .int .i64 0] 25 (0, 0)) (sB BK200.out) hb); have n3_ := aS (blk_below (g := gb213) (o := .cells #[.int .i64 x214000_1, .int .i64 x214001_1] 25 (0, 0)) (sB BK213.out) hb); have n4_ := aS (blk_below (g := gb214) (o := .cells #[.int .i64 x215000_1, .int .i64 x215001_1] 25 (0, 0)) (sB BK214.out) hb); have n5_ := aS (below_step (sW HB.out) hb); have n6_ := aS (hbox); have n7_ := aS ((by rw [hg]; exact (below_size (sW HB.out)) : w.heap.size ≤ gb216)); have n8_ := aS ((by rw [hg]; exact (below_size (sW HB.out)) : w.heap.size ≤ gb216)); have n9_ := aS ((by rw [hg]; exact Nat.ne_of_lt (blk_lt (g := gb200) (o := .cells #[.int .i64 0, .int .i64 0] 25 (0, 0)) (sB BK200.out)) : gb200 ≠ gb216)); have n10_ := aS ((by rw [hg]; exact Nat.ne_of_gt (blk_lt (g := gb200) (o := .cells #[.int .i64 0, .int .i64 0] 25 (0, 0)) (sB BK200.out)) : gb216 ≠ gb200)); have n11_ := aS ((by rw [hg]; exact Nat.ne_of_lt (blk_lt (g := gb213) (o := .cells #[.int .i64 x214000_1, .int .i64 x214001_1] 25 (0, 0)) (sB BK213.out)) : gb213 ≠ gb216)); have n12_ := aS ((by rw [hg]; exact Nat.ne_of_gt (blk_lt (g := gb213) (o := .cells #[.int .i64 x214000_1, .int .i64 x214001_1] 25 (0, 0)) (sB BK213.out)) : gb216 ≠ gb213)); have n13_ := aS ((by rw [hg]; exact Nat.ne_of_lt (blk_lt (g := gb214) (o := .cells #[.int .i64 x215000_1, .int .i64 x215001_1] 25 (0, 0)) (sB BK214.out)) : gb214 ≠ gb216)); have n14_ := aS ((by rw [hg]; exact Nat.ne_of_gt (blk_lt (g := gb214) (o := .cells #[.int .i64 x215000_1, .int .i64 x215001_1] 25 (0, 0)) (sB BK214.out)) : gb216 ≠ gb214)); clear HO_5 HO_25 BK200 BK213 BK214 HB; have HO_5 := n0_; have HO_25 := n1_; have BK200 := n2_; have BK213 := n3_; have BK214 := n4_; have HB := n5_; have BK216 := n6_; have GW216 := n7_; have GE216 := n8_; have NB200_216 := n9_; have NB216_200 := n10_; have NB213_216 := n11_; have NB216_213 := n12_; have NB214_216 := n13_; have NB216_214 := n14_; clear n0_ n1_ n2_ n3_ n4_ n5_ n6_ n7_ n8_ n9_ n10_ n11_ n12_ n13_ n14_; clear hb hbox hg; have hnb39 := NB216_200.out; have hnc39 := NB200_216.out; have hnb40 := NB216_213.out; have hnc40 := NB213_216.out; have hnb41 := NB216_214.out; have hnc41 := NB214_216.out; have hcz42_0 : w38.cell? ⟨gb216, 0, none⟩ = some (.int .i64 0) := (blk_cell BK216.out 0).trans rfl; have hcz42_1 : w38.cell? ⟨gb216, 1, none⟩ = some (.int .i64 0) := (blk_cell BK216.out 1).trans rfl; have hfz42_0 := blk_frozen BK216.out 0; have hfz42_1 := blk_frozen BK216.out 1))
         have n0_ : Aside0 (Kd.R k28 28 ((w38.setCell ⟨gb216, 0, none⟩ (.int .i64 ((rd_T28 t207 x27_1).f0))).setCell ⟨gb216, 1, none⟩ (.int .i64 ((rd_T28 t207 x27_1).f1))) w.heap.size (fun k_ => k_ ≠ gb216) (.slice (some ad215) t207.length co21) t207) := ⟨by (with_reducible repeat (first | apply Kd.R_alloc | apply Kd.R_drewN | apply Kd.R_drew)); exact Kd.R_mono (Kd.R_far (p := ⟨gb216, 1, none⟩) (Kd.R_far (p := ⟨gb216, 0, none⟩) (Kd.R_mono HO_5.out (fun k_ hk => (⟨hk, hk.2⟩ : _ ∧ k_ ≠ gb216))) (fun _ hk => hk.2) (.int .i64 ((rd_T28 t207 x27_1).f0))) (fun _ hk => hk.2) (.int .i64 ((rd_T28 t207 x27_1).f1))) (fun _ hk => hk.1.2)⟩
         have n1_ : Aside0 (Kd.R k28 28 ((w38.setCell ⟨gb216, 0, none⟩ (.int .i64 ((rd_T28 t207 x27_1).f0))).setCell ⟨gb216, 1, none⟩ (.int .i64 ((rd_T28 t207 x27_1).f1))) w.heap.size (fun k_ => k_ ≠ gb216) (.slice (some ad215) t207.length co21) t207) := ⟨by (with_reducible repeat (first | apply Kd.R_alloc | apply Kd.R_drewN | apply Kd.R_drew)); exact Kd.R_mono (Kd.R_far (p := ⟨gb216, 1, none⟩) (Kd.R_far (p := ⟨gb216, 0, none⟩) (Kd.R_mono HO_25.out (fun k_ hk => (⟨hk, hk.2⟩ : _ ∧ k_ ≠ gb216))) (fun _ hk => hk.2) (.int .i64 ((rd_T28 t207 x27_1).f0))) (fun _ hk => hk.2) (.int .i64 ((rd_T28 t207 x27_1).f1))) (fun _ hk => hk.1.2)⟩
         have n2_ : Aside0 (((w38.setCell ⟨gb216, 0, none⟩ (.int .i64 ((rd_T28 t207 x27_1).f0))).setCell ⟨gb216, 1, none⟩ (.int .i64 ((rd_T28 t207 x27_1).f1))).heap[gb200]? = some (.cells #[.int .i64 0, .int .i64 0] 25 (0, 0))) := ⟨by (with_reducible repeat (first | refine blk_drewN ?_ _ | refine blk_drew ?_ | refine blk_alloc ?_ _)); refine blk_far ?_ NB200_216.out _; (with_reducible repeat (first | refine blk_drewN ?_ _ | refine blk_drew ?_ | refine blk_alloc ?_ _)); refine blk_far ?_ NB200_216.out _; (with_reducible repeat (first | refine blk_drewN ?_ _ | refine blk_drew ?_ | refine blk_alloc ?_ _)); exact BK200.out⟩
         have n3_ : Aside0 (((w38.setCell ⟨gb216, 0, none⟩ (.int .i64 ((rd_T28 t207 x27_1).f0))).setCell ⟨gb216, 1, none⟩ (.int .i64 ((rd_T28 t207 x27_1).f1))).heap[gb213]? = some (.cells #[.int .i64 x214000_1, .int .i64 x214001_1] 25 (0, 0))) := ⟨by (with_reducible repeat (first | refine blk_drewN ?_ _ | refine blk_drew ?_ | refine blk_alloc ?_ _)); refine blk_far ?_ NB213_216.out _; (with_reducible repeat (first | refine blk_drewN ?_ _ | refine blk_drew ?_ | refine blk_alloc ?_ _)); refine blk_far ?_ NB213_216.out _; (with_reducible repeat (first | refine blk_drewN ?_ _ | refine blk_drew ?_ | refine blk_alloc ?_ _)); exact BK213.out⟩
         have n4_ : Aside0 (((w38.setCell ⟨gb216, 0, none⟩ (.int .i64 ((rd_T28 t207 x27_1).f0))).setCell ⟨gb216, 1, none⟩ (.int .i64 ((rd_T28 t207 x27_1).f1))).heap[gb214]? = some (.cells #[.int .i64 x215000_1, .int .i64 x215001_1] 25 (0, 0))) := ⟨by (with_reducible repeat (first | refine blk_drewN ?_ _ | refine blk_drew ?_ | refine blk_alloc ?_ _)); refine blk_far ?_ NB214_216.out _; (with_reducible repeat (first | refine blk_drewN ?_ _ | refine blk_drew ?_ | refine blk_alloc ?_ _)); refine blk_far ?_ NB214_216.out _; (with_reducible repeat (first | refine blk_drewN ?_ _ | refine blk_drew ?_ | refine blk_alloc ?_ _)); exact BK214.out⟩
         have n5_ : Aside0 (((w38.setCell ⟨gb216, 0, none⟩ (.int .i64 ((rd_T28 t207 x27_1).f0))).setCell ⟨gb216, 1, none⟩ (.int .i64 ((rd_T28 t207 x27_1).f1))).heap[gb216]? = some (.cells #[.int .i64 ((rd_T28 t207 x27_1).f0), .int .i64 ((rd_T28 t207 x27_1).f1)] 28 (0, 0))) := ⟨by (with_reducible repeat (first | refine blk_drewN ?_ _ | refine blk_drew ?_ | refine blk_alloc ?_ _)); refine blk_put (cs := #[.int .i64 ((rd_T28 t207 x27_1).f0), .int .i64 0]) ?_ 1 _ rfl; (with_reducible repeat (first | refine blk_drewN ?_ _ | refine blk_drew ?_ | refine blk_alloc ?_ _)); refine blk_put (cs := #[.int .i64 0, .int .i64 0]) ?_ 0 _ rfl; (with_reducible repeat (first | refine blk_drewN ?_ _ | refine blk_drew ?_ | refine blk_alloc ?_ _)); exact BK216.out⟩
         have n6_ : Aside0 (Below w.heap.size w ((w38.setCell ⟨gb216, 0, none⟩ (.int .i64 ((rd_T28 t207 x27_1).f0))).setCell ⟨gb216, 1, none⟩ (.int .i64 ((rd_T28 t207 x27_1).f1)))) := ⟨by repeat (first | (with_reducible first | exact HB.out | apply below_alloc | apply pw_below_drewN | apply below_drew1 | refine below_set ?_ GE200.out | refine below_set ?_ GE213.out | refine below_set ?_ GE214.out | refine below_set ?_ GE216.out) | exact HB.out)⟩
         (try clear HO_5); (try clear HO_25); (try clear BK200); (try clear BK213); (try clear BK214); (try clear BK216); (try clear HB)
         generalize ((w38.setCell ⟨gb216, 0, none⟩ (.int .i64 ((rd_T28 t207 x27_1).f0))).setCell ⟨gb216, 1, none⟩ (.int .i64 ((rd_T28 t207 x27_1).f1))) = w43 at n0_ n1_ n2_ n3_ n4_ n5_ n6_ ⊢
         have HO_5 := n0_; have HO_25 := n1_; have BK200 := n2_; have BK213 := n3_; have BK214 := n4_; have BK216 := n5_; have HB := n6_
         clear n0_ n1_ n2_ n3_ n4_ n5_ n6_
         have n0_ := aS (Kd.R_drew HO_5.out)
         have n1_ := aS (Kd.R_drew HO_25.out)
         have n2_ := aS (blk_drew BK200.out)
         have n3_ := aS (blk_drew BK213.out)
         have n4_ := aS (blk_drew BK214.out)
         have n5_ := aS (blk_drew BK216.out)
         have n6_ := aS (below_drew1 HB.out)
         clear HO_5 HO_25 BK200 BK213 BK214 BK216 HB
         have HO_5 := n0_; have HO_25 := n1_; have BK200 := n2_; have BK213 := n3_; have BK214 := n4_; have BK216 := n5_; have HB := n6_
         clear n0_ n1_ n2_ n3_ n4_ n5_ n6_
         refine start_ (n := 8) (S := fun w' => w'.cell? ⟨gb213, 0, none⟩ = some (.int .i64 x214000_1) ∧ w'.cell? ⟨gb213, 1, none⟩ = some (.int .i64 x214001_1) ∧ w'.cell? ⟨gb216, 0, none⟩ = some (.int .i64 ((rd_T28 t207 x27_1).f0)) ∧ w'.cell? ⟨gb216, 1, none⟩ = some (.int .i64 ((rd_T28 t207 x27_1).f1))) (ds := [7]) #[false, false, false, false, false, false, false, false] (by kernel_rfl) rfl rfl ⟨(blk_cell BK213.out 0).trans rfl, (blk_cell BK213.out 1).trans rfl, (blk_cell BK216.out 0).trans rfl, (blk_cell BK216.out 1).trans rfl⟩ (fun hHeld => ?_); refine with_tabW impl_sharedLength.tab12 impl_sharedLength.bits12 (fun HT_ HW_ => ?_)
         generalize w43.drew = w44 at HO_5 HO_25 BK200 BK213 BK214 BK216 HB hHeld ⊢
         refine pure_ (i := 1) (N := some 37) (v := ?_) (a' := ?_) #[false, true, false, false, false, false, false, false] rfl rfl (any_of HT_.out (by kernel_rfl)) (fun _ _ _ h => h) (Or.inl ⟨by rfl, ?_⟩) ?_ ?_
         rotate_left
         ·
          intro w'
          go_simp
          with_reducible rfl
         rotate_left
         ·
          simp only [Act.put, List.setIfInBounds_toArray, List.set_cons_zero, List.set_cons_succ, i64_w, i32_w]
          rfl
         refine pure_ (i := 3) (N := some 39) (v := ?_) (a' := ?_) #[false, true, false, true, false, false, false, false] rfl rfl (any_of HT_.out (by kernel_rfl)) (fun _ _ _ h => h) (Or.inl ⟨by rfl, ?_⟩) ?_ ?_
         rotate_left
         ·
          intro w'
          go_simp
          with_reducible rfl
         rotate_left
         ·
          simp only [Act.put, List.setIfInBounds_toArray, List.set_cons_zero, List.set_cons_succ, i64_w, i32_w]
          rfl
         refine take_ (i := 0) (N := some 36) (v := ?_) (a' := ?_) #[true, true, false, true, false, false, false, false] rfl rfl (take_ofW HT_.out HW_.out (by kernel_rfl)) (fun _ _ _ h => h) (Or.inl ⟨by rfl, ?_⟩) hHeld ?_ ?_
         rotate_left
         ·
          rintro w' ⟨s0, s1, s2, s3⟩
          go_simp
          with_reducible rfl
         rotate_left
         ·
          simp only [Act.put, List.setIfInBounds_toArray, List.set_cons_zero, List.set_cons_succ, i64_w, i32_w]
          rfl
         refine take_ (i := 2) (N := some 38) (v := ?_) (a' := ?_) #[true, true, true, true, false, false, false, false] rfl rfl (take_ofW HT_.out HW_.out (by kernel_rfl)) (fun _ _ _ h => h) (Or.inl ⟨by rfl, ?_⟩) hHeld ?_ ?_
         rotate_left
         ·
          rintro w' ⟨s0, s1, s2, s3⟩
          go_simp
          with_reducible rfl
         rotate_left
         ·
          simp only [Act.put, List.setIfInBounds_toArray, List.set_cons_zero, List.set_cons_succ, i64_w, i32_w]
          rfl
         refine take_ (i := 4) (N := some 40) (v := ?_) (a' := ?_) #[true, true, true, true, true, false, false, false] rfl rfl (take_ofW HT_.out HW_.out (by kernel_rfl)) (fun _ _ _ h => h) (Or.inl ⟨by rfl, ?_⟩) hHeld ?_ ?_
         rotate_left
         ·
          rintro w' ⟨s0, s1, s2, s3⟩
          go_simp
          with_reducible rfl
         rotate_left
         ·
          simp only [Act.put, List.setIfInBounds_toArray, List.set_cons_zero, List.set_cons_succ, i64_w, i32_w]
          rfl
         refine one_ (i := 5) (N := some 41) #[true, true, true, true, true, true, false, false] rfl rfl (one_of HT_.out (by kernel_rfl)) (by decide) (fun K hK => ?_)
         refine goes_ Try.func50 (by kernel_rfl) rfl #[.int .i64 ((rd_T28 t207 x27_1).f1), .int .i64 ((rd_T28 t207 x27_1).f0)] (by rfl) rfl rfl sG ?_
         with_reducible refine (impl_fraction.calls k1 ((rd_T28 t207 x27_1).f1) ((rd_T28 t207 x27_1).f0) t217 t218 _ A34.out).mono ?_
         rintro e w45 ⟨rfl, hb⟩
         refine ⟨_, rfl, ?_⟩
         have n0_ := aS (Kd.R_below (sR HO_5.out) hb)
         have n1_ := aS (Kd.R_below (sR HO_25.out) hb)
         have n2_ := aS (blk_below (g := gb200) (o := .cells #[.int .i64 0, .int .i64 0] 25 (0, 0)) (sB BK200.out) hb)
         have n3_ := aS (blk_below (g := gb213) (o := .cells #[.int .i64 x214000_1, .int .i64 x214001_1] 25 (0, 0)) (sB BK213.out) hb)
         have n4_ := aS (blk_below (g := gb214) (o := .cells #[.int .i64 x215000_1, .int .i64 x215001_1] 25 (0, 0)) (sB BK214.out) hb)
         have n5_ := aS (blk_below (g := gb216) (o := .cells #[.int .i64 ((rd_T28 t207 x27_1).f0), .int .i64 ((rd_T28 t207 x27_1).f1)] 28 (0, 0)) (sB BK216.out) hb)
         have n6_ := aS (below_step (sW HB.out) hb)
         clear HO_5 HO_25 BK200 BK213 BK214 BK216 HB
         have HO_5 := n0_; have HO_25 := n1_; have BK200 := n2_; have BK213 := n3_; have BK214 := n4_; have BK216 := n5_; have HB := n6_
         clear n0_ n1_ n2_ n3_ n4_ n5_ n6_
         (try clear hb); (try clear hb2); (try clear hk); (try clear hi)
         refine hK.out _ _ ⟨(blk_cell BK213.out 0).trans rfl, (blk_cell BK213.out 1).trans rfl, (blk_cell BK216.out 0).trans rfl, (blk_cell BK216.out 1).trans rfl⟩ (fun hHeld => ?_)
         clear hK K
         refine norm_ (a' := ?_) ?_ ?_
         rotate_left
         ·
          show Act.put _ (some 41) _ = _
          simp only [Act.put, List.setIfInBounds_toArray, List.set_cons_zero, List.set_cons_succ, i64_w, i32_w]
          rfl
         refine one_ (i := 6) (N := some 42) #[true, true, true, true, true, true, true, false] rfl rfl (one_of HT_.out (by kernel_rfl)) (by decide) (fun K hK => ?_)
         refine goes_ Try.func56 (by kernel_rfl) rfl #[.agg #[.int .i64 x214000_1, .int .i64 x214001_1], .agg #[.int .i64 t217, .int .i64 t218]] (by rfl) rfl rfl sG ?_
         with_reducible refine (impl_addFractions.calls k1 x214000_1 x214001_1 t217 t218 t219 t220 _ A35.out).mono ?_
         rintro e w46 ⟨rfl, hb⟩
         refine ⟨_, rfl, ?_⟩
         have n0_ := aS (Kd.R_below (sR HO_5.out) hb)
         have n1_ := aS (Kd.R_below (sR HO_25.out) hb)
         have n2_ := aS (blk_below (g := gb200) (o := .cells #[.int .i64 0, .int .i64 0] 25 (0, 0)) (sB BK200.out) hb)
         have n3_ := aS (blk_below (g := gb213) (o := .cells #[.int .i64 x214000_1, .int .i64 x214001_1] 25 (0, 0)) (sB BK213.out) hb)
         have n4_ := aS (blk_below (g := gb214) (o := .cells #[.int .i64 x215000_1, .int .i64 x215001_1] 25 (0, 0)) (sB BK214.out) hb)
         have n5_ := aS (blk_below (g := gb216) (o := .cells #[.int .i64 ((rd_T28 t207 x27_1).f0), .int .i64 ((rd_T28 t207 x27_1).f1)] 28 (0, 0)) (sB BK216.out) hb)
         have n6_ := aS (below_step (sW HB.out) hb)
         clear HO_5 HO_25 BK200 BK213 BK214 BK216 HB
         have HO_5 := n0_; have HO_25 := n1_; have BK200 := n2_; have BK213 := n3_; have BK214 := n4_; have BK216 := n5_; have HB := n6_
         clear n0_ n1_ n2_ n3_ n4_ n5_ n6_
         (try clear hb); (try clear hb2); (try clear hk); (try clear hi)
         refine hK.out _ _ ⟨(blk_cell BK213.out 0).trans rfl, (blk_cell BK213.out 1).trans rfl, (blk_cell BK216.out 0).trans rfl, (blk_cell BK216.out 1).trans rfl⟩ (fun hHeld => ?_)
         clear hK K
         refine norm_ (a' := ?_) ?_ ?_
         rotate_left
         ·
          show Act.put _ (some 42) _ = _
          simp only [Act.put, List.setIfInBounds_toArray, List.set_cons_zero, List.set_cons_succ, i64_w, i32_w]
          rfl
         refine last_ (i := 7) (N := none) #[true, true, true, true, true, true, true, true] rfl rfl (one_of HT_.out (by kernel_rfl)) (by decide) (fun K hK => ?_)
         have hs47 : w46.cell? ⟨gb213, 0, none⟩ = some (.int .i64 x214000_1) := (blk_cell BK213.out 0).trans rfl
         have hfs47 := blk_frozen BK213.out 0
         have hns47_0 := NB200_213.out
         have hns47_2 := NB214_213.out
         have hns47_3 := NB216_213.out
         have hms47_0 := NB213_200.out
         have hms47_2 := NB213_214.out
         have hms47_3 := NB213_216.out
         have hs48 : w46.cell? ⟨gb213, 1, none⟩ = some (.int .i64 x214001_1) := (blk_cell BK213.out 1).trans rfl
         have hfs48 := blk_frozen BK213.out 1
         have hns48_0 := NB200_213.out
         have hns48_2 := NB214_213.out
         have hns48_3 := NB216_213.out
         have hms48_0 := NB213_200.out
         have hms48_2 := NB213_214.out
         have hms48_3 := NB213_216.out
         refine skip_ (w1 := ?_) (by rfl) rfl ?_ ?_
         rotate_left
         ·
          go_simp
          rfl
         refine hK.out _ _ ?_
         clear hK K
         refine done_ (done_of HT_.out (by kernel_rfl)) ?_
         have hnb49 := NB213_200.out
         have hnc49 := NB200_213.out
         have hnb50 := NB213_214.out
         have hnc50 := NB214_213.out
         have hcz51_0 : w46.cell? ⟨gb213, 0, none⟩ = some (.int .i64 x214000_1) := (blk_cell BK213.out 0).trans rfl
         have hcz51_1 : w46.cell? ⟨gb213, 1, none⟩ = some (.int .i64 x214001_1) := (blk_cell BK213.out 1).trans rfl
         have hfz51_0 := blk_frozen BK213.out 0
         have hfz51_1 := blk_frozen BK213.out 1
         try go_wp2_with (first | ((with_reducible refine gate_callee (f := 50) rfl ?_); refine goesL_ (some 51) rfl rfl Try.func50 (by kernel_rfl) rfl #[.int .i64 (wrap64 ((wrap64 (a1 + (wrap64 (x6_1 + ((rd_T28 t207 x27_1).f1))))) * t220)), .int .i64 t219] rfl sG ?_; (with_reducible refine (impl_fraction.calls k1 (wrap64 ((wrap64 (a1 + (wrap64 (x6_1 + ((rd_T28 t207 x27_1).f1))))) * t220)) t219 t221 t222 _ A36.out).mono ?_); rintro e w52 ⟨rfl, hb⟩; refine ⟨_, rfl, ?_⟩; have n0_ := aS (Kd.R_below (sR (Kd.R_mono (Kd.R_far (p := ⟨gb213, 1, none⟩) (Kd.R_far (p := ⟨gb213, 0, none⟩) (Kd.R_types HO_5.out BK213.out (by decide)) (fun _ hk => hk.2) (.int .i64 t219)) (fun _ hk => hk.2) (.int .i64 t220)) (fun _ h_ => h_.1))) hb); have n1_ := aS (Kd.R_below (sR (Kd.R_mono (Kd.R_far (p := ⟨gb213, 1, none⟩) (Kd.R_far (p := ⟨gb213, 0, none⟩) (Kd.R_types HO_25.out BK213.out (by decide)) (fun _ hk => hk.2) (.int .i64 t219)) (fun _ hk => hk.2) (.int .i64 t220)) (fun _ h_ => h_.1))) hb); have n2_ := aS (blk_below (g := gb200) (o := .cells #[.int .i64 0, .int .i64 0] 25 (0, 0)) (by (with_reducible repeat (first | refine blk_drewN ?_ _ | refine blk_drew ?_ | refine blk_alloc ?_ _)); refine blk_far ?_ NB200_213.out _; (with_reducible repeat (first | refine blk_drewN ?_ _ | refine blk_drew ?_ | refine blk_alloc ?_ _)); refine blk_far ?_ NB200_213.out _; (with_reducible repeat (first | refine blk_drewN ?_ _ | refine blk_drew ?_ | refine blk_alloc ?_ _)); exact BK200.out) hb); have n3_ := aS (blk_below (g := gb213) (o := .cells #[.int .i64 t219, .int .i64 t220] 25 (0, 0)) (by (with_reducible repeat (first | refine blk_drewN ?_ _ | refine blk_drew ?_ | refine blk_alloc ?_ _)); refine blk_put (cs := #[.int .i64 t219, .int .i64 x214001_1]) ?_ 1 _ rfl; (with_reducible repeat (first | refine blk_drewN ?_ _ | refine blk_drew ?_ | refine blk_alloc ?_ _)); refine blk_put (cs := #[.int .i64 x214000_1, .int .i64 x214001_1]) ?_ 0 _ rfl; (with_reducible repeat (first | refine blk_drewN ?_ _ | refine blk_drew ?_ | refine blk_alloc ?_ _)); exact BK213.out) hb); have n4_ := aS (blk_below (g := gb214) (o := .cells #[.int .i64 x215000_1, .int .i64 x215001_1] 25 (0, 0)) (by (with_reducible repeat (first | refine blk_drewN ?_ _ | refine blk_drew ?_ | refine blk_alloc ?_ _)); refine blk_far ?_ NB214_213.out _; (with_reducible repeat (first | refine blk_drewN ?_ _ | refine blk_drew ?_ | refine blk_alloc ?_ _)); refine blk_far ?_ NB214_213.out _; (with_reducible repeat (first | refine blk_drewN ?_ _ | refine blk_drew ?_ | refine blk_alloc ?_ _)); exact BK214.out) hb); have n5_ := aS (blk_below (g := gb216) (o := .cells #[.int .i64 ((rd_T28 t207 x27_1).f0), .int .i64 ((rd_T28 t207 x27_1).f1)] 28 (0, 0)) (by (with_reducible repeat (first | refine blk_drewN ?_ _ | refine blk_drew ?_ | refine blk_alloc ?_ _)); refine blk_far ?_ NB216_213.out _; (with_reducible repeat (first | refine blk_drewN ?_ _ | refine blk_drew ?_ | refine blk_alloc ?_ _)); refine blk_far ?_ NB216_213.out _; (with_reducible repeat (first | refine blk_drewN ?_ _ | refine blk_drew ?_ | refine blk_alloc ?_ _)); exact BK216.out) hb); have n6_ := aS (below_step (sW HB.out) hb); clear HO_5 HO_25 BK200 BK213 BK214 BK216 HB; have HO_5 := n0_; have HO_25 := n1_; have BK200 := n2_; have BK213 := n3_; have BK214 := n4_; have BK216 := n5_; have HB := n6_; clear n0_ n1_ n2_ n3_ n4_ n5_ n6_; (try clear hb); (try clear hb2); (try clear hk); (try clear hi); have hnb53 := NB214_200.out; have hnc53 := NB200_214.out; have hcz54_0 : w52.cell? ⟨gb214, 0, none⟩ = some (.int .i64 x215000_1) := (blk_cell BK214.out 0).trans rfl; have hcz54_1 : w52.cell? ⟨gb214, 1, none⟩ = some (.int .i64 x215001_1) := (blk_cell BK214.out 1).trans rfl; have hfz54_0 := blk_frozen BK214.out 0; have hfz54_1 := blk_frozen BK214.out 1))
         have n0_ : Aside0 (Kd.R k28 28 ((w52.setCell ⟨gb214, 0, none⟩ (.int .i64 t221)).setCell ⟨gb214, 1, none⟩ (.int .i64 t222)) w.heap.size (fun k_ => k_ ≠ gb216) (.slice (some ad215) t207.length co21) t207) := ⟨by (with_reducible repeat (first | apply Kd.R_alloc | apply Kd.R_drewN | apply Kd.R_drew)); exact Kd.R_mono (Kd.R_far (p := ⟨gb214, 1, none⟩) (Kd.R_far (p := ⟨gb214, 0, none⟩) (Kd.R_types HO_5.out BK214.out (by decide)) (fun _ hk => hk.2) (.int .i64 t221)) (fun _ hk => hk.2) (.int .i64 t222)) (fun _ hk => hk.1)⟩
         have n1_ : Aside0 (Kd.R k28 28 ((w52.setCell ⟨gb214, 0, none⟩ (.int .i64 t221)).setCell ⟨gb214, 1, none⟩ (.int .i64 t222)) w.heap.size (fun k_ => k_ ≠ gb216) (.slice (some ad215) t207.length co21) t207) := ⟨by (with_reducible repeat (first | apply Kd.R_alloc | apply Kd.R_drewN | apply Kd.R_drew)); exact Kd.R_mono (Kd.R_far (p := ⟨gb214, 1, none⟩) (Kd.R_far (p := ⟨gb214, 0, none⟩) (Kd.R_types HO_25.out BK214.out (by decide)) (fun _ hk => hk.2) (.int .i64 t221)) (fun _ hk => hk.2) (.int .i64 t222)) (fun _ hk => hk.1)⟩
         have n2_ : Aside0 (((w52.setCell ⟨gb214, 0, none⟩ (.int .i64 t221)).setCell ⟨gb214, 1, none⟩ (.int .i64 t222)).heap[gb200]? = some (.cells #[.int .i64 0, .int .i64 0] 25 (0, 0))) := ⟨by (with_reducible repeat (first | refine blk_drewN ?_ _ | refine blk_drew ?_ | refine blk_alloc ?_ _)); refine blk_far ?_ NB200_214.out _; (with_reducible repeat (first | refine blk_drewN ?_ _ | refine blk_drew ?_ | refine blk_alloc ?_ _)); refine blk_far ?_ NB200_214.out _; (with_reducible repeat (first | refine blk_drewN ?_ _ | refine blk_drew ?_ | refine blk_alloc ?_ _)); exact BK200.out⟩
         have n3_ : Aside0 (((w52.setCell ⟨gb214, 0, none⟩ (.int .i64 t221)).setCell ⟨gb214, 1, none⟩ (.int .i64 t222)).heap[gb213]? = some (.cells #[.int .i64 t219, .int .i64 t220] 25 (0, 0))) := ⟨by (with_reducible repeat (first | refine blk_drewN ?_ _ | refine blk_drew ?_ | refine blk_alloc ?_ _)); refine blk_far ?_ NB213_214.out _; (with_reducible repeat (first | refine blk_drewN ?_ _ | refine blk_drew ?_ | refine blk_alloc ?_ _)); refine blk_far ?_ NB213_214.out _; (with_reducible repeat (first | refine blk_drewN ?_ _ | refine blk_drew ?_ | refine blk_alloc ?_ _)); exact BK213.out⟩
         have n4_ : Aside0 (((w52.setCell ⟨gb214, 0, none⟩ (.int .i64 t221)).setCell ⟨gb214, 1, none⟩ (.int .i64 t222)).heap[gb214]? = some (.cells #[.int .i64 t221, .int .i64 t222] 25 (0, 0))) := ⟨by (with_reducible repeat (first | refine blk_drewN ?_ _ | refine blk_drew ?_ | refine blk_alloc ?_ _)); refine blk_put (cs := #[.int .i64 t221, .int .i64 x215001_1]) ?_ 1 _ rfl; (with_reducible repeat (first | refine blk_drewN ?_ _ | refine blk_drew ?_ | refine blk_alloc ?_ _)); refine blk_put (cs := #[.int .i64 x215000_1, .int .i64 x215001_1]) ?_ 0 _ rfl; (with_reducible repeat (first | refine blk_drewN ?_ _ | refine blk_drew ?_ | refine blk_alloc ?_ _)); exact BK214.out⟩
         have n5_ : Aside0 (((w52.setCell ⟨gb214, 0, none⟩ (.int .i64 t221)).setCell ⟨gb214, 1, none⟩ (.int .i64 t222)).heap[gb216]? = some (.cells #[.int .i64 ((rd_T28 t207 x27_1).f0), .int .i64 ((rd_T28 t207 x27_1).f1)] 28 (0, 0))) := ⟨by (with_reducible repeat (first | refine blk_drewN ?_ _ | refine blk_drew ?_ | refine blk_alloc ?_ _)); refine blk_far ?_ NB216_214.out _; (with_reducible repeat (first | refine blk_drewN ?_ _ | refine blk_drew ?_ | refine blk_alloc ?_ _)); refine blk_far ?_ NB216_214.out _; (with_reducible repeat (first | refine blk_drewN ?_ _ | refine blk_drew ?_ | refine blk_alloc ?_ _)); exact BK216.out⟩
         have n6_ : Aside0 (Below w.heap.size w ((w52.setCell ⟨gb214, 0, none⟩ (.int .i64 t221)).setCell ⟨gb214, 1, none⟩ (.int .i64 t222))) := ⟨by repeat (first | (with_reducible first | exact HB.out | apply below_alloc | apply pw_below_drewN | apply below_drew1 | refine below_set ?_ GE200.out | refine below_set ?_ GE213.out | refine below_set ?_ GE214.out | refine below_set ?_ GE216.out) | exact HB.out)⟩
         (try clear HO_5); (try clear HO_25); (try clear BK200); (try clear BK213); (try clear BK214); (try clear BK216); (try clear HB)
         generalize ((w52.setCell ⟨gb214, 0, none⟩ (.int .i64 t221)).setCell ⟨gb214, 1, none⟩ (.int .i64 t222)) = w55 at n0_ n1_ n2_ n3_ n4_ n5_ n6_ ⊢
         have HO_5 := n0_; have HO_25 := n1_; have BK200 := n2_; have BK213 := n3_; have BK214 := n4_; have BK216 := n5_; have HB := n6_
         clear n0_ n1_ n2_ n3_ n4_ n5_ n6_
         have n0_ := aS (Kd.R_drew HO_5.out)
         have n1_ := aS (Kd.R_drew HO_25.out)
         have n2_ := aS (blk_drew BK200.out)
         have n3_ := aS (blk_drew BK213.out)
         have n4_ := aS (blk_drew BK214.out)
         have n5_ := aS (blk_drew BK216.out)
         have n6_ := aS (below_drew1 HB.out)
         clear HO_5 HO_25 BK200 BK213 BK214 BK216 HB
         have HO_5 := n0_; have HO_25 := n1_; have BK200 := n2_; have BK213 := n3_; have BK214 := n4_; have BK216 := n5_; have HB := n6_
         clear n0_ n1_ n2_ n3_ n4_ n5_ n6_
         refine start_ (n := 19) (S := fun w' => True) (ds := []) #[false, false, false, false, false, false, false, false, false, false, false, false, false, false, false, false, false, false, false] (by kernel_rfl) rfl rfl trivial (fun hHeld => ?_); refine with_tabW impl_sharedLength.tab14 impl_sharedLength.bits14 (fun HT_ HW_ => ?_)
         generalize w55.drew = w56 at HO_5 HO_25 BK200 BK213 BK214 BK216 HB hHeld ⊢
         refine pure_ (i := 0) (N := some 52) (v := ?_) (a' := ?_) #[true, false, false, false, false, false, false, false, false, false, false, false, false, false, false, false, false, false, false] rfl rfl (any_of HT_.out (by kernel_rfl)) (fun _ _ _ h => h) (Or.inl ⟨by rfl, ?_⟩) ?_ ?_
         rotate_left
         ·
          intro w'
          go_simp
          with_reducible rfl
         rotate_left
         ·
          simp only [Act.put, List.setIfInBounds_toArray, List.set_cons_zero, List.set_cons_succ, i64_w, i32_w]
          rfl
         refine pure_ (i := 1) (N := some 53) (v := ?_) (a' := ?_) #[true, true, false, false, false, false, false, false, false, false, false, false, false, false, false, false, false, false, false] rfl rfl (any_of HT_.out (by kernel_rfl)) (fun _ _ _ h => h) (Or.inl ⟨by rfl, ?_⟩) ?_ ?_
         rotate_left
         ·
          intro w'
          go_simp
          with_reducible rfl
         rotate_left
         ·
          simp only [Act.put, List.setIfInBounds_toArray, List.set_cons_zero, List.set_cons_succ, i64_w, i32_w]
          rfl
         refine pure_ (i := 2) (N := some 54) (v := ?_) (a' := ?_) #[true, true, true, false, false, false, false, false, false, false, false, false, false, false, false, false, false, false, false] rfl rfl (any_of HT_.out (by kernel_rfl)) (fun _ _ _ h => h) (Or.inl ⟨by rfl, ?_⟩) ?_ ?_
         rotate_left
         ·
          intro w'
          go_simp
          with_reducible rfl
         rotate_left
         ·
          simp only [Act.put, List.setIfInBounds_toArray, List.set_cons_zero, List.set_cons_succ, i64_w, i32_w]
          rfl
         refine pure_ (i := 3) (N := some 55) (v := ?_) (a' := ?_) #[true, true, true, true, false, false, false, false, false, false, false, false, false, false, false, false, false, false, false] rfl rfl (any_of HT_.out (by kernel_rfl)) (fun _ _ _ h => h) (Or.inl ⟨by rfl, ?_⟩) ?_ ?_
         rotate_left
         ·
          intro w'
          go_simp
          with_reducible rfl
         rotate_left
         ·
          simp only [Act.put, List.setIfInBounds_toArray, List.set_cons_zero, List.set_cons_succ, i64_w, i32_w]
          rfl
         refine pure_ (i := 4) (N := some 56) (v := ?_) (a' := ?_) #[true, true, true, true, true, false, false, false, false, false, false, false, false, false, false, false, false, false, false] rfl rfl (any_of HT_.out (by kernel_rfl)) (fun _ _ _ h => h) (Or.inl ⟨by rfl, ?_⟩) ?_ ?_
         rotate_left
         ·
          intro w'
          go_simp
          with_reducible rfl
         rotate_left
         ·
          simp only [Act.put, List.setIfInBounds_toArray, List.set_cons_zero, List.set_cons_succ, i64_w, i32_w]
          rfl
         refine pure_ (i := 5) (N := some 57) (v := ?_) (a' := ?_) #[true, true, true, true, true, true, false, false, false, false, false, false, false, false, false, false, false, false, false] rfl rfl (any_of HT_.out (by kernel_rfl)) (fun _ _ _ h => h) (Or.inl ⟨by rfl, ?_⟩) ?_ ?_
         rotate_left
         ·
          intro w'
          go_simp
          with_reducible rfl
         rotate_left
         ·
          simp only [Act.put, List.setIfInBounds_toArray, List.set_cons_zero, List.set_cons_succ, i64_w, i32_w]
          rfl
         refine pure_ (i := 6) (N := some 58) (v := undef) (a' := ?_) #[true, true, true, true, true, true, true, false, false, false, false, false, false, false, false, false, false, false, false] rfl rfl (any_of HT_.out (by kernel_rfl)) (fun _ _ _ h => h) (Or.inr ⟨by rfl, rfl⟩) ?_ ?_
         rotate_left
         ·
          simp only [Act.put, List.setIfInBounds_toArray, List.set_cons_zero, List.set_cons_succ, i64_w, i32_w]
          rfl
         refine pure_ (i := 7) (N := some 59) (v := undef) (a' := ?_) #[true, true, true, true, true, true, true, true, false, false, false, false, false, false, false, false, false, false, false] rfl rfl (any_of HT_.out (by kernel_rfl)) (fun _ _ _ h => h) (Or.inr ⟨by rfl, rfl⟩) ?_ ?_
         rotate_left
         ·
          simp only [Act.put, List.setIfInBounds_toArray, List.set_cons_zero, List.set_cons_succ, i64_w, i32_w]
          rfl
         refine pure_ (i := 8) (N := some 60) (v := undef) (a' := ?_) #[true, true, true, true, true, true, true, true, true, false, false, false, false, false, false, false, false, false, false] rfl rfl (any_of HT_.out (by kernel_rfl)) (fun _ _ _ h => h) (Or.inr ⟨by rfl, rfl⟩) ?_ ?_
         rotate_left
         ·
          simp only [Act.put, List.setIfInBounds_toArray, List.set_cons_zero, List.set_cons_succ, i64_w, i32_w]
          rfl
         refine pure_ (i := 9) (N := some 61) (v := undef) (a' := ?_) #[true, true, true, true, true, true, true, true, true, true, false, false, false, false, false, false, false, false, false] rfl rfl (any_of HT_.out (by kernel_rfl)) (fun _ _ _ h => h) (Or.inr ⟨by rfl, rfl⟩) ?_ ?_
         rotate_left
         ·
          simp only [Act.put, List.setIfInBounds_toArray, List.set_cons_zero, List.set_cons_succ, i64_w, i32_w]
          rfl
         refine pure_ (i := 10) (N := some 62) (v := undef) (a' := ?_) #[true, true, true, true, true, true, true, true, true, true, true, false, false, false, false, false, false, false, false] rfl rfl (any_of HT_.out (by kernel_rfl)) (fun _ _ _ h => h) (Or.inr ⟨by rfl, rfl⟩) ?_ ?_
         rotate_left
         ·
          simp only [Act.put, List.setIfInBounds_toArray, List.set_cons_zero, List.set_cons_succ, i64_w, i32_w]
          rfl
         refine pure_ (i := 11) (N := some 63) (v := undef) (a' := ?_) #[true, true, true, true, true, true, true, true, true, true, true, true, false, false, false, false, false, false, false] rfl rfl (any_of HT_.out (by kernel_rfl)) (fun _ _ _ h => h) (Or.inr ⟨by rfl, rfl⟩) ?_ ?_
         rotate_left
         ·
          simp only [Act.put, List.setIfInBounds_toArray, List.set_cons_zero, List.set_cons_succ, i64_w, i32_w]
          rfl
         refine pure_ (i := 12) (N := some 64) (v := undef) (a' := ?_) #[true, true, true, true, true, true, true, true, true, true, true, true, true, false, false, false, false, false, false] rfl rfl (any_of HT_.out (by kernel_rfl)) (fun _ _ _ h => h) (Or.inr ⟨by rfl, rfl⟩) ?_ ?_
         rotate_left
         ·
          simp only [Act.put, List.setIfInBounds_toArray, List.set_cons_zero, List.set_cons_succ, i64_w, i32_w]
          rfl
         refine pure_ (i := 13) (N := some 65) (v := undef) (a' := ?_) #[true, true, true, true, true, true, true, true, true, true, true, true, true, true, false, false, false, false, false] rfl rfl (any_of HT_.out (by kernel_rfl)) (fun _ _ _ h => h) (Or.inr ⟨by rfl, rfl⟩) ?_ ?_
         rotate_left
         ·
          simp only [Act.put, List.setIfInBounds_toArray, List.set_cons_zero, List.set_cons_succ, i64_w, i32_w]
          rfl
         refine pure_ (i := 14) (N := some 66) (v := undef) (a' := ?_) #[true, true, true, true, true, true, true, true, true, true, true, true, true, true, true, false, false, false, false] rfl rfl (any_of HT_.out (by kernel_rfl)) (fun _ _ _ h => h) (Or.inr ⟨by rfl, rfl⟩) ?_ ?_
         rotate_left
         ·
          simp only [Act.put, List.setIfInBounds_toArray, List.set_cons_zero, List.set_cons_succ, i64_w, i32_w]
          rfl
         refine pure_ (i := 15) (N := some 67) (v := undef) (a' := ?_) #[true, true, true, true, true, true, true, true, true, true, true, true, true, true, true, true, false, false, false] rfl rfl (any_of HT_.out (by kernel_rfl)) (fun _ _ _ h => h) (Or.inr ⟨by rfl, rfl⟩) ?_ ?_
         rotate_left
         ·
          simp only [Act.put, List.setIfInBounds_toArray, List.set_cons_zero, List.set_cons_succ, i64_w, i32_w]
          rfl
         refine pure_ (i := 16) (N := some 68) (v := undef) (a' := ?_) #[true, true, true, true, true, true, true, true, true, true, true, true, true, true, true, true, true, false, false] rfl rfl (any_of HT_.out (by kernel_rfl)) (fun _ _ _ h => h) (Or.inr ⟨by rfl, rfl⟩) ?_ ?_
         rotate_left
         ·
          simp only [Act.put, List.setIfInBounds_toArray, List.set_cons_zero, List.set_cons_succ, i64_w, i32_w]
          rfl
         refine pure_ (i := 17) (N := some 69) (v := undef) (a' := ?_) #[true, true, true, true, true, true, true, true, true, true, true, true, true, true, true, true, true, true, false] rfl rfl (any_of HT_.out (by kernel_rfl)) (fun _ _ _ h => h) (Or.inr ⟨by rfl, rfl⟩) ?_ ?_
         rotate_left
         ·
          simp only [Act.put, List.setIfInBounds_toArray, List.set_cons_zero, List.set_cons_succ, i64_w, i32_w]
          rfl
         refine pure_ (i := 18) (N := some 70) (v := ?_) (a' := ?_) #[true, true, true, true, true, true, true, true, true, true, true, true, true, true, true, true, true, true, true] rfl rfl (any_of HT_.out (by kernel_rfl)) (fun _ _ _ h => h) (Or.inl ⟨by rfl, ?_⟩) ?_ ?_
         rotate_left
         ·
          intro w'
          go_simp
          with_reducible rfl
         rotate_left
         ·
          simp only [Act.put, List.setIfInBounds_toArray, List.set_cons_zero, List.set_cons_succ, i64_w, i32_w]
          rfl
         refine done_ (done_of HT_.out (by kernel_rfl)) ?_
         have hcz57_0 : w56.cell? ⟨gb214, 0, none⟩ = some (.int .i64 t221) := (blk_cell BK214.out 0).trans rfl
         have hcz57_1 : w56.cell? ⟨gb214, 1, none⟩ = some (.int .i64 t222) := (blk_cell BK214.out 1).trans rfl
         have hfz57_0 := blk_frozen BK214.out 0
         have hfz57_1 := blk_frozen BK214.out 1
         have hcz58_0 : w56.cell? ⟨gb200, 0, none⟩ = some (.int .i64 0) := (blk_cell BK200.out 0).trans rfl
         have hcz58_1 : w56.cell? ⟨gb200, 1, none⟩ = some (.int .i64 0) := (blk_cell BK200.out 1).trans rfl
         have hfz58_0 := blk_frozen BK200.out 0
         have hfz58_1 := blk_frozen BK200.out 1
         try go_wp2
         refine bodyPost_ret (results_cell_row rfl _ _ gb200 25 #[.int .i64 t221, .int .i64 t222] (0, 0) _ rfl (by (with_reducible repeat (first | refine blk_drewN ?_ _ | refine blk_drew ?_ | refine blk_alloc ?_ _)); refine blk_put (cs := #[.int .i64 t221, .int .i64 0]) ?_ 1 _ rfl; (with_reducible repeat (first | refine blk_drewN ?_ _ | refine blk_drew ?_ | refine blk_alloc ?_ _)); refine blk_put (cs := #[.int .i64 0, .int .i64 0]) ?_ 0 _ rfl; (with_reducible repeat (first | refine blk_drewN ?_ _ | refine blk_drew ?_ | refine blk_alloc ?_ _)); exact BK200.out) Try.underlying25 rfl (by kernel_rfl)) rfl ?_
         exact ⟨by first | rfl | (simp [errW_none, errW_some, i64_w]; done) | (simp [errW_none, errW_some] <;> rfl) | (simp [*, errW_none, errW_some] <;> rfl), by repeat (first | (with_reducible first | exact HB.out | apply below_alloc | apply pw_below_drewN | apply below_drew1 | refine below_set ?_ GE200.out | refine below_set ?_ GE213.out | refine below_set ?_ GE214.out | refine below_set ?_ GE216.out) | exact HB.out)⟩
        ·
         rw [if_neg c37] at H
         have c37b0 : ((wrap64 (x27_1 + 1)) == (t207.length : Int)) = false := beq_eq_false_iff_ne.mpr c37
         have c37b1 : ((wrap64 (x27_1 + 1)) != (t207.length : Int)) = true := bne_iff_ne.mpr c37
         (try (have c37b0hl5_1 := c37b0; simp only [hl5_1] at c37b0hl5_1))
         obtain ⟨ji59, hji59⟩ : ∃ j_ : Int, (wrap64 (x27_1 + 1)) = j_ := ⟨_, rfl⟩
         replace H : (if 0 ≤ (ji59) then (if (ji59) < (t207.length : Int) then (if t221 ≤ (wrap64 (((rd_T28 t207 (ji59)).f0) * t222)) then (some (t221, t222)) else (impl_sharedLength.l0 k1 a1 t207 (wrap64 (x6_1 + ((rd_T28 t207 x27_1).f1))) t207 (y204.length : Int) ji59 t219 t220 t221 t222)) else (none)) else (none)) = some (r1, r2) := by first | (rw [hji59] at H; exact H) | (simp only [hji59] at H ⊢; exact H)
         (try rw [hji59] at c37b0)
         (try rw [hji59] at c37b1)
         (try rw [hji59] at A34)
         (try rw [hji59] at A35)
         (try rw [hji59] at A36)
         have hji59w : (IntKind.i64.wrap (x27_1 + 1)) = ji59 := (i64_w _).trans hji59
         by_cases c60 : 0 ≤ (ji59)
         ·
          rw [if_pos c60] at H
          have c60b0 : decide (0 ≤ (ji59)) = true := decide_eq_true c60
          clear c60
          by_cases c61 : (ji59) < (t207.length : Int)
          ·
           rw [if_pos c61] at H
           have c61b0 : decide ((ji59) < (t207.length : Int)) = true := decide_eq_true c61
           (try (have c61b0hl5_1 := c61b0; simp only [hl5_1] at c61b0hl5_1))
           clear c61
           by_cases c62 : t221 ≤ (wrap64 (((rd_T28 t207 (ji59)).f0) * t222))
           ·
            rw [if_pos c62] at H
            have c62b0 : decide (t221 ≤ (wrap64 (((rd_T28 t207 (ji59)).f0) * t222))) = true := decide_eq_true c62
            clear c62
            simp only [Option.some.injEq, Prod.mk.injEq] at H
            obtain ⟨rfl, rfl⟩ := H
            have p215 : 0 ≤ (x27_1 : Int) := of_decide_eq_true (by first | (with_reducible assumption) | assumption)
            have q215 : x27_1 < (t207.length : Int) := of_decide_eq_true (by first | (with_reducible assumption) | assumption)
            obtain ⟨ad215, e215, hx215_0, hx215_1⟩ := at_T28 (Kd.R_reads' HO_25.out).2.2 x27_1 p215 q215
            cases e215
            replace p215 := eq_true p215
            replace q215 := eq_true q215
            try go_wp2_with (first | ((with_reducible refine gate_dst (N := 10) rfl ?_); refine box_event ?hg (N := 10) ?hd (cs := #[.int .i64 0, .int .i64 0]) (t := 28) ?hr ?_; (case hd => rfl); (case hg => rfl); (case hr => first | (go_simp; done) | (go_simp; rfl)); intro gb216 hg w63 hbox hb; have n0_ := aS (Kd.R_below (Kd.R_elderB (sR HO_5.out) gb216 (Nat.le_of_eq hg.symm)) hb); have n1_ := aS (Kd.R_below (Kd.R_elderB (sR HO_25.out) gb216 (Nat.le_of_eq hg.symm)) hb); have n2_ := aS (blk_below (g := gb200) (o := .cells #[.int .i64 0, .int .i64 0] 25 (0, 0)) (sB BK200.out) hb); have n3_ := aS (blk_below (g := gb213) (o := .cells #[.int .i64 x214000_1, .int .i64 x214001_1] 25 (0, 0)) (sB BK213.out) hb); have n4_ := aS (blk_below (g := gb214) (o := .cells #[.int .i64 x215000_1, .int .i64 x215001_1] 25 (0, 0)) (sB BK214.out) hb); have n5_ := aS (below_step (sW HB.out) hb); have n6_ := aS (hbox); have n7_ := aS ((by rw [hg]; exact (below_size (sW HB.out)) : w.heap.size ≤ gb216)); have n8_ := aS ((by rw [hg]; exact (below_size (sW HB.out)) : w.heap.size ≤ gb216)); have n9_ := aS ((by rw [hg]; exact Nat.ne_of_lt (blk_lt (g := gb200) (o := .cells #[.int .i64 0, .int .i64 0] 25 (0, 0)) (sB BK200.out)) : gb200 ≠ gb216)); have n10_ := aS ((by rw [hg]; exact Nat.ne_of_gt (blk_lt (g := gb200) (o := .cells #[.int .i64 0, .int .i64 0] 25 (0, 0)) (sB BK200.out)) : gb216 ≠ gb200)); have n11_ := aS ((by rw [hg]; exact Nat.ne_of_lt (blk_lt (g := gb213) (o := .cells #[.int .i64 x214000_1, .int .i64 x214001_1] 25 (0, 0)) (sB BK213.out)) : gb213 ≠ gb216)); have n12_ := aS ((by rw [hg]; exact Nat.ne_of_gt (blk_lt (g := gb213) (o := .cells #[.int .i64 x214000_1, .int .i64 x214001_1] 25 (0, 0)) (sB BK213.out)) : gb216 ≠ gb213)); have n13_ := aS ((by rw [hg]; exact Nat.ne_of_lt (blk_lt (g := gb214) (o := .cells #[.int .i64 x215000_1, .int .i64 x215001_1] 25 (0, 0)) (sB BK214.out)) : gb214 ≠ gb216)); have n14_ := aS ((by rw [hg]; exact Nat.ne_of_gt (blk_lt (g := gb214) (o := .cells #[.int .i64 x215000_1, .int .i64 x215001_1] 25 (0, 0)) (sB BK214.out)) : gb216 ≠ gb214)); clear HO_5 HO_25 BK200 BK213 BK214 HB; have HO_5 := n0_; have HO_25 := n1_; have BK200 := n2_; have BK213 := n3_; have BK214 := n4_; have HB := n5_; have BK216 := n6_; have GW216 := n7_; have GE216 := n8_; have NB200_216 := n9_; have NB216_200 := n10_; have NB213_216 := n11_; have NB216_213 := n12_; have NB214_216 := n13_; have NB216_214 := n14_; clear n0_ n1_ n2_ n3_ n4_ n5_ n6_ n7_ n8_ n9_ n10_ n11_ n12_ n13_ n14_; clear hb hbox hg; have hnb64 := NB216_200.out; have hnc64 := NB200_216.out; have hnb65 := NB216_213.out; have hnc65 := NB213_216.out; have hnb66 := NB216_214.out; have hnc66 := NB214_216.out; have hcz67_0 : w63.cell? ⟨gb216, 0, none⟩ = some (.int .i64 0) := (blk_cell BK216.out 0).trans rfl; have hcz67_1 : w63.cell? ⟨gb216, 1, none⟩ = some (.int .i64 0) := (blk_cell BK216.out 1).trans rfl; have hfz67_0 := blk_frozen BK216.out 0; have hfz67_1 := blk_frozen BK216.out 1))
            have n0_ : Aside0 (Kd.R k28 28 ((w63.setCell ⟨gb216, 0, none⟩ (.int .i64 ((rd_T28 t207 x27_1).f0))).setCell ⟨gb216, 1, none⟩ (.int .i64 ((rd_T28 t207 x27_1).f1))) w.heap.size (fun k_ => k_ ≠ gb216) (.slice (some ad215) t207.length co21) t207) := ⟨by (with_reducible repeat (first | apply Kd.R_alloc | apply Kd.R_drewN | apply Kd.R_drew)); exact Kd.R_mono (Kd.R_far (p := ⟨gb216, 1, none⟩) (Kd.R_far (p := ⟨gb216, 0, none⟩) (Kd.R_mono HO_5.out (fun k_ hk => (⟨hk, hk.2⟩ : _ ∧ k_ ≠ gb216))) (fun _ hk => hk.2) (.int .i64 ((rd_T28 t207 x27_1).f0))) (fun _ hk => hk.2) (.int .i64 ((rd_T28 t207 x27_1).f1))) (fun _ hk => hk.1.2)⟩
            have n1_ : Aside0 (Kd.R k28 28 ((w63.setCell ⟨gb216, 0, none⟩ (.int .i64 ((rd_T28 t207 x27_1).f0))).setCell ⟨gb216, 1, none⟩ (.int .i64 ((rd_T28 t207 x27_1).f1))) w.heap.size (fun k_ => k_ ≠ gb216) (.slice (some ad215) t207.length co21) t207) := ⟨by (with_reducible repeat (first | apply Kd.R_alloc | apply Kd.R_drewN | apply Kd.R_drew)); exact Kd.R_mono (Kd.R_far (p := ⟨gb216, 1, none⟩) (Kd.R_far (p := ⟨gb216, 0, none⟩) (Kd.R_mono HO_25.out (fun k_ hk => (⟨hk, hk.2⟩ : _ ∧ k_ ≠ gb216))) (fun _ hk => hk.2) (.int .i64 ((rd_T28 t207 x27_1).f0))) (fun _ hk => hk.2) (.int .i64 ((rd_T28 t207 x27_1).f1))) (fun _ hk => hk.1.2)⟩
            have n2_ : Aside0 (((w63.setCell ⟨gb216, 0, none⟩ (.int .i64 ((rd_T28 t207 x27_1).f0))).setCell ⟨gb216, 1, none⟩ (.int .i64 ((rd_T28 t207 x27_1).f1))).heap[gb200]? = some (.cells #[.int .i64 0, .int .i64 0] 25 (0, 0))) := ⟨by (with_reducible repeat (first | refine blk_drewN ?_ _ | refine blk_drew ?_ | refine blk_alloc ?_ _)); refine blk_far ?_ NB200_216.out _; (with_reducible repeat (first | refine blk_drewN ?_ _ | refine blk_drew ?_ | refine blk_alloc ?_ _)); refine blk_far ?_ NB200_216.out _; (with_reducible repeat (first | refine blk_drewN ?_ _ | refine blk_drew ?_ | refine blk_alloc ?_ _)); exact BK200.out⟩
            have n3_ : Aside0 (((w63.setCell ⟨gb216, 0, none⟩ (.int .i64 ((rd_T28 t207 x27_1).f0))).setCell ⟨gb216, 1, none⟩ (.int .i64 ((rd_T28 t207 x27_1).f1))).heap[gb213]? = some (.cells #[.int .i64 x214000_1, .int .i64 x214001_1] 25 (0, 0))) := ⟨by (with_reducible repeat (first | refine blk_drewN ?_ _ | refine blk_drew ?_ | refine blk_alloc ?_ _)); refine blk_far ?_ NB213_216.out _; (with_reducible repeat (first | refine blk_drewN ?_ _ | refine blk_drew ?_ | refine blk_alloc ?_ _)); refine blk_far ?_ NB213_216.out _; (with_reducible repeat (first | refine blk_drewN ?_ _ | refine blk_drew ?_ | refine blk_alloc ?_ _)); exact BK213.out⟩
            have n4_ : Aside0 (((w63.setCell ⟨gb216, 0, none⟩ (.int .i64 ((rd_T28 t207 x27_1).f0))).setCell ⟨gb216, 1, none⟩ (.int .i64 ((rd_T28 t207 x27_1).f1))).heap[gb214]? = some (.cells #[.int .i64 x215000_1, .int .i64 x215001_1] 25 (0, 0))) := ⟨by (with_reducible repeat (first | refine blk_drewN ?_ _ | refine blk_drew ?_ | refine blk_alloc ?_ _)); refine blk_far ?_ NB214_216.out _; (with_reducible repeat (first | refine blk_drewN ?_ _ | refine blk_drew ?_ | refine blk_alloc ?_ _)); refine blk_far ?_ NB214_216.out _; (with_reducible repeat (first | refine blk_drewN ?_ _ | refine blk_drew ?_ | refine blk_alloc ?_ _)); exact BK214.out⟩
            have n5_ : Aside0 (((w63.setCell ⟨gb216, 0, none⟩ (.int .i64 ((rd_T28 t207 x27_1).f0))).setCell ⟨gb216, 1, none⟩ (.int .i64 ((rd_T28 t207 x27_1).f1))).heap[gb216]? = some (.cells #[.int .i64 ((rd_T28 t207 x27_1).f0), .int .i64 ((rd_T28 t207 x27_1).f1)] 28 (0, 0))) := ⟨by (with_reducible repeat (first | refine blk_drewN ?_ _ | refine blk_drew ?_ | refine blk_alloc ?_ _)); refine blk_put (cs := #[.int .i64 ((rd_T28 t207 x27_1).f0), .int .i64 0]) ?_ 1 _ rfl; (with_reducible repeat (first | refine blk_drewN ?_ _ | refine blk_drew ?_ | refine blk_alloc ?_ _)); refine blk_put (cs := #[.int .i64 0, .int .i64 0]) ?_ 0 _ rfl; (with_reducible repeat (first | refine blk_drewN ?_ _ | refine blk_drew ?_ | refine blk_alloc ?_ _)); exact BK216.out⟩
            have n6_ : Aside0 (Below w.heap.size w ((w63.setCell ⟨gb216, 0, none⟩ (.int .i64 ((rd_T28 t207 x27_1).f0))).setCell ⟨gb216, 1, none⟩ (.int .i64 ((rd_T28 t207 x27_1).f1)))) := ⟨by repeat (first | (with_reducible first | exact HB.out | apply below_alloc | apply pw_below_drewN | apply below_drew1 | refine below_set ?_ GE200.out | refine below_set ?_ GE213.out | refine below_set ?_ GE214.out | refine below_set ?_ GE216.out) | exact HB.out)⟩
            (try clear HO_5); (try clear HO_25); (try clear BK200); (try clear BK213); (try clear BK214); (try clear BK216); (try clear HB)
            generalize ((w63.setCell ⟨gb216, 0, none⟩ (.int .i64 ((rd_T28 t207 x27_1).f0))).setCell ⟨gb216, 1, none⟩ (.int .i64 ((rd_T28 t207 x27_1).f1))) = w68 at n0_ n1_ n2_ n3_ n4_ n5_ n6_ ⊢
            have HO_5 := n0_; have HO_25 := n1_; have BK200 := n2_; have BK213 := n3_; have BK214 := n4_; have BK216 := n5_; have HB := n6_
            clear n0_ n1_ n2_ n3_ n4_ n5_ n6_
            have n0_ := aS (Kd.R_drew HO_5.out)
            have n1_ := aS (Kd.R_drew HO_25.out)
            have n2_ := aS (blk_drew BK200.out)
            have n3_ := aS (blk_drew BK213.out)
            have n4_ := aS (blk_drew BK214.out)
            have n5_ := aS (blk_drew BK216.out)
            have n6_ := aS (below_drew1 HB.out)
            clear HO_5 HO_25 BK200 BK213 BK214 BK216 HB
            have HO_5 := n0_; have HO_25 := n1_; have BK200 := n2_; have BK213 := n3_; have BK214 := n4_; have BK216 := n5_; have HB := n6_
            clear n0_ n1_ n2_ n3_ n4_ n5_ n6_
            refine start_ (n := 8) (S := fun w' => w'.cell? ⟨gb213, 0, none⟩ = some (.int .i64 x214000_1) ∧ w'.cell? ⟨gb213, 1, none⟩ = some (.int .i64 x214001_1) ∧ w'.cell? ⟨gb216, 0, none⟩ = some (.int .i64 ((rd_T28 t207 x27_1).f0)) ∧ w'.cell? ⟨gb216, 1, none⟩ = some (.int .i64 ((rd_T28 t207 x27_1).f1))) (ds := [7]) #[false, false, false, false, false, false, false, false] (by kernel_rfl) rfl rfl ⟨(blk_cell BK213.out 0).trans rfl, (blk_cell BK213.out 1).trans rfl, (blk_cell BK216.out 0).trans rfl, (blk_cell BK216.out 1).trans rfl⟩ (fun hHeld => ?_); refine with_tabW impl_sharedLength.tab12 impl_sharedLength.bits12 (fun HT_ HW_ => ?_)
            generalize w68.drew = w69 at HO_5 HO_25 BK200 BK213 BK214 BK216 HB hHeld ⊢
            refine pure_ (i := 1) (N := some 37) (v := ?_) (a' := ?_) #[false, true, false, false, false, false, false, false] rfl rfl (any_of HT_.out (by kernel_rfl)) (fun _ _ _ h => h) (Or.inl ⟨by rfl, ?_⟩) ?_ ?_
            rotate_left
            ·
             intro w'
             go_simp
             with_reducible rfl
            rotate_left
            ·
             simp only [Act.put, List.setIfInBounds_toArray, List.set_cons_zero, List.set_cons_succ, i64_w, i32_w]
             rfl
            refine pure_ (i := 3) (N := some 39) (v := ?_) (a' := ?_) #[false, true, false, true, false, false, false, false] rfl rfl (any_of HT_.out (by kernel_rfl)) (fun _ _ _ h => h) (Or.inl ⟨by rfl, ?_⟩) ?_ ?_
            rotate_left
            ·
             intro w'
             go_simp
             with_reducible rfl
            rotate_left
            ·
             simp only [Act.put, List.setIfInBounds_toArray, List.set_cons_zero, List.set_cons_succ, i64_w, i32_w]
             rfl
            refine take_ (i := 0) (N := some 36) (v := ?_) (a' := ?_) #[true, true, false, true, false, false, false, false] rfl rfl (take_ofW HT_.out HW_.out (by kernel_rfl)) (fun _ _ _ h => h) (Or.inl ⟨by rfl, ?_⟩) hHeld ?_ ?_
            rotate_left
            ·
             rintro w' ⟨s0, s1, s2, s3⟩
             go_simp
             with_reducible rfl
            rotate_left
            ·
             simp only [Act.put, List.setIfInBounds_toArray, List.set_cons_zero, List.set_cons_succ, i64_w, i32_w]
             rfl
            refine take_ (i := 2) (N := some 38) (v := ?_) (a' := ?_) #[true, true, true, true, false, false, false, false] rfl rfl (take_ofW HT_.out HW_.out (by kernel_rfl)) (fun _ _ _ h => h) (Or.inl ⟨by rfl, ?_⟩) hHeld ?_ ?_
            rotate_left
            ·
             rintro w' ⟨s0, s1, s2, s3⟩
             go_simp
             with_reducible rfl
            rotate_left
            ·
             simp only [Act.put, List.setIfInBounds_toArray, List.set_cons_zero, List.set_cons_succ, i64_w, i32_w]
             rfl
            refine take_ (i := 4) (N := some 40) (v := ?_) (a' := ?_) #[true, true, true, true, true, false, false, false] rfl rfl (take_ofW HT_.out HW_.out (by kernel_rfl)) (fun _ _ _ h => h) (Or.inl ⟨by rfl, ?_⟩) hHeld ?_ ?_
            rotate_left
            ·
             rintro w' ⟨s0, s1, s2, s3⟩
             go_simp
             with_reducible rfl
            rotate_left
            ·
             simp only [Act.put, List.setIfInBounds_toArray, List.set_cons_zero, List.set_cons_succ, i64_w, i32_w]
             rfl
            refine one_ (i := 5) (N := some 41) #[true, true, true, true, true, true, false, false] rfl rfl (one_of HT_.out (by kernel_rfl)) (by decide) (fun K hK => ?_)
            refine goes_ Try.func50 (by kernel_rfl) rfl #[.int .i64 ((rd_T28 t207 x27_1).f1), .int .i64 ((rd_T28 t207 x27_1).f0)] (by rfl) rfl rfl sG ?_
            with_reducible refine (impl_fraction.calls k1 ((rd_T28 t207 x27_1).f1) ((rd_T28 t207 x27_1).f0) t217 t218 _ A34.out).mono ?_
            rintro e w70 ⟨rfl, hb⟩
            refine ⟨_, rfl, ?_⟩
            have n0_ := aS (Kd.R_below (sR HO_5.out) hb)
            have n1_ := aS (Kd.R_below (sR HO_25.out) hb)
            have n2_ := aS (blk_below (g := gb200) (o := .cells #[.int .i64 0, .int .i64 0] 25 (0, 0)) (sB BK200.out) hb)
            have n3_ := aS (blk_below (g := gb213) (o := .cells #[.int .i64 x214000_1, .int .i64 x214001_1] 25 (0, 0)) (sB BK213.out) hb)
            have n4_ := aS (blk_below (g := gb214) (o := .cells #[.int .i64 x215000_1, .int .i64 x215001_1] 25 (0, 0)) (sB BK214.out) hb)
            have n5_ := aS (blk_below (g := gb216) (o := .cells #[.int .i64 ((rd_T28 t207 x27_1).f0), .int .i64 ((rd_T28 t207 x27_1).f1)] 28 (0, 0)) (sB BK216.out) hb)
            have n6_ := aS (below_step (sW HB.out) hb)
            clear HO_5 HO_25 BK200 BK213 BK214 BK216 HB
            have HO_5 := n0_; have HO_25 := n1_; have BK200 := n2_; have BK213 := n3_; have BK214 := n4_; have BK216 := n5_; have HB := n6_
            clear n0_ n1_ n2_ n3_ n4_ n5_ n6_
            (try clear hb); (try clear hb2); (try clear hk); (try clear hi)
            refine hK.out _ _ ⟨(blk_cell BK213.out 0).trans rfl, (blk_cell BK213.out 1).trans rfl, (blk_cell BK216.out 0).trans rfl, (blk_cell BK216.out 1).trans rfl⟩ (fun hHeld => ?_)
            clear hK K
            refine norm_ (a' := ?_) ?_ ?_
            rotate_left
            ·
             show Act.put _ (some 41) _ = _
             simp only [Act.put, List.setIfInBounds_toArray, List.set_cons_zero, List.set_cons_succ, i64_w, i32_w]
             rfl
            refine one_ (i := 6) (N := some 42) #[true, true, true, true, true, true, true, false] rfl rfl (one_of HT_.out (by kernel_rfl)) (by decide) (fun K hK => ?_)
            refine goes_ Try.func56 (by kernel_rfl) rfl #[.agg #[.int .i64 x214000_1, .int .i64 x214001_1], .agg #[.int .i64 t217, .int .i64 t218]] (by rfl) rfl rfl sG ?_
            with_reducible refine (impl_addFractions.calls k1 x214000_1 x214001_1 t217 t218 t219 t220 _ A35.out).mono ?_
            rintro e w71 ⟨rfl, hb⟩
            refine ⟨_, rfl, ?_⟩
            have n0_ := aS (Kd.R_below (sR HO_5.out) hb)
            have n1_ := aS (Kd.R_below (sR HO_25.out) hb)
            have n2_ := aS (blk_below (g := gb200) (o := .cells #[.int .i64 0, .int .i64 0] 25 (0, 0)) (sB BK200.out) hb)
            have n3_ := aS (blk_below (g := gb213) (o := .cells #[.int .i64 x214000_1, .int .i64 x214001_1] 25 (0, 0)) (sB BK213.out) hb)
            have n4_ := aS (blk_below (g := gb214) (o := .cells #[.int .i64 x215000_1, .int .i64 x215001_1] 25 (0, 0)) (sB BK214.out) hb)
            have n5_ := aS (blk_below (g := gb216) (o := .cells #[.int .i64 ((rd_T28 t207 x27_1).f0), .int .i64 ((rd_T28 t207 x27_1).f1)] 28 (0, 0)) (sB BK216.out) hb)
            have n6_ := aS (below_step (sW HB.out) hb)
            clear HO_5 HO_25 BK200 BK213 BK214 BK216 HB
            have HO_5 := n0_; have HO_25 := n1_; have BK200 := n2_; have BK213 := n3_; have BK214 := n4_; have BK216 := n5_; have HB := n6_
            clear n0_ n1_ n2_ n3_ n4_ n5_ n6_
            (try clear hb); (try clear hb2); (try clear hk); (try clear hi)
            refine hK.out _ _ ⟨(blk_cell BK213.out 0).trans rfl, (blk_cell BK213.out 1).trans rfl, (blk_cell BK216.out 0).trans rfl, (blk_cell BK216.out 1).trans rfl⟩ (fun hHeld => ?_)
            clear hK K
            refine norm_ (a' := ?_) ?_ ?_
            rotate_left
            ·
             show Act.put _ (some 42) _ = _
             simp only [Act.put, List.setIfInBounds_toArray, List.set_cons_zero, List.set_cons_succ, i64_w, i32_w]
             rfl
            refine last_ (i := 7) (N := none) #[true, true, true, true, true, true, true, true] rfl rfl (one_of HT_.out (by kernel_rfl)) (by decide) (fun K hK => ?_)
            have hs72 : w71.cell? ⟨gb213, 0, none⟩ = some (.int .i64 x214000_1) := (blk_cell BK213.out 0).trans rfl
            have hfs72 := blk_frozen BK213.out 0
            have hns72_0 := NB200_213.out
            have hns72_2 := NB214_213.out
            have hns72_3 := NB216_213.out
            have hms72_0 := NB213_200.out
            have hms72_2 := NB213_214.out
            have hms72_3 := NB213_216.out
            have hs73 : w71.cell? ⟨gb213, 1, none⟩ = some (.int .i64 x214001_1) := (blk_cell BK213.out 1).trans rfl
            have hfs73 := blk_frozen BK213.out 1
            have hns73_0 := NB200_213.out
            have hns73_2 := NB214_213.out
            have hns73_3 := NB216_213.out
            have hms73_0 := NB213_200.out
            have hms73_2 := NB213_214.out
            have hms73_3 := NB213_216.out
            refine skip_ (w1 := ?_) (by rfl) rfl ?_ ?_
            rotate_left
            ·
             go_simp
             rfl
            refine hK.out _ _ ?_
            clear hK K
            refine done_ (done_of HT_.out (by kernel_rfl)) ?_
            have hnb74 := NB213_200.out
            have hnc74 := NB200_213.out
            have hnb75 := NB213_214.out
            have hnc75 := NB214_213.out
            have hcz76_0 : w71.cell? ⟨gb213, 0, none⟩ = some (.int .i64 x214000_1) := (blk_cell BK213.out 0).trans rfl
            have hcz76_1 : w71.cell? ⟨gb213, 1, none⟩ = some (.int .i64 x214001_1) := (blk_cell BK213.out 1).trans rfl
            have hfz76_0 := blk_frozen BK213.out 0
            have hfz76_1 := blk_frozen BK213.out 1
            try go_wp2_with (first | ((with_reducible refine gate_callee (f := 50) rfl ?_); refine goesL_ (some 51) rfl rfl Try.func50 (by kernel_rfl) rfl #[.int .i64 (wrap64 ((wrap64 (a1 + (wrap64 (x6_1 + ((rd_T28 t207 x27_1).f1))))) * t220)), .int .i64 t219] rfl sG ?_; (with_reducible refine (impl_fraction.calls k1 (wrap64 ((wrap64 (a1 + (wrap64 (x6_1 + ((rd_T28 t207 x27_1).f1))))) * t220)) t219 t221 t222 _ A36.out).mono ?_); rintro e w77 ⟨rfl, hb⟩; refine ⟨_, rfl, ?_⟩; have n0_ := aS (Kd.R_below (sR (Kd.R_mono (Kd.R_far (p := ⟨gb213, 1, none⟩) (Kd.R_far (p := ⟨gb213, 0, none⟩) (Kd.R_types HO_5.out BK213.out (by decide)) (fun _ hk => hk.2) (.int .i64 t219)) (fun _ hk => hk.2) (.int .i64 t220)) (fun _ h_ => h_.1))) hb); have n1_ := aS (Kd.R_below (sR (Kd.R_mono (Kd.R_far (p := ⟨gb213, 1, none⟩) (Kd.R_far (p := ⟨gb213, 0, none⟩) (Kd.R_types HO_25.out BK213.out (by decide)) (fun _ hk => hk.2) (.int .i64 t219)) (fun _ hk => hk.2) (.int .i64 t220)) (fun _ h_ => h_.1))) hb); have n2_ := aS (blk_below (g := gb200) (o := .cells #[.int .i64 0, .int .i64 0] 25 (0, 0)) (by (with_reducible repeat (first | refine blk_drewN ?_ _ | refine blk_drew ?_ | refine blk_alloc ?_ _)); refine blk_far ?_ NB200_213.out _; (with_reducible repeat (first | refine blk_drewN ?_ _ | refine blk_drew ?_ | refine blk_alloc ?_ _)); refine blk_far ?_ NB200_213.out _; (with_reducible repeat (first | refine blk_drewN ?_ _ | refine blk_drew ?_ | refine blk_alloc ?_ _)); exact BK200.out) hb); have n3_ := aS (blk_below (g := gb213) (o := .cells #[.int .i64 t219, .int .i64 t220] 25 (0, 0)) (by (with_reducible repeat (first | refine blk_drewN ?_ _ | refine blk_drew ?_ | refine blk_alloc ?_ _)); refine blk_put (cs := #[.int .i64 t219, .int .i64 x214001_1]) ?_ 1 _ rfl; (with_reducible repeat (first | refine blk_drewN ?_ _ | refine blk_drew ?_ | refine blk_alloc ?_ _)); refine blk_put (cs := #[.int .i64 x214000_1, .int .i64 x214001_1]) ?_ 0 _ rfl; (with_reducible repeat (first | refine blk_drewN ?_ _ | refine blk_drew ?_ | refine blk_alloc ?_ _)); exact BK213.out) hb); have n4_ := aS (blk_below (g := gb214) (o := .cells #[.int .i64 x215000_1, .int .i64 x215001_1] 25 (0, 0)) (by (with_reducible repeat (first | refine blk_drewN ?_ _ | refine blk_drew ?_ | refine blk_alloc ?_ _)); refine blk_far ?_ NB214_213.out _; (with_reducible repeat (first | refine blk_drewN ?_ _ | refine blk_drew ?_ | refine blk_alloc ?_ _)); refine blk_far ?_ NB214_213.out _; (with_reducible repeat (first | refine blk_drewN ?_ _ | refine blk_drew ?_ | refine blk_alloc ?_ _)); exact BK214.out) hb); have n5_ := aS (blk_below (g := gb216) (o := .cells #[.int .i64 ((rd_T28 t207 x27_1).f0), .int .i64 ((rd_T28 t207 x27_1).f1)] 28 (0, 0)) (by (with_reducible repeat (first | refine blk_drewN ?_ _ | refine blk_drew ?_ | refine blk_alloc ?_ _)); refine blk_far ?_ NB216_213.out _; (with_reducible repeat (first | refine blk_drewN ?_ _ | refine blk_drew ?_ | refine blk_alloc ?_ _)); refine blk_far ?_ NB216_213.out _; (with_reducible repeat (first | refine blk_drewN ?_ _ | refine blk_drew ?_ | refine blk_alloc ?_ _)); exact BK216.out) hb); have n6_ := aS (below_step (sW HB.out) hb); clear HO_5 HO_25 BK200 BK213 BK214 BK216 HB; have HO_5 := n0_; have HO_25 := n1_; have BK200 := n2_; have BK213 := n3_; have BK214 := n4_; have BK216 := n5_; have HB := n6_; clear n0_ n1_ n2_ n3_ n4_ n5_ n6_; (try clear hb); (try clear hb2); (try clear hk); (try clear hi); have hnb78 := NB214_200.out; have hnc78 := NB200_214.out; have hcz79_0 : w77.cell? ⟨gb214, 0, none⟩ = some (.int .i64 x215000_1) := (blk_cell BK214.out 0).trans rfl; have hcz79_1 : w77.cell? ⟨gb214, 1, none⟩ = some (.int .i64 x215001_1) := (blk_cell BK214.out 1).trans rfl; have hfz79_0 := blk_frozen BK214.out 0; have hfz79_1 := blk_frozen BK214.out 1))
            have n0_ : Aside0 (Kd.R k28 28 ((w77.setCell ⟨gb214, 0, none⟩ (.int .i64 t221)).setCell ⟨gb214, 1, none⟩ (.int .i64 t222)) w.heap.size (fun k_ => k_ ≠ gb216) (.slice (some ad215) t207.length co21) t207) := ⟨by (with_reducible repeat (first | apply Kd.R_alloc | apply Kd.R_drewN | apply Kd.R_drew)); exact Kd.R_mono (Kd.R_far (p := ⟨gb214, 1, none⟩) (Kd.R_far (p := ⟨gb214, 0, none⟩) (Kd.R_types HO_5.out BK214.out (by decide)) (fun _ hk => hk.2) (.int .i64 t221)) (fun _ hk => hk.2) (.int .i64 t222)) (fun _ hk => hk.1)⟩
            have n1_ : Aside0 (Kd.R k28 28 ((w77.setCell ⟨gb214, 0, none⟩ (.int .i64 t221)).setCell ⟨gb214, 1, none⟩ (.int .i64 t222)) w.heap.size (fun k_ => k_ ≠ gb216) (.slice (some ad215) t207.length co21) t207) := ⟨by (with_reducible repeat (first | apply Kd.R_alloc | apply Kd.R_drewN | apply Kd.R_drew)); exact Kd.R_mono (Kd.R_far (p := ⟨gb214, 1, none⟩) (Kd.R_far (p := ⟨gb214, 0, none⟩) (Kd.R_types HO_25.out BK214.out (by decide)) (fun _ hk => hk.2) (.int .i64 t221)) (fun _ hk => hk.2) (.int .i64 t222)) (fun _ hk => hk.1)⟩
            have n2_ : Aside0 (((w77.setCell ⟨gb214, 0, none⟩ (.int .i64 t221)).setCell ⟨gb214, 1, none⟩ (.int .i64 t222)).heap[gb200]? = some (.cells #[.int .i64 0, .int .i64 0] 25 (0, 0))) := ⟨by (with_reducible repeat (first | refine blk_drewN ?_ _ | refine blk_drew ?_ | refine blk_alloc ?_ _)); refine blk_far ?_ NB200_214.out _; (with_reducible repeat (first | refine blk_drewN ?_ _ | refine blk_drew ?_ | refine blk_alloc ?_ _)); refine blk_far ?_ NB200_214.out _; (with_reducible repeat (first | refine blk_drewN ?_ _ | refine blk_drew ?_ | refine blk_alloc ?_ _)); exact BK200.out⟩
            have n3_ : Aside0 (((w77.setCell ⟨gb214, 0, none⟩ (.int .i64 t221)).setCell ⟨gb214, 1, none⟩ (.int .i64 t222)).heap[gb213]? = some (.cells #[.int .i64 t219, .int .i64 t220] 25 (0, 0))) := ⟨by (with_reducible repeat (first | refine blk_drewN ?_ _ | refine blk_drew ?_ | refine blk_alloc ?_ _)); refine blk_far ?_ NB213_214.out _; (with_reducible repeat (first | refine blk_drewN ?_ _ | refine blk_drew ?_ | refine blk_alloc ?_ _)); refine blk_far ?_ NB213_214.out _; (with_reducible repeat (first | refine blk_drewN ?_ _ | refine blk_drew ?_ | refine blk_alloc ?_ _)); exact BK213.out⟩
            have n4_ : Aside0 (((w77.setCell ⟨gb214, 0, none⟩ (.int .i64 t221)).setCell ⟨gb214, 1, none⟩ (.int .i64 t222)).heap[gb214]? = some (.cells #[.int .i64 t221, .int .i64 t222] 25 (0, 0))) := ⟨by (with_reducible repeat (first | refine blk_drewN ?_ _ | refine blk_drew ?_ | refine blk_alloc ?_ _)); refine blk_put (cs := #[.int .i64 t221, .int .i64 x215001_1]) ?_ 1 _ rfl; (with_reducible repeat (first | refine blk_drewN ?_ _ | refine blk_drew ?_ | refine blk_alloc ?_ _)); refine blk_put (cs := #[.int .i64 x215000_1, .int .i64 x215001_1]) ?_ 0 _ rfl; (with_reducible repeat (first | refine blk_drewN ?_ _ | refine blk_drew ?_ | refine blk_alloc ?_ _)); exact BK214.out⟩
            have n5_ : Aside0 (((w77.setCell ⟨gb214, 0, none⟩ (.int .i64 t221)).setCell ⟨gb214, 1, none⟩ (.int .i64 t222)).heap[gb216]? = some (.cells #[.int .i64 ((rd_T28 t207 x27_1).f0), .int .i64 ((rd_T28 t207 x27_1).f1)] 28 (0, 0))) := ⟨by (with_reducible repeat (first | refine blk_drewN ?_ _ | refine blk_drew ?_ | refine blk_alloc ?_ _)); refine blk_far ?_ NB216_214.out _; (with_reducible repeat (first | refine blk_drewN ?_ _ | refine blk_drew ?_ | refine blk_alloc ?_ _)); refine blk_far ?_ NB216_214.out _; (with_reducible repeat (first | refine blk_drewN ?_ _ | refine blk_drew ?_ | refine blk_alloc ?_ _)); exact BK216.out⟩
            have n6_ : Aside0 (Below w.heap.size w ((w77.setCell ⟨gb214, 0, none⟩ (.int .i64 t221)).setCell ⟨gb214, 1, none⟩ (.int .i64 t222))) := ⟨by repeat (first | (with_reducible first | exact HB.out | apply below_alloc | apply pw_below_drewN | apply below_drew1 | refine below_set ?_ GE200.out | refine below_set ?_ GE213.out | refine below_set ?_ GE214.out | refine below_set ?_ GE216.out) | exact HB.out)⟩
            (try clear HO_5); (try clear HO_25); (try clear BK200); (try clear BK213); (try clear BK214); (try clear BK216); (try clear HB)
            generalize ((w77.setCell ⟨gb214, 0, none⟩ (.int .i64 t221)).setCell ⟨gb214, 1, none⟩ (.int .i64 t222)) = w80 at n0_ n1_ n2_ n3_ n4_ n5_ n6_ ⊢
            have HO_5 := n0_; have HO_25 := n1_; have BK200 := n2_; have BK213 := n3_; have BK214 := n4_; have BK216 := n5_; have HB := n6_
            clear n0_ n1_ n2_ n3_ n4_ n5_ n6_
            have n0_ := aS (Kd.R_drew HO_5.out)
            have n1_ := aS (Kd.R_drew HO_25.out)
            have n2_ := aS (blk_drew BK200.out)
            have n3_ := aS (blk_drew BK213.out)
            have n4_ := aS (blk_drew BK214.out)
            have n5_ := aS (blk_drew BK216.out)
            have n6_ := aS (below_drew1 HB.out)
            clear HO_5 HO_25 BK200 BK213 BK214 BK216 HB
            have HO_5 := n0_; have HO_25 := n1_; have BK200 := n2_; have BK213 := n3_; have BK214 := n4_; have BK216 := n5_; have HB := n6_
            clear n0_ n1_ n2_ n3_ n4_ n5_ n6_
            have p223 : 0 ≤ ((ji59) : Int) := of_decide_eq_true (by first | (with_reducible assumption) | assumption)
            have q223 : (ji59) < (t207.length : Int) := of_decide_eq_true (by first | (with_reducible assumption) | assumption)
            obtain ⟨ad223, e223, hx223_0, hx223_1⟩ := at_T28 (Kd.R_reads' HO_5.out).2.2 (ji59) p223 q223
            obtain rfl : ad215 = ad223 := (by injection e223)
            replace p223 := eq_true p223
            replace q223 := eq_true q223
            refine start_ (n := 19) (S := fun w' => w'.cell? ⟨gb214, 0, none⟩ = some (.int .i64 t221) ∧ w'.cell? ⟨gb214, 1, none⟩ = some (.int .i64 t222) ∧ w'.cell? (ad215.add (((ji59)).toNat * 2)) = some (.int .i64 ((rd_T28 t207 (ji59)).f0)) ∧ w'.cell? ⟨(ad215.add (((ji59)).toNat * 2)).block, (ad215.add (((ji59)).toNat * 2)).off + 1, none⟩ = some (.int .i64 ((rd_T28 t207 (ji59)).f1))) (ds := []) #[false, false, false, false, false, false, false, false, false, false, false, false, false, false, false, false, false, false, false] (by kernel_rfl) rfl rfl ⟨(blk_cell BK214.out 0).trans rfl, (blk_cell BK214.out 1).trans rfl, hx223_0, hx223_1⟩ (fun hHeld => ?_); refine with_tabW impl_sharedLength.tab14 impl_sharedLength.bits14 (fun HT_ HW_ => ?_)
            generalize w80.drew = w81 at HO_5 HO_25 BK200 BK213 BK214 BK216 HB hx223_0 hx223_1 hHeld ⊢
            refine pure_ (i := 0) (N := some 52) (v := ?_) (a' := ?_) #[true, false, false, false, false, false, false, false, false, false, false, false, false, false, false, false, false, false, false] rfl rfl (any_of HT_.out (by kernel_rfl)) (fun _ _ _ h => h) (Or.inl ⟨by rfl, ?_⟩) ?_ ?_
            rotate_left
            ·
             intro w'
             go_simp
             with_reducible rfl
            rotate_left
            ·
             simp only [Act.put, List.setIfInBounds_toArray, List.set_cons_zero, List.set_cons_succ, i64_w, i32_w]
             rfl
            refine pure_ (i := 1) (N := some 53) (v := ?_) (a' := ?_) #[true, true, false, false, false, false, false, false, false, false, false, false, false, false, false, false, false, false, false] rfl rfl (any_of HT_.out (by kernel_rfl)) (fun _ _ _ h => h) (Or.inl ⟨by rfl, ?_⟩) ?_ ?_
            rotate_left
            ·
             intro w'
             go_simp
             with_reducible rfl
            rotate_left
            ·
             simp only [Act.put, List.setIfInBounds_toArray, List.set_cons_zero, List.set_cons_succ, i64_w, i32_w]
             rfl
            refine pure_ (i := 2) (N := some 54) (v := ?_) (a' := ?_) #[true, true, true, false, false, false, false, false, false, false, false, false, false, false, false, false, false, false, false] rfl rfl (any_of HT_.out (by kernel_rfl)) (fun _ _ _ h => h) (Or.inl ⟨by rfl, ?_⟩) ?_ ?_
            rotate_left
            ·
             intro w'
             go_simp
             with_reducible rfl
            rotate_left
            ·
             simp only [Act.put, List.setIfInBounds_toArray, List.set_cons_zero, List.set_cons_succ, i64_w, i32_w]
             rfl
            refine pure_ (i := 3) (N := some 55) (v := ?_) (a' := ?_) #[true, true, true, true, false, false, false, false, false, false, false, false, false, false, false, false, false, false, false] rfl rfl (any_of HT_.out (by kernel_rfl)) (fun _ _ _ h => h) (Or.inl ⟨by rfl, ?_⟩) ?_ ?_
            rotate_left
            ·
             intro w'
             go_simp
             with_reducible rfl
            rotate_left
            ·
             simp only [Act.put, List.setIfInBounds_toArray, List.set_cons_zero, List.set_cons_succ, i64_w, i32_w]
             rfl
            refine pure_ (i := 4) (N := some 56) (v := ?_) (a' := ?_) #[true, true, true, true, true, false, false, false, false, false, false, false, false, false, false, false, false, false, false] rfl rfl (any_of HT_.out (by kernel_rfl)) (fun _ _ _ h => h) (Or.inl ⟨by rfl, ?_⟩) ?_ ?_
            rotate_left
            ·
             intro w'
             go_simp
             with_reducible rfl
            rotate_left
            ·
             simp only [Act.put, List.setIfInBounds_toArray, List.set_cons_zero, List.set_cons_succ, i64_w, i32_w]
             rfl
            refine pure_ (i := 5) (N := some 57) (v := ?_) (a' := ?_) #[true, true, true, true, true, true, false, false, false, false, false, false, false, false, false, false, false, false, false] rfl rfl (any_of HT_.out (by kernel_rfl)) (fun _ _ _ h => h) (Or.inl ⟨by rfl, ?_⟩) ?_ ?_
            rotate_left
            ·
             intro w'
             go_simp
             with_reducible rfl
            rotate_left
            ·
             simp only [Act.put, List.setIfInBounds_toArray, List.set_cons_zero, List.set_cons_succ, i64_w, i32_w]
             rfl
            refine pure_ (i := 6) (N := some 58) (v := ?_) (a' := ?_) #[true, true, true, true, true, true, true, false, false, false, false, false, false, false, false, false, false, false, false] rfl rfl (any_of HT_.out (by kernel_rfl)) (fun _ _ _ h => h) (Or.inl ⟨by rfl, ?_⟩) ?_ ?_
            rotate_left
            ·
             intro w'
             go_simp
             with_reducible rfl
            rotate_left
            ·
             simp only [Act.put, List.setIfInBounds_toArray, List.set_cons_zero, List.set_cons_succ, i64_w, i32_w]
             rfl
            refine pure_ (i := 8) (N := some 60) (v := ?_) (a' := ?_) #[true, true, true, true, true, true, true, false, true, false, false, false, false, false, false, false, false, false, false] rfl rfl (any_of HT_.out (by kernel_rfl)) (fun _ _ _ h => h) (Or.inl ⟨by rfl, ?_⟩) ?_ ?_
            rotate_left
            ·
             intro w'
             go_simp
             with_reducible rfl
            rotate_left
            ·
             simp only [Act.put, List.setIfInBounds_toArray, List.set_cons_zero, List.set_cons_succ, i64_w, i32_w]
             rfl
            refine pure_ (i := 9) (N := some 61) (v := ?_) (a' := ?_) #[true, true, true, true, true, true, true, false, true, true, false, false, false, false, false, false, false, false, false] rfl rfl (any_of HT_.out (by kernel_rfl)) (fun _ _ _ h => h) (Or.inl ⟨by rfl, ?_⟩) ?_ ?_
            rotate_left
            ·
             intro w'
             go_simp
             with_reducible rfl
            rotate_left
            ·
             simp only [Act.put, List.setIfInBounds_toArray, List.set_cons_zero, List.set_cons_succ, i64_w, i32_w]
             rfl
            refine pure_ (i := 10) (N := some 62) (v := ?_) (a' := ?_) #[true, true, true, true, true, true, true, false, true, true, true, false, false, false, false, false, false, false, false] rfl rfl (any_of HT_.out (by kernel_rfl)) (fun _ _ _ h => h) (Or.inl ⟨by rfl, ?_⟩) ?_ ?_
            rotate_left
            ·
             intro w'
             go_simp
             with_reducible rfl
            rotate_left
            ·
             simp only [Act.put, List.setIfInBounds_toArray, List.set_cons_zero, List.set_cons_succ, i64_w, i32_w]
             rfl
            refine pure_ (i := 11) (N := some 63) (v := ?_) (a' := ?_) #[true, true, true, true, true, true, true, false, true, true, true, true, false, false, false, false, false, false, false] rfl rfl (any_of HT_.out (by kernel_rfl)) (fun _ _ _ h => h) (Or.inl ⟨by rfl, ?_⟩) ?_ ?_
            rotate_left
            ·
             intro w'
             go_simp
             with_reducible rfl
            rotate_left
            ·
             simp only [Act.put, List.setIfInBounds_toArray, List.set_cons_zero, List.set_cons_succ, i64_w, i32_w]
             rfl
            refine pure_ (i := 12) (N := some 64) (v := ?_) (a' := ?_) #[true, true, true, true, true, true, true, false, true, true, true, true, true, false, false, false, false, false, false] rfl rfl (any_of HT_.out (by kernel_rfl)) (fun _ _ _ h => h) (Or.inl ⟨by rfl, ?_⟩) ?_ ?_
            rotate_left
            ·
             intro w'
             go_simp
             with_reducible rfl
            rotate_left
            ·
             simp only [Act.put, List.setIfInBounds_toArray, List.set_cons_zero, List.set_cons_succ, i64_w, i32_w]
             rfl
            refine pure_ (i := 14) (N := some 66) (v := ?_) (a' := ?_) #[true, true, true, true, true, true, true, false, true, true, true, true, true, false, true, false, false, false, false] rfl rfl (any_of HT_.out (by kernel_rfl)) (fun _ _ _ h => h) (Or.inl ⟨by rfl, ?_⟩) ?_ ?_
            rotate_left
            ·
             intro w'
             go_simp
             with_reducible rfl
            rotate_left
            ·
             simp only [Act.put, List.setIfInBounds_toArray, List.set_cons_zero, List.set_cons_succ, i64_w, i32_w]
             rfl
            refine take_ (i := 7) (N := some 59) (v := ?_) (a' := ?_) #[true, true, true, true, true, true, true, true, true, true, true, true, true, false, true, false, false, false, false] rfl rfl (take_ofW HT_.out HW_.out (by kernel_rfl)) (fun _ _ _ h => h) (Or.inl ⟨by rfl, ?_⟩) hHeld ?_ ?_
            rotate_left
            ·
             rintro w' ⟨s0, s1, s2, s3⟩
             go_simp
             with_reducible rfl
            rotate_left
            ·
             simp only [Act.put, List.setIfInBounds_toArray, List.set_cons_zero, List.set_cons_succ, i64_w, i32_w]
             rfl
            refine take_ (i := 13) (N := some 65) (v := ?_) (a' := ?_) #[true, true, true, true, true, true, true, true, true, true, true, true, true, true, true, false, false, false, false] rfl rfl (take_ofW HT_.out HW_.out (by kernel_rfl)) (fun _ _ _ h => h) (Or.inl ⟨by rfl, ?_⟩) hHeld ?_ ?_
            rotate_left
            ·
             rintro w' ⟨s0, s1, s2, s3⟩
             go_simp
             with_reducible rfl
            rotate_left
            ·
             simp only [Act.put, List.setIfInBounds_toArray, List.set_cons_zero, List.set_cons_succ, i64_w, i32_w]
             rfl
            refine take_ (i := 15) (N := some 67) (v := ?_) (a' := ?_) #[true, true, true, true, true, true, true, true, true, true, true, true, true, true, true, true, false, false, false] rfl rfl (take_ofW HT_.out HW_.out (by kernel_rfl)) (fun _ _ _ h => h) (Or.inl ⟨by rfl, ?_⟩) hHeld ?_ ?_
            rotate_left
            ·
             rintro w' ⟨s0, s1, s2, s3⟩
             go_simp
             with_reducible rfl
            rotate_left
            ·
             simp only [Act.put, List.setIfInBounds_toArray, List.set_cons_zero, List.set_cons_succ, i64_w, i32_w]
             rfl
            refine pure_ (i := 16) (N := some 68) (v := ?_) (a' := ?_) #[true, true, true, true, true, true, true, true, true, true, true, true, true, true, true, true, true, false, false] rfl rfl (any_of HT_.out (by kernel_rfl)) (fun _ _ _ h => h) (Or.inl ⟨by rfl, ?_⟩) ?_ ?_
            rotate_left
            ·
             intro w'
             go_simp
             with_reducible rfl
            rotate_left
            ·
             simp only [Act.put, List.setIfInBounds_toArray, List.set_cons_zero, List.set_cons_succ, i64_w, i32_w]
             rfl
            refine pure_ (i := 17) (N := some 69) (v := ?_) (a' := ?_) #[true, true, true, true, true, true, true, true, true, true, true, true, true, true, true, true, true, true, false] rfl rfl (any_of HT_.out (by kernel_rfl)) (fun _ _ _ h => h) (Or.inl ⟨by rfl, ?_⟩) ?_ ?_
            rotate_left
            ·
             intro w'
             go_simp
             with_reducible rfl
            rotate_left
            ·
             simp only [Act.put, List.setIfInBounds_toArray, List.set_cons_zero, List.set_cons_succ, i64_w, i32_w]
             rfl
            refine pure_ (i := 18) (N := some 70) (v := ?_) (a' := ?_) #[true, true, true, true, true, true, true, true, true, true, true, true, true, true, true, true, true, true, true] rfl rfl (any_of HT_.out (by kernel_rfl)) (fun _ _ _ h => h) (Or.inl ⟨by rfl, ?_⟩) ?_ ?_
            rotate_left
            ·
             intro w'
             go_simp
             with_reducible rfl
            rotate_left
            ·
             simp only [Act.put, List.setIfInBounds_toArray, List.set_cons_zero, List.set_cons_succ, i64_w, i32_w]
             rfl
            refine done_ (done_of HT_.out (by kernel_rfl)) ?_
            have hcz82_0 : w81.cell? ⟨gb214, 0, none⟩ = some (.int .i64 t221) := (blk_cell BK214.out 0).trans rfl
            have hcz82_1 : w81.cell? ⟨gb214, 1, none⟩ = some (.int .i64 t222) := (blk_cell BK214.out 1).trans rfl
            have hfz82_0 := blk_frozen BK214.out 0
            have hfz82_1 := blk_frozen BK214.out 1
            have hcz83_0 : w81.cell? ⟨gb200, 0, none⟩ = some (.int .i64 0) := (blk_cell BK200.out 0).trans rfl
            have hcz83_1 : w81.cell? ⟨gb200, 1, none⟩ = some (.int .i64 0) := (blk_cell BK200.out 1).trans rfl
            have hfz83_0 := blk_frozen BK200.out 0
            have hfz83_1 := blk_frozen BK200.out 1
            try go_wp2
            refine bodyPost_ret (results_cell_row rfl _ _ gb200 25 #[.int .i64 t221, .int .i64 t222] (0, 0) _ rfl (by (with_reducible repeat (first | refine blk_drewN ?_ _ | refine blk_drew ?_ | refine blk_alloc ?_ _)); refine blk_put (cs := #[.int .i64 t221, .int .i64 0]) ?_ 1 _ rfl; (with_reducible repeat (first | refine blk_drewN ?_ _ | refine blk_drew ?_ | refine blk_alloc ?_ _)); refine blk_put (cs := #[.int .i64 0, .int .i64 0]) ?_ 0 _ rfl; (with_reducible repeat (first | refine blk_drewN ?_ _ | refine blk_drew ?_ | refine blk_alloc ?_ _)); exact BK200.out) Try.underlying25 rfl (by kernel_rfl)) rfl ?_
            exact ⟨by first | rfl | (simp [errW_none, errW_some, i64_w]; done) | (simp [errW_none, errW_some] <;> rfl) | (simp only [← hji59]; first | rfl | (simp [errW_none, errW_some] <;> rfl)) | (simp [*, errW_none, errW_some] <;> rfl), by repeat (first | (with_reducible first | exact HB.out | apply below_alloc | apply pw_below_drewN | apply below_drew1 | refine below_set ?_ GE200.out | refine below_set ?_ GE213.out | refine below_set ?_ GE214.out | refine below_set ?_ GE216.out) | exact HB.out)⟩
           ·
            rw [if_neg c62] at H
            have c62b0 : decide (t221 ≤ (wrap64 (((rd_T28 t207 (ji59)).f0) * t222))) = false := decide_eq_false c62
            clear c62
            have H' := aS H
            clear H
            have p215 : 0 ≤ (x27_1 : Int) := of_decide_eq_true (by first | (with_reducible assumption) | assumption)
            have q215 : x27_1 < (t207.length : Int) := of_decide_eq_true (by first | (with_reducible assumption) | assumption)
            obtain ⟨ad215, e215, hx215_0, hx215_1⟩ := at_T28 (Kd.R_reads' HO_25.out).2.2 x27_1 p215 q215
            cases e215
            replace p215 := eq_true p215
            replace q215 := eq_true q215
            try go_wp2_with (first | ((with_reducible refine gate_dst (N := 10) rfl ?_); refine box_event ?hg (N := 10) ?hd (cs := #[.int .i64 0, .int .i64 0]) (t := 28) ?hr ?_; (case hd => rfl); (case hg => rfl); (case hr => first | (go_simp; done) | (go_simp; rfl)); intro gb216 hg w84 hbox hb; have n0_ := aS (Kd.R_below (Kd.R_elderB (sR HO_5.out) gb216 (Nat.le_of_eq hg.symm)) hb); have n1_ := aS (Kd.R_below (Kd.R_elderB (sR HO_25.out) gb216 (Nat.le_of_eq hg.symm)) hb); have n2_ := aS (blk_below (g := gb200) (o := .cells #[.int .i64 0, .int .i64 0] 25 (0, 0)) (sB BK200.out) hb); have n3_ := aS (blk_below (g := gb213) (o := .cells #[.int .i64 x214000_1, .int .i64 x214001_1] 25 (0, 0)) (sB BK213.out) hb); have n4_ := aS (blk_below (g := gb214) (o := .cells #[.int .i64 x215000_1, .int .i64 x215001_1] 25 (0, 0)) (sB BK214.out) hb); have n5_ := aS (below_step (sW HB.out) hb); have n6_ := aS (hbox); have n7_ := aS ((by rw [hg]; exact (below_size (sW HB.out)) : w.heap.size ≤ gb216)); have n8_ := aS ((by rw [hg]; exact (below_size (sW HB.out)) : w.heap.size ≤ gb216)); have n9_ := aS ((by rw [hg]; exact Nat.ne_of_lt (blk_lt (g := gb200) (o := .cells #[.int .i64 0, .int .i64 0] 25 (0, 0)) (sB BK200.out)) : gb200 ≠ gb216)); have n10_ := aS ((by rw [hg]; exact Nat.ne_of_gt (blk_lt (g := gb200) (o := .cells #[.int .i64 0, .int .i64 0] 25 (0, 0)) (sB BK200.out)) : gb216 ≠ gb200)); have n11_ := aS ((by rw [hg]; exact Nat.ne_of_lt (blk_lt (g := gb213) (o := .cells #[.int .i64 x214000_1, .int .i64 x214001_1] 25 (0, 0)) (sB BK213.out)) : gb213 ≠ gb216)); have n12_ := aS ((by rw [hg]; exact Nat.ne_of_gt (blk_lt (g := gb213) (o := .cells #[.int .i64 x214000_1, .int .i64 x214001_1] 25 (0, 0)) (sB BK213.out)) : gb216 ≠ gb213)); have n13_ := aS ((by rw [hg]; exact Nat.ne_of_lt (blk_lt (g := gb214) (o := .cells #[.int .i64 x215000_1, .int .i64 x215001_1] 25 (0, 0)) (sB BK214.out)) : gb214 ≠ gb216)); have n14_ := aS ((by rw [hg]; exact Nat.ne_of_gt (blk_lt (g := gb214) (o := .cells #[.int .i64 x215000_1, .int .i64 x215001_1] 25 (0, 0)) (sB BK214.out)) : gb216 ≠ gb214)); clear HO_5 HO_25 BK200 BK213 BK214 HB; have HO_5 := n0_; have HO_25 := n1_; have BK200 := n2_; have BK213 := n3_; have BK214 := n4_; have HB := n5_; have BK216 := n6_; have GW216 := n7_; have GE216 := n8_; have NB200_216 := n9_; have NB216_200 := n10_; have NB213_216 := n11_; have NB216_213 := n12_; have NB214_216 := n13_; have NB216_214 := n14_; clear n0_ n1_ n2_ n3_ n4_ n5_ n6_ n7_ n8_ n9_ n10_ n11_ n12_ n13_ n14_; clear hb hbox hg; have hnb85 := NB216_200.out; have hnc85 := NB200_216.out; have hnb86 := NB216_213.out; have hnc86 := NB213_216.out; have hnb87 := NB216_214.out; have hnc87 := NB214_216.out; have hcz88_0 : w84.cell? ⟨gb216, 0, none⟩ = some (.int .i64 0) := (blk_cell BK216.out 0).trans rfl; have hcz88_1 : w84.cell? ⟨gb216, 1, none⟩ = some (.int .i64 0) := (blk_cell BK216.out 1).trans rfl; have hfz88_0 := blk_frozen BK216.out 0; have hfz88_1 := blk_frozen BK216.out 1))
            have n0_ : Aside0 (Kd.R k28 28 ((w84.setCell ⟨gb216, 0, none⟩ (.int .i64 ((rd_T28 t207 x27_1).f0))).setCell ⟨gb216, 1, none⟩ (.int .i64 ((rd_T28 t207 x27_1).f1))) w.heap.size (fun k_ => k_ ≠ gb216) (.slice (some ad215) t207.length co21) t207) := ⟨by (with_reducible repeat (first | apply Kd.R_alloc | apply Kd.R_drewN | apply Kd.R_drew)); exact Kd.R_mono (Kd.R_far (p := ⟨gb216, 1, none⟩) (Kd.R_far (p := ⟨gb216, 0, none⟩) (Kd.R_mono HO_5.out (fun k_ hk => (⟨hk, hk.2⟩ : _ ∧ k_ ≠ gb216))) (fun _ hk => hk.2) (.int .i64 ((rd_T28 t207 x27_1).f0))) (fun _ hk => hk.2) (.int .i64 ((rd_T28 t207 x27_1).f1))) (fun _ hk => hk.1.2)⟩
            have n1_ : Aside0 (Kd.R k28 28 ((w84.setCell ⟨gb216, 0, none⟩ (.int .i64 ((rd_T28 t207 x27_1).f0))).setCell ⟨gb216, 1, none⟩ (.int .i64 ((rd_T28 t207 x27_1).f1))) w.heap.size (fun k_ => k_ ≠ gb216) (.slice (some ad215) t207.length co21) t207) := ⟨by (with_reducible repeat (first | apply Kd.R_alloc | apply Kd.R_drewN | apply Kd.R_drew)); exact Kd.R_mono (Kd.R_far (p := ⟨gb216, 1, none⟩) (Kd.R_far (p := ⟨gb216, 0, none⟩) (Kd.R_mono HO_25.out (fun k_ hk => (⟨hk, hk.2⟩ : _ ∧ k_ ≠ gb216))) (fun _ hk => hk.2) (.int .i64 ((rd_T28 t207 x27_1).f0))) (fun _ hk => hk.2) (.int .i64 ((rd_T28 t207 x27_1).f1))) (fun _ hk => hk.1.2)⟩
            have n2_ : Aside0 (((w84.setCell ⟨gb216, 0, none⟩ (.int .i64 ((rd_T28 t207 x27_1).f0))).setCell ⟨gb216, 1, none⟩ (.int .i64 ((rd_T28 t207 x27_1).f1))).heap[gb200]? = some (.cells #[.int .i64 0, .int .i64 0] 25 (0, 0))) := ⟨by (with_reducible repeat (first | refine blk_drewN ?_ _ | refine blk_drew ?_ | refine blk_alloc ?_ _)); refine blk_far ?_ NB200_216.out _; (with_reducible repeat (first | refine blk_drewN ?_ _ | refine blk_drew ?_ | refine blk_alloc ?_ _)); refine blk_far ?_ NB200_216.out _; (with_reducible repeat (first | refine blk_drewN ?_ _ | refine blk_drew ?_ | refine blk_alloc ?_ _)); exact BK200.out⟩
            have n3_ : Aside0 (((w84.setCell ⟨gb216, 0, none⟩ (.int .i64 ((rd_T28 t207 x27_1).f0))).setCell ⟨gb216, 1, none⟩ (.int .i64 ((rd_T28 t207 x27_1).f1))).heap[gb213]? = some (.cells #[.int .i64 x214000_1, .int .i64 x214001_1] 25 (0, 0))) := ⟨by (with_reducible repeat (first | refine blk_drewN ?_ _ | refine blk_drew ?_ | refine blk_alloc ?_ _)); refine blk_far ?_ NB213_216.out _; (with_reducible repeat (first | refine blk_drewN ?_ _ | refine blk_drew ?_ | refine blk_alloc ?_ _)); refine blk_far ?_ NB213_216.out _; (with_reducible repeat (first | refine blk_drewN ?_ _ | refine blk_drew ?_ | refine blk_alloc ?_ _)); exact BK213.out⟩
            have n4_ : Aside0 (((w84.setCell ⟨gb216, 0, none⟩ (.int .i64 ((rd_T28 t207 x27_1).f0))).setCell ⟨gb216, 1, none⟩ (.int .i64 ((rd_T28 t207 x27_1).f1))).heap[gb214]? = some (.cells #[.int .i64 x215000_1, .int .i64 x215001_1] 25 (0, 0))) := ⟨by (with_reducible repeat (first | refine blk_drewN ?_ _ | refine blk_drew ?_ | refine blk_alloc ?_ _)); refine blk_far ?_ NB214_216.out _; (with_reducible repeat (first | refine blk_drewN ?_ _ | refine blk_drew ?_ | refine blk_alloc ?_ _)); refine blk_far ?_ NB214_216.out _; (with_reducible repeat (first | refine blk_drewN ?_ _ | refine blk_drew ?_ | refine blk_alloc ?_ _)); exact BK214.out⟩
            have n5_ : Aside0 (((w84.setCell ⟨gb216, 0, none⟩ (.int .i64 ((rd_T28 t207 x27_1).f0))).setCell ⟨gb216, 1, none⟩ (.int .i64 ((rd_T28 t207 x27_1).f1))).heap[gb216]? = some (.cells #[.int .i64 ((rd_T28 t207 x27_1).f0), .int .i64 ((rd_T28 t207 x27_1).f1)] 28 (0, 0))) := ⟨by (with_reducible repeat (first | refine blk_drewN ?_ _ | refine blk_drew ?_ | refine blk_alloc ?_ _)); refine blk_put (cs := #[.int .i64 ((rd_T28 t207 x27_1).f0), .int .i64 0]) ?_ 1 _ rfl; (with_reducible repeat (first | refine blk_drewN ?_ _ | refine blk_drew ?_ | refine blk_alloc ?_ _)); refine blk_put (cs := #[.int .i64 0, .int .i64 0]) ?_ 0 _ rfl; (with_reducible repeat (first | refine blk_drewN ?_ _ | refine blk_drew ?_ | refine blk_alloc ?_ _)); exact BK216.out⟩
            have n6_ : Aside0 (Below w.heap.size w ((w84.setCell ⟨gb216, 0, none⟩ (.int .i64 ((rd_T28 t207 x27_1).f0))).setCell ⟨gb216, 1, none⟩ (.int .i64 ((rd_T28 t207 x27_1).f1)))) := ⟨by repeat (first | (with_reducible first | exact HB.out | apply below_alloc | apply pw_below_drewN | apply below_drew1 | refine below_set ?_ GE200.out | refine below_set ?_ GE213.out | refine below_set ?_ GE214.out | refine below_set ?_ GE216.out) | exact HB.out)⟩
            (try clear HO_5); (try clear HO_25); (try clear BK200); (try clear BK213); (try clear BK214); (try clear BK216); (try clear HB)
            generalize ((w84.setCell ⟨gb216, 0, none⟩ (.int .i64 ((rd_T28 t207 x27_1).f0))).setCell ⟨gb216, 1, none⟩ (.int .i64 ((rd_T28 t207 x27_1).f1))) = w89 at n0_ n1_ n2_ n3_ n4_ n5_ n6_ ⊢
            have HO_5 := n0_; have HO_25 := n1_; have BK200 := n2_; have BK213 := n3_; have BK214 := n4_; have BK216 := n5_; have HB := n6_
            clear n0_ n1_ n2_ n3_ n4_ n5_ n6_
            have n0_ := aS (Kd.R_drew HO_5.out)
            have n1_ := aS (Kd.R_drew HO_25.out)
            have n2_ := aS (blk_drew BK200.out)
            have n3_ := aS (blk_drew BK213.out)
            have n4_ := aS (blk_drew BK214.out)
            have n5_ := aS (blk_drew BK216.out)
            have n6_ := aS (below_drew1 HB.out)
            clear HO_5 HO_25 BK200 BK213 BK214 BK216 HB
            have HO_5 := n0_; have HO_25 := n1_; have BK200 := n2_; have BK213 := n3_; have BK214 := n4_; have BK216 := n5_; have HB := n6_
            clear n0_ n1_ n2_ n3_ n4_ n5_ n6_
            refine start_ (n := 8) (S := fun w' => w'.cell? ⟨gb213, 0, none⟩ = some (.int .i64 x214000_1) ∧ w'.cell? ⟨gb213, 1, none⟩ = some (.int .i64 x214001_1) ∧ w'.cell? ⟨gb216, 0, none⟩ = some (.int .i64 ((rd_T28 t207 x27_1).f0)) ∧ w'.cell? ⟨gb216, 1, none⟩ = some (.int .i64 ((rd_T28 t207 x27_1).f1))) (ds := [7]) #[false, false, false, false, false, false, false, false] (by kernel_rfl) rfl rfl ⟨(blk_cell BK213.out 0).trans rfl, (blk_cell BK213.out 1).trans rfl, (blk_cell BK216.out 0).trans rfl, (blk_cell BK216.out 1).trans rfl⟩ (fun hHeld => ?_); refine with_tabW impl_sharedLength.tab12 impl_sharedLength.bits12 (fun HT_ HW_ => ?_)
            generalize w89.drew = w90 at HO_5 HO_25 BK200 BK213 BK214 BK216 HB hHeld ⊢
            refine pure_ (i := 1) (N := some 37) (v := ?_) (a' := ?_) #[false, true, false, false, false, false, false, false] rfl rfl (any_of HT_.out (by kernel_rfl)) (fun _ _ _ h => h) (Or.inl ⟨by rfl, ?_⟩) ?_ ?_
            rotate_left
            ·
             intro w'
             go_simp
             with_reducible rfl
            rotate_left
            ·
             simp only [Act.put, List.setIfInBounds_toArray, List.set_cons_zero, List.set_cons_succ, i64_w, i32_w]
             rfl
            refine pure_ (i := 3) (N := some 39) (v := ?_) (a' := ?_) #[false, true, false, true, false, false, false, false] rfl rfl (any_of HT_.out (by kernel_rfl)) (fun _ _ _ h => h) (Or.inl ⟨by rfl, ?_⟩) ?_ ?_
            rotate_left
            ·
             intro w'
             go_simp
             with_reducible rfl
            rotate_left
            ·
             simp only [Act.put, List.setIfInBounds_toArray, List.set_cons_zero, List.set_cons_succ, i64_w, i32_w]
             rfl
            refine take_ (i := 0) (N := some 36) (v := ?_) (a' := ?_) #[true, true, false, true, false, false, false, false] rfl rfl (take_ofW HT_.out HW_.out (by kernel_rfl)) (fun _ _ _ h => h) (Or.inl ⟨by rfl, ?_⟩) hHeld ?_ ?_
            rotate_left
            ·
             rintro w' ⟨s0, s1, s2, s3⟩
             go_simp
             with_reducible rfl
            rotate_left
            ·
             simp only [Act.put, List.setIfInBounds_toArray, List.set_cons_zero, List.set_cons_succ, i64_w, i32_w]
             rfl
            refine take_ (i := 2) (N := some 38) (v := ?_) (a' := ?_) #[true, true, true, true, false, false, false, false] rfl rfl (take_ofW HT_.out HW_.out (by kernel_rfl)) (fun _ _ _ h => h) (Or.inl ⟨by rfl, ?_⟩) hHeld ?_ ?_
            rotate_left
            ·
             rintro w' ⟨s0, s1, s2, s3⟩
             go_simp
             with_reducible rfl
            rotate_left
            ·
             simp only [Act.put, List.setIfInBounds_toArray, List.set_cons_zero, List.set_cons_succ, i64_w, i32_w]
             rfl
            refine take_ (i := 4) (N := some 40) (v := ?_) (a' := ?_) #[true, true, true, true, true, false, false, false] rfl rfl (take_ofW HT_.out HW_.out (by kernel_rfl)) (fun _ _ _ h => h) (Or.inl ⟨by rfl, ?_⟩) hHeld ?_ ?_
            rotate_left
            ·
             rintro w' ⟨s0, s1, s2, s3⟩
             go_simp
             with_reducible rfl
            rotate_left
            ·
             simp only [Act.put, List.setIfInBounds_toArray, List.set_cons_zero, List.set_cons_succ, i64_w, i32_w]
             rfl
            refine one_ (i := 5) (N := some 41) #[true, true, true, true, true, true, false, false] rfl rfl (one_of HT_.out (by kernel_rfl)) (by decide) (fun K hK => ?_)
            refine goes_ Try.func50 (by kernel_rfl) rfl #[.int .i64 ((rd_T28 t207 x27_1).f1), .int .i64 ((rd_T28 t207 x27_1).f0)] (by rfl) rfl rfl sG ?_
            with_reducible refine (impl_fraction.calls k1 ((rd_T28 t207 x27_1).f1) ((rd_T28 t207 x27_1).f0) t217 t218 _ A34.out).mono ?_
            rintro e w91 ⟨rfl, hb⟩
            refine ⟨_, rfl, ?_⟩
            have n0_ := aS (Kd.R_below (sR HO_5.out) hb)
            have n1_ := aS (Kd.R_below (sR HO_25.out) hb)
            have n2_ := aS (blk_below (g := gb200) (o := .cells #[.int .i64 0, .int .i64 0] 25 (0, 0)) (sB BK200.out) hb)
            have n3_ := aS (blk_below (g := gb213) (o := .cells #[.int .i64 x214000_1, .int .i64 x214001_1] 25 (0, 0)) (sB BK213.out) hb)
            have n4_ := aS (blk_below (g := gb214) (o := .cells #[.int .i64 x215000_1, .int .i64 x215001_1] 25 (0, 0)) (sB BK214.out) hb)
            have n5_ := aS (blk_below (g := gb216) (o := .cells #[.int .i64 ((rd_T28 t207 x27_1).f0), .int .i64 ((rd_T28 t207 x27_1).f1)] 28 (0, 0)) (sB BK216.out) hb)
            have n6_ := aS (below_step (sW HB.out) hb)
            clear HO_5 HO_25 BK200 BK213 BK214 BK216 HB
            have HO_5 := n0_; have HO_25 := n1_; have BK200 := n2_; have BK213 := n3_; have BK214 := n4_; have BK216 := n5_; have HB := n6_
            clear n0_ n1_ n2_ n3_ n4_ n5_ n6_
            (try clear hb); (try clear hb2); (try clear hk); (try clear hi)
            refine hK.out _ _ ⟨(blk_cell BK213.out 0).trans rfl, (blk_cell BK213.out 1).trans rfl, (blk_cell BK216.out 0).trans rfl, (blk_cell BK216.out 1).trans rfl⟩ (fun hHeld => ?_)
            clear hK K
            refine norm_ (a' := ?_) ?_ ?_
            rotate_left
            ·
             show Act.put _ (some 41) _ = _
             simp only [Act.put, List.setIfInBounds_toArray, List.set_cons_zero, List.set_cons_succ, i64_w, i32_w]
             rfl
            refine one_ (i := 6) (N := some 42) #[true, true, true, true, true, true, true, false] rfl rfl (one_of HT_.out (by kernel_rfl)) (by decide) (fun K hK => ?_)
            refine goes_ Try.func56 (by kernel_rfl) rfl #[.agg #[.int .i64 x214000_1, .int .i64 x214001_1], .agg #[.int .i64 t217, .int .i64 t218]] (by rfl) rfl rfl sG ?_
            with_reducible refine (impl_addFractions.calls k1 x214000_1 x214001_1 t217 t218 t219 t220 _ A35.out).mono ?_
            rintro e w92 ⟨rfl, hb⟩
            refine ⟨_, rfl, ?_⟩
            have n0_ := aS (Kd.R_below (sR HO_5.out) hb)
            have n1_ := aS (Kd.R_below (sR HO_25.out) hb)
            have n2_ := aS (blk_below (g := gb200) (o := .cells #[.int .i64 0, .int .i64 0] 25 (0, 0)) (sB BK200.out) hb)
            have n3_ := aS (blk_below (g := gb213) (o := .cells #[.int .i64 x214000_1, .int .i64 x214001_1] 25 (0, 0)) (sB BK213.out) hb)
            have n4_ := aS (blk_below (g := gb214) (o := .cells #[.int .i64 x215000_1, .int .i64 x215001_1] 25 (0, 0)) (sB BK214.out) hb)
            have n5_ := aS (blk_below (g := gb216) (o := .cells #[.int .i64 ((rd_T28 t207 x27_1).f0), .int .i64 ((rd_T28 t207 x27_1).f1)] 28 (0, 0)) (sB BK216.out) hb)
            have n6_ := aS (below_step (sW HB.out) hb)
            clear HO_5 HO_25 BK200 BK213 BK214 BK216 HB
            have HO_5 := n0_; have HO_25 := n1_; have BK200 := n2_; have BK213 := n3_; have BK214 := n4_; have BK216 := n5_; have HB := n6_
            clear n0_ n1_ n2_ n3_ n4_ n5_ n6_
            (try clear hb); (try clear hb2); (try clear hk); (try clear hi)
            refine hK.out _ _ ⟨(blk_cell BK213.out 0).trans rfl, (blk_cell BK213.out 1).trans rfl, (blk_cell BK216.out 0).trans rfl, (blk_cell BK216.out 1).trans rfl⟩ (fun hHeld => ?_)
            clear hK K
            refine norm_ (a' := ?_) ?_ ?_
            rotate_left
            ·
             show Act.put _ (some 42) _ = _
             simp only [Act.put, List.setIfInBounds_toArray, List.set_cons_zero, List.set_cons_succ, i64_w, i32_w]
             rfl
            refine last_ (i := 7) (N := none) #[true, true, true, true, true, true, true, true] rfl rfl (one_of HT_.out (by kernel_rfl)) (by decide) (fun K hK => ?_)
            have hs93 : w92.cell? ⟨gb213, 0, none⟩ = some (.int .i64 x214000_1) := (blk_cell BK213.out 0).trans rfl
            have hfs93 := blk_frozen BK213.out 0
            have hns93_0 := NB200_213.out
            have hns93_2 := NB214_213.out
            have hns93_3 := NB216_213.out
            have hms93_0 := NB213_200.out
            have hms93_2 := NB213_214.out
            have hms93_3 := NB213_216.out
            have hs94 : w92.cell? ⟨gb213, 1, none⟩ = some (.int .i64 x214001_1) := (blk_cell BK213.out 1).trans rfl
            have hfs94 := blk_frozen BK213.out 1
            have hns94_0 := NB200_213.out
            have hns94_2 := NB214_213.out
            have hns94_3 := NB216_213.out
            have hms94_0 := NB213_200.out
            have hms94_2 := NB213_214.out
            have hms94_3 := NB213_216.out
            refine skip_ (w1 := ?_) (by rfl) rfl ?_ ?_
            rotate_left
            ·
             go_simp
             rfl
            refine hK.out _ _ ?_
            clear hK K
            refine done_ (done_of HT_.out (by kernel_rfl)) ?_
            have hnb95 := NB213_200.out
            have hnc95 := NB200_213.out
            have hnb96 := NB213_214.out
            have hnc96 := NB214_213.out
            have hcz97_0 : w92.cell? ⟨gb213, 0, none⟩ = some (.int .i64 x214000_1) := (blk_cell BK213.out 0).trans rfl
            have hcz97_1 : w92.cell? ⟨gb213, 1, none⟩ = some (.int .i64 x214001_1) := (blk_cell BK213.out 1).trans rfl
            have hfz97_0 := blk_frozen BK213.out 0
            have hfz97_1 := blk_frozen BK213.out 1
            try go_wp2_with (first | ((with_reducible refine gate_callee (f := 50) rfl ?_); refine goesL_ (some 51) rfl rfl Try.func50 (by kernel_rfl) rfl #[.int .i64 (wrap64 ((wrap64 (a1 + (wrap64 (x6_1 + ((rd_T28 t207 x27_1).f1))))) * t220)), .int .i64 t219] rfl sG ?_; (with_reducible refine (impl_fraction.calls k1 (wrap64 ((wrap64 (a1 + (wrap64 (x6_1 + ((rd_T28 t207 x27_1).f1))))) * t220)) t219 t221 t222 _ A36.out).mono ?_); rintro e w98 ⟨rfl, hb⟩; refine ⟨_, rfl, ?_⟩; have n0_ := aS (Kd.R_below (sR (Kd.R_mono (Kd.R_far (p := ⟨gb213, 1, none⟩) (Kd.R_far (p := ⟨gb213, 0, none⟩) (Kd.R_types HO_5.out BK213.out (by decide)) (fun _ hk => hk.2) (.int .i64 t219)) (fun _ hk => hk.2) (.int .i64 t220)) (fun _ h_ => h_.1))) hb); have n1_ := aS (Kd.R_below (sR (Kd.R_mono (Kd.R_far (p := ⟨gb213, 1, none⟩) (Kd.R_far (p := ⟨gb213, 0, none⟩) (Kd.R_types HO_25.out BK213.out (by decide)) (fun _ hk => hk.2) (.int .i64 t219)) (fun _ hk => hk.2) (.int .i64 t220)) (fun _ h_ => h_.1))) hb); have n2_ := aS (blk_below (g := gb200) (o := .cells #[.int .i64 0, .int .i64 0] 25 (0, 0)) (by (with_reducible repeat (first | refine blk_drewN ?_ _ | refine blk_drew ?_ | refine blk_alloc ?_ _)); refine blk_far ?_ NB200_213.out _; (with_reducible repeat (first | refine blk_drewN ?_ _ | refine blk_drew ?_ | refine blk_alloc ?_ _)); refine blk_far ?_ NB200_213.out _; (with_reducible repeat (first | refine blk_drewN ?_ _ | refine blk_drew ?_ | refine blk_alloc ?_ _)); exact BK200.out) hb); have n3_ := aS (blk_below (g := gb213) (o := .cells #[.int .i64 t219, .int .i64 t220] 25 (0, 0)) (by (with_reducible repeat (first | refine blk_drewN ?_ _ | refine blk_drew ?_ | refine blk_alloc ?_ _)); refine blk_put (cs := #[.int .i64 t219, .int .i64 x214001_1]) ?_ 1 _ rfl; (with_reducible repeat (first | refine blk_drewN ?_ _ | refine blk_drew ?_ | refine blk_alloc ?_ _)); refine blk_put (cs := #[.int .i64 x214000_1, .int .i64 x214001_1]) ?_ 0 _ rfl; (with_reducible repeat (first | refine blk_drewN ?_ _ | refine blk_drew ?_ | refine blk_alloc ?_ _)); exact BK213.out) hb); have n4_ := aS (blk_below (g := gb214) (o := .cells #[.int .i64 x215000_1, .int .i64 x215001_1] 25 (0, 0)) (by (with_reducible repeat (first | refine blk_drewN ?_ _ | refine blk_drew ?_ | refine blk_alloc ?_ _)); refine blk_far ?_ NB214_213.out _; (with_reducible repeat (first | refine blk_drewN ?_ _ | refine blk_drew ?_ | refine blk_alloc ?_ _)); refine blk_far ?_ NB214_213.out _; (with_reducible repeat (first | refine blk_drewN ?_ _ | refine blk_drew ?_ | refine blk_alloc ?_ _)); exact BK214.out) hb); have n5_ := aS (blk_below (g := gb216) (o := .cells #[.int .i64 ((rd_T28 t207 x27_1).f0), .int .i64 ((rd_T28 t207 x27_1).f1)] 28 (0, 0)) (by (with_reducible repeat (first | refine blk_drewN ?_ _ | refine blk_drew ?_ | refine blk_alloc ?_ _)); refine blk_far ?_ NB216_213.out _; (with_reducible repeat (first | refine blk_drewN ?_ _ | refine blk_drew ?_ | refine blk_alloc ?_ _)); refine blk_far ?_ NB216_213.out _; (with_reducible repeat (first | refine blk_drewN ?_ _ | refine blk_drew ?_ | refine blk_alloc ?_ _)); exact BK216.out) hb); have n6_ := aS (below_step (sW HB.out) hb); clear HO_5 HO_25 BK200 BK213 BK214 BK216 HB; have HO_5 := n0_; have HO_25 := n1_; have BK200 := n2_; have BK213 := n3_; have BK214 := n4_; have BK216 := n5_; have HB := n6_; clear n0_ n1_ n2_ n3_ n4_ n5_ n6_; (try clear hb); (try clear hb2); (try clear hk); (try clear hi); have hnb99 := NB214_200.out; have hnc99 := NB200_214.out; have hcz100_0 : w98.cell? ⟨gb214, 0, none⟩ = some (.int .i64 x215000_1) := (blk_cell BK214.out 0).trans rfl; have hcz100_1 : w98.cell? ⟨gb214, 1, none⟩ = some (.int .i64 x215001_1) := (blk_cell BK214.out 1).trans rfl; have hfz100_0 := blk_frozen BK214.out 0; have hfz100_1 := blk_frozen BK214.out 1))
            have n0_ : Aside0 (Kd.R k28 28 ((w98.setCell ⟨gb214, 0, none⟩ (.int .i64 t221)).setCell ⟨gb214, 1, none⟩ (.int .i64 t222)) w.heap.size (fun k_ => k_ ≠ gb216) (.slice (some ad215) t207.length co21) t207) := ⟨by (with_reducible repeat (first | apply Kd.R_alloc | apply Kd.R_drewN | apply Kd.R_drew)); exact Kd.R_mono (Kd.R_far (p := ⟨gb214, 1, none⟩) (Kd.R_far (p := ⟨gb214, 0, none⟩) (Kd.R_types HO_5.out BK214.out (by decide)) (fun _ hk => hk.2) (.int .i64 t221)) (fun _ hk => hk.2) (.int .i64 t222)) (fun _ hk => hk.1)⟩
            have n1_ : Aside0 (Kd.R k28 28 ((w98.setCell ⟨gb214, 0, none⟩ (.int .i64 t221)).setCell ⟨gb214, 1, none⟩ (.int .i64 t222)) w.heap.size (fun k_ => k_ ≠ gb216) (.slice (some ad215) t207.length co21) t207) := ⟨by (with_reducible repeat (first | apply Kd.R_alloc | apply Kd.R_drewN | apply Kd.R_drew)); exact Kd.R_mono (Kd.R_far (p := ⟨gb214, 1, none⟩) (Kd.R_far (p := ⟨gb214, 0, none⟩) (Kd.R_types HO_25.out BK214.out (by decide)) (fun _ hk => hk.2) (.int .i64 t221)) (fun _ hk => hk.2) (.int .i64 t222)) (fun _ hk => hk.1)⟩
            have n2_ : Aside0 (((w98.setCell ⟨gb214, 0, none⟩ (.int .i64 t221)).setCell ⟨gb214, 1, none⟩ (.int .i64 t222)).heap[gb200]? = some (.cells #[.int .i64 0, .int .i64 0] 25 (0, 0))) := ⟨by (with_reducible repeat (first | refine blk_drewN ?_ _ | refine blk_drew ?_ | refine blk_alloc ?_ _)); refine blk_far ?_ NB200_214.out _; (with_reducible repeat (first | refine blk_drewN ?_ _ | refine blk_drew ?_ | refine blk_alloc ?_ _)); refine blk_far ?_ NB200_214.out _; (with_reducible repeat (first | refine blk_drewN ?_ _ | refine blk_drew ?_ | refine blk_alloc ?_ _)); exact BK200.out⟩
            have n3_ : Aside0 (((w98.setCell ⟨gb214, 0, none⟩ (.int .i64 t221)).setCell ⟨gb214, 1, none⟩ (.int .i64 t222)).heap[gb213]? = some (.cells #[.int .i64 t219, .int .i64 t220] 25 (0, 0))) := ⟨by (with_reducible repeat (first | refine blk_drewN ?_ _ | refine blk_drew ?_ | refine blk_alloc ?_ _)); refine blk_far ?_ NB213_214.out _; (with_reducible repeat (first | refine blk_drewN ?_ _ | refine blk_drew ?_ | refine blk_alloc ?_ _)); refine blk_far ?_ NB213_214.out _; (with_reducible repeat (first | refine blk_drewN ?_ _ | refine blk_drew ?_ | refine blk_alloc ?_ _)); exact BK213.out⟩
            have n4_ : Aside0 (((w98.setCell ⟨gb214, 0, none⟩ (.int .i64 t221)).setCell ⟨gb214, 1, none⟩ (.int .i64 t222)).heap[gb214]? = some (.cells #[.int .i64 t221, .int .i64 t222] 25 (0, 0))) := ⟨by (with_reducible repeat (first | refine blk_drewN ?_ _ | refine blk_drew ?_ | refine blk_alloc ?_ _)); refine blk_put (cs := #[.int .i64 t221, .int .i64 x215001_1]) ?_ 1 _ rfl; (with_reducible repeat (first | refine blk_drewN ?_ _ | refine blk_drew ?_ | refine blk_alloc ?_ _)); refine blk_put (cs := #[.int .i64 x215000_1, .int .i64 x215001_1]) ?_ 0 _ rfl; (with_reducible repeat (first | refine blk_drewN ?_ _ | refine blk_drew ?_ | refine blk_alloc ?_ _)); exact BK214.out⟩
            have n5_ : Aside0 (((w98.setCell ⟨gb214, 0, none⟩ (.int .i64 t221)).setCell ⟨gb214, 1, none⟩ (.int .i64 t222)).heap[gb216]? = some (.cells #[.int .i64 ((rd_T28 t207 x27_1).f0), .int .i64 ((rd_T28 t207 x27_1).f1)] 28 (0, 0))) := ⟨by (with_reducible repeat (first | refine blk_drewN ?_ _ | refine blk_drew ?_ | refine blk_alloc ?_ _)); refine blk_far ?_ NB216_214.out _; (with_reducible repeat (first | refine blk_drewN ?_ _ | refine blk_drew ?_ | refine blk_alloc ?_ _)); refine blk_far ?_ NB216_214.out _; (with_reducible repeat (first | refine blk_drewN ?_ _ | refine blk_drew ?_ | refine blk_alloc ?_ _)); exact BK216.out⟩
            have n6_ : Aside0 (Below w.heap.size w ((w98.setCell ⟨gb214, 0, none⟩ (.int .i64 t221)).setCell ⟨gb214, 1, none⟩ (.int .i64 t222))) := ⟨by repeat (first | (with_reducible first | exact HB.out | apply below_alloc | apply pw_below_drewN | apply below_drew1 | refine below_set ?_ GE200.out | refine below_set ?_ GE213.out | refine below_set ?_ GE214.out | refine below_set ?_ GE216.out) | exact HB.out)⟩
            (try clear HO_5); (try clear HO_25); (try clear BK200); (try clear BK213); (try clear BK214); (try clear BK216); (try clear HB)
            generalize ((w98.setCell ⟨gb214, 0, none⟩ (.int .i64 t221)).setCell ⟨gb214, 1, none⟩ (.int .i64 t222)) = w101 at n0_ n1_ n2_ n3_ n4_ n5_ n6_ ⊢
            have HO_5 := n0_; have HO_25 := n1_; have BK200 := n2_; have BK213 := n3_; have BK214 := n4_; have BK216 := n5_; have HB := n6_
            clear n0_ n1_ n2_ n3_ n4_ n5_ n6_
            have n0_ := aS (Kd.R_drew HO_5.out)
            have n1_ := aS (Kd.R_drew HO_25.out)
            have n2_ := aS (blk_drew BK200.out)
            have n3_ := aS (blk_drew BK213.out)
            have n4_ := aS (blk_drew BK214.out)
            have n5_ := aS (blk_drew BK216.out)
            have n6_ := aS (below_drew1 HB.out)
            clear HO_5 HO_25 BK200 BK213 BK214 BK216 HB
            have HO_5 := n0_; have HO_25 := n1_; have BK200 := n2_; have BK213 := n3_; have BK214 := n4_; have BK216 := n5_; have HB := n6_
            clear n0_ n1_ n2_ n3_ n4_ n5_ n6_
            have p223 : 0 ≤ ((ji59) : Int) := of_decide_eq_true (by first | (with_reducible assumption) | assumption)
            have q223 : (ji59) < (t207.length : Int) := of_decide_eq_true (by first | (with_reducible assumption) | assumption)
            obtain ⟨ad223, e223, hx223_0, hx223_1⟩ := at_T28 (Kd.R_reads' HO_5.out).2.2 (ji59) p223 q223
            obtain rfl : ad215 = ad223 := (by injection e223)
            replace p223 := eq_true p223
            replace q223 := eq_true q223
            refine start_ (n := 19) (S := fun w' => w'.cell? ⟨gb214, 0, none⟩ = some (.int .i64 t221) ∧ w'.cell? ⟨gb214, 1, none⟩ = some (.int .i64 t222) ∧ w'.cell? (ad215.add (((ji59)).toNat * 2)) = some (.int .i64 ((rd_T28 t207 (ji59)).f0)) ∧ w'.cell? ⟨(ad215.add (((ji59)).toNat * 2)).block, (ad215.add (((ji59)).toNat * 2)).off + 1, none⟩ = some (.int .i64 ((rd_T28 t207 (ji59)).f1))) (ds := []) #[false, false, false, false, false, false, false, false, false, false, false, false, false, false, false, false, false, false, false] (by kernel_rfl) rfl rfl ⟨(blk_cell BK214.out 0).trans rfl, (blk_cell BK214.out 1).trans rfl, hx223_0, hx223_1⟩ (fun hHeld => ?_); refine with_tabW impl_sharedLength.tab14 impl_sharedLength.bits14 (fun HT_ HW_ => ?_)
            generalize w101.drew = w102 at HO_5 HO_25 BK200 BK213 BK214 BK216 HB hx223_0 hx223_1 hHeld ⊢
            refine pure_ (i := 0) (N := some 52) (v := ?_) (a' := ?_) #[true, false, false, false, false, false, false, false, false, false, false, false, false, false, false, false, false, false, false] rfl rfl (any_of HT_.out (by kernel_rfl)) (fun _ _ _ h => h) (Or.inl ⟨by rfl, ?_⟩) ?_ ?_
            rotate_left
            ·
             intro w'
             go_simp
             with_reducible rfl
            rotate_left
            ·
             simp only [Act.put, List.setIfInBounds_toArray, List.set_cons_zero, List.set_cons_succ, i64_w, i32_w]
             rfl
            refine pure_ (i := 1) (N := some 53) (v := ?_) (a' := ?_) #[true, true, false, false, false, false, false, false, false, false, false, false, false, false, false, false, false, false, false] rfl rfl (any_of HT_.out (by kernel_rfl)) (fun _ _ _ h => h) (Or.inl ⟨by rfl, ?_⟩) ?_ ?_
            rotate_left
            ·
             intro w'
             go_simp
             with_reducible rfl
            rotate_left
            ·
             simp only [Act.put, List.setIfInBounds_toArray, List.set_cons_zero, List.set_cons_succ, i64_w, i32_w]
             rfl
            refine pure_ (i := 2) (N := some 54) (v := ?_) (a' := ?_) #[true, true, true, false, false, false, false, false, false, false, false, false, false, false, false, false, false, false, false] rfl rfl (any_of HT_.out (by kernel_rfl)) (fun _ _ _ h => h) (Or.inl ⟨by rfl, ?_⟩) ?_ ?_
            rotate_left
            ·
             intro w'
             go_simp
             with_reducible rfl
            rotate_left
            ·
             simp only [Act.put, List.setIfInBounds_toArray, List.set_cons_zero, List.set_cons_succ, i64_w, i32_w]
             rfl
            refine pure_ (i := 3) (N := some 55) (v := ?_) (a' := ?_) #[true, true, true, true, false, false, false, false, false, false, false, false, false, false, false, false, false, false, false] rfl rfl (any_of HT_.out (by kernel_rfl)) (fun _ _ _ h => h) (Or.inl ⟨by rfl, ?_⟩) ?_ ?_
            rotate_left
            ·
             intro w'
             go_simp
             with_reducible rfl
            rotate_left
            ·
             simp only [Act.put, List.setIfInBounds_toArray, List.set_cons_zero, List.set_cons_succ, i64_w, i32_w]
             rfl
            refine pure_ (i := 4) (N := some 56) (v := ?_) (a' := ?_) #[true, true, true, true, true, false, false, false, false, false, false, false, false, false, false, false, false, false, false] rfl rfl (any_of HT_.out (by kernel_rfl)) (fun _ _ _ h => h) (Or.inl ⟨by rfl, ?_⟩) ?_ ?_
            rotate_left
            ·
             intro w'
             go_simp
             with_reducible rfl
            rotate_left
            ·
             simp only [Act.put, List.setIfInBounds_toArray, List.set_cons_zero, List.set_cons_succ, i64_w, i32_w]
             rfl
            refine pure_ (i := 5) (N := some 57) (v := ?_) (a' := ?_) #[true, true, true, true, true, true, false, false, false, false, false, false, false, false, false, false, false, false, false] rfl rfl (any_of HT_.out (by kernel_rfl)) (fun _ _ _ h => h) (Or.inl ⟨by rfl, ?_⟩) ?_ ?_
            rotate_left
            ·
             intro w'
             go_simp
             with_reducible rfl
            rotate_left
            ·
             simp only [Act.put, List.setIfInBounds_toArray, List.set_cons_zero, List.set_cons_succ, i64_w, i32_w]
             rfl
            refine pure_ (i := 6) (N := some 58) (v := ?_) (a' := ?_) #[true, true, true, true, true, true, true, false, false, false, false, false, false, false, false, false, false, false, false] rfl rfl (any_of HT_.out (by kernel_rfl)) (fun _ _ _ h => h) (Or.inl ⟨by rfl, ?_⟩) ?_ ?_
            rotate_left
            ·
             intro w'
             go_simp
             with_reducible rfl
            rotate_left
            ·
             simp only [Act.put, List.setIfInBounds_toArray, List.set_cons_zero, List.set_cons_succ, i64_w, i32_w]
             rfl
            refine pure_ (i := 8) (N := some 60) (v := ?_) (a' := ?_) #[true, true, true, true, true, true, true, false, true, false, false, false, false, false, false, false, false, false, false] rfl rfl (any_of HT_.out (by kernel_rfl)) (fun _ _ _ h => h) (Or.inl ⟨by rfl, ?_⟩) ?_ ?_
            rotate_left
            ·
             intro w'
             go_simp
             with_reducible rfl
            rotate_left
            ·
             simp only [Act.put, List.setIfInBounds_toArray, List.set_cons_zero, List.set_cons_succ, i64_w, i32_w]
             rfl
            refine pure_ (i := 9) (N := some 61) (v := ?_) (a' := ?_) #[true, true, true, true, true, true, true, false, true, true, false, false, false, false, false, false, false, false, false] rfl rfl (any_of HT_.out (by kernel_rfl)) (fun _ _ _ h => h) (Or.inl ⟨by rfl, ?_⟩) ?_ ?_
            rotate_left
            ·
             intro w'
             go_simp
             with_reducible rfl
            rotate_left
            ·
             simp only [Act.put, List.setIfInBounds_toArray, List.set_cons_zero, List.set_cons_succ, i64_w, i32_w]
             rfl
            refine pure_ (i := 10) (N := some 62) (v := ?_) (a' := ?_) #[true, true, true, true, true, true, true, false, true, true, true, false, false, false, false, false, false, false, false] rfl rfl (any_of HT_.out (by kernel_rfl)) (fun _ _ _ h => h) (Or.inl ⟨by rfl, ?_⟩) ?_ ?_
            rotate_left
            ·
             intro w'
             go_simp
             with_reducible rfl
            rotate_left
            ·
             simp only [Act.put, List.setIfInBounds_toArray, List.set_cons_zero, List.set_cons_succ, i64_w, i32_w]
             rfl
            refine pure_ (i := 11) (N := some 63) (v := ?_) (a' := ?_) #[true, true, true, true, true, true, true, false, true, true, true, true, false, false, false, false, false, false, false] rfl rfl (any_of HT_.out (by kernel_rfl)) (fun _ _ _ h => h) (Or.inl ⟨by rfl, ?_⟩) ?_ ?_
            rotate_left
            ·
             intro w'
             go_simp
             with_reducible rfl
            rotate_left
            ·
             simp only [Act.put, List.setIfInBounds_toArray, List.set_cons_zero, List.set_cons_succ, i64_w, i32_w]
             rfl
            refine pure_ (i := 12) (N := some 64) (v := ?_) (a' := ?_) #[true, true, true, true, true, true, true, false, true, true, true, true, true, false, false, false, false, false, false] rfl rfl (any_of HT_.out (by kernel_rfl)) (fun _ _ _ h => h) (Or.inl ⟨by rfl, ?_⟩) ?_ ?_
            rotate_left
            ·
             intro w'
             go_simp
             with_reducible rfl
            rotate_left
            ·
             simp only [Act.put, List.setIfInBounds_toArray, List.set_cons_zero, List.set_cons_succ, i64_w, i32_w]
             rfl
            refine pure_ (i := 14) (N := some 66) (v := ?_) (a' := ?_) #[true, true, true, true, true, true, true, false, true, true, true, true, true, false, true, false, false, false, false] rfl rfl (any_of HT_.out (by kernel_rfl)) (fun _ _ _ h => h) (Or.inl ⟨by rfl, ?_⟩) ?_ ?_
            rotate_left
            ·
             intro w'
             go_simp
             with_reducible rfl
            rotate_left
            ·
             simp only [Act.put, List.setIfInBounds_toArray, List.set_cons_zero, List.set_cons_succ, i64_w, i32_w]
             rfl
            refine take_ (i := 7) (N := some 59) (v := ?_) (a' := ?_) #[true, true, true, true, true, true, true, true, true, true, true, true, true, false, true, false, false, false, false] rfl rfl (take_ofW HT_.out HW_.out (by kernel_rfl)) (fun _ _ _ h => h) (Or.inl ⟨by rfl, ?_⟩) hHeld ?_ ?_
            rotate_left
            ·
             rintro w' ⟨s0, s1, s2, s3⟩
             go_simp
             with_reducible rfl
            rotate_left
            ·
             simp only [Act.put, List.setIfInBounds_toArray, List.set_cons_zero, List.set_cons_succ, i64_w, i32_w]
             rfl
            refine take_ (i := 13) (N := some 65) (v := ?_) (a' := ?_) #[true, true, true, true, true, true, true, true, true, true, true, true, true, true, true, false, false, false, false] rfl rfl (take_ofW HT_.out HW_.out (by kernel_rfl)) (fun _ _ _ h => h) (Or.inl ⟨by rfl, ?_⟩) hHeld ?_ ?_
            rotate_left
            ·
             rintro w' ⟨s0, s1, s2, s3⟩
             go_simp
             with_reducible rfl
            rotate_left
            ·
             simp only [Act.put, List.setIfInBounds_toArray, List.set_cons_zero, List.set_cons_succ, i64_w, i32_w]
             rfl
            refine take_ (i := 15) (N := some 67) (v := ?_) (a' := ?_) #[true, true, true, true, true, true, true, true, true, true, true, true, true, true, true, true, false, false, false] rfl rfl (take_ofW HT_.out HW_.out (by kernel_rfl)) (fun _ _ _ h => h) (Or.inl ⟨by rfl, ?_⟩) hHeld ?_ ?_
            rotate_left
            ·
             rintro w' ⟨s0, s1, s2, s3⟩
             go_simp
             with_reducible rfl
            rotate_left
            ·
             simp only [Act.put, List.setIfInBounds_toArray, List.set_cons_zero, List.set_cons_succ, i64_w, i32_w]
             rfl
            refine pure_ (i := 16) (N := some 68) (v := ?_) (a' := ?_) #[true, true, true, true, true, true, true, true, true, true, true, true, true, true, true, true, true, false, false] rfl rfl (any_of HT_.out (by kernel_rfl)) (fun _ _ _ h => h) (Or.inl ⟨by rfl, ?_⟩) ?_ ?_
            rotate_left
            ·
             intro w'
             go_simp
             with_reducible rfl
            rotate_left
            ·
             simp only [Act.put, List.setIfInBounds_toArray, List.set_cons_zero, List.set_cons_succ, i64_w, i32_w]
             rfl
            refine pure_ (i := 17) (N := some 69) (v := ?_) (a' := ?_) #[true, true, true, true, true, true, true, true, true, true, true, true, true, true, true, true, true, true, false] rfl rfl (any_of HT_.out (by kernel_rfl)) (fun _ _ _ h => h) (Or.inl ⟨by rfl, ?_⟩) ?_ ?_
            rotate_left
            ·
             intro w'
             go_simp
             with_reducible rfl
            rotate_left
            ·
             simp only [Act.put, List.setIfInBounds_toArray, List.set_cons_zero, List.set_cons_succ, i64_w, i32_w]
             rfl
            refine pure_ (i := 18) (N := some 70) (v := ?_) (a' := ?_) #[true, true, true, true, true, true, true, true, true, true, true, true, true, true, true, true, true, true, true] rfl rfl (any_of HT_.out (by kernel_rfl)) (fun _ _ _ h => h) (Or.inl ⟨by rfl, ?_⟩) ?_ ?_
            rotate_left
            ·
             intro w'
             go_simp
             with_reducible rfl
            rotate_left
            ·
             simp only [Act.put, List.setIfInBounds_toArray, List.set_cons_zero, List.set_cons_succ, i64_w, i32_w]
             rfl
            refine done_ (done_of HT_.out (by kernel_rfl)) ?_
            try go_wp2
            (try simp only [← hl5_1])
            go_roundg k1
            case measure => have := HK1.out; omega
            case rel => exact ⟨(wrap64 (x6_1 + ((rd_T28 t207 x27_1).f1))), (ji59), (t219), (t220), (t221), (t222), (by first | rfl | (simp; done) | (simp [*]; done) | (simp only [i64_w]; done) | (simp [i64_w]; done)), (by first | rfl | (simp; done) | (simp only [← hji59] <;> (first | rfl | simp)) | (simp [*]; done) | (simp only [i64_w]; done) | (simp [i64_w]; done)), H', ⟨by have := HK1.out; omega⟩, ⟨by (try simp only [hl5_1]); (with_reducible repeat (first | apply Kd.R_alloc | apply Kd.R_drewN | apply Kd.R_drew)); exact Kd.R_mono HO_5.out (fun _ hk => trivial)⟩, ⟨by (try simp only [hl5_1]); (with_reducible repeat (first | apply Kd.R_alloc | apply Kd.R_drewN | apply Kd.R_drew)); exact Kd.R_mono HO_25.out (fun _ hk => trivial)⟩, ⟨by (try simp only [hl5_1]); (with_reducible repeat (first | refine blk_drewN ?_ _ | refine blk_drew ?_ | refine blk_alloc ?_ _)); exact BK200.out⟩, ⟨by (try simp only [hl5_1]); (with_reducible repeat (first | refine blk_drewN ?_ _ | refine blk_drew ?_ | refine blk_alloc ?_ _)); exact BK213.out⟩, ⟨by (try simp only [hl5_1]); (with_reducible repeat (first | refine blk_drewN ?_ _ | refine blk_drew ?_ | refine blk_alloc ?_ _)); exact BK214.out⟩, ⟨by repeat (first | (with_reducible first | exact HB.out | apply below_alloc | apply pw_below_drewN | apply below_drew1 | refine below_set ?_ GE200.out | refine below_set ?_ GE213.out | refine below_set ?_ GE214.out | refine below_set ?_ GE216.out) | exact HB.out)⟩⟩
          ·
           rw [if_neg c61] at H
           exact absurd H (by simp)
         ·
          rw [if_neg c60] at H
          exact absurd H (by simp)
       ·
        rw [if_neg c33] at H
        exact absurd H (by simp)
      ·
       rw [if_neg c32] at H
       exact absurd H (by simp)
     ·
      rw [if_neg c31] at H
      have c31b0 : decide (x27_1 < (y204.length : Int)) = false := decide_eq_false c31
      (try (have c31b0hl5_1 := c31b0; simp only [hl5_1] at c31b0hl5_1))
      clear c31
      simp only [Option.some.injEq, Prod.mk.injEq] at H
      obtain ⟨rfl, rfl⟩ := H
      have hnb103 := NB214_200.out
      have hnc103 := NB200_214.out
      have hnb104 := NB214_213.out
      have hnc104 := NB213_214.out
      have hcz105_0 : wr.cell? ⟨gb214, 0, none⟩ = some (.int .i64 x215000_1) := (blk_cell BK214.out 0).trans rfl
      have hcz105_1 : wr.cell? ⟨gb214, 1, none⟩ = some (.int .i64 x215001_1) := (blk_cell BK214.out 1).trans rfl
      have hfz105_0 := blk_frozen BK214.out 0
      have hfz105_1 := blk_frozen BK214.out 1
      have hnb106 := NB200_213.out
      have hnc106 := NB213_200.out
      have hcz107_0 : wr.cell? ⟨gb200, 0, none⟩ = some (.int .i64 0) := (blk_cell BK200.out 0).trans rfl
      have hcz107_1 : wr.cell? ⟨gb200, 1, none⟩ = some (.int .i64 0) := (blk_cell BK200.out 1).trans rfl
      have hfz107_0 := blk_frozen BK200.out 0
      have hfz107_1 := blk_frozen BK200.out 1
      go_wp2
      refine bodyPost_ret (results_cell_row rfl _ _ gb200 25 #[.int .i64 x215000_1, .int .i64 x215001_1] (0, 0) _ rfl (by (with_reducible repeat (first | refine blk_drewN ?_ _ | refine blk_drew ?_ | refine blk_alloc ?_ _)); refine blk_put (cs := #[.int .i64 x215000_1, .int .i64 0]) ?_ 1 _ rfl; (with_reducible repeat (first | refine blk_drewN ?_ _ | refine blk_drew ?_ | refine blk_alloc ?_ _)); refine blk_put (cs := #[.int .i64 0, .int .i64 0]) ?_ 0 _ rfl; (with_reducible repeat (first | refine blk_drewN ?_ _ | refine blk_drew ?_ | refine blk_alloc ?_ _)); exact BK200.out) Try.underlying25 rfl (by kernel_rfl)) rfl ?_
      exact ⟨by first | rfl | (simp [errW_none, errW_some, i64_w]; done) | (simp [errW_none, errW_some] <;> rfl) | (simp [*, errW_none, errW_some] <;> rfl), by repeat (first | (with_reducible first | exact HB.out | apply below_alloc | apply pw_below_drewN | apply below_drew1 | refine below_set ?_ GE200.out | refine below_set ?_ GE213.out | refine below_set ?_ GE214.out) | exact HB.out)⟩
 ·
  rw [if_neg c3] at H
  exact absurd H (by simp)

end Go.Proofs.Ytmokjfncblnfcaa.QFnSharedLoads

/- What the Go functions of this law compute, each as a Lean function, and that each call comes to that answer; written by a program of this session. No condition. -/
import Derived.Test.YtginmioklkcgbaaDoorQFnRopeLinesx0
import Derived.Test.YtginmioklkcgbaaDoorQFnRopeLinesx2
import Derived.Test.YtginmioklkcgbaaDoorQFnRopeLinesx3
namespace Go.Proofs.YtginmioklkcgbaaDoor.QFnRopeLines
open Go.RowKit Go.Proofs.YtginmioklkcgbaaDoorW.PrintWords Go.Proofs.YtginmioklkcgbaaDoorW.PrintLast Go.Proofs.YtginmioklkcgbaaDoorW.PrintMore
attribute [local go_sem] max2_int min2_int max_two min_two max_three min_three max_four min_four   -- for this text's walks alone
set_option linter.unusedVariables false
set_option linter.unusedSimpArgs false

/-! ### impl_numbersIn: function 67 -/
def impl_numbersIn.l0 : Nat → List ByteArray → List Int → List ByteArray → Int → Int → Option (List Int × Bool)
 | 0, _, _, _, _, _ => none
 | k + 1, x0, x6, x17, x18, x19 => if x19 < x18 then (if 0 ≤ x19 then (if x19 < (x17.length : Int) then (if (rdOf ByteArray.empty x17 x19).toList = ([] : List UInt8) then (if x19 < (x0.length : Int) then ((impl_ReadDecimal.f k (rdOf ByteArray.empty x0 x19)).bind fun bt120 => (if bt120.2 = true then (if x6.length < 17592186044416 then (impl_numbersIn.l0 k x0 (x6 ++ [bt120.1]) x17 x18 (wrap64 (x19 + 1))) else (none)) else (some (([] : List Int), false)))) else (none)) else (if x19 < (x0.length : Int) then (if (rdOf ByteArray.empty x0 x19).toList = (rdOf ByteArray.empty x17 x19).toList then (impl_numbersIn.l0 k x0 x6 x17 x18 (wrap64 (x19 + 1))) else (some (([] : List Int), false))) else (none))) else (none)) else (none)) else (some (x6, true))
def impl_numbersIn.f (k : Nat) (l0 : List ByteArray) (l1 : List ByteArray) : Option (List Int × Bool) := if (l0.length : Int) = (l1.length : Int) then (impl_numbersIn.l0 k l0 (([] : List Int)) l1 (l1.length : Int) 0) else (some (([] : List Int), false))
theorem impl_numbersIn.mono_l : ∀ k, (∀ y0 y1 y2 y3 y4, LeO (impl_numbersIn.l0 k y0 y1 y2 y3 y4) (impl_numbersIn.l0 (k + 1) y0 y1 y2 y3 y4))
 | 0 => fun _ _ _ _ _ r h => by simp [impl_numbersIn.l0] at h
 | k + 1 => by
  have ih0 := impl_numbersIn.mono_l k
  ·
   intro y0 y1 y2 y3 y4
   unfold impl_numbersIn.l0
   repeat' first
   | (with_reducible exact ih0 _ _ _ _ _)
   | (with_reducible exact impl_ReadDecimal.mono _ _)
   | (with_reducible exact LeO.refl _)
   | (with_reducible exact LeO.none _)
   | (with_reducible refine LeO.ite ?_ ?_)
   | (with_reducible refine LeO.bind ?_ (fun _ => ?_))
   | exact ih0 _ _ _ _ _
   | exact impl_ReadDecimal.mono _ _
   | exact LeO.none _
   | refine LeO.ite ?_ ?_
   | refine LeO.bind ?_ (fun _ => ?_)
theorem impl_numbersIn.mono : ∀ a0 a1 k, LeO (impl_numbersIn.f k a0 a1) (impl_numbersIn.f (k + 1) a0 a1) := by
 intro a0 a1 k
 have ih0 := impl_numbersIn.mono_l k
 unfold impl_numbersIn.f
 repeat' first
   | (with_reducible exact ih0 _ _ _ _ _)
   | (with_reducible exact impl_ReadDecimal.mono _ _)
   | (with_reducible exact LeO.refl _)
   | (with_reducible exact LeO.none _)
   | (with_reducible refine LeO.ite ?_ ?_)
   | (with_reducible refine LeO.bind ?_ (fun _ => ?_))
   | exact ih0 _ _ _ _ _
   | exact impl_ReadDecimal.mono _ _
   | exact LeO.none _
   | refine LeO.ite ?_ ?_
   | refine LeO.bind ?_ (fun _ => ?_)
set_option maxHeartbeats 8000000 in
set_option maxRecDepth 100000 in
theorem impl_numbersIn.calls (k : Nat) (A0 : Option Addr) (c0 : Nat) (l0 : List ByteArray) (A1 : Option Addr) (c1 : Nat) (l1 : List ByteArray) (r1 : List Int) (r2 : Bool) (w : World) (hT : Gnd.Tab w) (hr0 : Kd.C Kd.string w A0 l0.length l0) (hc0 : l0.length ≤ c0) (hr1 : Kd.C Kd.string w A1 l1.length l1) (hc1 : l1.length ≤ c1) (h : impl_numbersIn.f k l0 l1 = some (r1, r2)) :
  Calls Tryd.prog 67 #[.slice A0 l0.length c0, .slice A1 l1.length c1] w fun e w' => ∃ v0_ : Value, e = .returned (.tuple #[v0_, .bool r2]) ∧ Kd.R (Kd.int .i64) 2 w' w.heap.size (fun _ => True) v0_ r1 ∧ Below w.heap.size w w' := by
 have HR0 := aS hr0
 have HC0 := aS hc0
 clear hr0 hc0
 have HR1 := aS hr1
 have HC1 := aS hc1
 clear hr1 hc1
 have HB := aS (Below.refl w.heap.size w)
 have H : (if (l0.length : Int) = (l1.length : Int) then (impl_numbersIn.l0 k l0 (([] : List Int)) l1 (l1.length : Int) 0) else (some (([] : List Int), false))) = some (r1, r2) := h
 clear h
 by_cases c3 : (l0.length : Int) = (l1.length : Int)
 ·
  rw [if_pos c3] at H
  have c3b0 : ((l0.length : Int) == (l1.length : Int)) = true := beq_iff_eq.mpr c3
  have c3b1 : ((l0.length : Int) != (l1.length : Int)) = false := bne_eq_false_iff_eq.mpr c3
  have c3b2 : (l0.length == l1.length) = true := by first | simpa using c3 | (simp at c3 ⊢; omega)
  clear c3
  obtain ⟨y115, hy115⟩ : ∃ y_ : List Int, y_ = (([] : List Int)) := ⟨_, rfl⟩
  replace H : (impl_numbersIn.l0 k l0 y115 l1 (l1.length : Int) 0) = some (r1, r2) := by first | (rw [hy115]; with_reducible exact H) | (have H2_ := (Option.bind_some _ _).symm.trans H; rw [hy115]; with_reducible exact H2_) | (have H2_ := (Option.bind_some _ _).symm.trans H; with_reducible exact H2_) | with_reducible exact H | (rw [hy115]; exact H) | exact H
  have Ny115 := aS hy115
  clear hy115
  have H' := aS H
  clear H
  go_enter Tryd.func67, Tryd.ntmps67
  go_wp2_with (first | ((with_reducible refine gate_dst (N := 16) rfl ?_); refine Kd.R_lit (Kd.int .i64) _ 2 ?hg (N := 16) ?hd (xs := ([] : List Int)) (inner := []) (ok := fun _ => True) (okp := fun _ => True) ?hr ?hp (fun _ hk => hk) trivial (Below.refl _ _) (Nat.le_refl _) (by simp) ?_; (case hd => rfl); (case hg => rfl); (case hr => first | (go_simp; done) | (go_simp; rfl)); (case hp => exact (Reps.none _ _)); intro v116 w4 ho5 hb hg_ hnew_; clear hg_ hnew_; (first | rw [← Ny115.out] at ho5 | (simp only [Int.reduceToNat] at ho5; rw [← Ny115.out] at ho5)); have n0_ := aS (Kd.R_lower ho5 (below_size (sW HB.out))); have n1_ := aS (below_step (sW HB.out) hb); clear HB; have HO117 := n0_; have HB := n1_; clear n0_ n1_; clear hb ho5))
  go_loopg [6, 19] k (fun kq v6 v19 w' => ∃ (x6_1 : List Int) (x19_1 : Int), v19 = .int .i64 x19_1 ∧ Aside0 (impl_numbersIn.l0 kq l0 x6_1 l1 (l1.length : Int) x19_1 = some (r1, r2)) ∧ Aside0 (kq ≤ k) ∧ Aside0 (Kd.R (Kd.int .i64) 2 w' w.heap.size (fun _ => True) v6 x6_1) ∧ Aside0 (Below w.heap.size w w'))
  case atStart => exact ⟨(y115), (0), (by first | rfl | (simp; done) | (simp [*]; done) | (simp only [i64_w]; done) | (simp [i64_w]; done)), H', ⟨Nat.le_refl _⟩, ⟨by (with_reducible repeat (first | apply Kd.R_alloc | apply Kd.R_drewN | apply Kd.R_drew)); exact HO117.out⟩, ⟨by repeat (first | (with_reducible first | exact HB.out | apply below_alloc | apply pw_below_drewN | apply below_drew1) | exact HB.out)⟩⟩
  case round =>
   clear H'
   (try clear c1); (try clear p2); (try clear c3); (try clear c3b0); (try clear c3b1); (try clear c3b2)
   obtain ⟨x6_1, x19_1, rfl, HA, HK1, HO_6, HB⟩ := hrel
   cases gk with
   | zero => exact absurd HA.out (by simp [impl_numbersIn.l0])
   | succ k1 =>
    have H := HA.out
    clear HA
    simp only [impl_numbersIn.l0] at H
    by_cases c6 : x19_1 < (l1.length : Int)
    ·
     rw [if_pos c6] at H
     have c6b0 : decide (x19_1 < (l1.length : Int)) = true := decide_eq_true c6
     clear c6
     by_cases c7 : 0 ≤ x19_1
     ·
      rw [if_pos c7] at H
      have c7b0 : decide (0 ≤ x19_1) = true := decide_eq_true c7
      clear c7
      by_cases c8 : x19_1 < (l1.length : Int)
      ·
       rw [if_pos c8] at H
       have c8b0 : decide (x19_1 < (l1.length : Int)) = true := decide_eq_true c8
       clear c8
       by_cases c9 : (rdOf ByteArray.empty l1 x19_1).toList = ([] : List UInt8)
       ·
        rw [if_pos c9] at H
        have c9b0 : ((rdOf ByteArray.empty l1 x19_1).toList == ([] : List UInt8)) = true := beq_iff_eq.mpr c9
        have c9b1 : ((rdOf ByteArray.empty l1 x19_1).toList != ([] : List UInt8)) = false := bne_eq_false_iff_eq.mpr c9
        clear c9
        by_cases c10 : x19_1 < (l0.length : Int)
        ·
         rw [if_pos c10] at H
         have c10b0 : decide (x19_1 < (l0.length : Int)) = true := decide_eq_true c10
         clear c10
         replace H := Option.bind_eq_some_iff.mp H
         obtain ⟨⟨t120, t121⟩, A110, H⟩ := H
         replace H : (if t121 = true then (if x6_1.length < 17592186044416 then (impl_numbersIn.l0 k1 l0 (x6_1 ++ [t120]) l1 (l1.length : Int) (wrap64 (x19_1 + 1))) else (none)) else (some (([] : List Int), false))) = some (r1, r2) := H
         have A11 := aS A110
         clear A110
         by_cases c12 : t121 = true
         ·
          subst c12
          have H1 : (if x6_1.length < 17592186044416 then (impl_numbersIn.l0 k1 l0 (x6_1 ++ [t120]) l1 (l1.length : Int) (wrap64 (x19_1 + 1))) else (none)) = some (r1, r2) := by rw [if_pos rfl] at H; exact H
          clear H
          have H := H1
          clear H1
          by_cases c13 : x6_1.length < 17592186044416
          ·
           rw [if_pos c13] at H
           have LMc13 := aS c13
           clear c13
           obtain ⟨y122, hy122⟩ : ∃ y_ : List Int, y_ = (x6_1 ++ [t120]) := ⟨_, rfl⟩
           replace H : (impl_numbersIn.l0 k1 l0 y122 l1 (l1.length : Int) (wrap64 (x19_1 + 1))) = some (r1, r2) := by first | (rw [hy122]; with_reducible exact H) | (have H2_ := (Option.bind_some _ _).symm.trans H; rw [hy122]; with_reducible exact H2_) | (have H2_ := (Option.bind_some _ _).symm.trans H; with_reducible exact H2_) | with_reducible exact H | (rw [hy122]; exact H) | exact H
           have Ny122 := aS hy122
           clear hy122
           have H' := aS H
           clear H
           have p118 : 0 ≤ (x19_1 : Int) := of_decide_eq_true (by first | (with_reducible assumption) | assumption)
           have q118 : x19_1 < (l1.length : Int) := of_decide_eq_true (by first | (with_reducible assumption) | assumption)
           obtain ⟨ad118, e118, hx118_0⟩ := Kd.at_string HR1.out x19_1 p118 q118
           cases e118
           replace hx118_0 := (HB.out.cell (World.block_lt_of_cell? w _ hx118_0)).trans hx118_0
           replace p118 := eq_true p118
           replace q118 := eq_true q118
           have p119 : 0 ≤ (x19_1 : Int) := of_decide_eq_true (by first | (with_reducible assumption) | assumption)
           have q119 : x19_1 < (l0.length : Int) := of_decide_eq_true (by first | (with_reducible assumption) | assumption)
           obtain ⟨ad119, e119, hx119_0⟩ := Kd.at_string HR0.out x19_1 p119 q119
           cases e119
           replace hx119_0 := (HB.out.cell (World.block_lt_of_cell? w _ hx119_0)).trans hx119_0
           replace p119 := eq_true p119
           replace q119 := eq_true q119
           go_wp2_with (first | ((with_reducible refine gate_callee (f := 22) rfl ?_); refine goesL_ (some 37) rfl rfl Tryd.func22 (by kernel_rfl) rfl #[.string (rdOf ByteArray.empty l0 x19_1)] rfl sG ?_; (with_reducible refine (impl_ReadDecimal.calls k1 (rdOf ByteArray.empty l0 x19_1) t120 true _ ?side1 A11.out).mono ?_); (case side1 => exact Gnd.Tab.on hT (sW HB.out)); rintro e w14 ⟨rfl, hb⟩; refine ⟨_, rfl, ?_⟩; have n0_ := aS (Kd.R_below (sR HO_6.out) hb); have n1_ := aS (below_step (sW HB.out) hb); clear HO_6 HB; have HO_6 := n0_; have HB := n1_; clear n0_ n1_; (try clear hb); (try clear hb2); (try clear hk); (try clear hi)) | ((with_reducible refine gate_builtin (b := .append) (xs := #[.tmp 42, .tmp 44]) rfl ?_); at_builtin; refine Kd.R_append (Kd.int .i64) (w0 := w) w.heap.size rfl (.tmp 42) (.tmp 44) 80 2 (.int .i64 0) 8 rfl Tryd.underlying80 info2 rfl (by decide) (by omega) u6 x6_1 t120 [.int .i64 t120] (fun _ => True) (fun _ => False) rfl rfl ?aP (fun _ hk => hk.elim) ?aF ?aO ?aB ?aS ?aL ?_; (case aP => exact rfl); (case aB => exact (sW HB.out)); (case aF => exact (fun _ _ => trivial)); (case aO => exact (sR HO_6.out)); (case aS => exact (below_size (sW HB.out))); (case aL => have := LMc13.out; omega); intro v123 w15 ho hb hg hat; rw [← Ny122.out] at ho; have n0_ := aS (hb); have n1_ := aS (ho); clear HB HO_6; have HB := n0_; have HO124 := n1_; clear n0_ n1_; clear ho hb hg hat))
           go_roundg k1
           case measure => have := HK1.out; omega
           case rel => exact ⟨(y122), (wrap64 (x19_1 + 1)), (by first | rfl | (simp; done) | (simp [*]; done) | (simp only [i64_w]; done) | (simp [i64_w]; done)), H', ⟨by have := HK1.out; omega⟩, ⟨by (with_reducible repeat (first | apply Kd.R_alloc | apply Kd.R_drewN | apply Kd.R_drew)); exact HO124.out⟩, ⟨by repeat (first | (with_reducible first | exact HB.out | apply below_alloc | apply pw_below_drewN | apply below_drew1) | exact HB.out)⟩⟩
          ·
           rw [if_neg c13] at H
           exact absurd H (by simp)
         ·
          replace c12 := Bool.eq_false_iff.mpr c12
          subst c12
          have H1 : (some (([] : List Int), false)) = some (r1, r2) := by rw [if_neg (show ¬ (false = true) by decide)] at H; exact H
          clear H
          have H := H1
          clear H1
          simp only [Option.some.injEq, Prod.mk.injEq] at H
          obtain ⟨rfl, rfl⟩ := H
          have p118 : 0 ≤ (x19_1 : Int) := of_decide_eq_true (by first | (with_reducible assumption) | assumption)
          have q118 : x19_1 < (l1.length : Int) := of_decide_eq_true (by first | (with_reducible assumption) | assumption)
          obtain ⟨ad118, e118, hx118_0⟩ := Kd.at_string HR1.out x19_1 p118 q118
          cases e118
          replace hx118_0 := (HB.out.cell (World.block_lt_of_cell? w _ hx118_0)).trans hx118_0
          replace p118 := eq_true p118
          replace q118 := eq_true q118
          have p119 : 0 ≤ (x19_1 : Int) := of_decide_eq_true (by first | (with_reducible assumption) | assumption)
          have q119 : x19_1 < (l0.length : Int) := of_decide_eq_true (by first | (with_reducible assumption) | assumption)
          obtain ⟨ad119, e119, hx119_0⟩ := Kd.at_string HR0.out x19_1 p119 q119
          cases e119
          replace hx119_0 := (HB.out.cell (World.block_lt_of_cell? w _ hx119_0)).trans hx119_0
          replace p119 := eq_true p119
          replace q119 := eq_true q119
          go_wp2_with (first | ((with_reducible refine gate_callee (f := 22) rfl ?_); refine goesL_ (some 37) rfl rfl Tryd.func22 (by kernel_rfl) rfl #[.string (rdOf ByteArray.empty l0 x19_1)] rfl sG ?_; (with_reducible refine (impl_ReadDecimal.calls k1 (rdOf ByteArray.empty l0 x19_1) t120 false _ ?side1 A11.out).mono ?_); (case side1 => exact Gnd.Tab.on hT (sW HB.out)); rintro e w16 ⟨rfl, hb⟩; refine ⟨_, rfl, ?_⟩; have n0_ := aS (Kd.R_below (sR HO_6.out) hb); have n1_ := aS (below_step (sW HB.out) hb); clear HO_6 HB; have HO_6 := n0_; have HB := n1_; clear n0_ n1_; (try clear hb); (try clear hb2); (try clear hk); (try clear hi)))
          go_ret2
          exact ⟨_, by first | rfl | (simp [errW_none, errW_some, i64_w]; done) | (simp [errW_none, errW_some] <;> rfl) | (simp [*, errW_none, errW_some] <;> rfl), by first | exact Kd.R_nil _ _ _ _ _ | exact Kd.N_nil _ _ _ _ _ | exact Kd.V_nil _ _ _ _ _ | exact Kd.Q_nil _ _ _ _ _ | exact Kd.S_nil _ _ _ _ _, by repeat (first | (with_reducible first | exact HB.out | apply below_alloc | apply pw_below_drewN | apply below_drew1) | exact HB.out)⟩
        ·
         rw [if_neg c10] at H
         exact absurd H (by simp)
       ·
        rw [if_neg c9] at H
        have c9b0 : ((rdOf ByteArray.empty l1 x19_1).toList == ([] : List UInt8)) = false := beq_eq_false_iff_ne.mpr c9
        have c9b1 : ((rdOf ByteArray.empty l1 x19_1).toList != ([] : List UInt8)) = true := bne_iff_ne.mpr c9
        by_cases c17 : x19_1 < (l0.length : Int)
        ·
         rw [if_pos c17] at H
         have c17b0 : decide (x19_1 < (l0.length : Int)) = true := decide_eq_true c17
         clear c17
         by_cases c18 : (rdOf ByteArray.empty l0 x19_1).toList = (rdOf ByteArray.empty l1 x19_1).toList
         ·
          rw [if_pos c18] at H
          have c18b0 : ((rdOf ByteArray.empty l0 x19_1).toList == (rdOf ByteArray.empty l1 x19_1).toList) = true := beq_iff_eq.mpr c18
          have c18b1 : ((rdOf ByteArray.empty l0 x19_1).toList != (rdOf ByteArray.empty l1 x19_1).toList) = false := bne_eq_false_iff_eq.mpr c18
          clear c18
          have H' := aS H
          clear H
          have p118 : 0 ≤ (x19_1 : Int) := of_decide_eq_true (by first | (with_reducible assumption) | assumption)
          have q118 : x19_1 < (l1.length : Int) := of_decide_eq_true (by first | (with_reducible assumption) | assumption)
          obtain ⟨ad118, e118, hx118_0⟩ := Kd.at_string HR1.out x19_1 p118 q118
          cases e118
          replace hx118_0 := (HB.out.cell (World.block_lt_of_cell? w _ hx118_0)).trans hx118_0
          replace p118 := eq_true p118
          replace q118 := eq_true q118
          have p125 : 0 ≤ (x19_1 : Int) := of_decide_eq_true (by first | (with_reducible assumption) | assumption)
          have q125 : x19_1 < (l0.length : Int) := of_decide_eq_true (by first | (with_reducible assumption) | assumption)
          obtain ⟨ad125, e125, hx125_0⟩ := Kd.at_string HR0.out x19_1 p125 q125
          cases e125
          replace hx125_0 := (HB.out.cell (World.block_lt_of_cell? w _ hx125_0)).trans hx125_0
          replace p125 := eq_true p125
          replace q125 := eq_true q125
          go_wp2
          go_roundg k1
          case measure => have := HK1.out; omega
          case rel => exact ⟨(x6_1), (wrap64 (x19_1 + 1)), (by first | rfl | (simp; done) | (simp [*]; done) | (simp only [i64_w]; done) | (simp [i64_w]; done)), H', ⟨by have := HK1.out; omega⟩, ⟨by (with_reducible repeat (first | apply Kd.R_alloc | apply Kd.R_drewN | apply Kd.R_drew)); exact HO_6.out⟩, ⟨by repeat (first | (with_reducible first | exact HB.out | apply below_alloc | apply pw_below_drewN | apply below_drew1) | exact HB.out)⟩⟩
         ·
          rw [if_neg c18] at H
          have c18b0 : ((rdOf ByteArray.empty l0 x19_1).toList == (rdOf ByteArray.empty l1 x19_1).toList) = false := beq_eq_false_iff_ne.mpr c18
          have c18b1 : ((rdOf ByteArray.empty l0 x19_1).toList != (rdOf ByteArray.empty l1 x19_1).toList) = true := bne_iff_ne.mpr c18
          simp only [Option.some.injEq, Prod.mk.injEq] at H
          obtain ⟨rfl, rfl⟩ := H
          have p118 : 0 ≤ (x19_1 : Int) := of_decide_eq_true (by first | (with_reducible assumption) | assumption)
          have q118 : x19_1 < (l1.length : Int) := of_decide_eq_true (by first | (with_reducible assumption) | assumption)
          obtain ⟨ad118, e118, hx118_0⟩ := Kd.at_string HR1.out x19_1 p118 q118
          cases e118
          replace hx118_0 := (HB.out.cell (World.block_lt_of_cell? w _ hx118_0)).trans hx118_0
          replace p118 := eq_true p118
          replace q118 := eq_true q118
          have p125 : 0 ≤ (x19_1 : Int) := of_decide_eq_true (by first | (with_reducible assumption) | assumption)
          have q125 : x19_1 < (l0.length : Int) := of_decide_eq_true (by first | (with_reducible assumption) | assumption)
          obtain ⟨ad125, e125, hx125_0⟩ := Kd.at_string HR0.out x19_1 p125 q125
          cases e125
          replace hx125_0 := (HB.out.cell (World.block_lt_of_cell? w _ hx125_0)).trans hx125_0
          replace p125 := eq_true p125
          replace q125 := eq_true q125
          go_wp2
          go_ret2
          exact ⟨_, by first | rfl | (simp [errW_none, errW_some, i64_w]; done) | (simp [errW_none, errW_some] <;> rfl) | (simp [*, errW_none, errW_some] <;> rfl), by first | exact Kd.R_nil _ _ _ _ _ | exact Kd.N_nil _ _ _ _ _ | exact Kd.V_nil _ _ _ _ _ | exact Kd.Q_nil _ _ _ _ _ | exact Kd.S_nil _ _ _ _ _, by repeat (first | (with_reducible first | exact HB.out | apply below_alloc | apply pw_below_drewN | apply below_drew1) | exact HB.out)⟩
        ·
         rw [if_neg c17] at H
         exact absurd H (by simp)
      ·
       rw [if_neg c8] at H
       exact absurd H (by simp)
     ·
      rw [if_neg c7] at H
      exact absurd H (by simp)
    ·
     rw [if_neg c6] at H
     have c6b0 : decide (x19_1 < (l1.length : Int)) = false := decide_eq_false c6
     clear c6
     simp only [Option.some.injEq, Prod.mk.injEq] at H
     obtain ⟨rfl, rfl⟩ := H
     go_wp2
     go_ret2
     exact ⟨_, by first | rfl | (simp [errW_none, errW_some, i64_w]; done) | (simp [errW_none, errW_some] <;> rfl) | (simp [*, errW_none, errW_some] <;> rfl), by (with_reducible repeat (first | apply Kd.R_alloc | apply Kd.R_drewN | apply Kd.R_drew)); exact HO_6.out, by repeat (first | (with_reducible first | exact HB.out | apply below_alloc | apply pw_below_drewN | apply below_drew1) | exact HB.out)⟩
 ·
  rw [if_neg c3] at H
  have c3b0 : ((l0.length : Int) == (l1.length : Int)) = false := beq_eq_false_iff_ne.mpr c3
  have c3b1 : ((l0.length : Int) != (l1.length : Int)) = true := bne_iff_ne.mpr c3
  have c3b2 : (l0.length == l1.length) = false := by first | simpa using c3 | (simp at c3 ⊢; omega)
  simp only [Option.some.injEq, Prod.mk.injEq] at H
  obtain ⟨rfl, rfl⟩ := H
  go_enter Tryd.func67, Tryd.ntmps67
  go_wp2
  go_ret2
  exact ⟨_, by first | rfl | (simp [errW_none, errW_some, i64_w]; done) | (simp [errW_none, errW_some] <;> rfl) | (simp [*, errW_none, errW_some] <;> rfl), by first | exact Kd.R_nil _ _ _ _ _ | exact Kd.N_nil _ _ _ _ _ | exact Kd.V_nil _ _ _ _ _ | exact Kd.Q_nil _ _ _ _ _ | exact Kd.S_nil _ _ _ _ _, by repeat (first | (with_reducible first | exact HB.out | apply below_alloc | apply pw_below_drewN | apply below_drew1) | exact HB.out)⟩

/-! ### impl_ReadRope: function 33 -/
def impl_ReadRope.f (k : Nat) (a0 : ByteArray) : Option (ByteArray × Int × Int × Int × Bool) := (strings_Split.f a0 (⟨#[32]⟩ : ByteArray)).bind fun t127 => (if 1 ≤ (t127.length : Int) then ((impl_numbersIn.f k (t127.drop 1) (([(⟨#[115, 105, 122, 101]⟩ : ByteArray), (⟨#[]⟩ : ByteArray), (⟨#[115, 116, 114, 101, 110, 103, 116, 104]⟩ : ByteArray), (⟨#[]⟩ : ByteArray), (⟨#[119, 101, 105, 103, 104, 116]⟩ : ByteArray), (⟨#[]⟩ : ByteArray)] : List ByteArray))).bind fun bt137 => (if bt137.2 = true then (if 0 < (t127.length : Int) then (if 0 < (bt137.1.length : Int) then (if 1 < (bt137.1.length : Int) then (if 2 < (bt137.1.length : Int) then ((impl_validRope.f k (rdOf ByteArray.empty t127 0) (rd bt137.1 0) (rd bt137.1 1) (rd bt137.1 2)).bind fun t146 => (if t146 = true then (some (rdOf ByteArray.empty t127 0, rd bt137.1 0, rd bt137.1 1, rd bt137.1 2, true)) else (some ((⟨#[]⟩ : ByteArray), 0, 0, 0, false)))) else (none)) else (none)) else (none)) else (none)) else (some ((⟨#[]⟩ : ByteArray), 0, 0, 0, false)))) else (none))
theorem impl_ReadRope.mono : ∀ a0 k, LeO (impl_ReadRope.f k a0) (impl_ReadRope.f (k + 1) a0) := by
 intro a0 k
 unfold impl_ReadRope.f
 repeat' first
   | (with_reducible exact impl_numbersIn.mono _ _ _)
   | (with_reducible exact impl_validRope.mono _ _ _ _ _)
   | (with_reducible exact LeO.refl _)
   | (with_reducible exact LeO.none _)
   | (with_reducible refine LeO.ite ?_ ?_)
   | (with_reducible refine LeO.bind ?_ (fun _ => ?_))
   | exact impl_numbersIn.mono _ _ _
   | exact impl_validRope.mono _ _ _ _ _
   | exact LeO.none _
   | refine LeO.ite ?_ ?_
   | refine LeO.bind ?_ (fun _ => ?_)
def impl_ReadRope.T5 : Bool × List (List Nat × List Nat) := (true, [([], []), ([0], [0]), ([1], [1]), ([], []), ([3], [3]), ([4], [4]), ([], []), ([6], [6]), ([7], [7]), ([], []), ([9], [9]), ([10], [10]), ([2, 5, 8, 11], [2, 5, 8, 11]), ([], []), ([13, 12, 0, 1, 2, 3, 4, 5, 6, 7, 8, 9, 10, 11, 12, 13], [12, 13])])
def impl_ReadRope.B5 : List Nat := [0, 1, 3, 0, 8, 24, 0, 64, 192, 0, 512, 1536, 4095, 0, 16383]
theorem impl_ReadRope.tab5 : rtab .any (opsOf Tryd.f33 5) = impl_ReadRope.T5 := by kernel_rfl
theorem impl_ReadRope.bits5 : waitsOk impl_ReadRope.T5.2 impl_ReadRope.B5 = true := by kernel_rfl
def impl_ReadRope.bF (n k : Nat) : Array Bool := ((List.range n).map fun i => k.testBit i).toArray
set_option maxHeartbeats 8000000 in
set_option maxRecDepth 100000 in
theorem impl_ReadRope.calls (k : Nat) (a0 : ByteArray) (r1 : ByteArray) (r2 : Int) (r3 : Int) (r4 : Int) (r5 : Bool) (w : World) (hM : Gnd.Max w) (hT : Gnd.Tab w) (h : impl_ReadRope.f k a0 = some (r1, r2, r3, r4, r5)) :
  Calls Tryd.prog 33 #[.string a0] w fun e w' => e = .returned (.tuple #[.agg #[.string r1, .int .i64 r2, .int .i64 r3, .int .i64 r4], .bool r5]) ∧ Below w.heap.size w w' := by
 have hu45 := Tryd.underlying45
 have HB := aS (Below.refl w.heap.size w)
 have H : ((strings_Split.f a0 (⟨#[32]⟩ : ByteArray)).bind fun t127 => (if 1 ≤ (t127.length : Int) then ((impl_numbersIn.f k (t127.drop 1) (([(⟨#[115, 105, 122, 101]⟩ : ByteArray), (⟨#[]⟩ : ByteArray), (⟨#[115, 116, 114, 101, 110, 103, 116, 104]⟩ : ByteArray), (⟨#[]⟩ : ByteArray), (⟨#[119, 101, 105, 103, 104, 116]⟩ : ByteArray), (⟨#[]⟩ : ByteArray)] : List ByteArray))).bind fun bt137 => (if bt137.2 = true then (if 0 < (t127.length : Int) then (if 0 < (bt137.1.length : Int) then (if 1 < (bt137.1.length : Int) then (if 2 < (bt137.1.length : Int) then ((impl_validRope.f k (rdOf ByteArray.empty t127 0) (rd bt137.1 0) (rd bt137.1 1) (rd bt137.1 2)).bind fun t146 => (if t146 = true then (some (rdOf ByteArray.empty t127 0, rd bt137.1 0, rd bt137.1 1, rd bt137.1 2, true)) else (some ((⟨#[]⟩ : ByteArray), 0, 0, 0, false)))) else (none)) else (none)) else (none)) else (none)) else (some ((⟨#[]⟩ : ByteArray), 0, 0, 0, false)))) else (none))) = some (r1, r2, r3, r4, r5) := h
 clear h
 replace H := Option.bind_eq_some_iff.mp H
 obtain ⟨t127, A20, H⟩ := H
 replace H : (if 1 ≤ (t127.length : Int) then ((impl_numbersIn.f k (t127.drop 1) (([(⟨#[115, 105, 122, 101]⟩ : ByteArray), (⟨#[]⟩ : ByteArray), (⟨#[115, 116, 114, 101, 110, 103, 116, 104]⟩ : ByteArray), (⟨#[]⟩ : ByteArray), (⟨#[119, 101, 105, 103, 104, 116]⟩ : ByteArray), (⟨#[]⟩ : ByteArray)] : List ByteArray))).bind fun bt137 => (if bt137.2 = true then (if 0 < (t127.length : Int) then (if 0 < (bt137.1.length : Int) then (if 1 < (bt137.1.length : Int) then (if 2 < (bt137.1.length : Int) then ((impl_validRope.f k (rdOf ByteArray.empty t127 0) (rd bt137.1 0) (rd bt137.1 1) (rd bt137.1 2)).bind fun t146 => (if t146 = true then (some (rdOf ByteArray.empty t127 0, rd bt137.1 0, rd bt137.1 1, rd bt137.1 2, true)) else (some ((⟨#[]⟩ : ByteArray), 0, 0, 0, false)))) else (none)) else (none)) else (none)) else (none)) else (some ((⟨#[]⟩ : ByteArray), 0, 0, 0, false)))) else (none)) = some (r1, r2, r3, r4, r5) := H
 have A2 := aS A20
 clear A20
 by_cases c3 : 1 ≤ (t127.length : Int)
 ·
  rw [if_pos c3] at H
  have c3b0 := eq_true c3
  have c3b1 : decide (1 ≤ (t127.length : Int)) = true := decide_eq_true c3
  clear c3
  obtain ⟨y130, hy130⟩ : ∃ y_ : List ByteArray, y_ = (t127.drop 1) := ⟨_, rfl⟩
  replace H : ((impl_numbersIn.f k y130 (([(⟨#[115, 105, 122, 101]⟩ : ByteArray), (⟨#[]⟩ : ByteArray), (⟨#[115, 116, 114, 101, 110, 103, 116, 104]⟩ : ByteArray), (⟨#[]⟩ : ByteArray), (⟨#[119, 101, 105, 103, 104, 116]⟩ : ByteArray), (⟨#[]⟩ : ByteArray)] : List ByteArray))).bind fun bt137 => (if bt137.2 = true then (if 0 < (t127.length : Int) then (if 0 < (bt137.1.length : Int) then (if 1 < (bt137.1.length : Int) then (if 2 < (bt137.1.length : Int) then ((impl_validRope.f k (rdOf ByteArray.empty t127 0) (rd bt137.1 0) (rd bt137.1 1) (rd bt137.1 2)).bind fun t146 => (if t146 = true then (some (rdOf ByteArray.empty t127 0, rd bt137.1 0, rd bt137.1 1, rd bt137.1 2, true)) else (some ((⟨#[]⟩ : ByteArray), 0, 0, 0, false)))) else (none)) else (none)) else (none)) else (none)) else (some ((⟨#[]⟩ : ByteArray), 0, 0, 0, false)))) = some (r1, r2, r3, r4, r5) := by first | (rw [hy130]; with_reducible exact H) | (have H2_ := (Option.bind_some _ _).symm.trans H; rw [hy130]; with_reducible exact H2_) | (have H2_ := (Option.bind_some _ _).symm.trans H; with_reducible exact H2_) | with_reducible exact H | (rw [hy130]; exact H) | exact H
  have Ny130 := aS hy130
  clear hy130
  obtain ⟨y134, hy134⟩ : ∃ y_ : List ByteArray, y_ = (([(⟨#[115, 105, 122, 101]⟩ : ByteArray), (⟨#[]⟩ : ByteArray), (⟨#[115, 116, 114, 101, 110, 103, 116, 104]⟩ : ByteArray), (⟨#[]⟩ : ByteArray), (⟨#[119, 101, 105, 103, 104, 116]⟩ : ByteArray), (⟨#[]⟩ : ByteArray)] : List ByteArray)) := ⟨_, rfl⟩
  replace H : ((impl_numbersIn.f k y130 y134).bind fun bt137 => (if bt137.2 = true then (if 0 < (t127.length : Int) then (if 0 < (bt137.1.length : Int) then (if 1 < (bt137.1.length : Int) then (if 2 < (bt137.1.length : Int) then ((impl_validRope.f k (rdOf ByteArray.empty t127 0) (rd bt137.1 0) (rd bt137.1 1) (rd bt137.1 2)).bind fun t146 => (if t146 = true then (some (rdOf ByteArray.empty t127 0, rd bt137.1 0, rd bt137.1 1, rd bt137.1 2, true)) else (some ((⟨#[]⟩ : ByteArray), 0, 0, 0, false)))) else (none)) else (none)) else (none)) else (none)) else (some ((⟨#[]⟩ : ByteArray), 0, 0, 0, false)))) = some (r1, r2, r3, r4, r5) := by first | (rw [hy134]; with_reducible exact H) | (have H2_ := (Option.bind_some _ _).symm.trans H; rw [hy134]; with_reducible exact H2_) | (have H2_ := (Option.bind_some _ _).symm.trans H; with_reducible exact H2_) | with_reducible exact H | (rw [hy134]; exact H) | exact H
  have Ny134 := aS hy134
  clear hy134
  replace H := Option.bind_eq_some_iff.mp H
  obtain ⟨⟨t137, t138⟩, A40, H⟩ := H
  replace H : (if t138 = true then (if 0 < (t127.length : Int) then (if 0 < (t137.length : Int) then (if 1 < (t137.length : Int) then (if 2 < (t137.length : Int) then ((impl_validRope.f k (rdOf ByteArray.empty t127 0) (rd t137 0) (rd t137 1) (rd t137 2)).bind fun t146 => (if t146 = true then (some (rdOf ByteArray.empty t127 0, rd t137 0, rd t137 1, rd t137 2, true)) else (some ((⟨#[]⟩ : ByteArray), 0, 0, 0, false)))) else (none)) else (none)) else (none)) else (none)) else (some ((⟨#[]⟩ : ByteArray), 0, 0, 0, false))) = some (r1, r2, r3, r4, r5) := H
  have A4 := aS A40
  clear A40
  by_cases c5 : t138 = true
  rotate_left
  ·
   replace c5 := Bool.eq_false_iff.mpr c5
   subst c5
   have H1 : (some ((⟨#[]⟩ : ByteArray), 0, 0, 0, false)) = some (r1, r2, r3, r4, r5) := by rw [if_neg (show ¬ (false = true) by decide)] at H; exact H
   clear H
   have H := H1
   clear H1
   simp only [Option.some.injEq, Prod.mk.injEq] at H
   obtain ⟨rfl, rfl, rfl, rfl, rfl⟩ := H
   go_enter Tryd.func33, Tryd.ntmps33
   go_wp2_with (first | ((with_reducible refine gate_dst (N := 2) rfl ?_); refine box_event ?hg (N := 2) ?hd (cs := #[.string (⟨#[]⟩ : ByteArray), .int .i64 0, .int .i64 0, .int .i64 0]) (t := 45) ?hr ?_; (case hd => rfl); (case hg => rfl); (case hr => first | (go_simp; done) | (go_simp; rfl)); intro gb126 hg w51 hbox hb; have n0_ := aS (below_step (sW HB.out) hb); have n1_ := aS (hbox); have n2_ := aS ((by rw [hg]; exact (below_size (sW HB.out)) : w.heap.size ≤ gb126)); have n3_ := aS ((by rw [hg]; exact (below_size (sW HB.out)) : w.heap.size ≤ gb126)); clear HB; have HB := n0_; have BK126 := n1_; have GW126 := n2_; have GE126 := n3_; clear n0_ n1_ n2_ n3_; clear hb hbox hg) | ((with_reducible refine gate_callee (f := 58) rfl ?_); refine goesL_ (some 9) rfl rfl Tryd.func58 (by kernel_rfl) rfl #[.string a0, .string (⟨#[32]⟩ : ByteArray)] rfl sG ?_; (with_reducible refine (strings_Split.calls a0 (⟨#[32]⟩ : ByteArray) t127 _ ?side1 A2.out).mono ?_); (case side1 => exact Gnd.Max.on hM (sW HB.out)); rintro e w52 ⟨v128, rfl, ho0, hb⟩; refine ⟨_, rfl, ?_⟩; have n0_ := aS (Kd.R_lower ho0 (below_size (sW HB.out))); have n1_ := aS (blk_below (g := gb126) (o := .cells #[.string (⟨#[]⟩ : ByteArray), .int .i64 0, .int .i64 0, .int .i64 0] 45 (0, 0)) (sB BK126.out) hb); have n2_ := aS (below_step (sW HB.out) hb); clear BK126 HB; have HO129 := n0_; have BK126 := n1_; have HB := n2_; clear n0_ n1_ n2_; (try clear hb); (try clear hb2); (try clear hk); (try clear hi); (try clear ho0); obtain ⟨Ao54, co54, eo54⟩ := Kd.R_slice HO129.out; subst eo54; have q53 : (1 : Int) ≤ ((t127.length : Int) : Int) := of_decide_eq_true (by first | (with_reducible assumption) | assumption); obtain ⟨i053, hi053, _, hsz53, _⟩ := info_parts info9; have hroom53 : t127.length ≤ co54 := (Kd.R_reads' HO129.out).2.1; have hC53 : Kd.C Kd.string _ Ao54 t127.length t127 := (Kd.R_reads' HO129.out).2.2; have hcut53 := cut_from (P := Tryd.prog) 37 9 .i64 Tryd.underlying37 hi053 1 hsz53 Ao54 t127.length co54 1 (by omega) q53; have hr53 := Kd.C_drop (m := (1 : Int).toNat) (c := co54) hC53 (by omega) hroom53; obtain ⟨A53, hA53⟩ : ∃ A1, A1 = (if co54 = (1 : Int).toNat then Ao54 else (Ao54 : Option Addr).map (·.add ((1 : Int).toNat * 1))) := ⟨_, rfl⟩; obtain ⟨c53, hc53⟩ : ∃ c1, c1 = co54 - (1 : Int).toNat := ⟨_, rfl⟩; have hy53 : y130.length = t127.length - (1 : Int).toNat := (by rw [Ny130.out, List.length_drop] <;> omega); rw [show (t127).drop (1 : Int).toNat = y130 from Ny130.out.symm] at hr53; replace hr53 : Kd.C Kd.string _ A53 y130.length y130 := (by rw [hA53]; exact hr53); rw [← hy53, ← hA53, ← hc53] at hcut53; have HR133 := aS hr53; have HC133 := aS (show y130.length ≤ c53 from by rw [hy53, hc53]; exact Nat.sub_le_sub_right hroom53 _); clear hr53 hC53 hroom53 hi053 hsz53 hc53; have KY53 := aS hy53; have KA53 := aS hA53; clear hy53 hA53; have KL53 := aS (show 1 ≤ t127.length from by omega); replace q53 := eq_true q53) | ((with_reducible refine gate_dst (N := 13) rfl ?_); refine Kd.R_lit Kd.string _ 9 ?hg (N := 13) ?hd (xs := ([(⟨#[115, 105, 122, 101]⟩ : ByteArray), (⟨#[]⟩ : ByteArray), (⟨#[115, 116, 114, 101, 110, 103, 116, 104]⟩ : ByteArray), (⟨#[]⟩ : ByteArray), (⟨#[119, 101, 105, 103, 104, 116]⟩ : ByteArray), (⟨#[]⟩ : ByteArray)] : List ByteArray)) (inner := [.string (⟨#[115, 105, 122, 101]⟩ : ByteArray), .string (⟨#[]⟩ : ByteArray), .string (⟨#[115, 116, 114, 101, 110, 103, 116, 104]⟩ : ByteArray), .string (⟨#[]⟩ : ByteArray), .string (⟨#[119, 101, 105, 103, 104, 116]⟩ : ByteArray), .string (⟨#[]⟩ : ByteArray)]) (ok := fun _ => True) (okp := fun _ => True) ?hr ?hp (fun _ hk => hk) trivial (Below.refl _ _) (Nat.le_refl _) (by simp) ?_; (case hd => rfl); (case hg => rfl); (case hr => first | (go_simp; done) | (go_simp; rfl)); (case hp => exact (Reps.one (show Kd.M Kd.string _ _ _ (⟨#[115, 105, 122, 101]⟩ : ByteArray) [.string (⟨#[115, 105, 122, 101]⟩ : ByteArray)] from rfl) (Reps.one (show Kd.M Kd.string _ _ _ (⟨#[]⟩ : ByteArray) [.string (⟨#[]⟩ : ByteArray)] from rfl) (Reps.one (show Kd.M Kd.string _ _ _ (⟨#[115, 116, 114, 101, 110, 103, 116, 104]⟩ : ByteArray) [.string (⟨#[115, 116, 114, 101, 110, 103, 116, 104]⟩ : ByteArray)] from rfl) (Reps.one (show Kd.M Kd.string _ _ _ (⟨#[]⟩ : ByteArray) [.string (⟨#[]⟩ : ByteArray)] from rfl) (Reps.one (show Kd.M Kd.string _ _ _ (⟨#[119, 101, 105, 103, 104, 116]⟩ : ByteArray) [.string (⟨#[119, 101, 105, 103, 104, 116]⟩ : ByteArray)] from rfl) (Reps.one (show Kd.M Kd.string _ _ _ (⟨#[]⟩ : ByteArray) [.string (⟨#[]⟩ : ByteArray)] from rfl) (Reps.none _ _)))))))); intro v135 w55 ho56 hb hg_ hnew_; clear hg_ hnew_; (first | rw [← Ny134.out] at ho56 | (simp only [Int.reduceToNat] at ho56; rw [← Ny134.out] at ho56)); have n0_ := aS (Kd.R_elder' (sR HO129.out) (Kd.R_base ho56) hb); have n1_ := aS (Kd.R_lower (Kd.R_new' ho56 (Kd.R_lt (sR HO129.out))) (below_size (sW HB.out))); have n2_ := aS (blk_below (g := gb126) (o := .cells #[.string (⟨#[]⟩ : ByteArray), .int .i64 0, .int .i64 0, .int .i64 0] 45 (0, 0)) (sB BK126.out) hb); have n3_ := aS (Kd.C_below (by repeat (first | (with_reducible exact HR133.out) | (with_reducible refine Kd.C_alloc ?_ _) | (with_reducible refine Kd.C_drewN ?_ _) | (with_reducible refine Kd.C_drew ?_) | exact HR133.out)) hb); have n4_ := aS (below_step (sW HB.out) hb); clear HO129 BK126 HR133 HB; have HO129 := n0_; have HO136 := n1_; have BK126 := n2_; have HR133 := n3_; have HB := n4_; clear n0_ n1_ n2_ n3_ n4_; clear hb ho56; obtain ⟨Ao57, co57, eo57⟩ := Kd.R_slice HO136.out; subst eo57) | ((with_reducible refine gate_callee (f := 67) rfl ?_); refine goesL_ (some 14) rfl rfl Tryd.func67 (by kernel_rfl) rfl #[.slice A53 y130.length c53, .slice Ao57 y134.length co57] rfl sG ?_; (with_reducible refine (impl_numbersIn.calls k _ _ y130 _ _ y134 t137 false _ ?side5 ?side1 ?side2 ?side3 ?side4 A4.out).mono ?_); (case side1 => repeat (first | exact (by repeat (first | (with_reducible exact HR133.out) | (with_reducible refine Kd.C_alloc ?_ _) | (with_reducible refine Kd.C_drewN ?_ _) | (with_reducible refine Kd.C_drew ?_) | exact HR133.out)) | (with_reducible refine Kd.C_alloc ?_ _) | (with_reducible refine Kd.C_drewN ?_ _) | (with_reducible refine Kd.C_drew ?_))); (case side2 => exact HC133.out); (case side3 => exact sC (Kd.R_reads' HO136.out).2.2); (case side4 => exact (Kd.R_reads' HO136.out).2.1); (case side5 => exact Gnd.Tab.on hT (sW HB.out)); rintro e w58 ⟨v139, rfl, ho0, hb⟩; refine ⟨_, rfl, ?_⟩; have n0_ := aS (Kd.R_below (sR HO129.out) hb); have n1_ := aS (Kd.R_below (sR HO136.out) hb); have n2_ := aS (Kd.R_lower ho0 (below_size (sW HB.out))); have n3_ := aS (blk_below (g := gb126) (o := .cells #[.string (⟨#[]⟩ : ByteArray), .int .i64 0, .int .i64 0, .int .i64 0] 45 (0, 0)) (sB BK126.out) hb); have n4_ := aS (Kd.C_below (by repeat (first | (with_reducible exact HR133.out) | (with_reducible refine Kd.C_alloc ?_ _) | (with_reducible refine Kd.C_drewN ?_ _) | (with_reducible refine Kd.C_drew ?_) | exact HR133.out)) hb); have n5_ := aS (below_step (sW HB.out) hb); clear HO129 HO136 BK126 HR133 HB; have HO129 := n0_; have HO136 := n1_; have HO140 := n2_; have BK126 := n3_; have HR133 := n4_; have HB := n5_; clear n0_ n1_ n2_ n3_ n4_ n5_; (try clear hb); (try clear hb2); (try clear hk); (try clear hi); (try clear ho0); have hcz59_0 : w58.cell? ⟨gb126, 0, none⟩ = some (.string (⟨#[]⟩ : ByteArray)) := (blk_cell BK126.out 0).trans rfl; have hcz59_1 : w58.cell? ⟨gb126, 1, none⟩ = some (.int .i64 0) := (blk_cell BK126.out 1).trans rfl; have hcz59_2 : w58.cell? ⟨gb126, 2, none⟩ = some (.int .i64 0) := (blk_cell BK126.out 2).trans rfl; have hcz59_3 : w58.cell? ⟨gb126, 3, none⟩ = some (.int .i64 0) := (blk_cell BK126.out 3).trans rfl; have hfz59_0 := blk_frozen BK126.out 0; have hfz59_1 := blk_frozen BK126.out 1; have hfz59_2 := blk_frozen BK126.out 2; have hfz59_3 := blk_frozen BK126.out 3))
   refine bodyPost_ret (results_ct rfl _ _ gb126 45 #[.string (⟨#[]⟩ : ByteArray), .int .i64 0, .int .i64 0, .int .i64 0] (0, 0) _ rfl (by (with_reducible repeat (first | refine blk_drewN ?_ _ | refine blk_drew ?_ | refine blk_alloc ?_ _)); refine blk_put (cs := #[.string (⟨#[]⟩ : ByteArray), .int .i64 0, .int .i64 0, .int .i64 0]) ?_ 3 _ rfl; (with_reducible repeat (first | refine blk_drewN ?_ _ | refine blk_drew ?_ | refine blk_alloc ?_ _)); refine blk_put (cs := #[.string (⟨#[]⟩ : ByteArray), .int .i64 0, .int .i64 0, .int .i64 0]) ?_ 2 _ rfl; (with_reducible repeat (first | refine blk_drewN ?_ _ | refine blk_drew ?_ | refine blk_alloc ?_ _)); refine blk_put (cs := #[.string (⟨#[]⟩ : ByteArray), .int .i64 0, .int .i64 0, .int .i64 0]) ?_ 1 _ rfl; (with_reducible repeat (first | refine blk_drewN ?_ _ | refine blk_drew ?_ | refine blk_alloc ?_ _)); refine blk_put (cs := #[.string (⟨#[]⟩ : ByteArray), .int .i64 0, .int .i64 0, .int .i64 0]) ?_ 0 _ rfl; (with_reducible repeat (first | refine blk_drewN ?_ _ | refine blk_drew ?_ | refine blk_alloc ?_ _)); exact BK126.out) Tryd.underlying45 rfl (by kernel_rfl)) rfl ?_
   exact ⟨by first | rfl | (simp [errW_none, errW_some, i64_w]; done) | (simp [errW_none, errW_some] <;> rfl) | (simp [*, errW_none, errW_some] <;> rfl), by repeat (first | (with_reducible first | exact HB.out | apply below_alloc | apply pw_below_drewN | apply below_drew1 | refine below_set ?_ GE126.out) | exact HB.out)⟩
  subst c5
  have H1 : (if 0 < (t127.length : Int) then (if 0 < (t137.length : Int) then (if 1 < (t137.length : Int) then (if 2 < (t137.length : Int) then ((impl_validRope.f k (rdOf ByteArray.empty t127 0) (rd t137 0) (rd t137 1) (rd t137 2)).bind fun t146 => (if t146 = true then (some (rdOf ByteArray.empty t127 0, rd t137 0, rd t137 1, rd t137 2, true)) else (some ((⟨#[]⟩ : ByteArray), 0, 0, 0, false)))) else (none)) else (none)) else (none)) else (none)) = some (r1, r2, r3, r4, r5) := by rw [if_pos rfl] at H; exact H
  clear H
  have H := H1
  clear H1
  by_cases c6 : 0 < (t127.length : Int)
  rotate_left
  ·
   rw [if_neg c6] at H
   exact absurd H (by simp)
  rw [if_pos c6] at H
  have c6b0 : decide (0 < (t127.length : Int)) = true := decide_eq_true c6
  have c6b1 : decide (0 < t127.length) = true := decide_eq_true (by omega)
  clear c6
  by_cases c7 : 0 < (t137.length : Int)
  rotate_left
  ·
   rw [if_neg c7] at H
   exact absurd H (by simp)
  rw [if_pos c7] at H
  have c7b0 : decide (0 < (t137.length : Int)) = true := decide_eq_true c7
  have c7b1 : decide (0 < t137.length) = true := decide_eq_true (by omega)
  clear c7
  by_cases c8 : 1 < (t137.length : Int)
  rotate_left
  ·
   rw [if_neg c8] at H
   exact absurd H (by simp)
  rw [if_pos c8] at H
  have c8b0 : decide (1 < (t137.length : Int)) = true := decide_eq_true c8
  have c8b1 : decide (1 < t137.length) = true := decide_eq_true (by omega)
  clear c8
  by_cases c9 : 2 < (t137.length : Int)
  rotate_left
  ·
   rw [if_neg c9] at H
   exact absurd H (by simp)
  rw [if_pos c9] at H
  have c9b0 : decide (2 < (t137.length : Int)) = true := decide_eq_true c9
  have c9b1 : decide (2 < t137.length) = true := decide_eq_true (by omega)
  clear c9
  replace H := Option.bind_eq_some_iff.mp H
  obtain ⟨t146, A100, H⟩ := H
  replace H : (if t146 = true then (some (rdOf ByteArray.empty t127 0, rd t137 0, rd t137 1, rd t137 2, true)) else (some ((⟨#[]⟩ : ByteArray), 0, 0, 0, false))) = some (r1, r2, r3, r4, r5) := H
  have A10 := aS A100
  clear A100
  by_cases c11 : t146 = true
  rotate_left
  ·
   replace c11 := Bool.eq_false_iff.mpr c11
   subst c11
   have H1 : (some ((⟨#[]⟩ : ByteArray), 0, 0, 0, false)) = some (r1, r2, r3, r4, r5) := by rw [if_neg (show ¬ (false = true) by decide)] at H; exact H
   clear H
   have H := H1
   clear H1
   simp only [Option.some.injEq, Prod.mk.injEq] at H
   obtain ⟨rfl, rfl, rfl, rfl, rfl⟩ := H
   go_enter Tryd.func33, Tryd.ntmps33
   try go_wp2_with (first | ((with_reducible refine gate_dst (N := 2) rfl ?_); refine box_event ?hg (N := 2) ?hd (cs := #[.string (⟨#[]⟩ : ByteArray), .int .i64 0, .int .i64 0, .int .i64 0]) (t := 45) ?hr ?_; (case hd => rfl); (case hg => rfl); (case hr => first | (go_simp; done) | (go_simp; rfl)); intro gb126 hg w32 hbox hb; have n0_ := aS (below_step (sW HB.out) hb); have n1_ := aS (hbox); have n2_ := aS ((by rw [hg]; exact (below_size (sW HB.out)) : w.heap.size ≤ gb126)); have n3_ := aS ((by rw [hg]; exact (below_size (sW HB.out)) : w.heap.size ≤ gb126)); clear HB; have HB := n0_; have BK126 := n1_; have GW126 := n2_; have GE126 := n3_; clear n0_ n1_ n2_ n3_; clear hb hbox hg) | ((with_reducible refine gate_callee (f := 58) rfl ?_); refine goesL_ (some 9) rfl rfl Tryd.func58 (by kernel_rfl) rfl #[.string a0, .string (⟨#[32]⟩ : ByteArray)] rfl sG ?_; (with_reducible refine (strings_Split.calls a0 (⟨#[32]⟩ : ByteArray) t127 _ ?side1 A2.out).mono ?_); (case side1 => exact Gnd.Max.on hM (sW HB.out)); rintro e w33 ⟨v128, rfl, ho0, hb⟩; refine ⟨_, rfl, ?_⟩; have n0_ := aS (Kd.R_lower ho0 (below_size (sW HB.out))); have n1_ := aS (blk_below (g := gb126) (o := .cells #[.string (⟨#[]⟩ : ByteArray), .int .i64 0, .int .i64 0, .int .i64 0] 45 (0, 0)) (sB BK126.out) hb); have n2_ := aS (below_step (sW HB.out) hb); clear BK126 HB; have HO129 := n0_; have BK126 := n1_; have HB := n2_; clear n0_ n1_ n2_; (try clear hb); (try clear hb2); (try clear hk); (try clear hi); (try clear ho0); obtain ⟨Ao35, co35, eo35⟩ := Kd.R_slice HO129.out; subst eo35; have q34 : (1 : Int) ≤ ((t127.length : Int) : Int) := of_decide_eq_true (by first | (with_reducible assumption) | assumption); obtain ⟨i034, hi034, _, hsz34, _⟩ := info_parts info9; have hroom34 : t127.length ≤ co35 := (Kd.R_reads' HO129.out).2.1; have hC34 : Kd.C Kd.string _ Ao35 t127.length t127 := (Kd.R_reads' HO129.out).2.2; have hcut34 := cut_from (P := Tryd.prog) 37 9 .i64 Tryd.underlying37 hi034 1 hsz34 Ao35 t127.length co35 1 (by omega) q34; have hr34 := Kd.C_drop (m := (1 : Int).toNat) (c := co35) hC34 (by omega) hroom34; obtain ⟨A34, hA34⟩ : ∃ A1, A1 = (if co35 = (1 : Int).toNat then Ao35 else (Ao35 : Option Addr).map (·.add ((1 : Int).toNat * 1))) := ⟨_, rfl⟩; obtain ⟨c34, hc34⟩ : ∃ c1, c1 = co35 - (1 : Int).toNat := ⟨_, rfl⟩; have hy34 : y130.length = t127.length - (1 : Int).toNat := (by rw [Ny130.out, List.length_drop] <;> omega); rw [show (t127).drop (1 : Int).toNat = y130 from Ny130.out.symm] at hr34; replace hr34 : Kd.C Kd.string _ A34 y130.length y130 := (by rw [hA34]; exact hr34); rw [← hy34, ← hA34, ← hc34] at hcut34; have HR133 := aS hr34; have HC133 := aS (show y130.length ≤ c34 from by rw [hy34, hc34]; exact Nat.sub_le_sub_right hroom34 _); clear hr34 hC34 hroom34 hi034 hsz34 hc34; have KY34 := aS hy34; have KA34 := aS hA34; clear hy34 hA34; have KL34 := aS (show 1 ≤ t127.length from by omega); replace q34 := eq_true q34) | ((with_reducible refine gate_dst (N := 13) rfl ?_); refine Kd.R_lit Kd.string _ 9 ?hg (N := 13) ?hd (xs := ([(⟨#[115, 105, 122, 101]⟩ : ByteArray), (⟨#[]⟩ : ByteArray), (⟨#[115, 116, 114, 101, 110, 103, 116, 104]⟩ : ByteArray), (⟨#[]⟩ : ByteArray), (⟨#[119, 101, 105, 103, 104, 116]⟩ : ByteArray), (⟨#[]⟩ : ByteArray)] : List ByteArray)) (inner := [.string (⟨#[115, 105, 122, 101]⟩ : ByteArray), .string (⟨#[]⟩ : ByteArray), .string (⟨#[115, 116, 114, 101, 110, 103, 116, 104]⟩ : ByteArray), .string (⟨#[]⟩ : ByteArray), .string (⟨#[119, 101, 105, 103, 104, 116]⟩ : ByteArray), .string (⟨#[]⟩ : ByteArray)]) (ok := fun _ => True) (okp := fun _ => True) ?hr ?hp (fun _ hk => hk) trivial (Below.refl _ _) (Nat.le_refl _) (by simp) ?_; (case hd => rfl); (case hg => rfl); (case hr => first | (go_simp; done) | (go_simp; rfl)); (case hp => exact (Reps.one (show Kd.M Kd.string _ _ _ (⟨#[115, 105, 122, 101]⟩ : ByteArray) [.string (⟨#[115, 105, 122, 101]⟩ : ByteArray)] from rfl) (Reps.one (show Kd.M Kd.string _ _ _ (⟨#[]⟩ : ByteArray) [.string (⟨#[]⟩ : ByteArray)] from rfl) (Reps.one (show Kd.M Kd.string _ _ _ (⟨#[115, 116, 114, 101, 110, 103, 116, 104]⟩ : ByteArray) [.string (⟨#[115, 116, 114, 101, 110, 103, 116, 104]⟩ : ByteArray)] from rfl) (Reps.one (show Kd.M Kd.string _ _ _ (⟨#[]⟩ : ByteArray) [.string (⟨#[]⟩ : ByteArray)] from rfl) (Reps.one (show Kd.M Kd.string _ _ _ (⟨#[119, 101, 105, 103, 104, 116]⟩ : ByteArray) [.string (⟨#[119, 101, 105, 103, 104, 116]⟩ : ByteArray)] from rfl) (Reps.one (show Kd.M Kd.string _ _ _ (⟨#[]⟩ : ByteArray) [.string (⟨#[]⟩ : ByteArray)] from rfl) (Reps.none _ _)))))))); intro v135 w36 ho37 hb hg_ hnew_; clear hg_ hnew_; (first | rw [← Ny134.out] at ho37 | (simp only [Int.reduceToNat] at ho37; rw [← Ny134.out] at ho37)); have n0_ := aS (Kd.R_elder' (sR HO129.out) (Kd.R_base ho37) hb); have n1_ := aS (Kd.R_lower (Kd.R_new' ho37 (Kd.R_lt (sR HO129.out))) (below_size (sW HB.out))); have n2_ := aS (blk_below (g := gb126) (o := .cells #[.string (⟨#[]⟩ : ByteArray), .int .i64 0, .int .i64 0, .int .i64 0] 45 (0, 0)) (sB BK126.out) hb); have n3_ := aS (Kd.C_below (by repeat (first | (with_reducible exact HR133.out) | (with_reducible refine Kd.C_alloc ?_ _) | (with_reducible refine Kd.C_drewN ?_ _) | (with_reducible refine Kd.C_drew ?_) | exact HR133.out)) hb); have n4_ := aS (below_step (sW HB.out) hb); clear HO129 BK126 HR133 HB; have HO129 := n0_; have HO136 := n1_; have BK126 := n2_; have HR133 := n3_; have HB := n4_; clear n0_ n1_ n2_ n3_ n4_; clear hb ho37; obtain ⟨Ao38, co38, eo38⟩ := Kd.R_slice HO136.out; subst eo38) | ((with_reducible refine gate_callee (f := 67) rfl ?_); refine goesL_ (some 14) rfl rfl Tryd.func67 (by kernel_rfl) rfl #[.slice A34 y130.length c34, .slice Ao38 y134.length co38] rfl sG ?_; (with_reducible refine (impl_numbersIn.calls k _ _ y130 _ _ y134 t137 true _ ?side5 ?side1 ?side2 ?side3 ?side4 A4.out).mono ?_); (case side1 => repeat (first | exact (by repeat (first | (with_reducible exact HR133.out) | (with_reducible refine Kd.C_alloc ?_ _) | (with_reducible refine Kd.C_drewN ?_ _) | (with_reducible refine Kd.C_drew ?_) | exact HR133.out)) | (with_reducible refine Kd.C_alloc ?_ _) | (with_reducible refine Kd.C_drewN ?_ _) | (with_reducible refine Kd.C_drew ?_))); (case side2 => exact HC133.out); (case side3 => exact sC (Kd.R_reads' HO136.out).2.2); (case side4 => exact (Kd.R_reads' HO136.out).2.1); (case side5 => exact Gnd.Tab.on hT (sW HB.out)); rintro e w39 ⟨v139, rfl, ho0, hb⟩; refine ⟨_, rfl, ?_⟩; have n0_ := aS (Kd.R_below (sR HO129.out) hb); have n1_ := aS (Kd.R_below (sR HO136.out) hb); have n2_ := aS (Kd.R_lower ho0 (below_size (sW HB.out))); have n3_ := aS (blk_below (g := gb126) (o := .cells #[.string (⟨#[]⟩ : ByteArray), .int .i64 0, .int .i64 0, .int .i64 0] 45 (0, 0)) (sB BK126.out) hb); have n4_ := aS (Kd.C_below (by repeat (first | (with_reducible exact HR133.out) | (with_reducible refine Kd.C_alloc ?_ _) | (with_reducible refine Kd.C_drewN ?_ _) | (with_reducible refine Kd.C_drew ?_) | exact HR133.out)) hb); have n5_ := aS (below_step (sW HB.out) hb); clear HO129 HO136 BK126 HR133 HB; have HO129 := n0_; have HO136 := n1_; have HO140 := n2_; have BK126 := n3_; have HR133 := n4_; have HB := n5_; clear n0_ n1_ n2_ n3_ n4_ n5_; (try clear hb); (try clear hb2); (try clear hk); (try clear hi); (try clear ho0)))
   have n0_ := aS (Kd.R_drew HO129.out)
   have n1_ := aS (Kd.R_drew HO136.out)
   have n2_ := aS (Kd.R_drew HO140.out)
   have n3_ := aS (blk_drew BK126.out)
   have n4_ := aS (Kd.C_drew HR133.out)
   have n5_ := aS (below_drew1 HB.out)
   clear HO129 HO136 HO140 BK126 HR133 HB
   have HO129 := n0_; have HO136 := n1_; have HO140 := n2_; have BK126 := n3_; have HR133 := n4_; have HB := n5_
   clear n0_ n1_ n2_ n3_ n4_ n5_
   have p141 : 0 ≤ (0 : Int) := (by omega)
   have q141 : 0 < (t127.length : Int) := of_decide_eq_true (by first | (with_reducible assumption) | assumption)
   obtain ⟨ad141, e141, hx141_0⟩ := Kd.at_string (Kd.R_reads' HO129.out).2.2 0 p141 q141
   cases e141
   have qi141 : (0 < t127.length) = True := eq_true (by omega)
   (try rw [show ((0 : Int)).toNat = 0 from rfl] at hx141_0)
   (try rw [Addr.add_zero'] at hx141_0)
   replace p141 := eq_true p141
   replace q141 := eq_true q141
   obtain ⟨Ao41, co41, eo41⟩ := Kd.R_slice HO140.out
   (first | subst eo41 | (injection eo41 with f1_ f2_ f3_; have f4_ := f1_.symm; have f5_ := f3_.symm; clear f1_ f2_ f3_; subst f4_; subst f5_))
   have p142 : 0 ≤ (0 : Int) := (by omega)
   have q142 : 0 < (t137.length : Int) := of_decide_eq_true (by first | (with_reducible assumption) | assumption)
   obtain ⟨ad142, e142, hx142_0⟩ := Kd.at_int (Kd.R_reads' HO140.out).2.2 0 p142 q142
   cases e142
   have qi142 : (0 < t137.length) = True := eq_true (by omega)
   (try rw [show ((0 : Int)).toNat = 0 from rfl] at hx142_0)
   (try rw [Addr.add_zero'] at hx142_0)
   replace p142 := eq_true p142
   replace q142 := eq_true q142
   have p143 : 0 ≤ (1 : Int) := (by omega)
   have q143 : 1 < (t137.length : Int) := of_decide_eq_true (by first | (with_reducible assumption) | assumption)
   obtain ⟨ad143, e143, hx143_0⟩ := Kd.at_int (Kd.R_reads' HO140.out).2.2 1 p143 q143
   obtain rfl : ad142 = ad143 := (by injection e143)
   (try simp only [show (1 : Int).toNat = 1 from rfl, Nat.reduceMul, Nat.reduceEqDiff, Go.Addr.add, ↓reduceIte] at hx143_0)
   have qi143 : (1 < t137.length) = True := eq_true (by omega)
   (try rw [show ((1 : Int)).toNat = 1 from rfl] at hx143_0)
   replace p143 := eq_true p143
   replace q143 := eq_true q143
   have p144 : 0 ≤ (2 : Int) := (by omega)
   have q144 : 2 < (t137.length : Int) := of_decide_eq_true (by first | (with_reducible assumption) | assumption)
   obtain ⟨ad144, e144, hx144_0⟩ := Kd.at_int (Kd.R_reads' HO140.out).2.2 2 p144 q144
   obtain rfl : ad142 = ad144 := (by injection e144)
   (try simp only [show (2 : Int).toNat = 2 from rfl, Nat.reduceMul, Nat.reduceEqDiff, Go.Addr.add, ↓reduceIte] at hx144_0)
   have qi144 : (2 < t137.length) = True := eq_true (by omega)
   (try rw [show ((2 : Int)).toNat = 2 from rfl] at hx144_0)
   replace p144 := eq_true p144
   replace q144 := eq_true q144
   refine start_ (n := 15) (S := fun w' => w'.cell? ad141 = some (.string (rdOf ByteArray.empty t127 0)) ∧ w'.cell? ad142 = some (.int .i64 (rd t137 0)) ∧ w'.cell? ⟨ad142.block, ad142.off + 1, none⟩ = some (.int .i64 (rd t137 1)) ∧ w'.cell? ⟨ad142.block, ad142.off + 2, none⟩ = some (.int .i64 (rd t137 2))) (ds := []) #[false, false, false, false, false, false, false, false, false, false, false, false, false, false, false] (by kernel_rfl) rfl rfl ⟨hx141_0, hx142_0, hx143_0, hx144_0⟩ (fun hHeld => ?_); refine with_tabW impl_ReadRope.tab5 impl_ReadRope.bits5 (fun HT_ HW_ => ?_)
   generalize w39.drew = w40 at HO129 HO136 HO140 BK126 HR133 HB hx141_0 hx142_0 hx143_0 hx144_0 hHeld ⊢
   refine pure_ (i := 0) (N := some 20) (v := ?_) (a' := ?_) (impl_ReadRope.bF 15 1) rfl rfl (any_of HT_.out (by kernel_rfl)) (fun _ _ _ h => h) (Or.inl ⟨by rfl, ?_⟩) ?_ ?_
   rotate_left
   ·
    intro w'
    go_simp
    with_reducible rfl
   rotate_left
   ·
    exact sP
   refine pure_ (i := 1) (N := some 21) (v := ?_) (a' := ?_) (impl_ReadRope.bF 15 3) rfl rfl (any_of HT_.out (by kernel_rfl)) (fun _ _ _ h => h) (Or.inl ⟨by rfl, ?_⟩) ?_ ?_
   rotate_left
   ·
    intro w'
    go_simp
    with_reducible rfl
   rotate_left
   ·
    exact sP
   refine pure_ (i := 3) (N := some 23) (v := ?_) (a' := ?_) (impl_ReadRope.bF 15 11) rfl rfl (any_of HT_.out (by kernel_rfl)) (fun _ _ _ h => h) (Or.inl ⟨by rfl, ?_⟩) ?_ ?_
   rotate_left
   ·
    intro w'
    go_simp
    with_reducible rfl
   rotate_left
   ·
    exact sP
   refine pure_ (i := 4) (N := some 24) (v := ?_) (a' := ?_) (impl_ReadRope.bF 15 27) rfl rfl (any_of HT_.out (by kernel_rfl)) (fun _ _ _ h => h) (Or.inl ⟨by rfl, ?_⟩) ?_ ?_
   rotate_left
   ·
    intro w'
    go_simp
    with_reducible rfl
   rotate_left
   ·
    exact sP
   refine pure_ (i := 6) (N := some 26) (v := ?_) (a' := ?_) (impl_ReadRope.bF 15 91) rfl rfl (any_of HT_.out (by kernel_rfl)) (fun _ _ _ h => h) (Or.inl ⟨by rfl, ?_⟩) ?_ ?_
   rotate_left
   ·
    intro w'
    go_simp
    with_reducible rfl
   rotate_left
   ·
    exact sP
   refine pure_ (i := 7) (N := some 27) (v := ?_) (a' := ?_) (impl_ReadRope.bF 15 219) rfl rfl (any_of HT_.out (by kernel_rfl)) (fun _ _ _ h => h) (Or.inl ⟨by rfl, ?_⟩) ?_ ?_
   rotate_left
   ·
    intro w'
    go_simp
    with_reducible rfl
   rotate_left
   ·
    exact sP
   refine pure_ (i := 9) (N := some 29) (v := ?_) (a' := ?_) (impl_ReadRope.bF 15 731) rfl rfl (any_of HT_.out (by kernel_rfl)) (fun _ _ _ h => h) (Or.inl ⟨by rfl, ?_⟩) ?_ ?_
   rotate_left
   ·
    intro w'
    go_simp
    with_reducible rfl
   rotate_left
   ·
    exact sP
   refine pure_ (i := 10) (N := some 30) (v := ?_) (a' := ?_) (impl_ReadRope.bF 15 1755) rfl rfl (any_of HT_.out (by kernel_rfl)) (fun _ _ _ h => h) (Or.inl ⟨by rfl, ?_⟩) ?_ ?_
   rotate_left
   ·
    intro w'
    go_simp
    with_reducible rfl
   rotate_left
   ·
    exact sP
   refine take_ (i := 2) (N := some 22) (v := ?_) (a' := ?_) (impl_ReadRope.bF 15 1759) rfl rfl (take_ofW HT_.out HW_.out (by kernel_rfl)) (fun _ _ _ h => h) (Or.inl ⟨by rfl, ?_⟩) hHeld ?_ ?_
   rotate_left
   ·
    rintro w' ⟨s0, s1, s2, s3⟩
    go_simp
    with_reducible rfl
   rotate_left
   ·
    exact sP
   refine take_ (i := 5) (N := some 25) (v := ?_) (a' := ?_) (impl_ReadRope.bF 15 1791) rfl rfl (take_ofW HT_.out HW_.out (by kernel_rfl)) (fun _ _ _ h => h) (Or.inl ⟨by rfl, ?_⟩) hHeld ?_ ?_
   rotate_left
   ·
    rintro w' ⟨s0, s1, s2, s3⟩
    go_simp
    with_reducible rfl
   rotate_left
   ·
    exact sP
   refine take_ (i := 8) (N := some 28) (v := ?_) (a' := ?_) (impl_ReadRope.bF 15 2047) rfl rfl (take_ofW HT_.out HW_.out (by kernel_rfl)) (fun _ _ _ h => h) (Or.inl ⟨by rfl, ?_⟩) hHeld ?_ ?_
   rotate_left
   ·
    rintro w' ⟨s0, s1, s2, s3⟩
    go_simp
    with_reducible rfl
   rotate_left
   ·
    exact sP
   refine take_ (i := 11) (N := some 31) (v := ?_) (a' := ?_) (impl_ReadRope.bF 15 4095) rfl rfl (take_ofW HT_.out HW_.out (by kernel_rfl)) (fun _ _ _ h => h) (Or.inl ⟨by rfl, ?_⟩) hHeld ?_ ?_
   rotate_left
   ·
    rintro w' ⟨s0, s1, s2, s3⟩
    go_simp
    with_reducible rfl
   rotate_left
   ·
    exact sP
   refine pure_ (i := 12) (N := some 32) (v := ?_) (a' := ?_) (impl_ReadRope.bF 15 8191) rfl rfl (any_of HT_.out (by kernel_rfl)) (fun _ _ _ h => h) (Or.inl ⟨by rfl, ?_⟩) ?_ ?_
   rotate_left
   ·
    intro w'
    go_simp
    with_reducible rfl
   rotate_left
   ·
    exact sP
   refine one_ (i := 13) (N := some 7) #[true, true, true, true, true, true, true, true, true, true, true, true, true, true, false] rfl rfl (one_of HT_.out (by kernel_rfl)) (by decide) (fun K hK => ?_)
   refine box_step ?hg (N := 7) ?hd (cs := #[.string (⟨#[]⟩ : ByteArray), .int .i64 0, .int .i64 0, .int .i64 0]) (t := 45) ?hr ?_; (case hd => rfl); (case hg => rfl); (case hr => first | (go_simp; done) | (go_simp; rfl))
   intro gb145 hg w42 hbox hb
   have HS0_ := (hb.cell (World.block_lt_of_cell? _ _ (hHeld.1))).trans (hHeld.1)
   have HS1_ := (hb.cell (World.block_lt_of_cell? _ _ (hHeld.2.1))).trans (hHeld.2.1)
   have HS2_ := (hb.cell (World.block_lt_of_cell? _ _ (hHeld.2.2.1))).trans (hHeld.2.2.1)
   have HS3_ := (hb.cell (World.block_lt_of_cell? _ _ (hHeld.2.2.2))).trans (hHeld.2.2.2)
   have n0_ := aS (Kd.R_below (sR HO129.out) hb)
   have n1_ := aS (Kd.R_below (sR HO136.out) hb)
   have n2_ := aS (Kd.R_below (sR HO140.out) hb)
   have n3_ := aS (blk_below (g := gb126) (o := .cells #[.string (⟨#[]⟩ : ByteArray), .int .i64 0, .int .i64 0, .int .i64 0] 45 (0, 0)) (sB BK126.out) hb)
   have n4_ := aS (Kd.C_below (by repeat (first | (with_reducible exact HR133.out) | (with_reducible refine Kd.C_alloc ?_ _) | (with_reducible refine Kd.C_drewN ?_ _) | (with_reducible refine Kd.C_drew ?_) | exact HR133.out)) hb)
   have n5_ := aS (below_step (sW HB.out) hb)
   have n6_ := aS (hbox)
   have n7_ := aS ((by rw [hg]; exact (below_size (sW HB.out)) : w.heap.size ≤ gb145))
   have n8_ := aS ((by rw [hg]; exact (below_size (sW HB.out)) : w.heap.size ≤ gb145))
   have n9_ := aS ((by rw [hg]; exact Nat.ne_of_lt (blk_lt (g := gb126) (o := .cells #[.string (⟨#[]⟩ : ByteArray), .int .i64 0, .int .i64 0, .int .i64 0] 45 (0, 0)) (sB BK126.out)) : gb126 ≠ gb145))
   have n10_ := aS ((by rw [hg]; exact Nat.ne_of_gt (blk_lt (g := gb126) (o := .cells #[.string (⟨#[]⟩ : ByteArray), .int .i64 0, .int .i64 0, .int .i64 0] 45 (0, 0)) (sB BK126.out)) : gb145 ≠ gb126))
   clear HO129 HO136 HO140 BK126 HR133 HB
   have HO129 := n0_; have HO136 := n1_; have HO140 := n2_; have BK126 := n3_; have HR133 := n4_; have HB := n5_; have BK145 := n6_; have GW145 := n7_; have GE145 := n8_; have NB126_145 := n9_; have NB145_126 := n10_
   clear n0_ n1_ n2_ n3_ n4_ n5_ n6_ n7_ n8_ n9_ n10_
   clear hb hbox hg
   refine hK.out _ _ ⟨HS0_, HS1_, HS2_, HS3_⟩ (fun hHeld => ?_)
   clear hK K
   refine norm_ (a' := ?_) ?_ ?_
   rotate_left
   ·
    show Act.put _ (some 7) _ = _
    exact sP
   refine one_ (i := 14) (N := none) #[true, true, true, true, true, true, true, true, true, true, true, true, true, true, true] rfl rfl (one_of HT_.out (by kernel_rfl)) (by decide) (fun K hK => ?_)
   have hs43 : w42.cell? ⟨gb145, 0, none⟩ = some (.string (⟨#[]⟩ : ByteArray)) := (blk_cell BK145.out 0).trans rfl
   have hfs43 := blk_frozen BK145.out 0
   have hns43_0 := NB126_145.out
   have hms43_0 := NB145_126.out
   have hs44 : w42.cell? ⟨gb145, 1, none⟩ = some (.int .i64 0) := (blk_cell BK145.out 1).trans rfl
   have hfs44 := blk_frozen BK145.out 1
   have hns44_0 := NB126_145.out
   have hms44_0 := NB145_126.out
   have hs45 : w42.cell? ⟨gb145, 2, none⟩ = some (.int .i64 0) := (blk_cell BK145.out 2).trans rfl
   have hfs45 := blk_frozen BK145.out 2
   have hns45_0 := NB126_145.out
   have hms45_0 := NB145_126.out
   have hs46 : w42.cell? ⟨gb145, 3, none⟩ = some (.int .i64 0) := (blk_cell BK145.out 3).trans rfl
   have hfs46 := blk_frozen BK145.out 3
   have hns46_0 := NB126_145.out
   have hms46_0 := NB145_126.out
   refine skip_ (w1 := ?_) (by rfl) rfl ?_ ?_
   rotate_left
   ·
    go_simp
    rfl
   refine hK.out _ _ ⟨((cell_far (p := ⟨gb145, _, none⟩) (by first | exact Kd.own_blk (Kd.R_ne HO129.out BK145.out (by decide)) | (rw [add_block]; exact Kd.own_blk (Kd.R_ne HO129.out BK145.out (by decide))) | (show (Addr.add _ _).block ≠ _; rw [add_block]; exact Kd.own_blk (Kd.R_ne HO129.out BK145.out (by decide))) | (dsimp only; exact Kd.own_blk (Kd.R_ne HO129.out BK145.out (by decide)))) _).trans (((cell_far (p := ⟨gb145, _, none⟩) (by first | exact Kd.own_blk (Kd.R_ne HO129.out BK145.out (by decide)) | (rw [add_block]; exact Kd.own_blk (Kd.R_ne HO129.out BK145.out (by decide))) | (show (Addr.add _ _).block ≠ _; rw [add_block]; exact Kd.own_blk (Kd.R_ne HO129.out BK145.out (by decide))) | (dsimp only; exact Kd.own_blk (Kd.R_ne HO129.out BK145.out (by decide)))) _).trans (((cell_far (p := ⟨gb145, _, none⟩) (by first | exact Kd.own_blk (Kd.R_ne HO129.out BK145.out (by decide)) | (rw [add_block]; exact Kd.own_blk (Kd.R_ne HO129.out BK145.out (by decide))) | (show (Addr.add _ _).block ≠ _; rw [add_block]; exact Kd.own_blk (Kd.R_ne HO129.out BK145.out (by decide))) | (dsimp only; exact Kd.own_blk (Kd.R_ne HO129.out BK145.out (by decide)))) _).trans (((cell_far (p := ⟨gb145, _, none⟩) (by first | exact Kd.own_blk (Kd.R_ne HO129.out BK145.out (by decide)) | (rw [add_block]; exact Kd.own_blk (Kd.R_ne HO129.out BK145.out (by decide))) | (show (Addr.add _ _).block ≠ _; rw [add_block]; exact Kd.own_blk (Kd.R_ne HO129.out BK145.out (by decide))) | (dsimp only; exact Kd.own_blk (Kd.R_ne HO129.out BK145.out (by decide)))) _).trans (hHeld.1)))))))), ((cell_far (p := ⟨gb145, _, none⟩) (by first | exact Kd.own_blk (Kd.R_ne HO140.out BK145.out (by decide)) | (rw [add_block]; exact Kd.own_blk (Kd.R_ne HO140.out BK145.out (by decide))) | (show (Addr.add _ _).block ≠ _; rw [add_block]; exact Kd.own_blk (Kd.R_ne HO140.out BK145.out (by decide))) | (dsimp only; exact Kd.own_blk (Kd.R_ne HO140.out BK145.out (by decide)))) _).trans (((cell_far (p := ⟨gb145, _, none⟩) (by first | exact Kd.own_blk (Kd.R_ne HO140.out BK145.out (by decide)) | (rw [add_block]; exact Kd.own_blk (Kd.R_ne HO140.out BK145.out (by decide))) | (show (Addr.add _ _).block ≠ _; rw [add_block]; exact Kd.own_blk (Kd.R_ne HO140.out BK145.out (by decide))) | (dsimp only; exact Kd.own_blk (Kd.R_ne HO140.out BK145.out (by decide)))) _).trans (((cell_far (p := ⟨gb145, _, none⟩) (by first | exact Kd.own_blk (Kd.R_ne HO140.out BK145.out (by decide)) | (rw [add_block]; exact Kd.own_blk (Kd.R_ne HO140.out BK145.out (by decide))) | (show (Addr.add _ _).block ≠ _; rw [add_block]; exact Kd.own_blk (Kd.R_ne HO140.out BK145.out (by decide))) | (dsimp only; exact Kd.own_blk (Kd.R_ne HO140.out BK145.out (by decide)))) _).trans (((cell_far (p := ⟨gb145, _, none⟩) (by first | exact Kd.own_blk (Kd.R_ne HO140.out BK145.out (by decide)) | (rw [add_block]; exact Kd.own_blk (Kd.R_ne HO140.out BK145.out (by decide))) | (show (Addr.add _ _).block ≠ _; rw [add_block]; exact Kd.own_blk (Kd.R_ne HO140.out BK145.out (by decide))) | (dsimp only; exact Kd.own_blk (Kd.R_ne HO140.out BK145.out (by decide)))) _).trans (hHeld.2.1)))))))), ((cell_far (p := ⟨gb145, _, none⟩) (by first | exact Kd.own_blk (Kd.R_ne HO140.out BK145.out (by decide)) | (rw [add_block]; exact Kd.own_blk (Kd.R_ne HO140.out BK145.out (by decide))) | (show (Addr.add _ _).block ≠ _; rw [add_block]; exact Kd.own_blk (Kd.R_ne HO140.out BK145.out (by decide))) | (dsimp only; exact Kd.own_blk (Kd.R_ne HO140.out BK145.out (by decide)))) _).trans (((cell_far (p := ⟨gb145, _, none⟩) (by first | exact Kd.own_blk (Kd.R_ne HO140.out BK145.out (by decide)) | (rw [add_block]; exact Kd.own_blk (Kd.R_ne HO140.out BK145.out (by decide))) | (show (Addr.add _ _).block ≠ _; rw [add_block]; exact Kd.own_blk (Kd.R_ne HO140.out BK145.out (by decide))) | (dsimp only; exact Kd.own_blk (Kd.R_ne HO140.out BK145.out (by decide)))) _).trans (((cell_far (p := ⟨gb145, _, none⟩) (by first | exact Kd.own_blk (Kd.R_ne HO140.out BK145.out (by decide)) | (rw [add_block]; exact Kd.own_blk (Kd.R_ne HO140.out BK145.out (by decide))) | (show (Addr.add _ _).block ≠ _; rw [add_block]; exact Kd.own_blk (Kd.R_ne HO140.out BK145.out (by decide))) | (dsimp only; exact Kd.own_blk (Kd.R_ne HO140.out BK145.out (by decide)))) _).trans (((cell_far (p := ⟨gb145, _, none⟩) (by first | exact Kd.own_blk (Kd.R_ne HO140.out BK145.out (by decide)) | (rw [add_block]; exact Kd.own_blk (Kd.R_ne HO140.out BK145.out (by decide))) | (show (Addr.add _ _).block ≠ _; rw [add_block]; exact Kd.own_blk (Kd.R_ne HO140.out BK145.out (by decide))) | (dsimp only; exact Kd.own_blk (Kd.R_ne HO140.out BK145.out (by decide)))) _).trans (hHeld.2.2.1)))))))), ((cell_far (p := ⟨gb145, _, none⟩) (by first | exact Kd.own_blk (Kd.R_ne HO140.out BK145.out (by decide)) | (rw [add_block]; exact Kd.own_blk (Kd.R_ne HO140.out BK145.out (by decide))) | (show (Addr.add _ _).block ≠ _; rw [add_block]; exact Kd.own_blk (Kd.R_ne HO140.out BK145.out (by decide))) | (dsimp only; exact Kd.own_blk (Kd.R_ne HO140.out BK145.out (by decide)))) _).trans (((cell_far (p := ⟨gb145, _, none⟩) (by first | exact Kd.own_blk (Kd.R_ne HO140.out BK145.out (by decide)) | (rw [add_block]; exact Kd.own_blk (Kd.R_ne HO140.out BK145.out (by decide))) | (show (Addr.add _ _).block ≠ _; rw [add_block]; exact Kd.own_blk (Kd.R_ne HO140.out BK145.out (by decide))) | (dsimp only; exact Kd.own_blk (Kd.R_ne HO140.out BK145.out (by decide)))) _).trans (((cell_far (p := ⟨gb145, _, none⟩) (by first | exact Kd.own_blk (Kd.R_ne HO140.out BK145.out (by decide)) | (rw [add_block]; exact Kd.own_blk (Kd.R_ne HO140.out BK145.out (by decide))) | (show (Addr.add _ _).block ≠ _; rw [add_block]; exact Kd.own_blk (Kd.R_ne HO140.out BK145.out (by decide))) | (dsimp only; exact Kd.own_blk (Kd.R_ne HO140.out BK145.out (by decide)))) _).trans (((cell_far (p := ⟨gb145, _, none⟩) (by first | exact Kd.own_blk (Kd.R_ne HO140.out BK145.out (by decide)) | (rw [add_block]; exact Kd.own_blk (Kd.R_ne HO140.out BK145.out (by decide))) | (show (Addr.add _ _).block ≠ _; rw [add_block]; exact Kd.own_blk (Kd.R_ne HO140.out BK145.out (by decide))) | (dsimp only; exact Kd.own_blk (Kd.R_ne HO140.out BK145.out (by decide)))) _).trans (hHeld.2.2.2))))))))⟩ (fun hHeld => ?_)
   clear hK K
   refine done_ (done_of HT_.out (by kernel_rfl)) ?_
   have hnb47 := NB145_126.out
   have hnc47 := NB126_145.out
   have hcz48_0 : w42.cell? ⟨gb145, 0, none⟩ = some (.string (⟨#[]⟩ : ByteArray)) := (blk_cell BK145.out 0).trans rfl
   have hcz48_1 : w42.cell? ⟨gb145, 1, none⟩ = some (.int .i64 0) := (blk_cell BK145.out 1).trans rfl
   have hcz48_2 : w42.cell? ⟨gb145, 2, none⟩ = some (.int .i64 0) := (blk_cell BK145.out 2).trans rfl
   have hcz48_3 : w42.cell? ⟨gb145, 3, none⟩ = some (.int .i64 0) := (blk_cell BK145.out 3).trans rfl
   have hfz48_0 := blk_frozen BK145.out 0
   have hfz48_1 := blk_frozen BK145.out 1
   have hfz48_2 := blk_frozen BK145.out 2
   have hfz48_3 := blk_frozen BK145.out 3
   try go_wp2_with (first | ((with_reducible refine gate_callee (f := 66) rfl ?_); refine goesL_ (some 34) rfl rfl Tryd.func66 (by kernel_rfl) rfl #[.agg #[.string (rdOf ByteArray.empty t127 0), .int .i64 (rd t137 0), .int .i64 (rd t137 1), .int .i64 (rd t137 2)]] rfl sG ?_; (with_reducible refine (impl_validRope.calls k (rdOf ByteArray.empty t127 0) (rd t137 0) (rd t137 1) (rd t137 2) false _ A10.out).mono ?_); rintro e w49 ⟨rfl, hb⟩; refine ⟨_, rfl, ?_⟩; have n0_ := aS (Kd.R_below (sR (Kd.R_mono (Kd.R_far (p := ⟨gb145, 3, none⟩) (Kd.R_far (p := ⟨gb145, 2, none⟩) (Kd.R_far (p := ⟨gb145, 1, none⟩) (Kd.R_far (p := ⟨gb145, 0, none⟩) (Kd.R_types HO129.out BK145.out (by decide)) (fun _ hk => hk.2) (.string (rdOf ByteArray.empty t127 0))) (fun _ hk => hk.2) (.int .i64 (rd t137 0))) (fun _ hk => hk.2) (.int .i64 (rd t137 1))) (fun _ hk => hk.2) (.int .i64 (rd t137 2))) (fun _ h_ => h_.1))) hb); have n1_ := aS (Kd.R_below (sR (Kd.R_mono (Kd.R_far (p := ⟨gb145, 3, none⟩) (Kd.R_far (p := ⟨gb145, 2, none⟩) (Kd.R_far (p := ⟨gb145, 1, none⟩) (Kd.R_far (p := ⟨gb145, 0, none⟩) (Kd.R_types HO136.out BK145.out (by decide)) (fun _ hk => hk.2) (.string (rdOf ByteArray.empty t127 0))) (fun _ hk => hk.2) (.int .i64 (rd t137 0))) (fun _ hk => hk.2) (.int .i64 (rd t137 1))) (fun _ hk => hk.2) (.int .i64 (rd t137 2))) (fun _ h_ => h_.1))) hb); have n2_ := aS (Kd.R_below (sR (Kd.R_mono (Kd.R_far (p := ⟨gb145, 3, none⟩) (Kd.R_far (p := ⟨gb145, 2, none⟩) (Kd.R_far (p := ⟨gb145, 1, none⟩) (Kd.R_far (p := ⟨gb145, 0, none⟩) (Kd.R_types HO140.out BK145.out (by decide)) (fun _ hk => hk.2) (.string (rdOf ByteArray.empty t127 0))) (fun _ hk => hk.2) (.int .i64 (rd t137 0))) (fun _ hk => hk.2) (.int .i64 (rd t137 1))) (fun _ hk => hk.2) (.int .i64 (rd t137 2))) (fun _ h_ => h_.1))) hb); have n3_ := aS (blk_below (g := gb126) (o := .cells #[.string (⟨#[]⟩ : ByteArray), .int .i64 0, .int .i64 0, .int .i64 0] 45 (0, 0)) (by (with_reducible repeat (first | refine blk_drewN ?_ _ | refine blk_drew ?_ | refine blk_alloc ?_ _)); refine blk_far ?_ NB126_145.out _; (with_reducible repeat (first | refine blk_drewN ?_ _ | refine blk_drew ?_ | refine blk_alloc ?_ _)); refine blk_far ?_ NB126_145.out _; (with_reducible repeat (first | refine blk_drewN ?_ _ | refine blk_drew ?_ | refine blk_alloc ?_ _)); refine blk_far ?_ NB126_145.out _; (with_reducible repeat (first | refine blk_drewN ?_ _ | refine blk_drew ?_ | refine blk_alloc ?_ _)); refine blk_far ?_ NB126_145.out _; (with_reducible repeat (first | refine blk_drewN ?_ _ | refine blk_drew ?_ | refine blk_alloc ?_ _)); exact BK126.out) hb); have n4_ := aS (blk_below (g := gb145) (o := .cells #[.string (rdOf ByteArray.empty t127 0), .int .i64 (rd t137 0), .int .i64 (rd t137 1), .int .i64 (rd t137 2)] 45 (0, 0)) (by (with_reducible repeat (first | refine blk_drewN ?_ _ | refine blk_drew ?_ | refine blk_alloc ?_ _)); refine blk_put (cs := #[.string (rdOf ByteArray.empty t127 0), .int .i64 (rd t137 0), .int .i64 (rd t137 1), .int .i64 0]) ?_ 3 _ rfl; (with_reducible repeat (first | refine blk_drewN ?_ _ | refine blk_drew ?_ | refine blk_alloc ?_ _)); refine blk_put (cs := #[.string (rdOf ByteArray.empty t127 0), .int .i64 (rd t137 0), .int .i64 0, .int .i64 0]) ?_ 2 _ rfl; (with_reducible repeat (first | refine blk_drewN ?_ _ | refine blk_drew ?_ | refine blk_alloc ?_ _)); refine blk_put (cs := #[.string (rdOf ByteArray.empty t127 0), .int .i64 0, .int .i64 0, .int .i64 0]) ?_ 1 _ rfl; (with_reducible repeat (first | refine blk_drewN ?_ _ | refine blk_drew ?_ | refine blk_alloc ?_ _)); refine blk_put (cs := #[.string (⟨#[]⟩ : ByteArray), .int .i64 0, .int .i64 0, .int .i64 0]) ?_ 0 _ rfl; (with_reducible repeat (first | refine blk_drewN ?_ _ | refine blk_drew ?_ | refine blk_alloc ?_ _)); exact BK145.out) hb); have n5_ := aS (below_step (sW HB.out) hb); clear HO129 HO136 HO140 BK126 BK145 HB; have HO129 := n0_; have HO136 := n1_; have HO140 := n2_; have BK126 := n3_; have BK145 := n4_; have HB := n5_; clear n0_ n1_ n2_ n3_ n4_ n5_; (try clear hb); (try clear hb2); (try clear hk); (try clear hi); have hcz50_0 : w49.cell? ⟨gb126, 0, none⟩ = some (.string (⟨#[]⟩ : ByteArray)) := (blk_cell BK126.out 0).trans rfl; have hcz50_1 : w49.cell? ⟨gb126, 1, none⟩ = some (.int .i64 0) := (blk_cell BK126.out 1).trans rfl; have hcz50_2 : w49.cell? ⟨gb126, 2, none⟩ = some (.int .i64 0) := (blk_cell BK126.out 2).trans rfl; have hcz50_3 : w49.cell? ⟨gb126, 3, none⟩ = some (.int .i64 0) := (blk_cell BK126.out 3).trans rfl; have hfz50_0 := blk_frozen BK126.out 0; have hfz50_1 := blk_frozen BK126.out 1; have hfz50_2 := blk_frozen BK126.out 2; have hfz50_3 := blk_frozen BK126.out 3))
   refine bodyPost_ret (results_ct rfl _ _ gb126 45 #[.string (⟨#[]⟩ : ByteArray), .int .i64 0, .int .i64 0, .int .i64 0] (0, 0) _ rfl (by (with_reducible repeat (first | refine blk_drewN ?_ _ | refine blk_drew ?_ | refine blk_alloc ?_ _)); refine blk_put (cs := #[.string (⟨#[]⟩ : ByteArray), .int .i64 0, .int .i64 0, .int .i64 0]) ?_ 3 _ rfl; (with_reducible repeat (first | refine blk_drewN ?_ _ | refine blk_drew ?_ | refine blk_alloc ?_ _)); refine blk_put (cs := #[.string (⟨#[]⟩ : ByteArray), .int .i64 0, .int .i64 0, .int .i64 0]) ?_ 2 _ rfl; (with_reducible repeat (first | refine blk_drewN ?_ _ | refine blk_drew ?_ | refine blk_alloc ?_ _)); refine blk_put (cs := #[.string (⟨#[]⟩ : ByteArray), .int .i64 0, .int .i64 0, .int .i64 0]) ?_ 1 _ rfl; (with_reducible repeat (first | refine blk_drewN ?_ _ | refine blk_drew ?_ | refine blk_alloc ?_ _)); refine blk_put (cs := #[.string (⟨#[]⟩ : ByteArray), .int .i64 0, .int .i64 0, .int .i64 0]) ?_ 0 _ rfl; (with_reducible repeat (first | refine blk_drewN ?_ _ | refine blk_drew ?_ | refine blk_alloc ?_ _)); exact BK126.out) Tryd.underlying45 rfl (by kernel_rfl)) rfl ?_
   exact ⟨by first | rfl | (simp [errW_none, errW_some, i64_w]; done) | (simp [errW_none, errW_some] <;> rfl) | (simp [*, errW_none, errW_some] <;> rfl), by repeat (first | (with_reducible first | exact HB.out | apply below_alloc | apply pw_below_drewN | apply below_drew1 | refine below_set ?_ GE126.out | refine below_set ?_ GE145.out) | exact HB.out)⟩
  subst c11
  have H1 : (some (rdOf ByteArray.empty t127 0, rd t137 0, rd t137 1, rd t137 2, true)) = some (r1, r2, r3, r4, r5) := by rw [if_pos rfl] at H; exact H
  clear H
  have H := H1
  clear H1
  simp only [Option.some.injEq, Prod.mk.injEq] at H
  obtain ⟨rfl, rfl, rfl, rfl, rfl⟩ := H
  go_enter Tryd.func33, Tryd.ntmps33
  try go_wp2_with (first | ((with_reducible refine gate_dst (N := 2) rfl ?_); refine box_event ?hg (N := 2) ?hd (cs := #[.string (⟨#[]⟩ : ByteArray), .int .i64 0, .int .i64 0, .int .i64 0]) (t := 45) ?hr ?_; (case hd => rfl); (case hg => rfl); (case hr => first | (go_simp; done) | (go_simp; rfl)); intro gb126 hg w12 hbox hb; have n0_ := aS (below_step (sW HB.out) hb); have n1_ := aS (hbox); have n2_ := aS ((by rw [hg]; exact (below_size (sW HB.out)) : w.heap.size ≤ gb126)); have n3_ := aS ((by rw [hg]; exact (below_size (sW HB.out)) : w.heap.size ≤ gb126)); clear HB; have HB := n0_; have BK126 := n1_; have GW126 := n2_; have GE126 := n3_; clear n0_ n1_ n2_ n3_; clear hb hbox hg) | ((with_reducible refine gate_callee (f := 58) rfl ?_); refine goesL_ (some 9) rfl rfl Tryd.func58 (by kernel_rfl) rfl #[.string a0, .string (⟨#[32]⟩ : ByteArray)] rfl sG ?_; (with_reducible refine (strings_Split.calls a0 (⟨#[32]⟩ : ByteArray) t127 _ ?side1 A2.out).mono ?_); (case side1 => exact Gnd.Max.on hM (sW HB.out)); rintro e w13 ⟨v128, rfl, ho0, hb⟩; refine ⟨_, rfl, ?_⟩; have n0_ := aS (Kd.R_lower ho0 (below_size (sW HB.out))); have n1_ := aS (blk_below (g := gb126) (o := .cells #[.string (⟨#[]⟩ : ByteArray), .int .i64 0, .int .i64 0, .int .i64 0] 45 (0, 0)) (sB BK126.out) hb); have n2_ := aS (below_step (sW HB.out) hb); clear BK126 HB; have HO129 := n0_; have BK126 := n1_; have HB := n2_; clear n0_ n1_ n2_; (try clear hb); (try clear hb2); (try clear hk); (try clear hi); (try clear ho0); obtain ⟨Ao15, co15, eo15⟩ := Kd.R_slice HO129.out; subst eo15; have q14 : (1 : Int) ≤ ((t127.length : Int) : Int) := of_decide_eq_true (by first | (with_reducible assumption) | assumption); obtain ⟨i014, hi014, _, hsz14, _⟩ := info_parts info9; have hroom14 : t127.length ≤ co15 := (Kd.R_reads' HO129.out).2.1; have hC14 : Kd.C Kd.string _ Ao15 t127.length t127 := (Kd.R_reads' HO129.out).2.2; have hcut14 := cut_from (P := Tryd.prog) 37 9 .i64 Tryd.underlying37 hi014 1 hsz14 Ao15 t127.length co15 1 (by omega) q14; have hr14 := Kd.C_drop (m := (1 : Int).toNat) (c := co15) hC14 (by omega) hroom14; obtain ⟨A14, hA14⟩ : ∃ A1, A1 = (if co15 = (1 : Int).toNat then Ao15 else (Ao15 : Option Addr).map (·.add ((1 : Int).toNat * 1))) := ⟨_, rfl⟩; obtain ⟨c14, hc14⟩ : ∃ c1, c1 = co15 - (1 : Int).toNat := ⟨_, rfl⟩; have hy14 : y130.length = t127.length - (1 : Int).toNat := (by rw [Ny130.out, List.length_drop] <;> omega); rw [show (t127).drop (1 : Int).toNat = y130 from Ny130.out.symm] at hr14; replace hr14 : Kd.C Kd.string _ A14 y130.length y130 := (by rw [hA14]; exact hr14); rw [← hy14, ← hA14, ← hc14] at hcut14; have HR133 := aS hr14; have HC133 := aS (show y130.length ≤ c14 from by rw [hy14, hc14]; exact Nat.sub_le_sub_right hroom14 _); clear hr14 hC14 hroom14 hi014 hsz14 hc14; have KY14 := aS hy14; have KA14 := aS hA14; clear hy14 hA14; have KL14 := aS (show 1 ≤ t127.length from by omega); replace q14 := eq_true q14) | ((with_reducible refine gate_dst (N := 13) rfl ?_); refine Kd.R_lit Kd.string _ 9 ?hg (N := 13) ?hd (xs := ([(⟨#[115, 105, 122, 101]⟩ : ByteArray), (⟨#[]⟩ : ByteArray), (⟨#[115, 116, 114, 101, 110, 103, 116, 104]⟩ : ByteArray), (⟨#[]⟩ : ByteArray), (⟨#[119, 101, 105, 103, 104, 116]⟩ : ByteArray), (⟨#[]⟩ : ByteArray)] : List ByteArray)) (inner := [.string (⟨#[115, 105, 122, 101]⟩ : ByteArray), .string (⟨#[]⟩ : ByteArray), .string (⟨#[115, 116, 114, 101, 110, 103, 116, 104]⟩ : ByteArray), .string (⟨#[]⟩ : ByteArray), .string (⟨#[119, 101, 105, 103, 104, 116]⟩ : ByteArray), .string (⟨#[]⟩ : ByteArray)]) (ok := fun _ => True) (okp := fun _ => True) ?hr ?hp (fun _ hk => hk) trivial (Below.refl _ _) (Nat.le_refl _) (by simp) ?_; (case hd => rfl); (case hg => rfl); (case hr => first | (go_simp; done) | (go_simp; rfl)); (case hp => exact (Reps.one (show Kd.M Kd.string _ _ _ (⟨#[115, 105, 122, 101]⟩ : ByteArray) [.string (⟨#[115, 105, 122, 101]⟩ : ByteArray)] from rfl) (Reps.one (show Kd.M Kd.string _ _ _ (⟨#[]⟩ : ByteArray) [.string (⟨#[]⟩ : ByteArray)] from rfl) (Reps.one (show Kd.M Kd.string _ _ _ (⟨#[115, 116, 114, 101, 110, 103, 116, 104]⟩ : ByteArray) [.string (⟨#[115, 116, 114, 101, 110, 103, 116, 104]⟩ : ByteArray)] from rfl) (Reps.one (show Kd.M Kd.string _ _ _ (⟨#[]⟩ : ByteArray) [.string (⟨#[]⟩ : ByteArray)] from rfl) (Reps.one (show Kd.M Kd.string _ _ _ (⟨#[119, 101, 105, 103, 104, 116]⟩ : ByteArray) [.string (⟨#[119, 101, 105, 103, 104, 116]⟩ : ByteArray)] from rfl) (Reps.one (show Kd.M Kd.string _ _ _ (⟨#[]⟩ : ByteArray) [.string (⟨#[]⟩ : ByteArray)] from rfl) (Reps.none _ _)))))))); intro v135 w16 ho17 hb hg_ hnew_; clear hg_ hnew_; (first | rw [← Ny134.out] at ho17 | (simp only [Int.reduceToNat] at ho17; rw [← Ny134.out] at ho17)); have n0_ := aS (Kd.R_elder' (sR HO129.out) (Kd.R_base ho17) hb); have n1_ := aS (Kd.R_lower (Kd.R_new' ho17 (Kd.R_lt (sR HO129.out))) (below_size (sW HB.out))); have n2_ := aS (blk_below (g := gb126) (o := .cells #[.string (⟨#[]⟩ : ByteArray), .int .i64 0, .int .i64 0, .int .i64 0] 45 (0, 0)) (sB BK126.out) hb); have n3_ := aS (Kd.C_below (by repeat (first | (with_reducible exact HR133.out) | (with_reducible refine Kd.C_alloc ?_ _) | (with_reducible refine Kd.C_drewN ?_ _) | (with_reducible refine Kd.C_drew ?_) | exact HR133.out)) hb); have n4_ := aS (below_step (sW HB.out) hb); clear HO129 BK126 HR133 HB; have HO129 := n0_; have HO136 := n1_; have BK126 := n2_; have HR133 := n3_; have HB := n4_; clear n0_ n1_ n2_ n3_ n4_; clear hb ho17; obtain ⟨Ao18, co18, eo18⟩ := Kd.R_slice HO136.out; subst eo18) | ((with_reducible refine gate_callee (f := 67) rfl ?_); refine goesL_ (some 14) rfl rfl Tryd.func67 (by kernel_rfl) rfl #[.slice A14 y130.length c14, .slice Ao18 y134.length co18] rfl sG ?_; (with_reducible refine (impl_numbersIn.calls k _ _ y130 _ _ y134 t137 true _ ?side5 ?side1 ?side2 ?side3 ?side4 A4.out).mono ?_); (case side1 => repeat (first | exact (by repeat (first | (with_reducible exact HR133.out) | (with_reducible refine Kd.C_alloc ?_ _) | (with_reducible refine Kd.C_drewN ?_ _) | (with_reducible refine Kd.C_drew ?_) | exact HR133.out)) | (with_reducible refine Kd.C_alloc ?_ _) | (with_reducible refine Kd.C_drewN ?_ _) | (with_reducible refine Kd.C_drew ?_))); (case side2 => exact HC133.out); (case side3 => exact sC (Kd.R_reads' HO136.out).2.2); (case side4 => exact (Kd.R_reads' HO136.out).2.1); (case side5 => exact Gnd.Tab.on hT (sW HB.out)); rintro e w19 ⟨v139, rfl, ho0, hb⟩; refine ⟨_, rfl, ?_⟩; have n0_ := aS (Kd.R_below (sR HO129.out) hb); have n1_ := aS (Kd.R_below (sR HO136.out) hb); have n2_ := aS (Kd.R_lower ho0 (below_size (sW HB.out))); have n3_ := aS (blk_below (g := gb126) (o := .cells #[.string (⟨#[]⟩ : ByteArray), .int .i64 0, .int .i64 0, .int .i64 0] 45 (0, 0)) (sB BK126.out) hb); have n4_ := aS (Kd.C_below (by repeat (first | (with_reducible exact HR133.out) | (with_reducible refine Kd.C_alloc ?_ _) | (with_reducible refine Kd.C_drewN ?_ _) | (with_reducible refine Kd.C_drew ?_) | exact HR133.out)) hb); have n5_ := aS (below_step (sW HB.out) hb); clear HO129 HO136 BK126 HR133 HB; have HO129 := n0_; have HO136 := n1_; have HO140 := n2_; have BK126 := n3_; have HR133 := n4_; have HB := n5_; clear n0_ n1_ n2_ n3_ n4_ n5_; (try clear hb); (try clear hb2); (try clear hk); (try clear hi); (try clear ho0)))
  have n0_ := aS (Kd.R_drew HO129.out)
  have n1_ := aS (Kd.R_drew HO136.out)
  have n2_ := aS (Kd.R_drew HO140.out)
  have n3_ := aS (blk_drew BK126.out)
  have n4_ := aS (Kd.C_drew HR133.out)
  have n5_ := aS (below_drew1 HB.out)
  clear HO129 HO136 HO140 BK126 HR133 HB
  have HO129 := n0_; have HO136 := n1_; have HO140 := n2_; have BK126 := n3_; have HR133 := n4_; have HB := n5_
  clear n0_ n1_ n2_ n3_ n4_ n5_
  have p141 : 0 ≤ (0 : Int) := (by omega)
  have q141 : 0 < (t127.length : Int) := of_decide_eq_true (by first | (with_reducible assumption) | assumption)
  obtain ⟨ad141, e141, hx141_0⟩ := Kd.at_string (Kd.R_reads' HO129.out).2.2 0 p141 q141
  cases e141
  have qi141 : (0 < t127.length) = True := eq_true (by omega)
  (try rw [show ((0 : Int)).toNat = 0 from rfl] at hx141_0)
  (try rw [Addr.add_zero'] at hx141_0)
  replace p141 := eq_true p141
  replace q141 := eq_true q141
  obtain ⟨Ao21, co21, eo21⟩ := Kd.R_slice HO140.out
  (first | subst eo21 | (injection eo21 with f1_ f2_ f3_; have f4_ := f1_.symm; have f5_ := f3_.symm; clear f1_ f2_ f3_; subst f4_; subst f5_))
  have p142 : 0 ≤ (0 : Int) := (by omega)
  have q142 : 0 < (t137.length : Int) := of_decide_eq_true (by first | (with_reducible assumption) | assumption)
  obtain ⟨ad142, e142, hx142_0⟩ := Kd.at_int (Kd.R_reads' HO140.out).2.2 0 p142 q142
  cases e142
  have qi142 : (0 < t137.length) = True := eq_true (by omega)
  (try rw [show ((0 : Int)).toNat = 0 from rfl] at hx142_0)
  (try rw [Addr.add_zero'] at hx142_0)
  replace p142 := eq_true p142
  replace q142 := eq_true q142
  have p143 : 0 ≤ (1 : Int) := (by omega)
  have q143 : 1 < (t137.length : Int) := of_decide_eq_true (by first | (with_reducible assumption) | assumption)
  obtain ⟨ad143, e143, hx143_0⟩ := Kd.at_int (Kd.R_reads' HO140.out).2.2 1 p143 q143
  obtain rfl : ad142 = ad143 := (by injection e143)
  (try simp only [show (1 : Int).toNat = 1 from rfl, Nat.reduceMul, Nat.reduceEqDiff, Go.Addr.add, ↓reduceIte] at hx143_0)
  have qi143 : (1 < t137.length) = True := eq_true (by omega)
  (try rw [show ((1 : Int)).toNat = 1 from rfl] at hx143_0)
  replace p143 := eq_true p143
  replace q143 := eq_true q143
  have p144 : 0 ≤ (2 : Int) := (by omega)
  have q144 : 2 < (t137.length : Int) := of_decide_eq_true (by first | (with_reducible assumption) | assumption)
  obtain ⟨ad144, e144, hx144_0⟩ := Kd.at_int (Kd.R_reads' HO140.out).2.2 2 p144 q144
  obtain rfl : ad142 = ad144 := (by injection e144)
  (try simp only [show (2 : Int).toNat = 2 from rfl, Nat.reduceMul, Nat.reduceEqDiff, Go.Addr.add, ↓reduceIte] at hx144_0)
  have qi144 : (2 < t137.length) = True := eq_true (by omega)
  (try rw [show ((2 : Int)).toNat = 2 from rfl] at hx144_0)
  replace p144 := eq_true p144
  replace q144 := eq_true q144
  refine start_ (n := 15) (S := fun w' => w'.cell? ad141 = some (.string (rdOf ByteArray.empty t127 0)) ∧ w'.cell? ad142 = some (.int .i64 (rd t137 0)) ∧ w'.cell? ⟨ad142.block, ad142.off + 1, none⟩ = some (.int .i64 (rd t137 1)) ∧ w'.cell? ⟨ad142.block, ad142.off + 2, none⟩ = some (.int .i64 (rd t137 2))) (ds := []) #[false, false, false, false, false, false, false, false, false, false, false, false, false, false, false] (by kernel_rfl) rfl rfl ⟨hx141_0, hx142_0, hx143_0, hx144_0⟩ (fun hHeld => ?_); refine with_tabW impl_ReadRope.tab5 impl_ReadRope.bits5 (fun HT_ HW_ => ?_)
  generalize w19.drew = w20 at HO129 HO136 HO140 BK126 HR133 HB hx141_0 hx142_0 hx143_0 hx144_0 hHeld ⊢
  refine pure_ (i := 0) (N := some 20) (v := ?_) (a' := ?_) (impl_ReadRope.bF 15 1) rfl rfl (any_of HT_.out (by kernel_rfl)) (fun _ _ _ h => h) (Or.inl ⟨by rfl, ?_⟩) ?_ ?_
  rotate_left
  ·
   intro w'
   go_simp
   with_reducible rfl
  rotate_left
  ·
   exact sP
  refine pure_ (i := 1) (N := some 21) (v := ?_) (a' := ?_) (impl_ReadRope.bF 15 3) rfl rfl (any_of HT_.out (by kernel_rfl)) (fun _ _ _ h => h) (Or.inl ⟨by rfl, ?_⟩) ?_ ?_
  rotate_left
  ·
   intro w'
   go_simp
   with_reducible rfl
  rotate_left
  ·
   exact sP
  refine pure_ (i := 3) (N := some 23) (v := ?_) (a' := ?_) (impl_ReadRope.bF 15 11) rfl rfl (any_of HT_.out (by kernel_rfl)) (fun _ _ _ h => h) (Or.inl ⟨by rfl, ?_⟩) ?_ ?_
  rotate_left
  ·
   intro w'
   go_simp
   with_reducible rfl
  rotate_left
  ·
   exact sP
  refine pure_ (i := 4) (N := some 24) (v := ?_) (a' := ?_) (impl_ReadRope.bF 15 27) rfl rfl (any_of HT_.out (by kernel_rfl)) (fun _ _ _ h => h) (Or.inl ⟨by rfl, ?_⟩) ?_ ?_
  rotate_left
  ·
   intro w'
   go_simp
   with_reducible rfl
  rotate_left
  ·
   exact sP
  refine pure_ (i := 6) (N := some 26) (v := ?_) (a' := ?_) (impl_ReadRope.bF 15 91) rfl rfl (any_of HT_.out (by kernel_rfl)) (fun _ _ _ h => h) (Or.inl ⟨by rfl, ?_⟩) ?_ ?_
  rotate_left
  ·
   intro w'
   go_simp
   with_reducible rfl
  rotate_left
  ·
   exact sP
  refine pure_ (i := 7) (N := some 27) (v := ?_) (a' := ?_) (impl_ReadRope.bF 15 219) rfl rfl (any_of HT_.out (by kernel_rfl)) (fun _ _ _ h => h) (Or.inl ⟨by rfl, ?_⟩) ?_ ?_
  rotate_left
  ·
   intro w'
   go_simp
   with_reducible rfl
  rotate_left
  ·
   exact sP
  refine pure_ (i := 9) (N := some 29) (v := ?_) (a' := ?_) (impl_ReadRope.bF 15 731) rfl rfl (any_of HT_.out (by kernel_rfl)) (fun _ _ _ h => h) (Or.inl ⟨by rfl, ?_⟩) ?_ ?_
  rotate_left
  ·
   intro w'
   go_simp
   with_reducible rfl
  rotate_left
  ·
   exact sP
  refine pure_ (i := 10) (N := some 30) (v := ?_) (a' := ?_) (impl_ReadRope.bF 15 1755) rfl rfl (any_of HT_.out (by kernel_rfl)) (fun _ _ _ h => h) (Or.inl ⟨by rfl, ?_⟩) ?_ ?_
  rotate_left
  ·
   intro w'
   go_simp
   with_reducible rfl
  rotate_left
  ·
   exact sP
  refine take_ (i := 2) (N := some 22) (v := ?_) (a' := ?_) (impl_ReadRope.bF 15 1759) rfl rfl (take_ofW HT_.out HW_.out (by kernel_rfl)) (fun _ _ _ h => h) (Or.inl ⟨by rfl, ?_⟩) hHeld ?_ ?_
  rotate_left
  ·
   rintro w' ⟨s0, s1, s2, s3⟩
   go_simp
   with_reducible rfl
  rotate_left
  ·
   exact sP
  refine take_ (i := 5) (N := some 25) (v := ?_) (a' := ?_) (impl_ReadRope.bF 15 1791) rfl rfl (take_ofW HT_.out HW_.out (by kernel_rfl)) (fun _ _ _ h => h) (Or.inl ⟨by rfl, ?_⟩) hHeld ?_ ?_
  rotate_left
  ·
   rintro w' ⟨s0, s1, s2, s3⟩
   go_simp
   with_reducible rfl
  rotate_left
  ·
   exact sP
  refine take_ (i := 8) (N := some 28) (v := ?_) (a' := ?_) (impl_ReadRope.bF 15 2047) rfl rfl (take_ofW HT_.out HW_.out (by kernel_rfl)) (fun _ _ _ h => h) (Or.inl ⟨by rfl, ?_⟩) hHeld ?_ ?_
  rotate_left
  ·
   rintro w' ⟨s0, s1, s2, s3⟩
   go_simp
   with_reducible rfl
  rotate_left
  ·
   exact sP
  refine take_ (i := 11) (N := some 31) (v := ?_) (a' := ?_) (impl_ReadRope.bF 15 4095) rfl rfl (take_ofW HT_.out HW_.out (by kernel_rfl)) (fun _ _ _ h => h) (Or.inl ⟨by rfl, ?_⟩) hHeld ?_ ?_
  rotate_left
  ·
   rintro w' ⟨s0, s1, s2, s3⟩
   go_simp
   with_reducible rfl
  rotate_left
  ·
   exact sP
  refine pure_ (i := 12) (N := some 32) (v := ?_) (a' := ?_) (impl_ReadRope.bF 15 8191) rfl rfl (any_of HT_.out (by kernel_rfl)) (fun _ _ _ h => h) (Or.inl ⟨by rfl, ?_⟩) ?_ ?_
  rotate_left
  ·
   intro w'
   go_simp
   with_reducible rfl
  rotate_left
  ·
   exact sP
  refine one_ (i := 13) (N := some 7) #[true, true, true, true, true, true, true, true, true, true, true, true, true, true, false] rfl rfl (one_of HT_.out (by kernel_rfl)) (by decide) (fun K hK => ?_)
  refine box_step ?hg (N := 7) ?hd (cs := #[.string (⟨#[]⟩ : ByteArray), .int .i64 0, .int .i64 0, .int .i64 0]) (t := 45) ?hr ?_; (case hd => rfl); (case hg => rfl); (case hr => first | (go_simp; done) | (go_simp; rfl))
  intro gb145 hg w22 hbox hb
  have HS0_ := (hb.cell (World.block_lt_of_cell? _ _ (hHeld.1))).trans (hHeld.1)
  have HS1_ := (hb.cell (World.block_lt_of_cell? _ _ (hHeld.2.1))).trans (hHeld.2.1)
  have HS2_ := (hb.cell (World.block_lt_of_cell? _ _ (hHeld.2.2.1))).trans (hHeld.2.2.1)
  have HS3_ := (hb.cell (World.block_lt_of_cell? _ _ (hHeld.2.2.2))).trans (hHeld.2.2.2)
  have n0_ := aS (Kd.R_below (sR HO129.out) hb)
  have n1_ := aS (Kd.R_below (sR HO136.out) hb)
  have n2_ := aS (Kd.R_below (sR HO140.out) hb)
  have n3_ := aS (blk_below (g := gb126) (o := .cells #[.string (⟨#[]⟩ : ByteArray), .int .i64 0, .int .i64 0, .int .i64 0] 45 (0, 0)) (sB BK126.out) hb)
  have n4_ := aS (Kd.C_below (by repeat (first | (with_reducible exact HR133.out) | (with_reducible refine Kd.C_alloc ?_ _) | (with_reducible refine Kd.C_drewN ?_ _) | (with_reducible refine Kd.C_drew ?_) | exact HR133.out)) hb)
  have n5_ := aS (below_step (sW HB.out) hb)
  have n6_ := aS (hbox)
  have n7_ := aS ((by rw [hg]; exact (below_size (sW HB.out)) : w.heap.size ≤ gb145))
  have n8_ := aS ((by rw [hg]; exact (below_size (sW HB.out)) : w.heap.size ≤ gb145))
  have n9_ := aS ((by rw [hg]; exact Nat.ne_of_lt (blk_lt (g := gb126) (o := .cells #[.string (⟨#[]⟩ : ByteArray), .int .i64 0, .int .i64 0, .int .i64 0] 45 (0, 0)) (sB BK126.out)) : gb126 ≠ gb145))
  have n10_ := aS ((by rw [hg]; exact Nat.ne_of_gt (blk_lt (g := gb126) (o := .cells #[.string (⟨#[]⟩ : ByteArray), .int .i64 0, .int .i64 0, .int .i64 0] 45 (0, 0)) (sB BK126.out)) : gb145 ≠ gb126))
  clear HO129 HO136 HO140 BK126 HR133 HB
  have HO129 := n0_; have HO136 := n1_; have HO140 := n2_; have BK126 := n3_; have HR133 := n4_; have HB := n5_; have BK145 := n6_; have GW145 := n7_; have GE145 := n8_; have NB126_145 := n9_; have NB145_126 := n10_
  clear n0_ n1_ n2_ n3_ n4_ n5_ n6_ n7_ n8_ n9_ n10_
  clear hb hbox hg
  refine hK.out _ _ ⟨HS0_, HS1_, HS2_, HS3_⟩ (fun hHeld => ?_)
  clear hK K
  refine norm_ (a' := ?_) ?_ ?_
  rotate_left
  ·
   show Act.put _ (some 7) _ = _
   exact sP
  refine one_ (i := 14) (N := none) #[true, true, true, true, true, true, true, true, true, true, true, true, true, true, true] rfl rfl (one_of HT_.out (by kernel_rfl)) (by decide) (fun K hK => ?_)
  have hs23 : w22.cell? ⟨gb145, 0, none⟩ = some (.string (⟨#[]⟩ : ByteArray)) := (blk_cell BK145.out 0).trans rfl
  have hfs23 := blk_frozen BK145.out 0
  have hns23_0 := NB126_145.out
  have hms23_0 := NB145_126.out
  have hs24 : w22.cell? ⟨gb145, 1, none⟩ = some (.int .i64 0) := (blk_cell BK145.out 1).trans rfl
  have hfs24 := blk_frozen BK145.out 1
  have hns24_0 := NB126_145.out
  have hms24_0 := NB145_126.out
  have hs25 : w22.cell? ⟨gb145, 2, none⟩ = some (.int .i64 0) := (blk_cell BK145.out 2).trans rfl
  have hfs25 := blk_frozen BK145.out 2
  have hns25_0 := NB126_145.out
  have hms25_0 := NB145_126.out
  have hs26 : w22.cell? ⟨gb145, 3, none⟩ = some (.int .i64 0) := (blk_cell BK145.out 3).trans rfl
  have hfs26 := blk_frozen BK145.out 3
  have hns26_0 := NB126_145.out
  have hms26_0 := NB145_126.out
  refine skip_ (w1 := ?_) (by rfl) rfl ?_ ?_
  rotate_left
  ·
   go_simp
   rfl
  refine hK.out _ _ ⟨((cell_far (p := ⟨gb145, _, none⟩) (by first | exact Kd.own_blk (Kd.R_ne HO129.out BK145.out (by decide)) | (rw [add_block]; exact Kd.own_blk (Kd.R_ne HO129.out BK145.out (by decide))) | (show (Addr.add _ _).block ≠ _; rw [add_block]; exact Kd.own_blk (Kd.R_ne HO129.out BK145.out (by decide))) | (dsimp only; exact Kd.own_blk (Kd.R_ne HO129.out BK145.out (by decide)))) _).trans (((cell_far (p := ⟨gb145, _, none⟩) (by first | exact Kd.own_blk (Kd.R_ne HO129.out BK145.out (by decide)) | (rw [add_block]; exact Kd.own_blk (Kd.R_ne HO129.out BK145.out (by decide))) | (show (Addr.add _ _).block ≠ _; rw [add_block]; exact Kd.own_blk (Kd.R_ne HO129.out BK145.out (by decide))) | (dsimp only; exact Kd.own_blk (Kd.R_ne HO129.out BK145.out (by decide)))) _).trans (((cell_far (p := ⟨gb145, _, none⟩) (by first | exact Kd.own_blk (Kd.R_ne HO129.out BK145.out (by decide)) | (rw [add_block]; exact Kd.own_blk (Kd.R_ne HO129.out BK145.out (by decide))) | (show (Addr.add _ _).block ≠ _; rw [add_block]; exact Kd.own_blk (Kd.R_ne HO129.out BK145.out (by decide))) | (dsimp only; exact Kd.own_blk (Kd.R_ne HO129.out BK145.out (by decide)))) _).trans (((cell_far (p := ⟨gb145, _, none⟩) (by first | exact Kd.own_blk (Kd.R_ne HO129.out BK145.out (by decide)) | (rw [add_block]; exact Kd.own_blk (Kd.R_ne HO129.out BK145.out (by decide))) | (show (Addr.add _ _).block ≠ _; rw [add_block]; exact Kd.own_blk (Kd.R_ne HO129.out BK145.out (by decide))) | (dsimp only; exact Kd.own_blk (Kd.R_ne HO129.out BK145.out (by decide)))) _).trans (hHeld.1)))))))), ((cell_far (p := ⟨gb145, _, none⟩) (by first | exact Kd.own_blk (Kd.R_ne HO140.out BK145.out (by decide)) | (rw [add_block]; exact Kd.own_blk (Kd.R_ne HO140.out BK145.out (by decide))) | (show (Addr.add _ _).block ≠ _; rw [add_block]; exact Kd.own_blk (Kd.R_ne HO140.out BK145.out (by decide))) | (dsimp only; exact Kd.own_blk (Kd.R_ne HO140.out BK145.out (by decide)))) _).trans (((cell_far (p := ⟨gb145, _, none⟩) (by first | exact Kd.own_blk (Kd.R_ne HO140.out BK145.out (by decide)) | (rw [add_block]; exact Kd.own_blk (Kd.R_ne HO140.out BK145.out (by decide))) | (show (Addr.add _ _).block ≠ _; rw [add_block]; exact Kd.own_blk (Kd.R_ne HO140.out BK145.out (by decide))) | (dsimp only; exact Kd.own_blk (Kd.R_ne HO140.out BK145.out (by decide)))) _).trans (((cell_far (p := ⟨gb145, _, none⟩) (by first | exact Kd.own_blk (Kd.R_ne HO140.out BK145.out (by decide)) | (rw [add_block]; exact Kd.own_blk (Kd.R_ne HO140.out BK145.out (by decide))) | (show (Addr.add _ _).block ≠ _; rw [add_block]; exact Kd.own_blk (Kd.R_ne HO140.out BK145.out (by decide))) | (dsimp only; exact Kd.own_blk (Kd.R_ne HO140.out BK145.out (by decide)))) _).trans (((cell_far (p := ⟨gb145, _, none⟩) (by first | exact Kd.own_blk (Kd.R_ne HO140.out BK145.out (by decide)) | (rw [add_block]; exact Kd.own_blk (Kd.R_ne HO140.out BK145.out (by decide))) | (show (Addr.add _ _).block ≠ _; rw [add_block]; exact Kd.own_blk (Kd.R_ne HO140.out BK145.out (by decide))) | (dsimp only; exact Kd.own_blk (Kd.R_ne HO140.out BK145.out (by decide)))) _).trans (hHeld.2.1)))))))), ((cell_far (p := ⟨gb145, _, none⟩) (by first | exact Kd.own_blk (Kd.R_ne HO140.out BK145.out (by decide)) | (rw [add_block]; exact Kd.own_blk (Kd.R_ne HO140.out BK145.out (by decide))) | (show (Addr.add _ _).block ≠ _; rw [add_block]; exact Kd.own_blk (Kd.R_ne HO140.out BK145.out (by decide))) | (dsimp only; exact Kd.own_blk (Kd.R_ne HO140.out BK145.out (by decide)))) _).trans (((cell_far (p := ⟨gb145, _, none⟩) (by first | exact Kd.own_blk (Kd.R_ne HO140.out BK145.out (by decide)) | (rw [add_block]; exact Kd.own_blk (Kd.R_ne HO140.out BK145.out (by decide))) | (show (Addr.add _ _).block ≠ _; rw [add_block]; exact Kd.own_blk (Kd.R_ne HO140.out BK145.out (by decide))) | (dsimp only; exact Kd.own_blk (Kd.R_ne HO140.out BK145.out (by decide)))) _).trans (((cell_far (p := ⟨gb145, _, none⟩) (by first | exact Kd.own_blk (Kd.R_ne HO140.out BK145.out (by decide)) | (rw [add_block]; exact Kd.own_blk (Kd.R_ne HO140.out BK145.out (by decide))) | (show (Addr.add _ _).block ≠ _; rw [add_block]; exact Kd.own_blk (Kd.R_ne HO140.out BK145.out (by decide))) | (dsimp only; exact Kd.own_blk (Kd.R_ne HO140.out BK145.out (by decide)))) _).trans (((cell_far (p := ⟨gb145, _, none⟩) (by first | exact Kd.own_blk (Kd.R_ne HO140.out BK145.out (by decide)) | (rw [add_block]; exact Kd.own_blk (Kd.R_ne HO140.out BK145.out (by decide))) | (show (Addr.add _ _).block ≠ _; rw [add_block]; exact Kd.own_blk (Kd.R_ne HO140.out BK145.out (by decide))) | (dsimp only; exact Kd.own_blk (Kd.R_ne HO140.out BK145.out (by decide)))) _).trans (hHeld.2.2.1)))))))), ((cell_far (p := ⟨gb145, _, none⟩) (by first | exact Kd.own_blk (Kd.R_ne HO140.out BK145.out (by decide)) | (rw [add_block]; exact Kd.own_blk (Kd.R_ne HO140.out BK145.out (by decide))) | (show (Addr.add _ _).block ≠ _; rw [add_block]; exact Kd.own_blk (Kd.R_ne HO140.out BK145.out (by decide))) | (dsimp only; exact Kd.own_blk (Kd.R_ne HO140.out BK145.out (by decide)))) _).trans (((cell_far (p := ⟨gb145, _, none⟩) (by first | exact Kd.own_blk (Kd.R_ne HO140.out BK145.out (by decide)) | (rw [add_block]; exact Kd.own_blk (Kd.R_ne HO140.out BK145.out (by decide))) | (show (Addr.add _ _).block ≠ _; rw [add_block]; exact Kd.own_blk (Kd.R_ne HO140.out BK145.out (by decide))) | (dsimp only; exact Kd.own_blk (Kd.R_ne HO140.out BK145.out (by decide)))) _).trans (((cell_far (p := ⟨gb145, _, none⟩) (by first | exact Kd.own_blk (Kd.R_ne HO140.out BK145.out (by decide)) | (rw [add_block]; exact Kd.own_blk (Kd.R_ne HO140.out BK145.out (by decide))) | (show (Addr.add _ _).block ≠ _; rw [add_block]; exact Kd.own_blk (Kd.R_ne HO140.out BK145.out (by decide))) | (dsimp only; exact Kd.own_blk (Kd.R_ne HO140.out BK145.out (by decide)))) _).trans (((cell_far (p := ⟨gb145, _, none⟩) (by first | exact Kd.own_blk (Kd.R_ne HO140.out BK145.out (by decide)) | (rw [add_block]; exact Kd.own_blk (Kd.R_ne HO140.out BK145.out (by decide))) | (show (Addr.add _ _).block ≠ _; rw [add_block]; exact Kd.own_blk (Kd.R_ne HO140.out BK145.out (by decide))) | (dsimp only; exact Kd.own_blk (Kd.R_ne HO140.out BK145.out (by decide)))) _).trans (hHeld.2.2.2))))))))⟩ (fun hHeld => ?_)
  clear hK K
  refine done_ (done_of HT_.out (by kernel_rfl)) ?_
  have hnb27 := NB145_126.out
  have hnc27 := NB126_145.out
  have hcz28_0 : w22.cell? ⟨gb145, 0, none⟩ = some (.string (⟨#[]⟩ : ByteArray)) := (blk_cell BK145.out 0).trans rfl
  have hcz28_1 : w22.cell? ⟨gb145, 1, none⟩ = some (.int .i64 0) := (blk_cell BK145.out 1).trans rfl
  have hcz28_2 : w22.cell? ⟨gb145, 2, none⟩ = some (.int .i64 0) := (blk_cell BK145.out 2).trans rfl
  have hcz28_3 : w22.cell? ⟨gb145, 3, none⟩ = some (.int .i64 0) := (blk_cell BK145.out 3).trans rfl
  have hfz28_0 := blk_frozen BK145.out 0
  have hfz28_1 := blk_frozen BK145.out 1
  have hfz28_2 := blk_frozen BK145.out 2
  have hfz28_3 := blk_frozen BK145.out 3
  try go_wp2_with (first | ((with_reducible refine gate_callee (f := 66) rfl ?_); refine goesL_ (some 34) rfl rfl Tryd.func66 (by kernel_rfl) rfl #[.agg #[.string (rdOf ByteArray.empty t127 0), .int .i64 (rd t137 0), .int .i64 (rd t137 1), .int .i64 (rd t137 2)]] rfl sG ?_; (with_reducible refine (impl_validRope.calls k (rdOf ByteArray.empty t127 0) (rd t137 0) (rd t137 1) (rd t137 2) true _ A10.out).mono ?_); rintro e w29 ⟨rfl, hb⟩; refine ⟨_, rfl, ?_⟩; have n0_ := aS (Kd.R_below (sR (Kd.R_mono (Kd.R_far (p := ⟨gb145, 3, none⟩) (Kd.R_far (p := ⟨gb145, 2, none⟩) (Kd.R_far (p := ⟨gb145, 1, none⟩) (Kd.R_far (p := ⟨gb145, 0, none⟩) (Kd.R_types HO129.out BK145.out (by decide)) (fun _ hk => hk.2) (.string (rdOf ByteArray.empty t127 0))) (fun _ hk => hk.2) (.int .i64 (rd t137 0))) (fun _ hk => hk.2) (.int .i64 (rd t137 1))) (fun _ hk => hk.2) (.int .i64 (rd t137 2))) (fun _ h_ => h_.1))) hb); have n1_ := aS (Kd.R_below (sR (Kd.R_mono (Kd.R_far (p := ⟨gb145, 3, none⟩) (Kd.R_far (p := ⟨gb145, 2, none⟩) (Kd.R_far (p := ⟨gb145, 1, none⟩) (Kd.R_far (p := ⟨gb145, 0, none⟩) (Kd.R_types HO136.out BK145.out (by decide)) (fun _ hk => hk.2) (.string (rdOf ByteArray.empty t127 0))) (fun _ hk => hk.2) (.int .i64 (rd t137 0))) (fun _ hk => hk.2) (.int .i64 (rd t137 1))) (fun _ hk => hk.2) (.int .i64 (rd t137 2))) (fun _ h_ => h_.1))) hb); have n2_ := aS (Kd.R_below (sR (Kd.R_mono (Kd.R_far (p := ⟨gb145, 3, none⟩) (Kd.R_far (p := ⟨gb145, 2, none⟩) (Kd.R_far (p := ⟨gb145, 1, none⟩) (Kd.R_far (p := ⟨gb145, 0, none⟩) (Kd.R_types HO140.out BK145.out (by decide)) (fun _ hk => hk.2) (.string (rdOf ByteArray.empty t127 0))) (fun _ hk => hk.2) (.int .i64 (rd t137 0))) (fun _ hk => hk.2) (.int .i64 (rd t137 1))) (fun _ hk => hk.2) (.int .i64 (rd t137 2))) (fun _ h_ => h_.1))) hb); have n3_ := aS (blk_below (g := gb126) (o := .cells #[.string (⟨#[]⟩ : ByteArray), .int .i64 0, .int .i64 0, .int .i64 0] 45 (0, 0)) (by (with_reducible repeat (first | refine blk_drewN ?_ _ | refine blk_drew ?_ | refine blk_alloc ?_ _)); refine blk_far ?_ NB126_145.out _; (with_reducible repeat (first | refine blk_drewN ?_ _ | refine blk_drew ?_ | refine blk_alloc ?_ _)); refine blk_far ?_ NB126_145.out _; (with_reducible repeat (first | refine blk_drewN ?_ _ | refine blk_drew ?_ | refine blk_alloc ?_ _)); refine blk_far ?_ NB126_145.out _; (with_reducible repeat (first | refine blk_drewN ?_ _ | refine blk_drew ?_ | refine blk_alloc ?_ _)); refine blk_far ?_ NB126_145.out _; (with_reducible repeat (first | refine blk_drewN ?_ _ | refine blk_drew ?_ | refine blk_alloc ?_ _)); exact BK126.out) hb); have n4_ := aS (blk_below (g := gb145) (o := .cells #[.string (rdOf ByteArray.empty t127 0), .int .i64 (rd t137 0), .int .i64 (rd t137 1), .int .i64 (rd t137 2)] 45 (0, 0)) (by (with_reducible repeat (first | refine blk_drewN ?_ _ | refine blk_drew ?_ | refine blk_alloc ?_ _)); refine blk_put (cs := #[.string (rdOf ByteArray.empty t127 0), .int .i64 (rd t137 0), .int .i64 (rd t137 1), .int .i64 0]) ?_ 3 _ rfl; (with_reducible repeat (first | refine blk_drewN ?_ _ | refine blk_drew ?_ | refine blk_alloc ?_ _)); refine blk_put (cs := #[.string (rdOf ByteArray.empty t127 0), .int .i64 (rd t137 0), .int .i64 0, .int .i64 0]) ?_ 2 _ rfl; (with_reducible repeat (first | refine blk_drewN ?_ _ | refine blk_drew ?_ | refine blk_alloc ?_ _)); refine blk_put (cs := #[.string (rdOf ByteArray.empty t127 0), .int .i64 0, .int .i64 0, .int .i64 0]) ?_ 1 _ rfl; (with_reducible repeat (first | refine blk_drewN ?_ _ | refine blk_drew ?_ | refine blk_alloc ?_ _)); refine blk_put (cs := #[.string (⟨#[]⟩ : ByteArray), .int .i64 0, .int .i64 0, .int .i64 0]) ?_ 0 _ rfl; (with_reducible repeat (first | refine blk_drewN ?_ _ | refine blk_drew ?_ | refine blk_alloc ?_ _)); exact BK145.out) hb); have n5_ := aS (below_step (sW HB.out) hb); clear HO129 HO136 HO140 BK126 BK145 HB; have HO129 := n0_; have HO136 := n1_; have HO140 := n2_; have BK126 := n3_; have BK145 := n4_; have HB := n5_; clear n0_ n1_ n2_ n3_ n4_ n5_; (try clear hb); (try clear hb2); (try clear hk); (try clear hi); have hcz30_0 : w29.cell? ⟨gb145, 0, none⟩ = some (.string (rdOf ByteArray.empty t127 0)) := (blk_cell BK145.out 0).trans rfl; have hcz30_1 : w29.cell? ⟨gb145, 1, none⟩ = some (.int .i64 (rd t137 0)) := (blk_cell BK145.out 1).trans rfl; have hcz30_2 : w29.cell? ⟨gb145, 2, none⟩ = some (.int .i64 (rd t137 1)) := (blk_cell BK145.out 2).trans rfl; have hcz30_3 : w29.cell? ⟨gb145, 3, none⟩ = some (.int .i64 (rd t137 2)) := (blk_cell BK145.out 3).trans rfl; have hfz30_0 := blk_frozen BK145.out 0; have hfz30_1 := blk_frozen BK145.out 1; have hfz30_2 := blk_frozen BK145.out 2; have hfz30_3 := blk_frozen BK145.out 3; have hcz31_0 : w29.cell? ⟨gb126, 0, none⟩ = some (.string (⟨#[]⟩ : ByteArray)) := (blk_cell BK126.out 0).trans rfl; have hcz31_1 : w29.cell? ⟨gb126, 1, none⟩ = some (.int .i64 0) := (blk_cell BK126.out 1).trans rfl; have hcz31_2 : w29.cell? ⟨gb126, 2, none⟩ = some (.int .i64 0) := (blk_cell BK126.out 2).trans rfl; have hcz31_3 : w29.cell? ⟨gb126, 3, none⟩ = some (.int .i64 0) := (blk_cell BK126.out 3).trans rfl; have hfz31_0 := blk_frozen BK126.out 0; have hfz31_1 := blk_frozen BK126.out 1; have hfz31_2 := blk_frozen BK126.out 2; have hfz31_3 := blk_frozen BK126.out 3))
  refine bodyPost_ret (results_ct rfl _ _ gb126 45 #[.string (rdOf ByteArray.empty t127 0), .int .i64 (rd t137 0), .int .i64 (rd t137 1), .int .i64 (rd t137 2)] (0, 0) _ rfl (by (with_reducible repeat (first | refine blk_drewN ?_ _ | refine blk_drew ?_ | refine blk_alloc ?_ _)); refine blk_put (cs := #[.string (rdOf ByteArray.empty t127 0), .int .i64 (rd t137 0), .int .i64 (rd t137 1), .int .i64 0]) ?_ 3 _ rfl; (with_reducible repeat (first | refine blk_drewN ?_ _ | refine blk_drew ?_ | refine blk_alloc ?_ _)); refine blk_put (cs := #[.string (rdOf ByteArray.empty t127 0), .int .i64 (rd t137 0), .int .i64 0, .int .i64 0]) ?_ 2 _ rfl; (with_reducible repeat (first | refine blk_drewN ?_ _ | refine blk_drew ?_ | refine blk_alloc ?_ _)); refine blk_put (cs := #[.string (rdOf ByteArray.empty t127 0), .int .i64 0, .int .i64 0, .int .i64 0]) ?_ 1 _ rfl; (with_reducible repeat (first | refine blk_drewN ?_ _ | refine blk_drew ?_ | refine blk_alloc ?_ _)); refine blk_put (cs := #[.string (⟨#[]⟩ : ByteArray), .int .i64 0, .int .i64 0, .int .i64 0]) ?_ 0 _ rfl; (with_reducible repeat (first | refine blk_drewN ?_ _ | refine blk_drew ?_ | refine blk_alloc ?_ _)); exact BK126.out) Tryd.underlying45 rfl (by kernel_rfl)) rfl ?_
  exact ⟨by first | rfl | (simp [errW_none, errW_some, i64_w]; done) | (simp [errW_none, errW_some] <;> rfl) | (simp [*, errW_none, errW_some] <;> rfl), by repeat (first | (with_reducible first | exact HB.out | apply below_alloc | apply pw_below_drewN | apply below_drew1 | refine below_set ?_ GE126.out | refine below_set ?_ GE145.out) | exact HB.out)⟩
 ·
  rw [if_neg c3] at H
  exact absurd H (by simp)

end Go.Proofs.YtginmioklkcgbaaDoor.QFnRopeLines

/- What the Go functions of this law compute, each as a Lean function, and that each call comes to that answer; written by a program of this session. No condition. -/
import Derived.Test.YtdgodlccejoibaaQFnExactSameLinex0
import Derived.Test.YtdgodlccejoibaaQFnExactSameLinex2
import Derived.Test.YtdgodlccejoibaaQFnExactSameLinex3
namespace Go.Proofs.Ytdgodlccejoibaa.QFnExactSameLine
open Go.RowKit Go.Proofs.YtdgodlccejoibaaW.PrintWords Go.Proofs.YtdgodlccejoibaaW.PrintLast Go.Proofs.YtdgodlccejoibaaW.PrintMore
attribute [local go_sem] max2_int min2_int max_two min_two max_three min_three max_four min_four   -- for this text's walks alone
set_option linter.unusedVariables false
set_option linter.unusedSimpArgs false

/-! ### laws_eqInt64S: function 59 -/
def laws_eqInt64S.l0 : Nat → List Int → List Int → Int → Option (Bool)
 | 0, _, _, _ => none
 | k + 1, x0, x1, x5 => if x5 < (x0.length : Int) then (if 0 ≤ x5 then (if x5 < (x1.length : Int) then (if (rd x0 x5) = (rd x1 x5) then (laws_eqInt64S.l0 k x0 x1 (wrap64 (x5 + 1))) else (some false)) else (none)) else (none)) else (some true)
def laws_eqInt64S.f (k : Nat) (l0 : List Int) (l1 : List Int) : Option (Bool) := if (l0.length : Int) = (l1.length : Int) then (laws_eqInt64S.l0 k l0 l1 0) else (some false)
theorem laws_eqInt64S.mono_l : ∀ k, (∀ y0 y1 y2, LeO (laws_eqInt64S.l0 k y0 y1 y2) (laws_eqInt64S.l0 (k + 1) y0 y1 y2))
 | 0 => fun _ _ _ r h => by simp [laws_eqInt64S.l0] at h
 | k + 1 => by
  have ih0 := laws_eqInt64S.mono_l k
  ·
   intro y0 y1 y2
   unfold laws_eqInt64S.l0
   repeat' first
   | (with_reducible exact ih0 _ _ _)
   | (with_reducible exact LeO.refl _)
   | (with_reducible exact LeO.none _)
   | (with_reducible refine LeO.ite ?_ ?_)
   | (with_reducible refine LeO.bind ?_ (fun _ => ?_))
   | exact ih0 _ _ _
   | exact LeO.none _
   | refine LeO.ite ?_ ?_
   | refine LeO.bind ?_ (fun _ => ?_)
theorem laws_eqInt64S.mono : ∀ a0 a1 k, LeO (laws_eqInt64S.f k a0 a1) (laws_eqInt64S.f (k + 1) a0 a1) := by
 intro a0 a1 k
 have ih0 := laws_eqInt64S.mono_l k
 unfold laws_eqInt64S.f
 repeat' first
   | (with_reducible exact ih0 _ _ _)
   | (with_reducible exact LeO.refl _)
   | (with_reducible exact LeO.none _)
   | (with_reducible refine LeO.ite ?_ ?_)
   | (with_reducible refine LeO.bind ?_ (fun _ => ?_))
   | exact ih0 _ _ _
   | exact LeO.none _
   | refine LeO.ite ?_ ?_
   | refine LeO.bind ?_ (fun _ => ?_)
set_option maxHeartbeats 8000000 in
set_option maxRecDepth 100000 in
theorem laws_eqInt64S.calls (k : Nat) (A0 : Option Addr) (c0 : Nat) (l0 : List Int) (A1 : Option Addr) (c1 : Nat) (l1 : List Int) (r : Bool) (w : World) (hr0 : Kd.C (Kd.int .i64) w A0 l0.length l0) (hc0 : l0.length ≤ c0) (hr1 : Kd.C (Kd.int .i64) w A1 l1.length l1) (hc1 : l1.length ≤ c1) (h : laws_eqInt64S.f k l0 l1 = some r) :
  Calls Try.prog 59 #[.slice A0 l0.length c0, .slice A1 l1.length c1] w fun e w' => e = .returned (.bool r) ∧ Drawn0 w w' := by
 have HR0 := aS hr0
 have HC0 := aS hc0
 clear hr0 hc0
 have HR1 := aS hr1
 have HC1 := aS hc1
 clear hr1 hc1
 have H : (if (l0.length : Int) = (l1.length : Int) then (laws_eqInt64S.l0 k l0 l1 0) else (some false)) = some r := h
 clear h
 by_cases c3 : (l0.length : Int) = (l1.length : Int)
 ·
  rw [if_pos c3] at H
  have c3b0 : ((l0.length : Int) == (l1.length : Int)) = true := beq_iff_eq.mpr c3
  have c3b1 : ((l0.length : Int) != (l1.length : Int)) = false := bne_eq_false_iff_eq.mpr c3
  have c3b2 : (l0.length == l1.length) = true := by first | simpa using c3 | (simp at c3 ⊢; omega)
  clear c3
  have H' := aS H
  clear H
  go_enter Try.func59, Try.ntmps59
  go_wp2
  repeat (go_quiet (fail); try go_wp2)
  go_loopg [5] k (fun kq v5 w' => ∃ (x5_1 : Int), v5 = .int .i64 x5_1 ∧ Aside0 (laws_eqInt64S.l0 kq l0 l1 x5_1 = some r) ∧ Aside0 (kq ≤ k) ∧ Drawn0 w w')
  case atStart => exact ⟨(0), (by first | rfl | (simp; done) | (simp [*]; done) | (simp only [i64_w]; done) | (simp [i64_w]; done)), H', ⟨Nat.le_refl _⟩, by repeat (first | exact Drawn0.refl _ | apply Drawn0.step)⟩
  case round =>
   clear H'
   (try clear c1); (try clear p2); (try clear c3); (try clear c3b0); (try clear c3b1); (try clear c3b2)
   obtain ⟨x5_1, rfl, HA, HK1, ⟨m1, rfl⟩⟩ := hrel
   cases gk with
   | zero => exact absurd HA.out (by simp [laws_eqInt64S.l0])
   | succ k1 =>
    have H := HA.out
    clear HA
    simp only [laws_eqInt64S.l0] at H
    by_cases c4 : x5_1 < (l0.length : Int)
    ·
     rw [if_pos c4] at H
     have c4b0 : decide (x5_1 < (l0.length : Int)) = true := decide_eq_true c4
     clear c4
     by_cases c5 : 0 ≤ x5_1
     ·
      rw [if_pos c5] at H
      have c5b0 : decide (0 ≤ x5_1) = true := decide_eq_true c5
      clear c5
      by_cases c6 : x5_1 < (l1.length : Int)
      ·
       rw [if_pos c6] at H
       have c6b0 : decide (x5_1 < (l1.length : Int)) = true := decide_eq_true c6
       clear c6
       by_cases c7 : (rd l0 x5_1) = (rd l1 x5_1)
       ·
        rw [if_pos c7] at H
        have c7b0 : ((rd l0 x5_1) == (rd l1 x5_1)) = true := beq_iff_eq.mpr c7
        have c7b1 : ((rd l0 x5_1) != (rd l1 x5_1)) = false := bne_eq_false_iff_eq.mpr c7
        clear c7
        have H' := aS H
        clear H
        have p148 : 0 ≤ (x5_1 : Int) := of_decide_eq_true (by first | (with_reducible assumption) | assumption)
        have q148 : x5_1 < (l0.length : Int) := of_decide_eq_true (by first | (with_reducible assumption) | assumption)
        obtain ⟨ad148, e148, hx148_0⟩ := Kd.at_int HR0.out x5_1 p148 q148
        cases e148
        replace p148 := eq_true p148
        replace q148 := eq_true q148
        have p149 : 0 ≤ (x5_1 : Int) := of_decide_eq_true (by first | (with_reducible assumption) | assumption)
        have q149 : x5_1 < (l1.length : Int) := of_decide_eq_true (by first | (with_reducible assumption) | assumption)
        obtain ⟨ad149, e149, hx149_0⟩ := Kd.at_int HR1.out x5_1 p149 q149
        cases e149
        replace p149 := eq_true p149
        replace q149 := eq_true q149
        go_wp2
        repeat (go_quiet (fail); try go_wp2)
        go_roundg k1
        case measure => have := HK1.out; omega
        case rel => exact ⟨(wrap64 (x5_1 + 1)), (by first | rfl | (simp; done) | (simp [*]; done) | (simp only [i64_w]; done) | (simp [i64_w]; done)), H', ⟨by have := HK1.out; omega⟩, by repeat (first | exact Drawn0.refl _ | apply Drawn0.step)⟩
       ·
        rw [if_neg c7] at H
        have c7b0 : ((rd l0 x5_1) == (rd l1 x5_1)) = false := beq_eq_false_iff_ne.mpr c7
        have c7b1 : ((rd l0 x5_1) != (rd l1 x5_1)) = true := bne_iff_ne.mpr c7
        obtain rfl := Option.some.inj H
        have p148 : 0 ≤ (x5_1 : Int) := of_decide_eq_true (by first | (with_reducible assumption) | assumption)
        have q148 : x5_1 < (l0.length : Int) := of_decide_eq_true (by first | (with_reducible assumption) | assumption)
        obtain ⟨ad148, e148, hx148_0⟩ := Kd.at_int HR0.out x5_1 p148 q148
        cases e148
        replace p148 := eq_true p148
        replace q148 := eq_true q148
        have p149 : 0 ≤ (x5_1 : Int) := of_decide_eq_true (by first | (with_reducible assumption) | assumption)
        have q149 : x5_1 < (l1.length : Int) := of_decide_eq_true (by first | (with_reducible assumption) | assumption)
        obtain ⟨ad149, e149, hx149_0⟩ := Kd.at_int HR1.out x5_1 p149 q149
        cases e149
        replace p149 := eq_true p149
        replace q149 := eq_true q149
        go_wp2
        repeat (go_quiet (fail); try go_wp2)
        go_ret
        exact ⟨by first | rfl | (simp; done) | (simp [*]; done) | (simp only [i64_w]; done) | (simp [i64_w]; done), by repeat (first | exact Drawn0.refl _ | apply Drawn0.step)⟩
      ·
       rw [if_neg c6] at H
       exact absurd H (by simp)
     ·
      rw [if_neg c5] at H
      exact absurd H (by simp)
    ·
     rw [if_neg c4] at H
     have c4b0 : decide (x5_1 < (l0.length : Int)) = false := decide_eq_false c4
     clear c4
     obtain rfl := Option.some.inj H
     go_wp2
     repeat (go_quiet (fail); try go_wp2)
     go_ret
     exact ⟨by first | rfl | (simp; done) | (simp [*]; done) | (simp only [i64_w]; done) | (simp [i64_w]; done), by repeat (first | exact Drawn0.refl _ | apply Drawn0.step)⟩
 ·
  rw [if_neg c3] at H
  have c3b0 : ((l0.length : Int) == (l1.length : Int)) = false := beq_eq_false_iff_ne.mpr c3
  have c3b1 : ((l0.length : Int) != (l1.length : Int)) = true := bne_iff_ne.mpr c3
  have c3b2 : (l0.length == l1.length) = false := by first | simpa using c3 | (simp at c3 ⊢; omega)
  obtain rfl := Option.some.inj H
  go_enter Try.func59, Try.ntmps59
  go_wp2
  repeat (go_quiet (fail); try go_wp2)
  go_ret
  exact ⟨by first | rfl | (simp; done) | (simp [*]; done) | (simp only [i64_w]; done) | (simp [i64_w]; done), by repeat (first | exact Drawn0.refl _ | apply Drawn0.step)⟩

/-! ### laws_eqLine: function 22 -/
def laws_eqLine.f (k : Nat) (l0_0 : List (S44)) (l0_1 : List Int) (l1_0 : List (S44)) (l1_1 : List Int) : Option (Bool) := (laws_eqLinePieceS.f k l0_0 l1_0).bind fun t152 => (if t152 = true then ((laws_eqInt64S.f k l0_1 l1_1).bind fun t153 => (if t153 = true then (some true) else (some false))) else (some false))
theorem laws_eqLine.mono : ∀ a0 a1 a2 a3 k, LeO (laws_eqLine.f k a0 a1 a2 a3) (laws_eqLine.f (k + 1) a0 a1 a2 a3) := by
 intro a0 a1 a2 a3 k
 unfold laws_eqLine.f
 repeat' first
   | (with_reducible exact laws_eqInt64S.mono _ _ _)
   | (with_reducible exact laws_eqLinePieceS.mono _ _ _)
   | (with_reducible exact LeO.refl _)
   | (with_reducible exact LeO.none _)
   | (with_reducible refine LeO.ite ?_ ?_)
   | (with_reducible refine LeO.bind ?_ (fun _ => ?_))
   | exact laws_eqInt64S.mono _ _ _
   | exact laws_eqLinePieceS.mono _ _ _
   | exact LeO.none _
   | refine LeO.ite ?_ ?_
   | refine LeO.bind ?_ (fun _ => ?_)
set_option maxHeartbeats 8000000 in
set_option maxRecDepth 100000 in
theorem laws_eqLine.calls (k : Nat) (A0_0 : Option Addr) (c0_0 : Nat) (l0_0 : List (S44)) (A0_1 : Option Addr) (c0_1 : Nat) (l0_1 : List Int) (A1_0 : Option Addr) (c1_0 : Nat) (l1_0 : List (S44)) (A1_1 : Option Addr) (c1_1 : Nat) (l1_1 : List Int) (r : Bool) (w : World) (hr0_0 : Kd.C k44 w A0_0 l0_0.length l0_0) (hc0_0 : l0_0.length ≤ c0_0) (hr0_1 : Kd.C (Kd.int .i64) w A0_1 l0_1.length l0_1) (hc0_1 : l0_1.length ≤ c0_1) (hr1_0 : Kd.C k44 w A1_0 l1_0.length l1_0) (hc1_0 : l1_0.length ≤ c1_0) (hr1_1 : Kd.C (Kd.int .i64) w A1_1 l1_1.length l1_1) (hc1_1 : l1_1.length ≤ c1_1) (h : laws_eqLine.f k l0_0 l0_1 l1_0 l1_1 = some r) :
  Calls Try.prog 22 #[.agg #[.slice A0_0 l0_0.length c0_0, .slice A0_1 l0_1.length c0_1], .agg #[.slice A1_0 l1_0.length c1_0, .slice A1_1 l1_1.length c1_1]] w fun e w' => e = .returned (.bool r) ∧ Below w.heap.size w w' := by
 have hu37 := Try.underlying37
 have HR0_0 := aS hr0_0
 have HC0_0 := aS hc0_0
 clear hr0_0 hc0_0
 have HR0_1 := aS hr0_1
 have HC0_1 := aS hc0_1
 clear hr0_1 hc0_1
 have HR1_0 := aS hr1_0
 have HC1_0 := aS hc1_0
 clear hr1_0 hc1_0
 have HR1_1 := aS hr1_1
 have HC1_1 := aS hc1_1
 clear hr1_1 hc1_1
 have HB := aS (Below.refl w.heap.size w)
 have H : ((laws_eqLinePieceS.f k l0_0 l1_0).bind fun t152 => (if t152 = true then ((laws_eqInt64S.f k l0_1 l1_1).bind fun t153 => (if t153 = true then (some true) else (some false))) else (some false))) = some r := h
 clear h
 replace H := Option.bind_eq_some_iff.mp H
 obtain ⟨t152, A30, H⟩ := H
 replace H : (if t152 = true then ((laws_eqInt64S.f k l0_1 l1_1).bind fun t153 => (if t153 = true then (some true) else (some false))) else (some false)) = some r := H
 have A3 := aS A30
 clear A30
 have HC4 := aS H
 clear H
 go_enter Try.func22, Try.ntmps22
 go_upto_if 10 with (first | ((with_reducible refine gate_dst (N := 2) rfl ?_); refine box_event ?hg (N := 2) ?hd (cs := #[.slice A0_0 l0_0.length c0_0, .slice A0_1 l0_1.length c0_1]) (t := 37) ?hr ?_; (case hd => rfl); (case hg => rfl); (case hr => first | (go_simp; done) | (go_simp; rfl)); intro gb150 hg w5 hbox hb; have n0_ := aS (below_step (sW HB.out) hb); have n1_ := aS (hbox); have n2_ := aS ((by rw [hg]; exact (below_size (sW HB.out)) : w.heap.size ≤ gb150)); have n3_ := aS ((by rw [hg]; exact (below_size (sW HB.out)) : w.heap.size ≤ gb150)); clear HB; have HB := n0_; have BK150 := n1_; have GW150 := n2_; have GE150 := n3_; clear n0_ n1_ n2_ n3_; clear hb hbox hg) | ((with_reducible refine gate_dst (N := 3) rfl ?_); refine box_event ?hg (N := 3) ?hd (cs := #[.slice A1_0 l1_0.length c1_0, .slice A1_1 l1_1.length c1_1]) (t := 37) ?hr ?_; (case hd => rfl); (case hg => rfl); (case hr => first | (go_simp; done) | (go_simp; rfl)); intro gb151 hg w6 hbox hb; have n0_ := aS (blk_below (g := gb150) (o := .cells #[.slice A0_0 l0_0.length c0_0, .slice A0_1 l0_1.length c0_1] 37 (0, 0)) (sB BK150.out) hb); have n1_ := aS (below_step (sW HB.out) hb); have n2_ := aS (hbox); have n3_ := aS ((by rw [hg]; exact (below_size (sW HB.out)) : w.heap.size ≤ gb151)); have n4_ := aS ((by rw [hg]; exact (below_size (sW HB.out)) : w.heap.size ≤ gb151)); have n5_ := aS ((by rw [hg]; exact Nat.ne_of_lt (blk_lt (g := gb150) (o := .cells #[.slice A0_0 l0_0.length c0_0, .slice A0_1 l0_1.length c0_1] 37 (0, 0)) (sB BK150.out)) : gb150 ≠ gb151)); have n6_ := aS ((by rw [hg]; exact Nat.ne_of_gt (blk_lt (g := gb150) (o := .cells #[.slice A0_0 l0_0.length c0_0, .slice A0_1 l0_1.length c0_1] 37 (0, 0)) (sB BK150.out)) : gb151 ≠ gb150)); clear BK150 HB; have BK150 := n0_; have HB := n1_; have BK151 := n2_; have GW151 := n3_; have GE151 := n4_; have NB150_151 := n5_; have NB151_150 := n6_; clear n0_ n1_ n2_ n3_ n4_ n5_ n6_; clear hb hbox hg; have hnb7 := NB150_151.out; have hnc7 := NB151_150.out; have hcz8_0 : w6.cell? ⟨gb150, 0, none⟩ = some (.slice A0_0 l0_0.length c0_0) := (blk_cell BK150.out 0).trans rfl; have hcz8_1 : w6.cell? ⟨gb150, 1, none⟩ = some (.slice A0_1 l0_1.length c0_1) := (blk_cell BK150.out 1).trans rfl; have hfz8_0 := blk_frozen BK150.out 0; have hfz8_1 := blk_frozen BK150.out 1; have hcz9_0 : w6.cell? ⟨gb151, 0, none⟩ = some (.slice A1_0 l1_0.length c1_0) := (blk_cell BK151.out 0).trans rfl; have hcz9_1 : w6.cell? ⟨gb151, 1, none⟩ = some (.slice A1_1 l1_1.length c1_1) := (blk_cell BK151.out 1).trans rfl; have hfz9_0 := blk_frozen BK151.out 0; have hfz9_1 := blk_frozen BK151.out 1) | ((with_reducible refine gate_callee (f := 58) rfl ?_); refine goesL_ (some 9) rfl rfl Try.func58 (by kernel_rfl) rfl #[.slice A0_0 l0_0.length c0_0, .slice A1_0 l1_0.length c1_0] rfl sG ?_; (with_reducible refine (laws_eqLinePieceS.calls k _ _ l0_0 _ _ l1_0 t152 _ ?side1 ?side2 ?side3 ?side4 A3.out).mono ?_); (case side1 => exact sC (Kd.C_below HR0_0.out HB.out)); (case side2 => exact HC0_0.out); (case side3 => exact sC (Kd.C_below HR1_0.out HB.out)); (case side4 => exact HC1_0.out); rintro e w10 ⟨rfl, hb⟩; refine ⟨_, rfl, ?_⟩; have n0_ := aS (blk_below (g := gb150) (o := .cells #[.slice A0_0 l0_0.length c0_0, .slice A0_1 l0_1.length c0_1] 37 (0, 0)) (sB BK150.out) hb); have n1_ := aS (blk_below (g := gb151) (o := .cells #[.slice A1_0 l1_0.length c1_0, .slice A1_1 l1_1.length c1_1] 37 (0, 0)) (sB BK151.out) hb); have n2_ := aS (below_step (sW HB.out) hb); clear BK150 BK151 HB; have BK150 := n0_; have BK151 := n1_; have HB := n2_; clear n0_ n1_ n2_; (try clear hb); (try clear hb2); (try clear hk); (try clear hi)))
 (try simp only [Act.put, List.setIfInBounds_toArray, List.set_cons_zero, List.set_cons_succ])
 have H := HC4.out
 clear HC4
 by_cases c11 : t152 = true
 ·
  subst c11
  have H1 : ((laws_eqInt64S.f k l0_1 l1_1).bind fun t153 => (if t153 = true then (some true) else (some false))) = some r := by rw [if_pos rfl] at H; exact H
  clear H
  have H := H1
  clear H1
  replace H := Option.bind_eq_some_iff.mp H
  obtain ⟨t153, A120, H⟩ := H
  replace H : (if t153 = true then (some true) else (some false)) = some r := H
  have A12 := aS A120
  clear A120
  have HC13 := aS H
  clear H
  have hnb14 := NB150_151.out
  have hnc14 := NB151_150.out
  have hcz15_0 : w10.cell? ⟨gb150, 0, none⟩ = some (.slice A0_0 l0_0.length c0_0) := (blk_cell BK150.out 0).trans rfl
  have hcz15_1 : w10.cell? ⟨gb150, 1, none⟩ = some (.slice A0_1 l0_1.length c0_1) := (blk_cell BK150.out 1).trans rfl
  have hfz15_0 := blk_frozen BK150.out 0
  have hfz15_1 := blk_frozen BK150.out 1
  have hcz16_0 : w10.cell? ⟨gb151, 0, none⟩ = some (.slice A1_0 l1_0.length c1_0) := (blk_cell BK151.out 0).trans rfl
  have hcz16_1 : w10.cell? ⟨gb151, 1, none⟩ = some (.slice A1_1 l1_1.length c1_1) := (blk_cell BK151.out 1).trans rfl
  have hfz16_0 := blk_frozen BK151.out 0
  have hfz16_1 := blk_frozen BK151.out 1
  go_upto_if 16 with (first | ((with_reducible refine gate_callee (f := 59) rfl ?_); refine goesL_ (some 15) rfl rfl Try.func59 (by kernel_rfl) rfl #[.slice A0_1 l0_1.length c0_1, .slice A1_1 l1_1.length c1_1] rfl sG ?_; (with_reducible refine (laws_eqInt64S.calls k _ _ l0_1 _ _ l1_1 t153 _ ?side1 ?side2 ?side3 ?side4 A12.out).mono ?_); (case side1 => exact sC (Kd.C_below HR0_1.out HB.out)); (case side2 => exact HC0_1.out); (case side3 => exact sC (Kd.C_below HR1_1.out HB.out)); (case side4 => exact HC1_1.out); rintro e w' ⟨rfl, ⟨nd, rfl⟩⟩; refine ⟨_, rfl, ?_⟩))
  (try simp only [Act.put, List.setIfInBounds_toArray, List.set_cons_zero, List.set_cons_succ])
  have H := HC13.out
  clear HC13
  by_cases c17 : t153 = true
  ·
   subst c17
   have H1 : (some true) = some r := by rw [if_pos rfl] at H; exact H
   clear H
   have H := H1
   clear H1
   obtain rfl := Option.some.inj H
   go_wp2
   go_ret
   exact ⟨by first | rfl | (simp [errW_none, errW_some, i64_w]; done) | (simp [errW_none, errW_some] <;> rfl) | (simp [*, errW_none, errW_some] <;> rfl), by repeat (first | (with_reducible first | exact HB.out | apply below_alloc | apply pw_below_drewN | apply below_drew1) | exact HB.out)⟩
  ·
   replace c17 := Bool.eq_false_iff.mpr c17
   subst c17
   have H1 : (some false) = some r := by rw [if_neg (show ¬ (false = true) by decide)] at H; exact H
   clear H
   have H := H1
   clear H1
   obtain rfl := Option.some.inj H
   go_wp2
   go_ret
   exact ⟨by first | rfl | (simp [errW_none, errW_some, i64_w]; done) | (simp [errW_none, errW_some] <;> rfl) | (simp [*, errW_none, errW_some] <;> rfl), by repeat (first | (with_reducible first | exact HB.out | apply below_alloc | apply pw_below_drewN | apply below_drew1) | exact HB.out)⟩
 ·
  replace c11 := Bool.eq_false_iff.mpr c11
  subst c11
  have H1 : (some false) = some r := by rw [if_neg (show ¬ (false = true) by decide)] at H; exact H
  clear H
  have H := H1
  clear H1
  obtain rfl := Option.some.inj H
  go_wp2
  go_ret
  exact ⟨by first | rfl | (simp [errW_none, errW_some, i64_w]; done) | (simp [errW_none, errW_some] <;> rfl) | (simp [*, errW_none, errW_some] <;> rfl), by repeat (first | (with_reducible first | exact HB.out | apply below_alloc | apply pw_below_drewN | apply below_drew1) | exact HB.out)⟩

/-! ### laws_FnExactSameLine: function 4 -/
def laws_FnExactSameLine.f (k : Nat) (l0_0 : List (S41)) (l0_1 : List Int) (l1_0 : List (S41)) (l1_1 : List Int) : Option (Bool) := (laws_szLine.f l0_0 l0_1 1048576).bind fun t156 => (if t156 < 0 then (some true) else ((laws_szLine.f l1_0 l1_1 t156).bind fun t157 => (if t157 < 0 then (some true) else ((laws_toLine.f k l0_0 l0_1).bind fun bt158 => ((laws_toLine.f k l1_0 l1_1).bind fun bt164 => ((spec_SameLine.f k bt158.1 bt158.2 bt164.1 bt164.2).bind fun t170 => ((laws_toLine.f k l0_0 l0_1).bind fun bt171 => ((laws_toLine.f k l1_0 l1_1).bind fun bt178 => ((impl_SameLine.f k bt171.1 bt171.2 bt178.1 bt178.2).bind fun t185 => (if (t185 != t170) = true then (some false) else ((laws_toLine.f k l0_0 l0_1).bind fun bt186 => ((laws_eqLine.f k bt171.1 bt171.2 bt186.1 bt186.2).bind fun t192 => (if t192 = true then ((laws_toLine.f k l1_0 l1_1).bind fun bt193 => ((laws_eqLine.f k bt178.1 bt178.2 bt193.1 bt193.2).bind fun t199 => (if t199 = true then (some true) else (some false)))) else (some false))))))))))))))
theorem laws_FnExactSameLine.mono : ∀ a0 a1 a2 a3 k, LeO (laws_FnExactSameLine.f k a0 a1 a2 a3) (laws_FnExactSameLine.f (k + 1) a0 a1 a2 a3) := by
 intro a0 a1 a2 a3 k
 unfold laws_FnExactSameLine.f
 repeat' first
   | (with_reducible exact impl_SameLine.mono _ _ _ _ _)
   | (with_reducible exact laws_eqLine.mono _ _ _ _ _)
   | (with_reducible exact laws_toLine.mono _ _ _)
   | (with_reducible exact spec_SameLine.mono _ _ _ _ _)
   | (with_reducible exact LeO.refl _)
   | (with_reducible exact LeO.none _)
   | (with_reducible refine LeO.ite ?_ ?_)
   | (with_reducible refine LeO.bind ?_ (fun _ => ?_))
   | exact impl_SameLine.mono _ _ _ _ _
   | exact laws_eqLine.mono _ _ _ _ _
   | exact laws_toLine.mono _ _ _
   | exact spec_SameLine.mono _ _ _ _ _
   | exact LeO.none _
   | refine LeO.ite ?_ ?_
   | refine LeO.bind ?_ (fun _ => ?_)
set_option maxHeartbeats 8000000 in
set_option maxRecDepth 100000 in
theorem laws_FnExactSameLine.calls (k : Nat) (A0_0 : Option Addr) (c0_0 : Nat) (l0_0 : List (S41)) (A0_1 : Option Addr) (c0_1 : Nat) (l0_1 : List Int) (A1_0 : Option Addr) (c1_0 : Nat) (l1_0 : List (S41)) (A1_1 : Option Addr) (c1_1 : Nat) (l1_1 : List Int) (r : Bool) (w : World) (hr0_0 : Kd.C k41 w A0_0 l0_0.length l0_0) (hc0_0 : l0_0.length ≤ c0_0) (hr0_1 : Kd.C (Kd.int .i64) w A0_1 l0_1.length l0_1) (hc0_1 : l0_1.length ≤ c0_1) (hr1_0 : Kd.C k41 w A1_0 l1_0.length l1_0) (hc1_0 : l1_0.length ≤ c1_0) (hr1_1 : Kd.C (Kd.int .i64) w A1_1 l1_1.length l1_1) (hc1_1 : l1_1.length ≤ c1_1) (h : laws_FnExactSameLine.f k l0_0 l0_1 l1_0 l1_1 = some r) :
  Calls Try.prog 4 #[.agg #[.slice A0_0 l0_0.length c0_0, .slice A0_1 l0_1.length c0_1], .agg #[.slice A1_0 l1_0.length c1_0, .slice A1_1 l1_1.length c1_1]] w fun e w' => e = .returned (.bool r) ∧ Below w.heap.size w w' := by
 have hu32 := Try.underlying32
 have hu37 := Try.underlying37
 have HR0_0 := aS hr0_0
 have HC0_0 := aS hc0_0
 clear hr0_0 hc0_0
 have HR0_1 := aS hr0_1
 have HC0_1 := aS hc0_1
 clear hr0_1 hc0_1
 have HR1_0 := aS hr1_0
 have HC1_0 := aS hc1_0
 clear hr1_0 hc1_0
 have HR1_1 := aS hr1_1
 have HC1_1 := aS hc1_1
 clear hr1_1 hc1_1
 have HB := aS (Below.refl w.heap.size w)
 have H : ((laws_szLine.f l0_0 l0_1 1048576).bind fun t156 => (if t156 < 0 then (some true) else ((laws_szLine.f l1_0 l1_1 t156).bind fun t157 => (if t157 < 0 then (some true) else ((laws_toLine.f k l0_0 l0_1).bind fun bt158 => ((laws_toLine.f k l1_0 l1_1).bind fun bt164 => ((spec_SameLine.f k bt158.1 bt158.2 bt164.1 bt164.2).bind fun t170 => ((laws_toLine.f k l0_0 l0_1).bind fun bt171 => ((laws_toLine.f k l1_0 l1_1).bind fun bt178 => ((impl_SameLine.f k bt171.1 bt171.2 bt178.1 bt178.2).bind fun t185 => (if (t185 != t170) = true then (some false) else ((laws_toLine.f k l0_0 l0_1).bind fun bt186 => ((laws_eqLine.f k bt171.1 bt171.2 bt186.1 bt186.2).bind fun t192 => (if t192 = true then ((laws_toLine.f k l1_0 l1_1).bind fun bt193 => ((laws_eqLine.f k bt178.1 bt178.2 bt193.1 bt193.2).bind fun t199 => (if t199 = true then (some true) else (some false)))) else (some false))))))))))))))) = some r := h
 clear h
 replace H := Option.bind_eq_some_iff.mp H
 obtain ⟨t156, A30, H⟩ := H
 replace H : (if t156 < 0 then (some true) else ((laws_szLine.f l1_0 l1_1 t156).bind fun t157 => (if t157 < 0 then (some true) else ((laws_toLine.f k l0_0 l0_1).bind fun bt158 => ((laws_toLine.f k l1_0 l1_1).bind fun bt164 => ((spec_SameLine.f k bt158.1 bt158.2 bt164.1 bt164.2).bind fun t170 => ((laws_toLine.f k l0_0 l0_1).bind fun bt171 => ((laws_toLine.f k l1_0 l1_1).bind fun bt178 => ((impl_SameLine.f k bt171.1 bt171.2 bt178.1 bt178.2).bind fun t185 => (if (t185 != t170) = true then (some false) else ((laws_toLine.f k l0_0 l0_1).bind fun bt186 => ((laws_eqLine.f k bt171.1 bt171.2 bt186.1 bt186.2).bind fun t192 => (if t192 = true then ((laws_toLine.f k l1_0 l1_1).bind fun bt193 => ((laws_eqLine.f k bt178.1 bt178.2 bt193.1 bt193.2).bind fun t199 => (if t199 = true then (some true) else (some false)))) else (some false)))))))))))))) = some r := H
 have A3 := aS A30
 clear A30
 have HC4 := aS H
 clear H
 go_enter Try.func4, Try.ntmps4
 go_upto_if 14 with (first | ((with_reducible refine gate_dst (N := 2) rfl ?_); refine box_event ?hg (N := 2) ?hd (cs := #[.slice A0_0 l0_0.length c0_0, .slice A0_1 l0_1.length c0_1]) (t := 32) ?hr ?_; (case hd => rfl); (case hg => rfl); (case hr => first | (go_simp; done) | (go_simp; rfl)); intro gb154 hg w5 hbox hb; have n0_ := aS (below_step (sW HB.out) hb); have n1_ := aS (hbox); have n2_ := aS ((by rw [hg]; exact (below_size (sW HB.out)) : w.heap.size ≤ gb154)); have n3_ := aS ((by rw [hg]; exact (below_size (sW HB.out)) : w.heap.size ≤ gb154)); clear HB; have HB := n0_; have BK154 := n1_; have GW154 := n2_; have GE154 := n3_; clear n0_ n1_ n2_ n3_; clear hb hbox hg) | ((with_reducible refine gate_dst (N := 3) rfl ?_); refine box_event ?hg (N := 3) ?hd (cs := #[.slice A1_0 l1_0.length c1_0, .slice A1_1 l1_1.length c1_1]) (t := 32) ?hr ?_; (case hd => rfl); (case hg => rfl); (case hr => first | (go_simp; done) | (go_simp; rfl)); intro gb155 hg w6 hbox hb; have n0_ := aS (blk_below (g := gb154) (o := .cells #[.slice A0_0 l0_0.length c0_0, .slice A0_1 l0_1.length c0_1] 32 (0, 0)) (sB BK154.out) hb); have n1_ := aS (below_step (sW HB.out) hb); have n2_ := aS (hbox); have n3_ := aS ((by rw [hg]; exact (below_size (sW HB.out)) : w.heap.size ≤ gb155)); have n4_ := aS ((by rw [hg]; exact (below_size (sW HB.out)) : w.heap.size ≤ gb155)); have n5_ := aS ((by rw [hg]; exact Nat.ne_of_lt (blk_lt (g := gb154) (o := .cells #[.slice A0_0 l0_0.length c0_0, .slice A0_1 l0_1.length c0_1] 32 (0, 0)) (sB BK154.out)) : gb154 ≠ gb155)); have n6_ := aS ((by rw [hg]; exact Nat.ne_of_gt (blk_lt (g := gb154) (o := .cells #[.slice A0_0 l0_0.length c0_0, .slice A0_1 l0_1.length c0_1] 32 (0, 0)) (sB BK154.out)) : gb155 ≠ gb154)); clear BK154 HB; have BK154 := n0_; have HB := n1_; have BK155 := n2_; have GW155 := n3_; have GE155 := n4_; have NB154_155 := n5_; have NB155_154 := n6_; clear n0_ n1_ n2_ n3_ n4_ n5_ n6_; clear hb hbox hg; have hnb7 := NB154_155.out; have hnc7 := NB155_154.out; have hcz8_0 : w6.cell? ⟨gb154, 0, none⟩ = some (.slice A0_0 l0_0.length c0_0) := (blk_cell BK154.out 0).trans rfl; have hcz8_1 : w6.cell? ⟨gb154, 1, none⟩ = some (.slice A0_1 l0_1.length c0_1) := (blk_cell BK154.out 1).trans rfl; have hfz8_0 := blk_frozen BK154.out 0; have hfz8_1 := blk_frozen BK154.out 1) | ((with_reducible refine gate_callee (f := 18) rfl ?_); refine goesL_ (some 12) rfl rfl Try.func18 (by kernel_rfl) rfl #[.agg #[.slice A0_0 l0_0.length c0_0, .slice A0_1 l0_1.length c0_1], .int .i64 1048576] rfl sG ?_; (with_reducible refine (laws_szLine.calls _ _ l0_0 _ _ l0_1 1048576 t156 _ ?side1 ?side2 ?side3 ?side4 A3.out).mono ?_); (case side1 => exact sC (Kd.C_below HR0_0.out HB.out)); (case side2 => exact HC0_0.out); (case side3 => exact sC (Kd.C_below HR0_1.out HB.out)); (case side4 => exact HC0_1.out); rintro e w9 ⟨rfl, hb⟩; refine ⟨_, rfl, ?_⟩; have n0_ := aS (blk_below (g := gb154) (o := .cells #[.slice A0_0 l0_0.length c0_0, .slice A0_1 l0_1.length c0_1] 32 (0, 0)) (sB BK154.out) hb); have n1_ := aS (blk_below (g := gb155) (o := .cells #[.slice A1_0 l1_0.length c1_0, .slice A1_1 l1_1.length c1_1] 32 (0, 0)) (sB BK155.out) hb); have n2_ := aS (below_step (sW HB.out) hb); clear BK154 BK155 HB; have BK154 := n0_; have BK155 := n1_; have HB := n2_; clear n0_ n1_ n2_; (try clear hb); (try clear hb2); (try clear hk); (try clear hi)))
 (try simp only [Act.put, List.setIfInBounds_toArray, List.set_cons_zero, List.set_cons_succ])
 have H := HC4.out
 clear HC4
 by_cases c10 : t156 < 0
 ·
  rw [if_pos c10] at H
  have c10b0 : decide (t156 < 0) = true := decide_eq_true c10
  clear c10
  (first | rw [c10b0] | (simp only [i64_w, i32_w]; rw [c10b0]) | (rw [c10b2]; simp only [Bool.not_false, Bool.not_true]) | skip)
  obtain rfl := Option.some.inj H
  go_wp2
  go_ret
  exact ⟨by first | rfl | (simp [errW_none, errW_some, i64_w]; done) | (simp [errW_none, errW_some] <;> rfl) | (simp [*, errW_none, errW_some] <;> rfl), by repeat (first | (with_reducible first | exact HB.out | apply below_alloc | apply pw_below_drewN | apply below_drew1) | exact HB.out)⟩
 ·
  rw [if_neg c10] at H
  have c10b0 : decide (t156 < 0) = false := decide_eq_false c10
  clear c10
  (first | rw [c10b0] | (simp only [i64_w, i32_w]; rw [c10b0]) | (rw [c10b2]; simp only [Bool.not_false, Bool.not_true]) | skip)
  replace H := Option.bind_eq_some_iff.mp H
  obtain ⟨t157, A110, H⟩ := H
  replace H : (if t157 < 0 then (some true) else ((laws_toLine.f k l0_0 l0_1).bind fun bt158 => ((laws_toLine.f k l1_0 l1_1).bind fun bt164 => ((spec_SameLine.f k bt158.1 bt158.2 bt164.1 bt164.2).bind fun t170 => ((laws_toLine.f k l0_0 l0_1).bind fun bt171 => ((laws_toLine.f k l1_0 l1_1).bind fun bt178 => ((impl_SameLine.f k bt171.1 bt171.2 bt178.1 bt178.2).bind fun t185 => (if (t185 != t170) = true then (some false) else ((laws_toLine.f k l0_0 l0_1).bind fun bt186 => ((laws_eqLine.f k bt171.1 bt171.2 bt186.1 bt186.2).bind fun t192 => (if t192 = true then ((laws_toLine.f k l1_0 l1_1).bind fun bt193 => ((laws_eqLine.f k bt178.1 bt178.2 bt193.1 bt193.2).bind fun t199 => (if t199 = true then (some true) else (some false)))) else (some false)))))))))))) = some r := H
  have A11 := aS A110
  clear A110
  have HC12 := aS H
  clear H
  have hnb13 := NB155_154.out
  have hnc13 := NB154_155.out
  have hcz14_0 : w9.cell? ⟨gb155, 0, none⟩ = some (.slice A1_0 l1_0.length c1_0) := (blk_cell BK155.out 0).trans rfl
  have hcz14_1 : w9.cell? ⟨gb155, 1, none⟩ = some (.slice A1_1 l1_1.length c1_1) := (blk_cell BK155.out 1).trans rfl
  have hfz14_0 := blk_frozen BK155.out 0
  have hfz14_1 := blk_frozen BK155.out 1
  go_upto_if 19 with (first | ((with_reducible refine gate_callee (f := 18) rfl ?_); refine goesL_ (some 17) rfl rfl Try.func18 (by kernel_rfl) rfl #[.agg #[.slice A1_0 l1_0.length c1_0, .slice A1_1 l1_1.length c1_1], .int .i64 t156] rfl sG ?_; (with_reducible refine (laws_szLine.calls _ _ l1_0 _ _ l1_1 t156 t157 _ ?side1 ?side2 ?side3 ?side4 A11.out).mono ?_); (case side1 => exact sC (Kd.C_below HR1_0.out HB.out)); (case side2 => exact HC1_0.out); (case side3 => exact sC (Kd.C_below HR1_1.out HB.out)); (case side4 => exact HC1_1.out); rintro e w15 ⟨rfl, hb⟩; refine ⟨_, rfl, ?_⟩; have n0_ := aS (blk_below (g := gb154) (o := .cells #[.slice A0_0 l0_0.length c0_0, .slice A0_1 l0_1.length c0_1] 32 (0, 0)) (sB BK154.out) hb); have n1_ := aS (blk_below (g := gb155) (o := .cells #[.slice A1_0 l1_0.length c1_0, .slice A1_1 l1_1.length c1_1] 32 (0, 0)) (sB BK155.out) hb); have n2_ := aS (below_step (sW HB.out) hb); clear BK154 BK155 HB; have BK154 := n0_; have BK155 := n1_; have HB := n2_; clear n0_ n1_ n2_; (try clear hb); (try clear hb2); (try clear hk); (try clear hi)))
  (try simp only [Act.put, List.setIfInBounds_toArray, List.set_cons_zero, List.set_cons_succ])
  have H := HC12.out
  clear HC12
  by_cases c16 : t157 < 0
  ·
   rw [if_pos c16] at H
   have c16b0 : decide (t157 < 0) = true := decide_eq_true c16
   clear c16
   (first | rw [c16b0] | (simp only [i64_w, i32_w]; rw [c16b0]) | (rw [c16b2]; simp only [Bool.not_false, Bool.not_true]) | skip)
   obtain rfl := Option.some.inj H
   go_wp2
   go_ret
   exact ⟨by first | rfl | (simp [errW_none, errW_some, i64_w]; done) | (simp [errW_none, errW_some] <;> rfl) | (simp [*, errW_none, errW_some] <;> rfl), by repeat (first | (with_reducible first | exact HB.out | apply below_alloc | apply pw_below_drewN | apply below_drew1) | exact HB.out)⟩
  ·
   rw [if_neg c16] at H
   have c16b0 : decide (t157 < 0) = false := decide_eq_false c16
   clear c16
   (first | rw [c16b0] | (simp only [i64_w, i32_w]; rw [c16b0]) | (rw [c16b2]; simp only [Bool.not_false, Bool.not_true]) | skip)
   replace H := Option.bind_eq_some_iff.mp H
   obtain ⟨⟨t158, t161⟩, A170, H⟩ := H
   replace H : ((laws_toLine.f k l1_0 l1_1).bind fun bt164 => ((spec_SameLine.f k t158 t161 bt164.1 bt164.2).bind fun t170 => ((laws_toLine.f k l0_0 l0_1).bind fun bt171 => ((laws_toLine.f k l1_0 l1_1).bind fun bt178 => ((impl_SameLine.f k bt171.1 bt171.2 bt178.1 bt178.2).bind fun t185 => (if (t185 != t170) = true then (some false) else ((laws_toLine.f k l0_0 l0_1).bind fun bt186 => ((laws_eqLine.f k bt171.1 bt171.2 bt186.1 bt186.2).bind fun t192 => (if t192 = true then ((laws_toLine.f k l1_0 l1_1).bind fun bt193 => ((laws_eqLine.f k bt178.1 bt178.2 bt193.1 bt193.2).bind fun t199 => (if t199 = true then (some true) else (some false)))) else (some false)))))))))) = some r := H
   have A17 := aS A170
   clear A170
   replace H := Option.bind_eq_some_iff.mp H
   obtain ⟨⟨t164, t167⟩, A180, H⟩ := H
   replace H : ((spec_SameLine.f k t158 t161 t164 t167).bind fun t170 => ((laws_toLine.f k l0_0 l0_1).bind fun bt171 => ((laws_toLine.f k l1_0 l1_1).bind fun bt178 => ((impl_SameLine.f k bt171.1 bt171.2 bt178.1 bt178.2).bind fun t185 => (if (t185 != t170) = true then (some false) else ((laws_toLine.f k l0_0 l0_1).bind fun bt186 => ((laws_eqLine.f k bt171.1 bt171.2 bt186.1 bt186.2).bind fun t192 => (if t192 = true then ((laws_toLine.f k l1_0 l1_1).bind fun bt193 => ((laws_eqLine.f k bt178.1 bt178.2 bt193.1 bt193.2).bind fun t199 => (if t199 = true then (some true) else (some false)))) else (some false))))))))) = some r := H
   have A18 := aS A180
   clear A180
   replace H := Option.bind_eq_some_iff.mp H
   obtain ⟨t170, A190, H⟩ := H
   replace H : ((laws_toLine.f k l0_0 l0_1).bind fun bt171 => ((laws_toLine.f k l1_0 l1_1).bind fun bt178 => ((impl_SameLine.f k bt171.1 bt171.2 bt178.1 bt178.2).bind fun t185 => (if (t185 != t170) = true then (some false) else ((laws_toLine.f k l0_0 l0_1).bind fun bt186 => ((laws_eqLine.f k bt171.1 bt171.2 bt186.1 bt186.2).bind fun t192 => (if t192 = true then ((laws_toLine.f k l1_0 l1_1).bind fun bt193 => ((laws_eqLine.f k bt178.1 bt178.2 bt193.1 bt193.2).bind fun t199 => (if t199 = true then (some true) else (some false)))) else (some false)))))))) = some r := H
   have A19 := aS A190
   clear A190
   replace H := Option.bind_eq_some_iff.mp H
   obtain ⟨⟨t171, t174⟩, A200, H⟩ := H
   replace H : ((laws_toLine.f k l1_0 l1_1).bind fun bt178 => ((impl_SameLine.f k t171 t174 bt178.1 bt178.2).bind fun t185 => (if (t185 != t170) = true then (some false) else ((laws_toLine.f k l0_0 l0_1).bind fun bt186 => ((laws_eqLine.f k t171 t174 bt186.1 bt186.2).bind fun t192 => (if t192 = true then ((laws_toLine.f k l1_0 l1_1).bind fun bt193 => ((laws_eqLine.f k bt178.1 bt178.2 bt193.1 bt193.2).bind fun t199 => (if t199 = true then (some true) else (some false)))) else (some false))))))) = some r := H
   have A20 := aS A200
   clear A200
   replace H := Option.bind_eq_some_iff.mp H
   obtain ⟨⟨t178, t181⟩, A210, H⟩ := H
   replace H : ((impl_SameLine.f k t171 t174 t178 t181).bind fun t185 => (if (t185 != t170) = true then (some false) else ((laws_toLine.f k l0_0 l0_1).bind fun bt186 => ((laws_eqLine.f k t171 t174 bt186.1 bt186.2).bind fun t192 => (if t192 = true then ((laws_toLine.f k l1_0 l1_1).bind fun bt193 => ((laws_eqLine.f k t178 t181 bt193.1 bt193.2).bind fun t199 => (if t199 = true then (some true) else (some false)))) else (some false)))))) = some r := H
   have A21 := aS A210
   clear A210
   replace H := Option.bind_eq_some_iff.mp H
   obtain ⟨t185, A220, H⟩ := H
   replace H : (if (t185 != t170) = true then (some false) else ((laws_toLine.f k l0_0 l0_1).bind fun bt186 => ((laws_eqLine.f k t171 t174 bt186.1 bt186.2).bind fun t192 => (if t192 = true then ((laws_toLine.f k l1_0 l1_1).bind fun bt193 => ((laws_eqLine.f k t178 t181 bt193.1 bt193.2).bind fun t199 => (if t199 = true then (some true) else (some false)))) else (some false))))) = some r := H
   have A22 := aS A220
   clear A220
   have HC23 := aS H
   clear H
   try go_wp2
   have n0_ := aS (blk_drew BK154.out)
   have n1_ := aS (blk_drew BK155.out)
   have n2_ := aS (below_drew1 HB.out)
   clear BK154 BK155 HB
   have BK154 := n0_; have BK155 := n1_; have HB := n2_
   clear n0_ n1_ n2_
   refine start_ (n := 6) (S := fun w' => w'.cell? ⟨gb154, 0, none⟩ = some (.slice A0_0 l0_0.length c0_0) ∧ w'.cell? ⟨gb154, 1, none⟩ = some (.slice A0_1 l0_1.length c0_1) ∧ w'.cell? ⟨gb155, 0, none⟩ = some (.slice A1_0 l1_0.length c1_0) ∧ w'.cell? ⟨gb155, 1, none⟩ = some (.slice A1_1 l1_1.length c1_1)) (ds := []) #[false, false, false, false, false, false] (by kernel_rfl) rfl rfl ⟨(blk_cell BK154.out 0).trans rfl, (blk_cell BK154.out 1).trans rfl, (blk_cell BK155.out 0).trans rfl, (blk_cell BK155.out 1).trans rfl⟩ (fun hHeld => ?_)
   generalize w15.drew = w24 at BK154 BK155 HB hHeld ⊢
   refine take_ (i := 0) (N := some 20) (v := ?_) (a' := ?_) #[true, false, false, false, false, false] rfl rfl (by kernel_rfl) (fun _ _ _ h => h) (Or.inl ⟨by rfl, ?_⟩) hHeld ?_ ?_
   rotate_left
   ·
    rintro w' ⟨s0, s1, s2, s3⟩
    go_simp
    with_reducible rfl
   rotate_left
   ·
    simp only [Act.put, List.setIfInBounds_toArray, List.set_cons_zero, List.set_cons_succ, i64_w, i32_w]
    rfl
   refine take_ (i := 2) (N := some 22) (v := ?_) (a' := ?_) #[true, false, true, false, false, false] rfl rfl (by kernel_rfl) (fun _ _ _ h => h) (Or.inl ⟨by rfl, ?_⟩) hHeld ?_ ?_
   rotate_left
   ·
    rintro w' ⟨s0, s1, s2, s3⟩
    go_simp
    with_reducible rfl
   rotate_left
   ·
    simp only [Act.put, List.setIfInBounds_toArray, List.set_cons_zero, List.set_cons_succ, i64_w, i32_w]
    rfl
   refine one_ (i := 1) (N := some 21) #[true, true, true, false, false, false] rfl rfl (by kernel_rfl) (by decide) (fun K hK => ?_)
   refine goes_ Try.func20 (by kernel_rfl) rfl #[.agg #[.slice A0_0 l0_0.length c0_0, .slice A0_1 l0_1.length c0_1]] (by rfl) rfl rfl sG ?_
   with_reducible refine (laws_toLine.calls k _ _ l0_0 _ _ l0_1 t158 t161 _ ?side1 ?side2 ?side3 ?side4 A17.out).mono ?_
   (case side1 => exact sC (Kd.C_below HR0_0.out HB.out))
   (case side2 => exact HC0_0.out)
   (case side3 => exact sC (Kd.C_below HR0_1.out HB.out))
   (case side4 => exact HC0_1.out)
   rintro e w25 ⟨v159, v162, rfl, ho0, ho1, hb⟩
   refine ⟨_, rfl, ?_⟩
   have n0_ := aS (Kd.R_lower ho0 (below_size (sW HB.out)))
   have n1_ := aS (Kd.R_lower ho1 (below_size (sW HB.out)))
   have n2_ := aS (blk_below (g := gb154) (o := .cells #[.slice A0_0 l0_0.length c0_0, .slice A0_1 l0_1.length c0_1] 32 (0, 0)) (sB BK154.out) hb)
   have n3_ := aS (blk_below (g := gb155) (o := .cells #[.slice A1_0 l1_0.length c1_0, .slice A1_1 l1_1.length c1_1] 32 (0, 0)) (sB BK155.out) hb)
   have n4_ := aS (below_step (sW HB.out) hb)
   clear BK154 BK155 HB
   have HO160 := n0_; have HO163 := n1_; have BK154 := n2_; have BK155 := n3_; have HB := n4_
   clear n0_ n1_ n2_ n3_ n4_
   (try clear hb); (try clear hb2); (try clear hk); (try clear hi); (try clear ho0); (try clear ho1)
   refine hK.out _ _ ⟨(blk_cell BK154.out 0).trans rfl, (blk_cell BK154.out 1).trans rfl, (blk_cell BK155.out 0).trans rfl, (blk_cell BK155.out 1).trans rfl⟩ (fun hHeld => ?_)
   clear hK K
   refine norm_ (a' := ?_) ?_ ?_
   rotate_left
   ·
    show Act.put _ (some 21) _ = _
    simp only [Act.put, List.setIfInBounds_toArray, List.set_cons_zero, List.set_cons_succ, i64_w, i32_w]
    rfl
   refine one_ (i := 3) (N := some 23) #[true, true, true, true, false, false] rfl rfl (by kernel_rfl) (by decide) (fun K hK => ?_)
   refine goes_ Try.func20 (by kernel_rfl) rfl #[.agg #[.slice A1_0 l1_0.length c1_0, .slice A1_1 l1_1.length c1_1]] (by rfl) rfl rfl sG ?_
   with_reducible refine (laws_toLine.calls k _ _ l1_0 _ _ l1_1 t164 t167 _ ?side1 ?side2 ?side3 ?side4 A18.out).mono ?_
   (case side1 => exact sC (Kd.C_below HR1_0.out HB.out))
   (case side2 => exact HC1_0.out)
   (case side3 => exact sC (Kd.C_below HR1_1.out HB.out))
   (case side4 => exact HC1_1.out)
   rintro e w26 ⟨v165, v168, rfl, ho0, ho1, hb⟩
   refine ⟨_, rfl, ?_⟩
   have n0_ := aS (Kd.R_elder' (sR HO160.out) (Kd.R_base ho0) hb)
   have n1_ := aS (Kd.R_elder' (sR HO163.out) (Kd.R_base ho1) hb)
   have n2_ := aS (Kd.R_lower (Kd.R_new' ho0 (Kd.R_lt (sR HO160.out))) (below_size (sW HB.out)))
   have n3_ := aS (Kd.R_lower (Kd.R_new' ho1 (Kd.R_lt (sR HO163.out))) (below_size (sW HB.out)))
   have n4_ := aS (blk_below (g := gb154) (o := .cells #[.slice A0_0 l0_0.length c0_0, .slice A0_1 l0_1.length c0_1] 32 (0, 0)) (sB BK154.out) hb)
   have n5_ := aS (blk_below (g := gb155) (o := .cells #[.slice A1_0 l1_0.length c1_0, .slice A1_1 l1_1.length c1_1] 32 (0, 0)) (sB BK155.out) hb)
   have n6_ := aS (below_step (sW HB.out) hb)
   clear HO160 HO163 BK154 BK155 HB
   have HO160 := n0_; have HO163 := n1_; have HO166 := n2_; have HO169 := n3_; have BK154 := n4_; have BK155 := n5_; have HB := n6_
   clear n0_ n1_ n2_ n3_ n4_ n5_ n6_
   (try clear hb); (try clear hb2); (try clear hk); (try clear hi); (try clear ho0); (try clear ho1)
   obtain ⟨Ao27, co27, eo27⟩ := Kd.R_slice HO160.out
   (first | subst eo27 | (injection eo27 with f1_ f2_ f3_; have f4_ := f1_.symm; have f5_ := f3_.symm; clear f1_ f2_ f3_; subst f4_; subst f5_))
   obtain ⟨Ao28, co28, eo28⟩ := Kd.R_slice HO163.out
   (first | subst eo28 | (injection eo28 with f1_ f2_ f3_; have f4_ := f1_.symm; have f5_ := f3_.symm; clear f1_ f2_ f3_; subst f4_; subst f5_))
   obtain ⟨Ao29, co29, eo29⟩ := Kd.R_slice HO166.out
   (first | subst eo29 | (injection eo29 with f1_ f2_ f3_; have f4_ := f1_.symm; have f5_ := f3_.symm; clear f1_ f2_ f3_; subst f4_; subst f5_))
   obtain ⟨Ao30, co30, eo30⟩ := Kd.R_slice HO169.out
   (first | subst eo30 | (injection eo30 with f1_ f2_ f3_; have f4_ := f1_.symm; have f5_ := f3_.symm; clear f1_ f2_ f3_; subst f4_; subst f5_))
   refine hK.out _ _ ⟨(blk_cell BK154.out 0).trans rfl, (blk_cell BK154.out 1).trans rfl, (blk_cell BK155.out 0).trans rfl, (blk_cell BK155.out 1).trans rfl⟩ (fun hHeld => ?_)
   clear hK K
   refine norm_ (a' := ?_) ?_ ?_
   rotate_left
   ·
    show Act.put _ (some 23) _ = _
    simp only [Act.put, List.setIfInBounds_toArray, List.set_cons_zero, List.set_cons_succ, i64_w, i32_w]
    rfl
   refine one_ (i := 4) (N := some 24) #[true, true, true, true, true, false] rfl rfl (by kernel_rfl) (by decide) (fun K hK => ?_)
   refine goes_ Try.func19 (by kernel_rfl) rfl #[.agg #[.slice Ao27 t158.length co27, .slice Ao28 t161.length co28], .agg #[.slice Ao29 t164.length co29, .slice Ao30 t167.length co30]] (by rfl) rfl rfl sG ?_
   with_reducible refine (spec_SameLine.calls k _ _ t158 _ _ t161 _ _ t164 _ _ t167 t170 _ ?side1 ?side2 ?side3 ?side4 ?side5 ?side6 ?side7 ?side8 A19.out).mono ?_
   (case side1 => exact sC (Kd.R_reads' HO160.out).2.2)
   (case side2 => exact (Kd.R_reads' HO160.out).2.1)
   (case side3 => exact sC (Kd.R_reads' HO163.out).2.2)
   (case side4 => exact (Kd.R_reads' HO163.out).2.1)
   (case side5 => exact sC (Kd.R_reads' HO166.out).2.2)
   (case side6 => exact (Kd.R_reads' HO166.out).2.1)
   (case side7 => exact sC (Kd.R_reads' HO169.out).2.2)
   (case side8 => exact (Kd.R_reads' HO169.out).2.1)
   rintro e w31 ⟨rfl, hb⟩
   refine ⟨_, rfl, ?_⟩
   have n0_ := aS (Kd.R_below (sR HO160.out) hb)
   have n1_ := aS (Kd.R_below (sR HO163.out) hb)
   have n2_ := aS (Kd.R_below (sR HO166.out) hb)
   have n3_ := aS (Kd.R_below (sR HO169.out) hb)
   have n4_ := aS (blk_below (g := gb154) (o := .cells #[.slice A0_0 l0_0.length c0_0, .slice A0_1 l0_1.length c0_1] 32 (0, 0)) (sB BK154.out) hb)
   have n5_ := aS (blk_below (g := gb155) (o := .cells #[.slice A1_0 l1_0.length c1_0, .slice A1_1 l1_1.length c1_1] 32 (0, 0)) (sB BK155.out) hb)
   have n6_ := aS (below_step (sW HB.out) hb)
   clear HO160 HO163 HO166 HO169 BK154 BK155 HB
   have HO160 := n0_; have HO163 := n1_; have HO166 := n2_; have HO169 := n3_; have BK154 := n4_; have BK155 := n5_; have HB := n6_
   clear n0_ n1_ n2_ n3_ n4_ n5_ n6_
   (try clear hb); (try clear hb2); (try clear hk); (try clear hi)
   refine hK.out _ _ ⟨(blk_cell BK154.out 0).trans rfl, (blk_cell BK154.out 1).trans rfl, (blk_cell BK155.out 0).trans rfl, (blk_cell BK155.out 1).trans rfl⟩ (fun hHeld => ?_)
   clear hK K
   refine norm_ (a' := ?_) ?_ ?_
   rotate_left
   ·
    show Act.put _ (some 24) _ = _
    simp only [Act.put, List.setIfInBounds_toArray, List.set_cons_zero, List.set_cons_succ, i64_w, i32_w]
    rfl
   refine pure_ (i := 5) (N := some 6) (v := ?_) (a' := ?_) #[true, true, true, true, true, true] rfl rfl (by kernel_rfl) (fun _ _ _ h => h) (Or.inl ⟨by rfl, ?_⟩) ?_ ?_
   rotate_left
   ·
    intro w'
    go_simp
    with_reducible rfl
   rotate_left
   ·
    simp only [Act.put, List.setIfInBounds_toArray, List.set_cons_zero, List.set_cons_succ, i64_w, i32_w]
    rfl
   refine done_ (by kernel_rfl) ?_
   have hnb32 := NB154_155.out
   have hnc32 := NB155_154.out
   have hcz33_0 : w31.cell? ⟨gb154, 0, none⟩ = some (.slice A0_0 l0_0.length c0_0) := (blk_cell BK154.out 0).trans rfl
   have hcz33_1 : w31.cell? ⟨gb154, 1, none⟩ = some (.slice A0_1 l0_1.length c0_1) := (blk_cell BK154.out 1).trans rfl
   have hfz33_0 := blk_frozen BK154.out 0
   have hfz33_1 := blk_frozen BK154.out 1
   go_upto_if 34 with (first | ((with_reducible refine gate_callee (f := 20) rfl ?_); refine goesL_ (some 26) rfl rfl Try.func20 (by kernel_rfl) rfl #[.agg #[.slice A0_0 l0_0.length c0_0, .slice A0_1 l0_1.length c0_1]] rfl sG ?_; (with_reducible refine (laws_toLine.calls k _ _ l0_0 _ _ l0_1 t171 t174 _ ?side1 ?side2 ?side3 ?side4 A20.out).mono ?_); (case side1 => exact sC (Kd.C_below HR0_0.out HB.out)); (case side2 => exact HC0_0.out); (case side3 => exact sC (Kd.C_below HR0_1.out HB.out)); (case side4 => exact HC0_1.out); rintro e w34 ⟨v172, v175, rfl, ho0, ho1, hb⟩; refine ⟨_, rfl, ?_⟩; have n0_ := aS (Kd.R_elder' (sR HO160.out) (Kd.R_base ho0) hb); have n1_ := aS (Kd.R_elder' (sR HO163.out) (Kd.R_base ho1) hb); have n2_ := aS (Kd.R_elder' (sR HO166.out) (Kd.R_base ho0) hb); have n3_ := aS (Kd.R_elder' (sR HO169.out) (Kd.R_base ho1) hb); have n4_ := aS (Kd.R_lower (Kd.R_new' (Kd.R_new' ho0 (Kd.R_lt (sR HO160.out))) (Kd.R_lt (sR HO166.out))) (below_size (sW HB.out))); have n5_ := aS (Kd.R_lower (Kd.R_new' (Kd.R_new' ho1 (Kd.R_lt (sR HO163.out))) (Kd.R_lt (sR HO169.out))) (below_size (sW HB.out))); have n6_ := aS (blk_below (g := gb154) (o := .cells #[.slice A0_0 l0_0.length c0_0, .slice A0_1 l0_1.length c0_1] 32 (0, 0)) (sB BK154.out) hb); have n7_ := aS (blk_below (g := gb155) (o := .cells #[.slice A1_0 l1_0.length c1_0, .slice A1_1 l1_1.length c1_1] 32 (0, 0)) (sB BK155.out) hb); have n8_ := aS (below_step (sW HB.out) hb); clear HO160 HO163 HO166 HO169 BK154 BK155 HB; have HO160 := n0_; have HO163 := n1_; have HO166 := n2_; have HO169 := n3_; have HO173 := n4_; have HO176 := n5_; have BK154 := n6_; have BK155 := n7_; have HB := n8_; clear n0_ n1_ n2_ n3_ n4_ n5_ n6_ n7_ n8_; (try clear hb); (try clear hb2); (try clear hk); (try clear hi); (try clear ho0); (try clear ho1)) | ((with_reducible refine gate_dst (N := 7) rfl ?_); refine box_event ?hg (N := 7) ?hd (cs := #[.slice none 0 0, .slice none 0 0]) (t := 37) ?hr ?_; (case hd => rfl); (case hg => rfl); (case hr => first | (go_simp; done) | (go_simp; rfl)); intro gb177 hg w35 hbox hb; have n0_ := aS (Kd.R_below (sR HO160.out) hb); have n1_ := aS (Kd.R_below (sR HO163.out) hb); have n2_ := aS (Kd.R_below (sR HO166.out) hb); have n3_ := aS (Kd.R_below (sR HO169.out) hb); have n4_ := aS (Kd.R_below (sR HO173.out) hb); have n5_ := aS (Kd.R_below (sR HO176.out) hb); have n6_ := aS (blk_below (g := gb154) (o := .cells #[.slice A0_0 l0_0.length c0_0, .slice A0_1 l0_1.length c0_1] 32 (0, 0)) (sB BK154.out) hb); have n7_ := aS (blk_below (g := gb155) (o := .cells #[.slice A1_0 l1_0.length c1_0, .slice A1_1 l1_1.length c1_1] 32 (0, 0)) (sB BK155.out) hb); have n8_ := aS (below_step (sW HB.out) hb); have n9_ := aS (hbox); have n10_ := aS ((by rw [hg]; exact (below_size (sW HB.out)) : w.heap.size ≤ gb177)); have n11_ := aS ((by rw [hg]; exact (below_size (sW HB.out)) : w.heap.size ≤ gb177)); have n12_ := aS ((by rw [hg]; exact Nat.ne_of_lt (blk_lt (g := gb154) (o := .cells #[.slice A0_0 l0_0.length c0_0, .slice A0_1 l0_1.length c0_1] 32 (0, 0)) (sB BK154.out)) : gb154 ≠ gb177)); have n13_ := aS ((by rw [hg]; exact Nat.ne_of_gt (blk_lt (g := gb154) (o := .cells #[.slice A0_0 l0_0.length c0_0, .slice A0_1 l0_1.length c0_1] 32 (0, 0)) (sB BK154.out)) : gb177 ≠ gb154)); have n14_ := aS ((by rw [hg]; exact Nat.ne_of_lt (blk_lt (g := gb155) (o := .cells #[.slice A1_0 l1_0.length c1_0, .slice A1_1 l1_1.length c1_1] 32 (0, 0)) (sB BK155.out)) : gb155 ≠ gb177)); have n15_ := aS ((by rw [hg]; exact Nat.ne_of_gt (blk_lt (g := gb155) (o := .cells #[.slice A1_0 l1_0.length c1_0, .slice A1_1 l1_1.length c1_1] 32 (0, 0)) (sB BK155.out)) : gb177 ≠ gb155)); clear HO160 HO163 HO166 HO169 HO173 HO176 BK154 BK155 HB; have HO160 := n0_; have HO163 := n1_; have HO166 := n2_; have HO169 := n3_; have HO173 := n4_; have HO176 := n5_; have BK154 := n6_; have BK155 := n7_; have HB := n8_; have BK177 := n9_; have GW177 := n10_; have GE177 := n11_; have NB154_177 := n12_; have NB177_154 := n13_; have NB155_177 := n14_; have NB177_155 := n15_; clear n0_ n1_ n2_ n3_ n4_ n5_ n6_ n7_ n8_ n9_ n10_ n11_ n12_ n13_ n14_ n15_; clear hb hbox hg; obtain ⟨Ao36, co36, eo36⟩ := Kd.R_slice HO173.out; subst eo36; have hnb37 := NB177_154.out; have hnc37 := NB154_177.out; have hnb38 := NB177_155.out; have hnc38 := NB155_177.out; have hcz39_0 : w35.cell? ⟨gb177, 0, none⟩ = some (.slice none 0 0) := (blk_cell BK177.out 0).trans rfl; have hcz39_1 : w35.cell? ⟨gb177, 1, none⟩ = some (.slice none 0 0) := (blk_cell BK177.out 1).trans rfl; have hfz39_0 := blk_frozen BK177.out 0; have hfz39_1 := blk_frozen BK177.out 1; obtain ⟨Ao40, co40, eo40⟩ := Kd.R_slice HO176.out; subst eo40; have hcz41_0 : w35.cell? ⟨gb155, 0, none⟩ = some (.slice A1_0 l1_0.length c1_0) := (blk_cell BK155.out 0).trans rfl; have hcz41_1 : w35.cell? ⟨gb155, 1, none⟩ = some (.slice A1_1 l1_1.length c1_1) := (blk_cell BK155.out 1).trans rfl; have hfz41_0 := blk_frozen BK155.out 0; have hfz41_1 := blk_frozen BK155.out 1) | ((with_reducible refine gate_callee (f := 20) rfl ?_); refine goesL_ (some 28) rfl rfl Try.func20 (by kernel_rfl) rfl #[.agg #[.slice A1_0 l1_0.length c1_0, .slice A1_1 l1_1.length c1_1]] rfl sG ?_; (with_reducible refine (laws_toLine.calls k _ _ l1_0 _ _ l1_1 t178 t181 _ ?side1 ?side2 ?side3 ?side4 A21.out).mono ?_); (case side1 => exact Kd.C_below HR1_0.out (sW HB.out)); (case side2 => exact HC1_0.out); (case side3 => exact Kd.C_below HR1_1.out (sW HB.out)); (case side4 => exact HC1_1.out); rintro e w42 ⟨v179, v182, rfl, ho0, ho1, hb⟩; refine ⟨_, rfl, ?_⟩; have n0_ := aS (Kd.R_elder' (sR (Kd.R_mono (Kd.R_far (p := ⟨gb177, 1, none⟩) (Kd.R_far (p := ⟨gb177, 0, none⟩) (Kd.R_types HO160.out BK177.out (by decide)) (fun _ hk => hk.2) (.slice Ao36 t171.length co36)) (fun _ hk => hk.2) (.slice Ao40 t174.length co40)) (fun _ h_ => h_.1))) (Kd.R_base ho0) hb); have n1_ := aS (Kd.R_elder' (sR (Kd.R_mono (Kd.R_far (p := ⟨gb177, 1, none⟩) (Kd.R_far (p := ⟨gb177, 0, none⟩) (Kd.R_types HO163.out BK177.out (by decide)) (fun _ hk => hk.2) (.slice Ao36 t171.length co36)) (fun _ hk => hk.2) (.slice Ao40 t174.length co40)) (fun _ h_ => h_.1))) (Kd.R_base ho1) hb); have n2_ := aS (Kd.R_elder' (sR (Kd.R_mono (Kd.R_far (p := ⟨gb177, 1, none⟩) (Kd.R_far (p := ⟨gb177, 0, none⟩) (Kd.R_types HO166.out BK177.out (by decide)) (fun _ hk => hk.2) (.slice Ao36 t171.length co36)) (fun _ hk => hk.2) (.slice Ao40 t174.length co40)) (fun _ h_ => h_.1))) (Kd.R_base ho0) hb); have n3_ := aS (Kd.R_elder' (sR (Kd.R_mono (Kd.R_far (p := ⟨gb177, 1, none⟩) (Kd.R_far (p := ⟨gb177, 0, none⟩) (Kd.R_types HO169.out BK177.out (by decide)) (fun _ hk => hk.2) (.slice Ao36 t171.length co36)) (fun _ hk => hk.2) (.slice Ao40 t174.length co40)) (fun _ h_ => h_.1))) (Kd.R_base ho1) hb); have n4_ := aS (Kd.R_elder' (sR (Kd.R_mono (Kd.R_far (p := ⟨gb177, 1, none⟩) (Kd.R_far (p := ⟨gb177, 0, none⟩) (Kd.R_types HO173.out BK177.out (by decide)) (fun _ hk => hk.2) (.slice Ao36 t171.length co36)) (fun _ hk => hk.2) (.slice Ao40 t174.length co40)) (fun _ h_ => h_.1))) (Kd.R_base ho0) hb); have n5_ := aS (Kd.R_elder' (sR (Kd.R_mono (Kd.R_far (p := ⟨gb177, 1, none⟩) (Kd.R_far (p := ⟨gb177, 0, none⟩) (Kd.R_types HO176.out BK177.out (by decide)) (fun _ hk => hk.2) (.slice Ao36 t171.length co36)) (fun _ hk => hk.2) (.slice Ao40 t174.length co40)) (fun _ h_ => h_.1))) (Kd.R_base ho1) hb); have n6_ := aS (Kd.R_lower (Kd.R_new' (Kd.R_new' (Kd.R_new' ho0 (Kd.R_lt (sR (Kd.R_mono (Kd.R_far (p := ⟨gb177, 1, none⟩) (Kd.R_far (p := ⟨gb177, 0, none⟩) (Kd.R_types HO160.out BK177.out (by decide)) (fun _ hk => hk.2) (.slice Ao36 t171.length co36)) (fun _ hk => hk.2) (.slice Ao40 t174.length co40)) (fun _ h_ => h_.1))))) (Kd.R_lt (sR (Kd.R_mono (Kd.R_far (p := ⟨gb177, 1, none⟩) (Kd.R_far (p := ⟨gb177, 0, none⟩) (Kd.R_types HO166.out BK177.out (by decide)) (fun _ hk => hk.2) (.slice Ao36 t171.length co36)) (fun _ hk => hk.2) (.slice Ao40 t174.length co40)) (fun _ h_ => h_.1))))) (Kd.R_lt (sR (Kd.R_mono (Kd.R_far (p := ⟨gb177, 1, none⟩) (Kd.R_far (p := ⟨gb177, 0, none⟩) (Kd.R_types HO173.out BK177.out (by decide)) (fun _ hk => hk.2) (.slice Ao36 t171.length co36)) (fun _ hk => hk.2) (.slice Ao40 t174.length co40)) (fun _ h_ => h_.1))))) (below_size (sW HB.out))); have n7_ := aS (Kd.R_lower (Kd.R_new' (Kd.R_new' (Kd.R_new' ho1 (Kd.R_lt (sR (Kd.R_mono (Kd.R_far (p := ⟨gb177, 1, none⟩) (Kd.R_far (p := ⟨gb177, 0, none⟩) (Kd.R_types HO163.out BK177.out (by decide)) (fun _ hk => hk.2) (.slice Ao36 t171.length co36)) (fun _ hk => hk.2) (.slice Ao40 t174.length co40)) (fun _ h_ => h_.1))))) (Kd.R_lt (sR (Kd.R_mono (Kd.R_far (p := ⟨gb177, 1, none⟩) (Kd.R_far (p := ⟨gb177, 0, none⟩) (Kd.R_types HO169.out BK177.out (by decide)) (fun _ hk => hk.2) (.slice Ao36 t171.length co36)) (fun _ hk => hk.2) (.slice Ao40 t174.length co40)) (fun _ h_ => h_.1))))) (Kd.R_lt (sR (Kd.R_mono (Kd.R_far (p := ⟨gb177, 1, none⟩) (Kd.R_far (p := ⟨gb177, 0, none⟩) (Kd.R_types HO176.out BK177.out (by decide)) (fun _ hk => hk.2) (.slice Ao36 t171.length co36)) (fun _ hk => hk.2) (.slice Ao40 t174.length co40)) (fun _ h_ => h_.1))))) (below_size (sW HB.out))); have n8_ := aS (blk_below (g := gb154) (o := .cells #[.slice A0_0 l0_0.length c0_0, .slice A0_1 l0_1.length c0_1] 32 (0, 0)) (by (with_reducible repeat (first | refine blk_drewN ?_ _ | refine blk_drew ?_ | refine blk_alloc ?_ _)); refine blk_far ?_ NB154_177.out _; (with_reducible repeat (first | refine blk_drewN ?_ _ | refine blk_drew ?_ | refine blk_alloc ?_ _)); refine blk_far ?_ NB154_177.out _; (with_reducible repeat (first | refine blk_drewN ?_ _ | refine blk_drew ?_ | refine blk_alloc ?_ _)); exact BK154.out) hb); have n9_ := aS (blk_below (g := gb155) (o := .cells #[.slice A1_0 l1_0.length c1_0, .slice A1_1 l1_1.length c1_1] 32 (0, 0)) (by (with_reducible repeat (first | refine blk_drewN ?_ _ | refine blk_drew ?_ | refine blk_alloc ?_ _)); refine blk_far ?_ NB155_177.out _; (with_reducible repeat (first | refine blk_drewN ?_ _ | refine blk_drew ?_ | refine blk_alloc ?_ _)); refine blk_far ?_ NB155_177.out _; (with_reducible repeat (first | refine blk_drewN ?_ _ | refine blk_drew ?_ | refine blk_alloc ?_ _)); exact BK155.out) hb); have n10_ := aS (blk_below (g := gb177) (o := .cells #[.slice Ao36 t171.length co36, .slice Ao40 t174.length co40] 37 (0, 0)) (by (with_reducible repeat (first | refine blk_drewN ?_ _ | refine blk_drew ?_ | refine blk_alloc ?_ _)); refine blk_put (cs := #[.slice Ao36 t171.length co36, .slice none 0 0]) ?_ 1 _ rfl; (with_reducible repeat (first | refine blk_drewN ?_ _ | refine blk_drew ?_ | refine blk_alloc ?_ _)); refine blk_put (cs := #[.slice none 0 0, .slice none 0 0]) ?_ 0 _ rfl; (with_reducible repeat (first | refine blk_drewN ?_ _ | refine blk_drew ?_ | refine blk_alloc ?_ _)); exact BK177.out) hb); have n11_ := aS (below_step (sW HB.out) hb); clear HO160 HO163 HO166 HO169 HO173 HO176 BK154 BK155 BK177 HB; have HO160 := n0_; have HO163 := n1_; have HO166 := n2_; have HO169 := n3_; have HO173 := n4_; have HO176 := n5_; have HO180 := n6_; have HO183 := n7_; have BK154 := n8_; have BK155 := n9_; have BK177 := n10_; have HB := n11_; clear n0_ n1_ n2_ n3_ n4_ n5_ n6_ n7_ n8_ n9_ n10_ n11_; (try clear hb); (try clear hb2); (try clear hk); (try clear hi); (try clear ho0); (try clear ho1)) | ((with_reducible refine gate_dst (N := 8) rfl ?_); refine box_event ?hg (N := 8) ?hd (cs := #[.slice none 0 0, .slice none 0 0]) (t := 37) ?hr ?_; (case hd => rfl); (case hg => rfl); (case hr => first | (go_simp; done) | (go_simp; rfl)); intro gb184 hg w43 hbox hb; have n0_ := aS (Kd.R_below (sR HO160.out) hb); have n1_ := aS (Kd.R_below (sR HO163.out) hb); have n2_ := aS (Kd.R_below (sR HO166.out) hb); have n3_ := aS (Kd.R_below (sR HO169.out) hb); have n4_ := aS (Kd.R_below (sR HO173.out) hb); have n5_ := aS (Kd.R_below (sR HO176.out) hb); have n6_ := aS (Kd.R_below (sR HO180.out) hb); have n7_ := aS (Kd.R_below (sR HO183.out) hb); have n8_ := aS (blk_below (g := gb154) (o := .cells #[.slice A0_0 l0_0.length c0_0, .slice A0_1 l0_1.length c0_1] 32 (0, 0)) (sB BK154.out) hb); have n9_ := aS (blk_below (g := gb155) (o := .cells #[.slice A1_0 l1_0.length c1_0, .slice A1_1 l1_1.length c1_1] 32 (0, 0)) (sB BK155.out) hb); have n10_ := aS (blk_below (g := gb177) (o := .cells #[.slice Ao36 t171.length co36, .slice Ao40 t174.length co40] 37 (0, 0)) (sB BK177.out) hb); have n11_ := aS (below_step (sW HB.out) hb); have n12_ := aS (hbox); have n13_ := aS ((by rw [hg]; exact (below_size (sW HB.out)) : w.heap.size ≤ gb184)); have n14_ := aS ((by rw [hg]; exact (below_size (sW HB.out)) : w.heap.size ≤ gb184)); have n15_ := aS ((by rw [hg]; exact Nat.ne_of_lt (blk_lt (g := gb154) (o := .cells #[.slice A0_0 l0_0.length c0_0, .slice A0_1 l0_1.length c0_1] 32 (0, 0)) (sB BK154.out)) : gb154 ≠ gb184)); have n16_ := aS ((by rw [hg]; exact Nat.ne_of_gt (blk_lt (g := gb154) (o := .cells #[.slice A0_0 l0_0.length c0_0, .slice A0_1 l0_1.length c0_1] 32 (0, 0)) (sB BK154.out)) : gb184 ≠ gb154)); have n17_ := aS ((by rw [hg]; exact Nat.ne_of_lt (blk_lt (g := gb155) (o := .cells #[.slice A1_0 l1_0.length c1_0, .slice A1_1 l1_1.length c1_1] 32 (0, 0)) (sB BK155.out)) : gb155 ≠ gb184)); have n18_ := aS ((by rw [hg]; exact Nat.ne_of_gt (blk_lt (g := gb155) (o := .cells #[.slice A1_0 l1_0.length c1_0, .slice A1_1 l1_1.length c1_1] 32 (0, 0)) (sB BK155.out)) : gb184 ≠ gb155)); have n19_ := aS ((by rw [hg]; exact Nat.ne_of_lt (blk_lt (g := gb177) (o := .cells #[.slice Ao36 t171.length co36, .slice Ao40 t174.length co40] 37 (0, 0)) (sB BK177.out)) : gb177 ≠ gb184)); have n20_ := aS ((by rw [hg]; exact Nat.ne_of_gt (blk_lt (g := gb177) (o := .cells #[.slice Ao36 t171.length co36, .slice Ao40 t174.length co40] 37 (0, 0)) (sB BK177.out)) : gb184 ≠ gb177)); clear HO160 HO163 HO166 HO169 HO173 HO176 HO180 HO183 BK154 BK155 BK177 HB; have HO160 := n0_; have HO163 := n1_; have HO166 := n2_; have HO169 := n3_; have HO173 := n4_; have HO176 := n5_; have HO180 := n6_; have HO183 := n7_; have BK154 := n8_; have BK155 := n9_; have BK177 := n10_; have HB := n11_; have BK184 := n12_; have GW184 := n13_; have GE184 := n14_; have NB154_184 := n15_; have NB184_154 := n16_; have NB155_184 := n17_; have NB184_155 := n18_; have NB177_184 := n19_; have NB184_177 := n20_; clear n0_ n1_ n2_ n3_ n4_ n5_ n6_ n7_ n8_ n9_ n10_ n11_ n12_ n13_ n14_ n15_ n16_ n17_ n18_ n19_ n20_; clear hb hbox hg; obtain ⟨Ao44, co44, eo44⟩ := Kd.R_slice HO180.out; subst eo44; have hnb45 := NB184_154.out; have hnc45 := NB154_184.out; have hnb46 := NB184_155.out; have hnc46 := NB155_184.out; have hnb47 := NB184_177.out; have hnc47 := NB177_184.out; have hcz48_0 : w43.cell? ⟨gb184, 0, none⟩ = some (.slice none 0 0) := (blk_cell BK184.out 0).trans rfl; have hcz48_1 : w43.cell? ⟨gb184, 1, none⟩ = some (.slice none 0 0) := (blk_cell BK184.out 1).trans rfl; have hfz48_0 := blk_frozen BK184.out 0; have hfz48_1 := blk_frozen BK184.out 1; obtain ⟨Ao49, co49, eo49⟩ := Kd.R_slice HO183.out; subst eo49; have hcz50_0 : w43.cell? ⟨gb177, 0, none⟩ = some (.slice Ao36 t171.length co36) := (blk_cell BK177.out 0).trans rfl; have hcz50_1 : w43.cell? ⟨gb177, 1, none⟩ = some (.slice Ao40 t174.length co40) := (blk_cell BK177.out 1).trans rfl; have hfz50_0 := blk_frozen BK177.out 0; have hfz50_1 := blk_frozen BK177.out 1) | ((with_reducible refine gate_callee (f := 21) rfl ?_); refine goesL_ (some 31) rfl rfl Try.func21 (by kernel_rfl) rfl #[.agg #[.slice Ao36 t171.length co36, .slice Ao40 t174.length co40], .agg #[.slice Ao44 t178.length co44, .slice Ao49 t181.length co49]] rfl sG ?_; (with_reducible refine (impl_SameLine.calls k _ _ t171 _ _ t174 _ _ t178 _ _ t181 t185 _ ?side1 ?side2 ?side3 ?side4 ?side5 ?side6 ?side7 ?side8 A22.out).mono ?_); (case side1 => refine (Kd.R_reads' (e := 44) (base := w.heap.size) (ok := fun k_ => (((True ∧ some k_ ≠ (.slice Ao27 t158.length co27 : Value).ownBlock) ∧ some k_ ≠ (.slice Ao29 t164.length co29 : Value).ownBlock) ∧ some k_ ≠ (.slice Ao44 t178.length co44 : Value).ownBlock)) (n := t171.length) (c := co36) ?_).2.2; exact (sR (Kd.R_mono (Kd.R_far (p := ⟨gb184, 1, none⟩) (Kd.R_far (p := ⟨gb184, 0, none⟩) (Kd.R_types HO173.out BK184.out (by decide)) (fun _ hk => hk.2) (.slice Ao44 t178.length co44)) (fun _ hk => hk.2) (.slice Ao49 t181.length co49)) (fun _ h_ => h_.1)))); (case side2 => exact (Kd.R_reads' HO173.out).2.1); (case side3 => refine (Kd.R_reads' (e := 2) (base := w.heap.size) (ok := fun k_ => (((True ∧ some k_ ≠ (.slice Ao28 t161.length co28 : Value).ownBlock) ∧ some k_ ≠ (.slice Ao30 t167.length co30 : Value).ownBlock) ∧ some k_ ≠ (.slice Ao49 t181.length co49 : Value).ownBlock)) (n := t174.length) (c := co40) ?_).2.2; exact (sR (Kd.R_mono (Kd.R_far (p := ⟨gb184, 1, none⟩) (Kd.R_far (p := ⟨gb184, 0, none⟩) (Kd.R_types HO176.out BK184.out (by decide)) (fun _ hk => hk.2) (.slice Ao44 t178.length co44)) (fun _ hk => hk.2) (.slice Ao49 t181.length co49)) (fun _ h_ => h_.1)))); (case side4 => exact (Kd.R_reads' HO176.out).2.1); (case side5 => refine (Kd.R_reads' (e := 44) (base := w.heap.size) (ok := fun k_ => (((True ∧ some k_ ≠ (.slice Ao27 t158.length co27 : Value).ownBlock) ∧ some k_ ≠ (.slice Ao29 t164.length co29 : Value).ownBlock) ∧ some k_ ≠ (.slice Ao36 t171.length co36 : Value).ownBlock)) (n := t178.length) (c := co44) ?_).2.2; exact (sR (Kd.R_mono (Kd.R_far (p := ⟨gb184, 1, none⟩) (Kd.R_far (p := ⟨gb184, 0, none⟩) (Kd.R_types HO180.out BK184.out (by decide)) (fun _ hk => hk.2) (.slice Ao44 t178.length co44)) (fun _ hk => hk.2) (.slice Ao49 t181.length co49)) (fun _ h_ => h_.1)))); (case side6 => exact (Kd.R_reads' HO180.out).2.1); (case side7 => refine (Kd.R_reads' (e := 2) (base := w.heap.size) (ok := fun k_ => (((True ∧ some k_ ≠ (.slice Ao28 t161.length co28 : Value).ownBlock) ∧ some k_ ≠ (.slice Ao30 t167.length co30 : Value).ownBlock) ∧ some k_ ≠ (.slice Ao40 t174.length co40 : Value).ownBlock)) (n := t181.length) (c := co49) ?_).2.2; exact (sR (Kd.R_mono (Kd.R_far (p := ⟨gb184, 1, none⟩) (Kd.R_far (p := ⟨gb184, 0, none⟩) (Kd.R_types HO183.out BK184.out (by decide)) (fun _ hk => hk.2) (.slice Ao44 t178.length co44)) (fun _ hk => hk.2) (.slice Ao49 t181.length co49)) (fun _ h_ => h_.1)))); (case side8 => exact (Kd.R_reads' HO183.out).2.1); rintro e w51 ⟨rfl, hb⟩; refine ⟨_, rfl, ?_⟩; have n0_ := aS (Kd.R_below (sR (Kd.R_mono (Kd.R_far (p := ⟨gb184, 1, none⟩) (Kd.R_far (p := ⟨gb184, 0, none⟩) (Kd.R_types HO160.out BK184.out (by decide)) (fun _ hk => hk.2) (.slice Ao44 t178.length co44)) (fun _ hk => hk.2) (.slice Ao49 t181.length co49)) (fun _ h_ => h_.1))) hb); have n1_ := aS (Kd.R_below (sR (Kd.R_mono (Kd.R_far (p := ⟨gb184, 1, none⟩) (Kd.R_far (p := ⟨gb184, 0, none⟩) (Kd.R_types HO163.out BK184.out (by decide)) (fun _ hk => hk.2) (.slice Ao44 t178.length co44)) (fun _ hk => hk.2) (.slice Ao49 t181.length co49)) (fun _ h_ => h_.1))) hb); have n2_ := aS (Kd.R_below (sR (Kd.R_mono (Kd.R_far (p := ⟨gb184, 1, none⟩) (Kd.R_far (p := ⟨gb184, 0, none⟩) (Kd.R_types HO166.out BK184.out (by decide)) (fun _ hk => hk.2) (.slice Ao44 t178.length co44)) (fun _ hk => hk.2) (.slice Ao49 t181.length co49)) (fun _ h_ => h_.1))) hb); have n3_ := aS (Kd.R_below (sR (Kd.R_mono (Kd.R_far (p := ⟨gb184, 1, none⟩) (Kd.R_far (p := ⟨gb184, 0, none⟩) (Kd.R_types HO169.out BK184.out (by decide)) (fun _ hk => hk.2) (.slice Ao44 t178.length co44)) (fun _ hk => hk.2) (.slice Ao49 t181.length co49)) (fun _ h_ => h_.1))) hb); have n4_ := aS (Kd.R_below (sR (Kd.R_mono (Kd.R_far (p := ⟨gb184, 1, none⟩) (Kd.R_far (p := ⟨gb184, 0, none⟩) (Kd.R_types HO173.out BK184.out (by decide)) (fun _ hk => hk.2) (.slice Ao44 t178.length co44)) (fun _ hk => hk.2) (.slice Ao49 t181.length co49)) (fun _ h_ => h_.1))) hb); have n5_ := aS (Kd.R_below (sR (Kd.R_mono (Kd.R_far (p := ⟨gb184, 1, none⟩) (Kd.R_far (p := ⟨gb184, 0, none⟩) (Kd.R_types HO176.out BK184.out (by decide)) (fun _ hk => hk.2) (.slice Ao44 t178.length co44)) (fun _ hk => hk.2) (.slice Ao49 t181.length co49)) (fun _ h_ => h_.1))) hb); have n6_ := aS (Kd.R_below (sR (Kd.R_mono (Kd.R_far (p := ⟨gb184, 1, none⟩) (Kd.R_far (p := ⟨gb184, 0, none⟩) (Kd.R_types HO180.out BK184.out (by decide)) (fun _ hk => hk.2) (.slice Ao44 t178.length co44)) (fun _ hk => hk.2) (.slice Ao49 t181.length co49)) (fun _ h_ => h_.1))) hb); have n7_ := aS (Kd.R_below (sR (Kd.R_mono (Kd.R_far (p := ⟨gb184, 1, none⟩) (Kd.R_far (p := ⟨gb184, 0, none⟩) (Kd.R_types HO183.out BK184.out (by decide)) (fun _ hk => hk.2) (.slice Ao44 t178.length co44)) (fun _ hk => hk.2) (.slice Ao49 t181.length co49)) (fun _ h_ => h_.1))) hb); have n8_ := aS (blk_below (g := gb154) (o := .cells #[.slice A0_0 l0_0.length c0_0, .slice A0_1 l0_1.length c0_1] 32 (0, 0)) (by (with_reducible repeat (first | refine blk_drewN ?_ _ | refine blk_drew ?_ | refine blk_alloc ?_ _)); refine blk_far ?_ NB154_184.out _; (with_reducible repeat (first | refine blk_drewN ?_ _ | refine blk_drew ?_ | refine blk_alloc ?_ _)); refine blk_far ?_ NB154_184.out _; (with_reducible repeat (first | refine blk_drewN ?_ _ | refine blk_drew ?_ | refine blk_alloc ?_ _)); exact BK154.out) hb); have n9_ := aS (blk_below (g := gb155) (o := .cells #[.slice A1_0 l1_0.length c1_0, .slice A1_1 l1_1.length c1_1] 32 (0, 0)) (by (with_reducible repeat (first | refine blk_drewN ?_ _ | refine blk_drew ?_ | refine blk_alloc ?_ _)); refine blk_far ?_ NB155_184.out _; (with_reducible repeat (first | refine blk_drewN ?_ _ | refine blk_drew ?_ | refine blk_alloc ?_ _)); refine blk_far ?_ NB155_184.out _; (with_reducible repeat (first | refine blk_drewN ?_ _ | refine blk_drew ?_ | refine blk_alloc ?_ _)); exact BK155.out) hb); have n10_ := aS (blk_below (g := gb177) (o := .cells #[.slice Ao36 t171.length co36, .slice Ao40 t174.length co40] 37 (0, 0)) (by (with_reducible repeat (first | refine blk_drewN ?_ _ | refine blk_drew ?_ | refine blk_alloc ?_ _)); refine blk_far ?_ NB177_184.out _; (with_reducible repeat (first | refine blk_drewN ?_ _ | refine blk_drew ?_ | refine blk_alloc ?_ _)); refine blk_far ?_ NB177_184.out _; (with_reducible repeat (first | refine blk_drewN ?_ _ | refine blk_drew ?_ | refine blk_alloc ?_ _)); exact BK177.out) hb); have n11_ := aS (blk_below (g := gb184) (o := .cells #[.slice Ao44 t178.length co44, .slice Ao49 t181.length co49] 37 (0, 0)) (by (with_reducible repeat (first | refine blk_drewN ?_ _ | refine blk_drew ?_ | refine blk_alloc ?_ _)); refine blk_put (cs := #[.slice Ao44 t178.length co44, .slice none 0 0]) ?_ 1 _ rfl; (with_reducible repeat (first | refine blk_drewN ?_ _ | refine blk_drew ?_ | refine blk_alloc ?_ _)); refine blk_put (cs := #[.slice none 0 0, .slice none 0 0]) ?_ 0 _ rfl; (with_reducible repeat (first | refine blk_drewN ?_ _ | refine blk_drew ?_ | refine blk_alloc ?_ _)); exact BK184.out) hb); have n12_ := aS (below_step (sW HB.out) hb); clear HO160 HO163 HO166 HO169 HO173 HO176 HO180 HO183 BK154 BK155 BK177 BK184 HB; have HO160 := n0_; have HO163 := n1_; have HO166 := n2_; have HO169 := n3_; have HO173 := n4_; have HO176 := n5_; have HO180 := n6_; have HO183 := n7_; have BK154 := n8_; have BK155 := n9_; have BK177 := n10_; have BK184 := n11_; have HB := n12_; clear n0_ n1_ n2_ n3_ n4_ n5_ n6_ n7_ n8_ n9_ n10_ n11_ n12_; (try clear hb); (try clear hb2); (try clear hk); (try clear hi)))
   (try simp only [Act.put, List.setIfInBounds_toArray, List.set_cons_zero, List.set_cons_succ])
   have H := HC23.out
   clear HC23
   by_cases c52 : (t185 != t170) = true
   ·
    rw [if_pos c52] at H
    have c52b0 : (t185 != t170) = true := c52
    (try (have c52b1 : decide (t185 = t170) = false := by simpa using c52))
    (try (have c52b2 : (t185 == t170) = false := by simpa using c52))
    (try (have c52b3 : ¬ (t185 = t170) := by simpa using c52))
    clear c52
    (first | rw [c52b0] | (simp only [i64_w, i32_w]; rw [c52b0]) | (rw [c52b2]; simp only [Bool.not_false, Bool.not_true]) | skip)
    obtain rfl := Option.some.inj H
    go_wp2
    go_ret
    exact ⟨by first | rfl | (simp [errW_none, errW_some, i64_w]; done) | (simp [errW_none, errW_some] <;> rfl) | (simp [*, errW_none, errW_some] <;> rfl), by repeat (first | (with_reducible first | exact HB.out | apply below_alloc | apply pw_below_drewN | apply below_drew1) | exact HB.out)⟩
   ·
    rw [if_neg c52] at H
    have c52b0 : (t185 != t170) = false := by simpa using c52
    (try (have c52b1 : decide (t185 = t170) = true := by simpa using c52))
    (try (have c52b2 : (t185 == t170) = true := by simpa using c52))
    clear c52
    (first | rw [c52b0] | (simp only [i64_w, i32_w]; rw [c52b0]) | (rw [c52b2]; simp only [Bool.not_false, Bool.not_true]) | skip)
    replace H := Option.bind_eq_some_iff.mp H
    obtain ⟨⟨t186, t189⟩, A530, H⟩ := H
    replace H : ((laws_eqLine.f k t171 t174 t186 t189).bind fun t192 => (if t192 = true then ((laws_toLine.f k l1_0 l1_1).bind fun bt193 => ((laws_eqLine.f k t178 t181 bt193.1 bt193.2).bind fun t199 => (if t199 = true then (some true) else (some false)))) else (some false))) = some r := H
    have A53 := aS A530
    clear A530
    replace H := Option.bind_eq_some_iff.mp H
    obtain ⟨t192, A540, H⟩ := H
    replace H : (if t192 = true then ((laws_toLine.f k l1_0 l1_1).bind fun bt193 => ((laws_eqLine.f k t178 t181 bt193.1 bt193.2).bind fun t199 => (if t199 = true then (some true) else (some false)))) else (some false)) = some r := H
    have A54 := aS A540
    clear A540
    have HC55 := aS H
    clear H
    try go_wp2
    have n0_ := aS (Kd.R_drew HO160.out)
    have n1_ := aS (Kd.R_drew HO163.out)
    have n2_ := aS (Kd.R_drew HO166.out)
    have n3_ := aS (Kd.R_drew HO169.out)
    have n4_ := aS (Kd.R_drew HO173.out)
    have n5_ := aS (Kd.R_drew HO176.out)
    have n6_ := aS (Kd.R_drew HO180.out)
    have n7_ := aS (Kd.R_drew HO183.out)
    have n8_ := aS (blk_drew BK154.out)
    have n9_ := aS (blk_drew BK155.out)
    have n10_ := aS (blk_drew BK177.out)
    have n11_ := aS (blk_drew BK184.out)
    have n12_ := aS (below_drew1 HB.out)
    clear HO160 HO163 HO166 HO169 HO173 HO176 HO180 HO183 BK154 BK155 BK177 BK184 HB
    have HO160 := n0_; have HO163 := n1_; have HO166 := n2_; have HO169 := n3_; have HO173 := n4_; have HO176 := n5_; have HO180 := n6_; have HO183 := n7_; have BK154 := n8_; have BK155 := n9_; have BK177 := n10_; have BK184 := n11_; have HB := n12_
    clear n0_ n1_ n2_ n3_ n4_ n5_ n6_ n7_ n8_ n9_ n10_ n11_ n12_
    refine start_ (n := 5) (S := fun w' => w'.cell? ⟨gb177, 0, none⟩ = some (.slice Ao36 t171.length co36) ∧ w'.cell? ⟨gb177, 1, none⟩ = some (.slice Ao40 t174.length co40) ∧ w'.cell? ⟨gb154, 0, none⟩ = some (.slice A0_0 l0_0.length c0_0) ∧ w'.cell? ⟨gb154, 1, none⟩ = some (.slice A0_1 l0_1.length c0_1)) (ds := []) #[false, false, false, false, false] (by kernel_rfl) rfl rfl ⟨(blk_cell BK177.out 0).trans rfl, (blk_cell BK177.out 1).trans rfl, (blk_cell BK154.out 0).trans rfl, (blk_cell BK154.out 1).trans rfl⟩ (fun hHeld => ?_)
    generalize w51.drew = w56 at HO160 HO163 HO166 HO169 HO173 HO176 HO180 HO183 BK154 BK155 BK177 BK184 HB hHeld ⊢
    refine take_ (i := 0) (N := some 35) (v := ?_) (a' := ?_) #[true, false, false, false, false] rfl rfl (by kernel_rfl) (fun _ _ _ h => h) (Or.inl ⟨by rfl, ?_⟩) hHeld ?_ ?_
    rotate_left
    ·
     rintro w' ⟨s0, s1, s2, s3⟩
     go_simp
     with_reducible rfl
    rotate_left
    ·
     simp only [Act.put, List.setIfInBounds_toArray, List.set_cons_zero, List.set_cons_succ, i64_w, i32_w]
     rfl
    refine take_ (i := 1) (N := some 36) (v := ?_) (a' := ?_) #[true, true, false, false, false] rfl rfl (by kernel_rfl) (fun _ _ _ h => h) (Or.inl ⟨by rfl, ?_⟩) hHeld ?_ ?_
    rotate_left
    ·
     rintro w' ⟨s0, s1, s2, s3⟩
     go_simp
     with_reducible rfl
    rotate_left
    ·
     simp only [Act.put, List.setIfInBounds_toArray, List.set_cons_zero, List.set_cons_succ, i64_w, i32_w]
     rfl
    refine one_ (i := 2) (N := some 37) #[true, true, true, false, false] rfl rfl (by kernel_rfl) (by decide) (fun K hK => ?_)
    refine goes_ Try.func20 (by kernel_rfl) rfl #[.agg #[.slice A0_0 l0_0.length c0_0, .slice A0_1 l0_1.length c0_1]] (by rfl) rfl rfl sG ?_
    with_reducible refine (laws_toLine.calls k _ _ l0_0 _ _ l0_1 t186 t189 _ ?side1 ?side2 ?side3 ?side4 A53.out).mono ?_
    (case side1 => exact sC (Kd.C_below HR0_0.out HB.out))
    (case side2 => exact HC0_0.out)
    (case side3 => exact sC (Kd.C_below HR0_1.out HB.out))
    (case side4 => exact HC0_1.out)
    rintro e w57 ⟨v187, v190, rfl, ho0, ho1, hb⟩
    refine ⟨_, rfl, ?_⟩
    have n0_ := aS (Kd.R_elder' (sR HO160.out) (Kd.R_base ho0) hb)
    have n1_ := aS (Kd.R_elder' (sR HO163.out) (Kd.R_base ho1) hb)
    have n2_ := aS (Kd.R_elder' (sR HO166.out) (Kd.R_base ho0) hb)
    have n3_ := aS (Kd.R_elder' (sR HO169.out) (Kd.R_base ho1) hb)
    have n4_ := aS (Kd.R_elder' (sR HO173.out) (Kd.R_base ho0) hb)
    have n5_ := aS (Kd.R_elder' (sR HO176.out) (Kd.R_base ho1) hb)
    have n6_ := aS (Kd.R_elder' (sR HO180.out) (Kd.R_base ho0) hb)
    have n7_ := aS (Kd.R_elder' (sR HO183.out) (Kd.R_base ho1) hb)
    have n8_ := aS (Kd.R_lower (Kd.R_new' (Kd.R_new' (Kd.R_new' (Kd.R_new' ho0 (Kd.R_lt (sR HO160.out))) (Kd.R_lt (sR HO166.out))) (Kd.R_lt (sR HO173.out))) (Kd.R_lt (sR HO180.out))) (below_size (sW HB.out)))
    have n9_ := aS (Kd.R_lower (Kd.R_new' (Kd.R_new' (Kd.R_new' (Kd.R_new' ho1 (Kd.R_lt (sR HO163.out))) (Kd.R_lt (sR HO169.out))) (Kd.R_lt (sR HO176.out))) (Kd.R_lt (sR HO183.out))) (below_size (sW HB.out)))
    have n10_ := aS (blk_below (g := gb154) (o := .cells #[.slice A0_0 l0_0.length c0_0, .slice A0_1 l0_1.length c0_1] 32 (0, 0)) (sB BK154.out) hb)
    have n11_ := aS (blk_below (g := gb155) (o := .cells #[.slice A1_0 l1_0.length c1_0, .slice A1_1 l1_1.length c1_1] 32 (0, 0)) (sB BK155.out) hb)
    have n12_ := aS (blk_below (g := gb177) (o := .cells #[.slice Ao36 t171.length co36, .slice Ao40 t174.length co40] 37 (0, 0)) (sB BK177.out) hb)
    have n13_ := aS (blk_below (g := gb184) (o := .cells #[.slice Ao44 t178.length co44, .slice Ao49 t181.length co49] 37 (0, 0)) (sB BK184.out) hb)
    have n14_ := aS (below_step (sW HB.out) hb)
    clear HO160 HO163 HO166 HO169 HO173 HO176 HO180 HO183 BK154 BK155 BK177 BK184 HB
    have HO160 := n0_; have HO163 := n1_; have HO166 := n2_; have HO169 := n3_; have HO173 := n4_; have HO176 := n5_; have HO180 := n6_; have HO183 := n7_; have HO188 := n8_; have HO191 := n9_; have BK154 := n10_; have BK155 := n11_; have BK177 := n12_; have BK184 := n13_; have HB := n14_
    clear n0_ n1_ n2_ n3_ n4_ n5_ n6_ n7_ n8_ n9_ n10_ n11_ n12_ n13_ n14_
    (try clear hb); (try clear hb2); (try clear hk); (try clear hi); (try clear ho0); (try clear ho1)
    obtain ⟨Ao58, co58, eo58⟩ := Kd.R_slice HO188.out
    (first | subst eo58 | (injection eo58 with f1_ f2_ f3_; have f4_ := f1_.symm; have f5_ := f3_.symm; clear f1_ f2_ f3_; subst f4_; subst f5_))
    obtain ⟨Ao59, co59, eo59⟩ := Kd.R_slice HO191.out
    (first | subst eo59 | (injection eo59 with f1_ f2_ f3_; have f4_ := f1_.symm; have f5_ := f3_.symm; clear f1_ f2_ f3_; subst f4_; subst f5_))
    refine hK.out _ _ ⟨(blk_cell BK177.out 0).trans rfl, (blk_cell BK177.out 1).trans rfl, (blk_cell BK154.out 0).trans rfl, (blk_cell BK154.out 1).trans rfl⟩ (fun hHeld => ?_)
    clear hK K
    refine norm_ (a' := ?_) ?_ ?_
    rotate_left
    ·
     show Act.put _ (some 37) _ = _
     simp only [Act.put, List.setIfInBounds_toArray, List.set_cons_zero, List.set_cons_succ, i64_w, i32_w]
     rfl
    refine one_ (i := 3) (N := some 38) #[true, true, true, true, false] rfl rfl (by kernel_rfl) (by decide) (fun K hK => ?_)
    refine goes_ Try.func22 (by kernel_rfl) rfl #[.agg #[.slice Ao36 t171.length co36, .slice Ao40 t174.length co40], .agg #[.slice Ao58 t186.length co58, .slice Ao59 t189.length co59]] (by rfl) rfl rfl sG ?_
    with_reducible refine (laws_eqLine.calls k _ _ t171 _ _ t174 _ _ t186 _ _ t189 t192 _ ?side1 ?side2 ?side3 ?side4 ?side5 ?side6 ?side7 ?side8 A54.out).mono ?_
    (case side1 => exact sC (Kd.R_reads' HO173.out).2.2)
    (case side2 => exact (Kd.R_reads' HO173.out).2.1)
    (case side3 => exact sC (Kd.R_reads' HO176.out).2.2)
    (case side4 => exact (Kd.R_reads' HO176.out).2.1)
    (case side5 => exact sC (Kd.R_reads' HO188.out).2.2)
    (case side6 => exact (Kd.R_reads' HO188.out).2.1)
    (case side7 => exact sC (Kd.R_reads' HO191.out).2.2)
    (case side8 => exact (Kd.R_reads' HO191.out).2.1)
    rintro e w60 ⟨rfl, hb⟩
    refine ⟨_, rfl, ?_⟩
    have n0_ := aS (Kd.R_below (sR HO160.out) hb)
    have n1_ := aS (Kd.R_below (sR HO163.out) hb)
    have n2_ := aS (Kd.R_below (sR HO166.out) hb)
    have n3_ := aS (Kd.R_below (sR HO169.out) hb)
    have n4_ := aS (Kd.R_below (sR HO173.out) hb)
    have n5_ := aS (Kd.R_below (sR HO176.out) hb)
    have n6_ := aS (Kd.R_below (sR HO180.out) hb)
    have n7_ := aS (Kd.R_below (sR HO183.out) hb)
    have n8_ := aS (Kd.R_below (sR HO188.out) hb)
    have n9_ := aS (Kd.R_below (sR HO191.out) hb)
    have n10_ := aS (blk_below (g := gb154) (o := .cells #[.slice A0_0 l0_0.length c0_0, .slice A0_1 l0_1.length c0_1] 32 (0, 0)) (sB BK154.out) hb)
    have n11_ := aS (blk_below (g := gb155) (o := .cells #[.slice A1_0 l1_0.length c1_0, .slice A1_1 l1_1.length c1_1] 32 (0, 0)) (sB BK155.out) hb)
    have n12_ := aS (blk_below (g := gb177) (o := .cells #[.slice Ao36 t171.length co36, .slice Ao40 t174.length co40] 37 (0, 0)) (sB BK177.out) hb)
    have n13_ := aS (blk_below (g := gb184) (o := .cells #[.slice Ao44 t178.length co44, .slice Ao49 t181.length co49] 37 (0, 0)) (sB BK184.out) hb)
    have n14_ := aS (below_step (sW HB.out) hb)
    clear HO160 HO163 HO166 HO169 HO173 HO176 HO180 HO183 HO188 HO191 BK154 BK155 BK177 BK184 HB
    have HO160 := n0_; have HO163 := n1_; have HO166 := n2_; have HO169 := n3_; have HO173 := n4_; have HO176 := n5_; have HO180 := n6_; have HO183 := n7_; have HO188 := n8_; have HO191 := n9_; have BK154 := n10_; have BK155 := n11_; have BK177 := n12_; have BK184 := n13_; have HB := n14_
    clear n0_ n1_ n2_ n3_ n4_ n5_ n6_ n7_ n8_ n9_ n10_ n11_ n12_ n13_ n14_
    (try clear hb); (try clear hb2); (try clear hk); (try clear hi)
    refine hK.out _ _ ⟨(blk_cell BK177.out 0).trans rfl, (blk_cell BK177.out 1).trans rfl, (blk_cell BK154.out 0).trans rfl, (blk_cell BK154.out 1).trans rfl⟩ (fun hHeld => ?_)
    clear hK K
    refine norm_ (a' := ?_) ?_ ?_
    rotate_left
    ·
     show Act.put _ (some 38) _ = _
     simp only [Act.put, List.setIfInBounds_toArray, List.set_cons_zero, List.set_cons_succ, i64_w, i32_w]
     rfl
    refine pure_ (i := 4) (N := some 39) (v := ?_) (a' := ?_) #[true, true, true, true, true] rfl rfl (by kernel_rfl) (fun _ _ _ h => h) (Or.inl ⟨by rfl, ?_⟩) ?_ ?_
    rotate_left
    ·
     intro w'
     go_simp
     with_reducible rfl
    rotate_left
    ·
     simp only [Act.put, List.setIfInBounds_toArray, List.set_cons_zero, List.set_cons_succ, i64_w, i32_w]
     rfl
    refine done_ (by kernel_rfl) ?_
    go_upto_if 39 with (fail)
    have H := HC55.out
    clear HC55
    by_cases c61 : t192 = true
    ·
     subst c61
     have H1 : ((laws_toLine.f k l1_0 l1_1).bind fun bt193 => ((laws_eqLine.f k t178 t181 bt193.1 bt193.2).bind fun t199 => (if t199 = true then (some true) else (some false)))) = some r := by rw [if_pos rfl] at H; exact H
     clear H
     have H := H1
     clear H1
     replace H := Option.bind_eq_some_iff.mp H
     obtain ⟨⟨t193, t196⟩, A620, H⟩ := H
     replace H : ((laws_eqLine.f k t178 t181 t193 t196).bind fun t199 => (if t199 = true then (some true) else (some false))) = some r := H
     have A62 := aS A620
     clear A620
     replace H := Option.bind_eq_some_iff.mp H
     obtain ⟨t199, A630, H⟩ := H
     replace H : (if t199 = true then (some true) else (some false)) = some r := H
     have A63 := aS A630
     clear A630
     have HC64 := aS H
     clear H
     try go_wp2
     have n0_ := aS (Kd.R_drew HO160.out)
     have n1_ := aS (Kd.R_drew HO163.out)
     have n2_ := aS (Kd.R_drew HO166.out)
     have n3_ := aS (Kd.R_drew HO169.out)
     have n4_ := aS (Kd.R_drew HO173.out)
     have n5_ := aS (Kd.R_drew HO176.out)
     have n6_ := aS (Kd.R_drew HO180.out)
     have n7_ := aS (Kd.R_drew HO183.out)
     have n8_ := aS (Kd.R_drew HO188.out)
     have n9_ := aS (Kd.R_drew HO191.out)
     have n10_ := aS (blk_drew BK155.out)
     have n11_ := aS (blk_drew BK184.out)
     have n12_ := aS (below_drew1 HB.out)
     clear HO160 HO163 HO166 HO169 HO173 HO176 HO180 HO183 HO188 HO191 BK155 BK184 HB
     have HO160 := n0_; have HO163 := n1_; have HO166 := n2_; have HO169 := n3_; have HO173 := n4_; have HO176 := n5_; have HO180 := n6_; have HO183 := n7_; have HO188 := n8_; have HO191 := n9_; have BK155 := n10_; have BK184 := n11_; have HB := n12_
     clear n0_ n1_ n2_ n3_ n4_ n5_ n6_ n7_ n8_ n9_ n10_ n11_ n12_
     refine start_ (n := 5) (S := fun w' => w'.cell? ⟨gb184, 0, none⟩ = some (.slice Ao44 t178.length co44) ∧ w'.cell? ⟨gb184, 1, none⟩ = some (.slice Ao49 t181.length co49) ∧ w'.cell? ⟨gb155, 0, none⟩ = some (.slice A1_0 l1_0.length c1_0) ∧ w'.cell? ⟨gb155, 1, none⟩ = some (.slice A1_1 l1_1.length c1_1)) (ds := []) #[false, false, false, false, false] (by kernel_rfl) rfl rfl ⟨(blk_cell BK184.out 0).trans rfl, (blk_cell BK184.out 1).trans rfl, (blk_cell BK155.out 0).trans rfl, (blk_cell BK155.out 1).trans rfl⟩ (fun hHeld => ?_)
     generalize w60.drew = w65 at HO160 HO163 HO166 HO169 HO173 HO176 HO180 HO183 HO188 HO191 BK155 BK184 HB hHeld ⊢
     refine take_ (i := 0) (N := some 40) (v := ?_) (a' := ?_) #[true, false, false, false, false] rfl rfl (by kernel_rfl) (fun _ _ _ h => h) (Or.inl ⟨by rfl, ?_⟩) hHeld ?_ ?_
     rotate_left
     ·
      rintro w' ⟨s0, s1, s2, s3⟩
      go_simp
      with_reducible rfl
     rotate_left
     ·
      simp only [Act.put, List.setIfInBounds_toArray, List.set_cons_zero, List.set_cons_succ, i64_w, i32_w]
      rfl
     refine take_ (i := 1) (N := some 41) (v := ?_) (a' := ?_) #[true, true, false, false, false] rfl rfl (by kernel_rfl) (fun _ _ _ h => h) (Or.inl ⟨by rfl, ?_⟩) hHeld ?_ ?_
     rotate_left
     ·
      rintro w' ⟨s0, s1, s2, s3⟩
      go_simp
      with_reducible rfl
     rotate_left
     ·
      simp only [Act.put, List.setIfInBounds_toArray, List.set_cons_zero, List.set_cons_succ, i64_w, i32_w]
      rfl
     refine one_ (i := 2) (N := some 42) #[true, true, true, false, false] rfl rfl (by kernel_rfl) (by decide) (fun K hK => ?_)
     refine goes_ Try.func20 (by kernel_rfl) rfl #[.agg #[.slice A1_0 l1_0.length c1_0, .slice A1_1 l1_1.length c1_1]] (by rfl) rfl rfl sG ?_
     with_reducible refine (laws_toLine.calls k _ _ l1_0 _ _ l1_1 t193 t196 _ ?side1 ?side2 ?side3 ?side4 A62.out).mono ?_
     (case side1 => exact sC (Kd.C_below HR1_0.out HB.out))
     (case side2 => exact HC1_0.out)
     (case side3 => exact sC (Kd.C_below HR1_1.out HB.out))
     (case side4 => exact HC1_1.out)
     rintro e w66 ⟨v194, v197, rfl, ho0, ho1, hb⟩
     refine ⟨_, rfl, ?_⟩
     have n0_ := aS (Kd.R_elder' (sR HO160.out) (Kd.R_base ho0) hb)
     have n1_ := aS (Kd.R_elder' (sR HO163.out) (Kd.R_base ho1) hb)
     have n2_ := aS (Kd.R_elder' (sR HO166.out) (Kd.R_base ho0) hb)
     have n3_ := aS (Kd.R_elder' (sR HO169.out) (Kd.R_base ho1) hb)
     have n4_ := aS (Kd.R_elder' (sR HO173.out) (Kd.R_base ho0) hb)
     have n5_ := aS (Kd.R_elder' (sR HO176.out) (Kd.R_base ho1) hb)
     have n6_ := aS (Kd.R_elder' (sR HO180.out) (Kd.R_base ho0) hb)
     have n7_ := aS (Kd.R_elder' (sR HO183.out) (Kd.R_base ho1) hb)
     have n8_ := aS (Kd.R_elder' (sR HO188.out) (Kd.R_base ho0) hb)
     have n9_ := aS (Kd.R_elder' (sR HO191.out) (Kd.R_base ho1) hb)
     have n10_ := aS (Kd.R_lower (Kd.R_new' (Kd.R_new' (Kd.R_new' (Kd.R_new' (Kd.R_new' ho0 (Kd.R_lt (sR HO160.out))) (Kd.R_lt (sR HO166.out))) (Kd.R_lt (sR HO173.out))) (Kd.R_lt (sR HO180.out))) (Kd.R_lt (sR HO188.out))) (below_size (sW HB.out)))
     have n11_ := aS (Kd.R_lower (Kd.R_new' (Kd.R_new' (Kd.R_new' (Kd.R_new' (Kd.R_new' ho1 (Kd.R_lt (sR HO163.out))) (Kd.R_lt (sR HO169.out))) (Kd.R_lt (sR HO176.out))) (Kd.R_lt (sR HO183.out))) (Kd.R_lt (sR HO191.out))) (below_size (sW HB.out)))
     have n12_ := aS (blk_below (g := gb155) (o := .cells #[.slice A1_0 l1_0.length c1_0, .slice A1_1 l1_1.length c1_1] 32 (0, 0)) (sB BK155.out) hb)
     have n13_ := aS (blk_below (g := gb184) (o := .cells #[.slice Ao44 t178.length co44, .slice Ao49 t181.length co49] 37 (0, 0)) (sB BK184.out) hb)
     have n14_ := aS (below_step (sW HB.out) hb)
     clear HO160 HO163 HO166 HO169 HO173 HO176 HO180 HO183 HO188 HO191 BK155 BK184 HB
     have HO160 := n0_; have HO163 := n1_; have HO166 := n2_; have HO169 := n3_; have HO173 := n4_; have HO176 := n5_; have HO180 := n6_; have HO183 := n7_; have HO188 := n8_; have HO191 := n9_; have HO195 := n10_; have HO198 := n11_; have BK155 := n12_; have BK184 := n13_; have HB := n14_
     clear n0_ n1_ n2_ n3_ n4_ n5_ n6_ n7_ n8_ n9_ n10_ n11_ n12_ n13_ n14_
     (try clear hb); (try clear hb2); (try clear hk); (try clear hi); (try clear ho0); (try clear ho1)
     obtain ⟨Ao67, co67, eo67⟩ := Kd.R_slice HO195.out
     (first | subst eo67 | (injection eo67 with f1_ f2_ f3_; have f4_ := f1_.symm; have f5_ := f3_.symm; clear f1_ f2_ f3_; subst f4_; subst f5_))
     obtain ⟨Ao68, co68, eo68⟩ := Kd.R_slice HO198.out
     (first | subst eo68 | (injection eo68 with f1_ f2_ f3_; have f4_ := f1_.symm; have f5_ := f3_.symm; clear f1_ f2_ f3_; subst f4_; subst f5_))
     refine hK.out _ _ ⟨(blk_cell BK184.out 0).trans rfl, (blk_cell BK184.out 1).trans rfl, (blk_cell BK155.out 0).trans rfl, (blk_cell BK155.out 1).trans rfl⟩ (fun hHeld => ?_)
     clear hK K
     refine norm_ (a' := ?_) ?_ ?_
     rotate_left
     ·
      show Act.put _ (some 42) _ = _
      simp only [Act.put, List.setIfInBounds_toArray, List.set_cons_zero, List.set_cons_succ, i64_w, i32_w]
      rfl
     refine one_ (i := 3) (N := some 43) #[true, true, true, true, false] rfl rfl (by kernel_rfl) (by decide) (fun K hK => ?_)
     refine goes_ Try.func22 (by kernel_rfl) rfl #[.agg #[.slice Ao44 t178.length co44, .slice Ao49 t181.length co49], .agg #[.slice Ao67 t193.length co67, .slice Ao68 t196.length co68]] (by rfl) rfl rfl sG ?_
     with_reducible refine (laws_eqLine.calls k _ _ t178 _ _ t181 _ _ t193 _ _ t196 t199 _ ?side1 ?side2 ?side3 ?side4 ?side5 ?side6 ?side7 ?side8 A63.out).mono ?_
     (case side1 => exact sC (Kd.R_reads' HO180.out).2.2)
     (case side2 => exact (Kd.R_reads' HO180.out).2.1)
     (case side3 => exact sC (Kd.R_reads' HO183.out).2.2)
     (case side4 => exact (Kd.R_reads' HO183.out).2.1)
     (case side5 => exact sC (Kd.R_reads' HO195.out).2.2)
     (case side6 => exact (Kd.R_reads' HO195.out).2.1)
     (case side7 => exact sC (Kd.R_reads' HO198.out).2.2)
     (case side8 => exact (Kd.R_reads' HO198.out).2.1)
     rintro e w69 ⟨rfl, hb⟩
     refine ⟨_, rfl, ?_⟩
     have n0_ := aS (Kd.R_below (sR HO160.out) hb)
     have n1_ := aS (Kd.R_below (sR HO163.out) hb)
     have n2_ := aS (Kd.R_below (sR HO166.out) hb)
     have n3_ := aS (Kd.R_below (sR HO169.out) hb)
     have n4_ := aS (Kd.R_below (sR HO173.out) hb)
     have n5_ := aS (Kd.R_below (sR HO176.out) hb)
     have n6_ := aS (Kd.R_below (sR HO180.out) hb)
     have n7_ := aS (Kd.R_below (sR HO183.out) hb)
     have n8_ := aS (Kd.R_below (sR HO188.out) hb)
     have n9_ := aS (Kd.R_below (sR HO191.out) hb)
     have n10_ := aS (Kd.R_below (sR HO195.out) hb)
     have n11_ := aS (Kd.R_below (sR HO198.out) hb)
     have n12_ := aS (blk_below (g := gb155) (o := .cells #[.slice A1_0 l1_0.length c1_0, .slice A1_1 l1_1.length c1_1] 32 (0, 0)) (sB BK155.out) hb)
     have n13_ := aS (blk_below (g := gb184) (o := .cells #[.slice Ao44 t178.length co44, .slice Ao49 t181.length co49] 37 (0, 0)) (sB BK184.out) hb)
     have n14_ := aS (below_step (sW HB.out) hb)
     clear HO160 HO163 HO166 HO169 HO173 HO176 HO180 HO183 HO188 HO191 HO195 HO198 BK155 BK184 HB
     have HO160 := n0_; have HO163 := n1_; have HO166 := n2_; have HO169 := n3_; have HO173 := n4_; have HO176 := n5_; have HO180 := n6_; have HO183 := n7_; have HO188 := n8_; have HO191 := n9_; have HO195 := n10_; have HO198 := n11_; have BK155 := n12_; have BK184 := n13_; have HB := n14_
     clear n0_ n1_ n2_ n3_ n4_ n5_ n6_ n7_ n8_ n9_ n10_ n11_ n12_ n13_ n14_
     (try clear hb); (try clear hb2); (try clear hk); (try clear hi)
     refine hK.out _ _ ⟨(blk_cell BK184.out 0).trans rfl, (blk_cell BK184.out 1).trans rfl, (blk_cell BK155.out 0).trans rfl, (blk_cell BK155.out 1).trans rfl⟩ (fun hHeld => ?_)
     clear hK K
     refine norm_ (a' := ?_) ?_ ?_
     rotate_left
     ·
      show Act.put _ (some 43) _ = _
      simp only [Act.put, List.setIfInBounds_toArray, List.set_cons_zero, List.set_cons_succ, i64_w, i32_w]
      rfl
     refine pure_ (i := 4) (N := some 44) (v := ?_) (a' := ?_) #[true, true, true, true, true] rfl rfl (by kernel_rfl) (fun _ _ _ h => h) (Or.inl ⟨by rfl, ?_⟩) ?_ ?_
     rotate_left
     ·
      intro w'
      go_simp
      with_reducible rfl
     rotate_left
     ·
      simp only [Act.put, List.setIfInBounds_toArray, List.set_cons_zero, List.set_cons_succ, i64_w, i32_w]
      rfl
     refine done_ (by kernel_rfl) ?_
     go_upto_if 44 with (fail)
     have H := HC64.out
     clear HC64
     by_cases c70 : t199 = true
     ·
      subst c70
      have H1 : (some true) = some r := by rw [if_pos rfl] at H; exact H
      clear H
      have H := H1
      clear H1
      obtain rfl := Option.some.inj H
      go_wp2
      go_ret
      exact ⟨by first | rfl | (simp [errW_none, errW_some, i64_w]; done) | (simp [errW_none, errW_some] <;> rfl) | (simp [*, errW_none, errW_some] <;> rfl), by repeat (first | (with_reducible first | exact HB.out | apply below_alloc | apply pw_below_drewN | apply below_drew1) | exact HB.out)⟩
     ·
      replace c70 := Bool.eq_false_iff.mpr c70
      subst c70
      have H1 : (some false) = some r := by rw [if_neg (show ¬ (false = true) by decide)] at H; exact H
      clear H
      have H := H1
      clear H1
      obtain rfl := Option.some.inj H
      go_wp2
      go_ret
      exact ⟨by first | rfl | (simp [errW_none, errW_some, i64_w]; done) | (simp [errW_none, errW_some] <;> rfl) | (simp [*, errW_none, errW_some] <;> rfl), by repeat (first | (with_reducible first | exact HB.out | apply below_alloc | apply pw_below_drewN | apply below_drew1) | exact HB.out)⟩
    ·
     replace c61 := Bool.eq_false_iff.mpr c61
     subst c61
     have H1 : (some false) = some r := by rw [if_neg (show ¬ (false = true) by decide)] at H; exact H
     clear H
     have H := H1
     clear H1
     obtain rfl := Option.some.inj H
     go_wp2
     go_ret
     exact ⟨by first | rfl | (simp [errW_none, errW_some, i64_w]; done) | (simp [errW_none, errW_some] <;> rfl) | (simp [*, errW_none, errW_some] <;> rfl), by repeat (first | (with_reducible first | exact HB.out | apply below_alloc | apply pw_below_drewN | apply below_drew1) | exact HB.out)⟩

/-- THE ONE PURE STATEMENT of laws_FnExactSameLine. -/
def laws_FnExactSameLine.Pure : Prop := ∀ (l0_0 : List (S41)) (l0_1 : List Int) (l1_0 : List (S41)) (l1_1 : List Int), (l0_0.length * 16 ≤ 140737488351232 ∧ l0_0.length ≤ maxLen ∧ (∀ y0 ∈ l0_0, ((Lit.int .i64 y0.f0).wf = true) ∧ ((Lit.int .i64 y0.f1).wf = true))) → (l0_1.length * 8 ≤ 140737488351232 ∧ l0_1.length ≤ maxLen ∧ (∀ y0 ∈ l0_1, (Lit.int .i64 y0).wf = true)) → (l1_0.length * 16 ≤ 140737488351232 ∧ l1_0.length ≤ maxLen ∧ (∀ y0 ∈ l1_0, ((Lit.int .i64 y0.f0).wf = true) ∧ ((Lit.int .i64 y0.f1).wf = true))) → (l1_1.length * 8 ≤ 140737488351232 ∧ l1_1.length ≤ maxLen ∧ (∀ y0 ∈ l1_1, (Lit.int .i64 y0).wf = true)) → ∃ k, laws_FnExactSameLine.f k l0_0 l0_1 l1_0 l1_1 = some true
theorem laws_FnExactSameLine.walk : True := trivial

end Go.Proofs.Ytdgodlccejoibaa.QFnExactSameLine

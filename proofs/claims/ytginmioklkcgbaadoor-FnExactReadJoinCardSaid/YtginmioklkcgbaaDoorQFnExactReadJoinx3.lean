/- What the Go functions of this law compute, each as a Lean function, and that each call comes to that answer; written by a program of this session. No condition. -/
import Derived.Test.YtginmioklkcgbaaDoorQFnExactReadJoinx0
import Derived.Test.YtginmioklkcgbaaDoorQFnExactReadJoinx1
import Derived.Test.YtginmioklkcgbaaDoorQFnExactReadJoinx2
namespace Go.Proofs.YtginmioklkcgbaaDoor.QFnExactReadJoin
open Go.RowKit Go.Proofs.YtginmioklkcgbaaDoorW.PrintWords Go.Proofs.YtginmioklkcgbaaDoorW.PrintLast Go.Proofs.YtginmioklkcgbaaDoorW.PrintMore
attribute [local go_sem] max2_int min2_int max_two min_two max_three min_three max_four min_four   -- for this text's walks alone
set_option linter.unusedVariables false
set_option linter.unusedSimpArgs false

/-! ### spec_ReadJoin: function 16 -/
mutual
def spec_ReadJoin.j0 : Nat → List ByteArray → Bool → Option (ByteArray × Int × Int × Bool)
 | 0, _, _ => none
 | k + 1, x4, x21 => if x21 = true then (some ((⟨#[]⟩ : ByteArray), 0, 0, false)) else (if 1 < (x4.length : Int) then ((spec_l01Split.f k (rdOf ByteArray.empty x4 1) 47).bind fun t146 => (if (t146.length : Int) = 2 then (if 1 < (t146.length : Int) then (spec_ReadJoin.j1 k x4 t146 ((rdOf ByteArray.empty t146 1).toList != ([49, 48, 48, 48] : List UInt8))) else (none)) else (spec_ReadJoin.j1 k x4 t146 true))) else (none))
def spec_ReadJoin.j1 : Nat → List ByteArray → List ByteArray → Bool → Option (ByteArray × Int × Int × Bool)
 | 0, _, _, _ => none
 | k + 1, x4, x5, x35 => if x35 = true then (some ((⟨#[]⟩ : ByteArray), 0, 0, false)) else (if 0 < (x5.length : Int) then ((spec_l01Number.f k (rdOf ByteArray.empty x5 0)).bind fun bt151 => (if 3 < (x4.length : Int) then ((spec_l01Number.f k (rdOf ByteArray.empty x4 3)).bind fun bt154 => (if 0 < (x4.length : Int) then (if bt151.2 = true then (if bt154.2 = true then ((spec_l03One.f k (rdOf ByteArray.empty x4 0) bt151.1 bt154.1).bind fun bt158 => (if bt158.1 = true then (some (bt158.2.1, bt158.2.2.1, bt158.2.2.2, true)) else (some ((⟨#[]⟩ : ByteArray), 0, 0, false)))) else (some ((⟨#[]⟩ : ByteArray), 0, 0, false))) else (some ((⟨#[]⟩ : ByteArray), 0, 0, false))) else (none))) else (none))) else (none))
end
def spec_ReadJoin.f (k : Nat) (a0 : ByteArray) : Option (ByteArray × Int × Int × Bool) := (spec_l01Split.f k a0 32).bind fun t141 => (if (t141.length : Int) = 4 then (if 2 < (t141.length : Int) then (spec_ReadJoin.j0 k t141 ((rdOf ByteArray.empty t141 2).toList != ([116, 97, 107, 101, 115] : List UInt8))) else (none)) else (spec_ReadJoin.j0 k t141 true))
theorem spec_ReadJoin.mono_l : ∀ k, (∀ y0 y1, LeO (spec_ReadJoin.j0 k y0 y1) (spec_ReadJoin.j0 (k + 1) y0 y1)) ∧ (∀ y0 y1 y2, LeO (spec_ReadJoin.j1 k y0 y1 y2) (spec_ReadJoin.j1 (k + 1) y0 y1 y2))
 | 0 => ⟨fun _ _ r h => by simp [spec_ReadJoin.j0] at h, fun _ _ _ r h => by simp [spec_ReadJoin.j1] at h⟩
 | k + 1 => by
  obtain ⟨ih0, ih1⟩ := spec_ReadJoin.mono_l k
  refine ⟨?_, ?_⟩
  ·
   intro y0 y1
   unfold spec_ReadJoin.j0
   repeat' first
   | (with_reducible exact ih0 _ _)
   | (with_reducible exact ih1 _ _ _)
   | (with_reducible exact spec_l01Number.mono _ _)
   | (with_reducible exact spec_l01Split.mono _ _ _)
   | (with_reducible exact spec_l03One.mono _ _ _ _)
   | (with_reducible exact LeO.refl _)
   | (with_reducible exact LeO.none _)
   | (with_reducible refine LeO.ite ?_ ?_)
   | (with_reducible refine LeO.bind ?_ (fun _ => ?_))
   | exact ih0 _ _
   | exact ih1 _ _ _
   | exact spec_l01Number.mono _ _
   | exact spec_l01Split.mono _ _ _
   | exact spec_l03One.mono _ _ _ _
   | exact LeO.none _
   | refine LeO.ite ?_ ?_
   | refine LeO.bind ?_ (fun _ => ?_)
  ·
   intro y0 y1 y2
   unfold spec_ReadJoin.j1
   repeat' first
   | (with_reducible exact ih0 _ _)
   | (with_reducible exact ih1 _ _ _)
   | (with_reducible exact spec_l01Number.mono _ _)
   | (with_reducible exact spec_l01Split.mono _ _ _)
   | (with_reducible exact spec_l03One.mono _ _ _ _)
   | (with_reducible exact LeO.refl _)
   | (with_reducible exact LeO.none _)
   | (with_reducible refine LeO.ite ?_ ?_)
   | (with_reducible refine LeO.bind ?_ (fun _ => ?_))
   | exact ih0 _ _
   | exact ih1 _ _ _
   | exact spec_l01Number.mono _ _
   | exact spec_l01Split.mono _ _ _
   | exact spec_l03One.mono _ _ _ _
   | exact LeO.none _
   | refine LeO.ite ?_ ?_
   | refine LeO.bind ?_ (fun _ => ?_)
theorem spec_ReadJoin.mono : ∀ a0 k, LeO (spec_ReadJoin.f k a0) (spec_ReadJoin.f (k + 1) a0) := by
 intro a0 k
 obtain ⟨ih0, ih1⟩ := spec_ReadJoin.mono_l k
 unfold spec_ReadJoin.f
 repeat' first
   | (with_reducible exact ih0 _ _)
   | (with_reducible exact ih1 _ _ _)
   | (with_reducible exact spec_l01Number.mono _ _)
   | (with_reducible exact spec_l01Split.mono _ _ _)
   | (with_reducible exact spec_l03One.mono _ _ _ _)
   | (with_reducible exact LeO.refl _)
   | (with_reducible exact LeO.none _)
   | (with_reducible refine LeO.ite ?_ ?_)
   | (with_reducible refine LeO.bind ?_ (fun _ => ?_))
   | exact ih0 _ _
   | exact ih1 _ _ _
   | exact spec_l01Number.mono _ _
   | exact spec_l01Split.mono _ _ _
   | exact spec_l03One.mono _ _ _ _
   | exact LeO.none _
   | refine LeO.ite ?_ ?_
   | refine LeO.bind ?_ (fun _ => ?_)
def spec_ReadJoin.bF (n k : Nat) : Array Bool := ((List.range n).map fun i => k.testBit i).toArray
set_option maxHeartbeats 8000000 in
set_option maxRecDepth 100000 in
theorem spec_ReadJoin.calls (k : Nat) (a0 : ByteArray) (r1 : ByteArray) (r2 : Int) (r3 : Int) (r4 : Bool) (w : World) (h : spec_ReadJoin.f k a0 = some (r1, r2, r3, r4)) :
  Calls Tryd.prog 16 #[.string a0] w fun e w' => e = .returned (.tuple #[.agg #[.string r1, .int .i64 r2, .int .i64 r3], .bool r4]) ∧ Below w.heap.size w w' := by
 have hu26 := Tryd.underlying26
 have HB := aS (Below.refl w.heap.size w)
 have H : ((spec_l01Split.f k a0 32).bind fun t141 => (if (t141.length : Int) = 4 then (if 2 < (t141.length : Int) then (spec_ReadJoin.j0 k t141 ((rdOf ByteArray.empty t141 2).toList != ([116, 97, 107, 101, 115] : List UInt8))) else (none)) else (spec_ReadJoin.j0 k t141 true))) = some (r1, r2, r3, r4) := h
 clear h
 replace H := Option.bind_eq_some_iff.mp H
 obtain ⟨t141, A20, H⟩ := H
 replace H : (if (t141.length : Int) = 4 then (if 2 < (t141.length : Int) then (spec_ReadJoin.j0 k t141 ((rdOf ByteArray.empty t141 2).toList != ([116, 97, 107, 101, 115] : List UInt8))) else (none)) else (spec_ReadJoin.j0 k t141 true)) = some (r1, r2, r3, r4) := H
 have A2 := aS A20
 clear A20
 have HC3 := aS H
 clear H
 go_enter Tryd.func16, Tryd.ntmps16
 go_upto_region 2 with (first | ((with_reducible refine gate_dst (N := 2) rfl ?_); refine box_event ?hg (N := 2) ?hd (cs := #[.string (⟨#[]⟩ : ByteArray), .int .i64 0, .int .i64 0]) (t := 26) ?hr ?_; (case hd => rfl); (case hg => rfl); (case hr => first | (go_simp; done) | (go_simp; rfl)); intro gb140 hg w4 hbox hb; have n0_ := aS (below_step (sW HB.out) hb); have n1_ := aS (hbox); have n2_ := aS ((by rw [hg]; exact (below_size (sW HB.out)) : w.heap.size ≤ gb140)); have n3_ := aS ((by rw [hg]; exact (below_size (sW HB.out)) : w.heap.size ≤ gb140)); clear HB; have HB := n0_; have BK140 := n1_; have GW140 := n2_; have GE140 := n3_; clear n0_ n1_ n2_ n3_; clear hb hbox hg) | ((with_reducible refine gate_callee (f := 56) rfl ?_); refine goesL_ (some 12) rfl rfl Tryd.func56 (by kernel_rfl) rfl #[.string a0, .int .u8 32] rfl sG ?_; (with_reducible refine (spec_l01Split.calls k a0 32 t141 _ A2.out).mono ?_); rintro e w5 ⟨v142, rfl, ho0, hb⟩; refine ⟨_, rfl, ?_⟩; have n0_ := aS (Kd.R_lower ho0 (below_size (sW HB.out))); have n1_ := aS (blk_below (g := gb140) (o := .cells #[.string (⟨#[]⟩ : ByteArray), .int .i64 0, .int .i64 0] 26 (0, 0)) (sB BK140.out) hb); have n2_ := aS (below_step (sW HB.out) hb); clear BK140 HB; have HO143 := n0_; have BK140 := n1_; have HB := n2_; clear n0_ n1_ n2_; (try clear hb); (try clear hb2); (try clear hk); (try clear hi); (try clear ho0)))
 (try simp only [Act.put, List.setIfInBounds_toArray, List.set_cons_zero, List.set_cons_succ])
 go_cut [21] (fun v21 wc => ∃ (kq : Nat) (x21_2 : Bool), v21 = .bool x21_2 ∧ Aside0 (spec_ReadJoin.j0 kq t141 x21_2 = some (r1, r2, r3, r4)) ∧ Aside0 (kq ≤ k) ∧ Aside0 (Kd.R Kd.string 9 wc w.heap.size (fun _ => True) v142 t141) ∧ Aside0 (wc.heap[gb140]? = some (.cells #[.string (⟨#[]⟩ : ByteArray), .int .i64 0, .int .i64 0] 26 (0, 0))) ∧ Aside0 (Below w.heap.size w wc))
 case first =>
  have H := HC3.out
  clear HC3
  by_cases c6 : (t141.length : Int) = 4
  rotate_left
  ·
   rw [if_neg c6] at H
   have c6b0 : ((t141.length : Int) == 4) = false := beq_eq_false_iff_ne.mpr c6
   have c6b1 : ((t141.length : Int) != 4) = true := bne_iff_ne.mpr c6
   (first | rw [c6b0] | (simp only [i64_w, i32_w]; rw [c6b0]) | (rw [c6b2]; simp only [Bool.not_false, Bool.not_true]) | skip)
   have H' := aS H
   clear H
   obtain ⟨Ao9, co9, eo9⟩ := Kd.R_slice HO143.out
   subst eo9
   go_wp2
   go_meet
   case rel => exact ⟨_, (true), (by first | rfl | (simp; done) | (simp [*]; done) | (simp only [i64_w]; done) | (simp [i64_w]; done)), H', ⟨by first | omega | exact Nat.le_refl _⟩, ⟨by (with_reducible repeat (first | apply Kd.R_alloc | apply Kd.R_drewN | apply Kd.R_drew)); exact HO143.out⟩, ⟨by (with_reducible repeat (first | refine blk_drewN ?_ _ | refine blk_drew ?_ | refine blk_alloc ?_ _)); exact BK140.out⟩, ⟨by repeat (first | (with_reducible first | exact HB.out | apply below_alloc | apply pw_below_drewN | apply below_drew1 | refine below_set ?_ GE140.out) | exact HB.out)⟩⟩
  rw [if_pos c6] at H
  have c6b0 : ((t141.length : Int) == 4) = true := beq_iff_eq.mpr c6
  have c6b1 : ((t141.length : Int) != 4) = false := bne_eq_false_iff_eq.mpr c6
  clear c6
  (first | rw [c6b0] | (simp only [i64_w, i32_w]; rw [c6b0]) | (rw [c6b2]; simp only [Bool.not_false, Bool.not_true]) | skip)
  by_cases c7 : 2 < (t141.length : Int)
  rotate_left
  ·
   rw [if_neg c7] at H
   exact absurd H (by simp)
  rw [if_pos c7] at H
  have c7b0 : decide (2 < (t141.length : Int)) = true := decide_eq_true c7
  have c7b1 : decide (2 < t141.length) = true := decide_eq_true (by omega)
  clear c7
  have H' := aS H
  clear H
  obtain ⟨Ao8, co8, eo8⟩ := Kd.R_slice HO143.out
  subst eo8
  have p144 : 0 ≤ (2 : Int) := (by omega)
  have q144 : 2 < (t141.length : Int) := of_decide_eq_true (by first | (with_reducible assumption) | assumption)
  obtain ⟨ad144, e144, hx144_0⟩ := Kd.at_string (Kd.R_reads' HO143.out).2.2 2 p144 q144
  cases e144
  (try simp only [show (2 : Int).toNat = 2 from rfl, Nat.reduceMul, Nat.reduceEqDiff, Go.Addr.add, ↓reduceIte] at hx144_0)
  have qi144 : (2 < t141.length) = True := eq_true (by omega)
  (try rw [show ((2 : Int)).toNat = 2 from rfl] at hx144_0)
  replace p144 := eq_true p144
  replace q144 := eq_true q144
  go_wp2
  go_meet
  case rel => exact ⟨_, (((rdOf ByteArray.empty t141 2).toList != ([116, 97, 107, 101, 115] : List UInt8))), (by first | rfl | (simp; done) | (simp [*]; done) | (simp only [i64_w]; done) | (simp [i64_w]; done)), H', ⟨by first | omega | exact Nat.le_refl _⟩, ⟨by (with_reducible repeat (first | apply Kd.R_alloc | apply Kd.R_drewN | apply Kd.R_drew)); exact HO143.out⟩, ⟨by (with_reducible repeat (first | refine blk_drewN ?_ _ | refine blk_drew ?_ | refine blk_alloc ?_ _)); exact BK140.out⟩, ⟨by repeat (first | (with_reducible first | exact HB.out | apply below_alloc | apply pw_below_drewN | apply below_drew1 | refine below_set ?_ GE140.out) | exact HB.out)⟩⟩
 case rest =>
  clear HC3
  (try clear c1); (try clear p1); (try clear q1); (try clear hx1); (try clear qi1); (try clear p2); (try clear c5); (try clear c6); (try clear c6b0); (try clear c6b1); (try clear c6b2); (try clear c7); (try clear c7b0); (try clear c7b1); (try clear hx144_0); (try clear p144); (try clear q144)
  obtain ⟨kq, x21_2, rfl, HA, HJ2, HO_4, BK140, HB⟩ := hcut
  cases kq with
  | zero => exact absurd HA.out (by simp [spec_ReadJoin.j0])
  | succ kj2 =>
   have H := HA.out
   clear HA
   simp only [spec_ReadJoin.j0] at H
   by_cases c10 : x21_2 = true
   ·
    subst c10
    have H1 : (some ((⟨#[]⟩ : ByteArray), 0, 0, false)) = some (r1, r2, r3, r4) := by rw [if_pos rfl] at H; exact H
    clear H
    have H := H1
    clear H1
    simp only [Option.some.injEq, Prod.mk.injEq] at H
    obtain ⟨rfl, rfl, rfl, rfl⟩ := H
    have hcz11_0 : wc.cell? ⟨gb140, 0, none⟩ = some (.string (⟨#[]⟩ : ByteArray)) := (blk_cell BK140.out 0).trans rfl
    have hcz11_1 : wc.cell? ⟨gb140, 1, none⟩ = some (.int .i64 0) := (blk_cell BK140.out 1).trans rfl
    have hcz11_2 : wc.cell? ⟨gb140, 2, none⟩ = some (.int .i64 0) := (blk_cell BK140.out 2).trans rfl
    have hfz11_0 := blk_frozen BK140.out 0
    have hfz11_1 := blk_frozen BK140.out 1
    have hfz11_2 := blk_frozen BK140.out 2
    go_wp2
    refine bodyPost_ret (results_ct rfl _ _ gb140 26 #[.string (⟨#[]⟩ : ByteArray), .int .i64 0, .int .i64 0] (0, 0) _ rfl (by (with_reducible repeat (first | refine blk_drewN ?_ _ | refine blk_drew ?_ | refine blk_alloc ?_ _)); refine blk_put (cs := #[.string (⟨#[]⟩ : ByteArray), .int .i64 0, .int .i64 0]) ?_ 2 _ rfl; (with_reducible repeat (first | refine blk_drewN ?_ _ | refine blk_drew ?_ | refine blk_alloc ?_ _)); refine blk_put (cs := #[.string (⟨#[]⟩ : ByteArray), .int .i64 0, .int .i64 0]) ?_ 1 _ rfl; (with_reducible repeat (first | refine blk_drewN ?_ _ | refine blk_drew ?_ | refine blk_alloc ?_ _)); refine blk_put (cs := #[.string (⟨#[]⟩ : ByteArray), .int .i64 0, .int .i64 0]) ?_ 0 _ rfl; (with_reducible repeat (first | refine blk_drewN ?_ _ | refine blk_drew ?_ | refine blk_alloc ?_ _)); exact BK140.out) Tryd.underlying26 rfl (by kernel_rfl)) rfl ?_
    exact ⟨by first | rfl | (simp [errW_none, errW_some, i64_w]; done) | (simp [errW_none, errW_some] <;> rfl) | (simp [*, errW_none, errW_some] <;> rfl), by repeat (first | (with_reducible first | exact HB.out | apply below_alloc | apply pw_below_drewN | apply below_drew1 | refine below_set ?_ GE140.out) | exact HB.out)⟩
   ·
    replace c10 := Bool.eq_false_iff.mpr c10
    subst c10
    have H1 : (if 1 < (t141.length : Int) then ((spec_l01Split.f kj2 (rdOf ByteArray.empty t141 1) 47).bind fun t146 => (if (t146.length : Int) = 2 then (if 1 < (t146.length : Int) then (spec_ReadJoin.j1 kj2 t141 t146 ((rdOf ByteArray.empty t146 1).toList != ([49, 48, 48, 48] : List UInt8))) else (none)) else (spec_ReadJoin.j1 kj2 t141 t146 true))) else (none)) = some (r1, r2, r3, r4) := by rw [if_neg (show ¬ (false = true) by decide)] at H; exact H
    clear H
    have H := H1
    clear H1
    by_cases c12 : 1 < (t141.length : Int)
    ·
     rw [if_pos c12] at H
     have c12b0 : decide (1 < (t141.length : Int)) = true := decide_eq_true c12
     have c12b1 : decide (1 < t141.length) = true := decide_eq_true (by omega)
     clear c12
     replace H := Option.bind_eq_some_iff.mp H
     obtain ⟨t146, A130, H⟩ := H
     replace H : (if (t146.length : Int) = 2 then (if 1 < (t146.length : Int) then (spec_ReadJoin.j1 kj2 t141 t146 ((rdOf ByteArray.empty t146 1).toList != ([49, 48, 48, 48] : List UInt8))) else (none)) else (spec_ReadJoin.j1 kj2 t141 t146 true)) = some (r1, r2, r3, r4) := H
     have A13 := aS A130
     clear A130
     have HC14 := aS H
     clear H
     obtain ⟨Ao15, co15, eo15⟩ := Kd.R_slice HO_4.out
     subst eo15
     have p145 : 0 ≤ (1 : Int) := (by omega)
     have q145 : 1 < (t141.length : Int) := of_decide_eq_true (by first | (with_reducible assumption) | assumption)
     obtain ⟨ad145, e145, hx145_0⟩ := Kd.at_string (Kd.R_reads' HO_4.out).2.2 1 p145 q145
     cases e145
     (try simp only [show (1 : Int).toNat = 1 from rfl, Nat.reduceMul, Nat.reduceEqDiff, Go.Addr.add, ↓reduceIte] at hx145_0)
     have qi145 : (1 < t141.length) = True := eq_true (by omega)
     (try rw [show ((1 : Int)).toNat = 1 from rfl] at hx145_0)
     replace p145 := eq_true p145
     replace q145 := eq_true q145
     go_upto_region 5 with (first | ((with_reducible refine gate_callee (f := 56) rfl ?_); refine goesL_ (some 26) rfl rfl Tryd.func56 (by kernel_rfl) rfl #[.string (rdOf ByteArray.empty t141 1), .int .u8 47] rfl sG ?_; (with_reducible refine (spec_l01Split.calls kj2 (rdOf ByteArray.empty t141 1) 47 t146 _ A13.out).mono ?_); rintro e w16 ⟨v147, rfl, ho0, hb⟩; refine ⟨_, rfl, ?_⟩; have n0_ := aS (Kd.R_elder' (sR HO_4.out) (Kd.R_base ho0) hb); have n1_ := aS (Kd.R_lower (Kd.R_new' ho0 (Kd.R_lt (sR HO_4.out))) (below_size (sW HB.out))); have n2_ := aS (blk_below (g := gb140) (o := .cells #[.string (⟨#[]⟩ : ByteArray), .int .i64 0, .int .i64 0] 26 (0, 0)) (sB BK140.out) hb); have n3_ := aS (below_step (sW HB.out) hb); clear HO_4 BK140 HB; have HO_4 := n0_; have HO148 := n1_; have BK140 := n2_; have HB := n3_; clear n0_ n1_ n2_ n3_; (try clear hb); (try clear hb2); (try clear hk); (try clear hi); (try clear ho0)))
     (try simp only [Act.put, List.setIfInBounds_toArray, List.set_cons_zero, List.set_cons_succ])
     go_cut [35] (fun v35 wc => ∃ (kq : Nat) (x35_13 : Bool), v35 = .bool x35_13 ∧ Aside0 (spec_ReadJoin.j1 kq t141 t146 x35_13 = some (r1, r2, r3, r4)) ∧ Aside0 (kq ≤ kj2) ∧ Aside0 (Kd.R Kd.string 9 wc w.heap.size (fun k_ => some k_ ≠ (v147 : Value).ownBlock) (.slice (some ad145) t141.length co15) t141) ∧ Aside0 (Kd.R Kd.string 9 wc w.heap.size (fun k_ => some k_ ≠ ((.slice (some ad145) t141.length co15) : Value).ownBlock) v147 t146) ∧ Aside0 (wc.heap[gb140]? = some (.cells #[.string (⟨#[]⟩ : ByteArray), .int .i64 0, .int .i64 0] 26 (0, 0))) ∧ Aside0 (Below w.heap.size w wc))
     case first =>
      have H := HC14.out
      clear HC14
      by_cases c17 : (t146.length : Int) = 2
      rotate_left
      ·
       rw [if_neg c17] at H
       have c17b0 : ((t146.length : Int) == 2) = false := beq_eq_false_iff_ne.mpr c17
       have c17b1 : ((t146.length : Int) != 2) = true := bne_iff_ne.mpr c17
       (first | rw [c17b0] | (simp only [i64_w, i32_w]; rw [c17b0]) | (rw [c17b2]; simp only [Bool.not_false, Bool.not_true]) | skip)
       have H' := aS H
       clear H
       obtain ⟨Ao20, co20, eo20⟩ := Kd.R_slice HO148.out
       subst eo20
       go_wp2
       go_meet
       case rel => exact ⟨_, (true), (by first | rfl | (simp; done) | (simp [*]; done) | (simp only [i64_w]; done) | (simp [i64_w]; done)), H', ⟨by have := HJ2.out; first | omega | exact Nat.le_refl _⟩, ⟨by (with_reducible repeat (first | apply Kd.R_alloc | apply Kd.R_drewN | apply Kd.R_drew)); exact Kd.R_mono HO_4.out (fun _ hk => hk.2)⟩, ⟨by (with_reducible repeat (first | apply Kd.R_alloc | apply Kd.R_drewN | apply Kd.R_drew)); exact Kd.R_mono HO148.out (fun _ hk => hk.2)⟩, ⟨by (with_reducible repeat (first | refine blk_drewN ?_ _ | refine blk_drew ?_ | refine blk_alloc ?_ _)); exact BK140.out⟩, ⟨by repeat (first | (with_reducible first | exact HB.out | apply below_alloc | apply pw_below_drewN | apply below_drew1 | refine below_set ?_ GE140.out) | exact HB.out)⟩⟩
      rw [if_pos c17] at H
      have c17b0 : ((t146.length : Int) == 2) = true := beq_iff_eq.mpr c17
      have c17b1 : ((t146.length : Int) != 2) = false := bne_eq_false_iff_eq.mpr c17
      clear c17
      (first | rw [c17b0] | (simp only [i64_w, i32_w]; rw [c17b0]) | (rw [c17b2]; simp only [Bool.not_false, Bool.not_true]) | skip)
      by_cases c18 : 1 < (t146.length : Int)
      rotate_left
      ·
       rw [if_neg c18] at H
       exact absurd H (by simp)
      rw [if_pos c18] at H
      have c18b0 : decide (1 < (t146.length : Int)) = true := decide_eq_true c18
      have c18b1 : decide (1 < t146.length) = true := decide_eq_true (by omega)
      clear c18
      have H' := aS H
      clear H
      obtain ⟨Ao19, co19, eo19⟩ := Kd.R_slice HO148.out
      subst eo19
      have p149 : 0 ≤ (1 : Int) := (by omega)
      have q149 : 1 < (t146.length : Int) := of_decide_eq_true (by first | (with_reducible assumption) | assumption)
      obtain ⟨ad149, e149, hx149_0⟩ := Kd.at_string (Kd.R_reads' HO148.out).2.2 1 p149 q149
      cases e149
      (try simp only [show (1 : Int).toNat = 1 from rfl, Nat.reduceMul, Nat.reduceEqDiff, Go.Addr.add, ↓reduceIte] at hx149_0)
      have qi149 : (1 < t146.length) = True := eq_true (by omega)
      (try rw [show ((1 : Int)).toNat = 1 from rfl] at hx149_0)
      replace p149 := eq_true p149
      replace q149 := eq_true q149
      go_wp2
      go_meet
      case rel => exact ⟨_, (((rdOf ByteArray.empty t146 1).toList != ([49, 48, 48, 48] : List UInt8))), (by first | rfl | (simp; done) | (simp [*]; done) | (simp only [i64_w]; done) | (simp [i64_w]; done)), H', ⟨by have := HJ2.out; first | omega | exact Nat.le_refl _⟩, ⟨by (with_reducible repeat (first | apply Kd.R_alloc | apply Kd.R_drewN | apply Kd.R_drew)); exact Kd.R_mono HO_4.out (fun _ hk => hk.2)⟩, ⟨by (with_reducible repeat (first | apply Kd.R_alloc | apply Kd.R_drewN | apply Kd.R_drew)); exact Kd.R_mono HO148.out (fun _ hk => hk.2)⟩, ⟨by (with_reducible repeat (first | refine blk_drewN ?_ _ | refine blk_drew ?_ | refine blk_alloc ?_ _)); exact BK140.out⟩, ⟨by repeat (first | (with_reducible first | exact HB.out | apply below_alloc | apply pw_below_drewN | apply below_drew1 | refine below_set ?_ GE140.out) | exact HB.out)⟩⟩
     case rest =>
      clear HC14
      (try clear c1); (try clear p1); (try clear q1); (try clear hx1); (try clear qi1); (try clear p2); (try clear c5); (try clear c6); (try clear c6b0); (try clear c6b1); (try clear c6b2); (try clear c7); (try clear c7b0); (try clear c7b1); (try clear c10); (try clear c12); (try clear c12b0); (try clear c12b1); (try clear p14); (try clear q14); (try clear hx14); (try clear qi14); (try clear c16); (try clear c17); (try clear c17b0); (try clear c17b1); (try clear c17b2); (try clear c18); (try clear c18b0); (try clear c18b1); (try clear hcz11_0); (try clear hcz11_1); (try clear hcz11_2); (try clear hfz11_0); (try clear hfz11_1); (try clear hfz11_2); (try clear hx144_0); (try clear hx145_0); (try clear hx149_0); (try clear p1); (try clear p144); (try clear p145); (try clear p149); (try clear p2); (try clear q1); (try clear q144); (try clear q145); (try clear q149)
      obtain ⟨kq, x35_13, rfl, HA, HJ13, HO_4, HO_5, BK140, HB⟩ := hcut
      cases kq with
      | zero => exact absurd HA.out (by simp [spec_ReadJoin.j1])
      | succ kj13 =>
       have H := HA.out
       clear HA
       simp only [spec_ReadJoin.j1] at H
       by_cases c21 : x35_13 = true
       ·
        subst c21
        have H1 : (some ((⟨#[]⟩ : ByteArray), 0, 0, false)) = some (r1, r2, r3, r4) := by rw [if_pos rfl] at H; exact H
        clear H
        have H := H1
        clear H1
        simp only [Option.some.injEq, Prod.mk.injEq] at H
        obtain ⟨rfl, rfl, rfl, rfl⟩ := H
        have hcz22_0 : wc.cell? ⟨gb140, 0, none⟩ = some (.string (⟨#[]⟩ : ByteArray)) := (blk_cell BK140.out 0).trans rfl
        have hcz22_1 : wc.cell? ⟨gb140, 1, none⟩ = some (.int .i64 0) := (blk_cell BK140.out 1).trans rfl
        have hcz22_2 : wc.cell? ⟨gb140, 2, none⟩ = some (.int .i64 0) := (blk_cell BK140.out 2).trans rfl
        have hfz22_0 := blk_frozen BK140.out 0
        have hfz22_1 := blk_frozen BK140.out 1
        have hfz22_2 := blk_frozen BK140.out 2
        go_wp2
        refine bodyPost_ret (results_ct rfl _ _ gb140 26 #[.string (⟨#[]⟩ : ByteArray), .int .i64 0, .int .i64 0] (0, 0) _ rfl (by (with_reducible repeat (first | refine blk_drewN ?_ _ | refine blk_drew ?_ | refine blk_alloc ?_ _)); refine blk_put (cs := #[.string (⟨#[]⟩ : ByteArray), .int .i64 0, .int .i64 0]) ?_ 2 _ rfl; (with_reducible repeat (first | refine blk_drewN ?_ _ | refine blk_drew ?_ | refine blk_alloc ?_ _)); refine blk_put (cs := #[.string (⟨#[]⟩ : ByteArray), .int .i64 0, .int .i64 0]) ?_ 1 _ rfl; (with_reducible repeat (first | refine blk_drewN ?_ _ | refine blk_drew ?_ | refine blk_alloc ?_ _)); refine blk_put (cs := #[.string (⟨#[]⟩ : ByteArray), .int .i64 0, .int .i64 0]) ?_ 0 _ rfl; (with_reducible repeat (first | refine blk_drewN ?_ _ | refine blk_drew ?_ | refine blk_alloc ?_ _)); exact BK140.out) Tryd.underlying26 rfl (by kernel_rfl)) rfl ?_
        exact ⟨by first | rfl | (simp [errW_none, errW_some, i64_w]; done) | (simp [errW_none, errW_some] <;> rfl) | (simp [*, errW_none, errW_some] <;> rfl), by repeat (first | (with_reducible first | exact HB.out | apply below_alloc | apply pw_below_drewN | apply below_drew1 | refine below_set ?_ GE140.out) | exact HB.out)⟩
       replace c21 := Bool.eq_false_iff.mpr c21
       subst c21
       have H1 : (if 0 < (t146.length : Int) then ((spec_l01Number.f kj13 (rdOf ByteArray.empty t146 0)).bind fun bt151 => (if 3 < (t141.length : Int) then ((spec_l01Number.f kj13 (rdOf ByteArray.empty t141 3)).bind fun bt154 => (if 0 < (t141.length : Int) then (if bt151.2 = true then (if bt154.2 = true then ((spec_l03One.f kj13 (rdOf ByteArray.empty t141 0) bt151.1 bt154.1).bind fun bt158 => (if bt158.1 = true then (some (bt158.2.1, bt158.2.2.1, bt158.2.2.2, true)) else (some ((⟨#[]⟩ : ByteArray), 0, 0, false)))) else (some ((⟨#[]⟩ : ByteArray), 0, 0, false))) else (some ((⟨#[]⟩ : ByteArray), 0, 0, false))) else (none))) else (none))) else (none)) = some (r1, r2, r3, r4) := by rw [if_neg (show ¬ (false = true) by decide)] at H; exact H
       clear H
       have H := H1
       clear H1
       by_cases c23 : 0 < (t146.length : Int)
       rotate_left
       ·
        rw [if_neg c23] at H
        exact absurd H (by simp)
       rw [if_pos c23] at H
       have c23b0 : decide (0 < (t146.length : Int)) = true := decide_eq_true c23
       have c23b1 : decide (0 < t146.length) = true := decide_eq_true (by omega)
       clear c23
       replace H := Option.bind_eq_some_iff.mp H
       obtain ⟨⟨t151, t152⟩, A240, H⟩ := H
       replace H : (if 3 < (t141.length : Int) then ((spec_l01Number.f kj13 (rdOf ByteArray.empty t141 3)).bind fun bt154 => (if 0 < (t141.length : Int) then (if t152 = true then (if bt154.2 = true then ((spec_l03One.f kj13 (rdOf ByteArray.empty t141 0) t151 bt154.1).bind fun bt158 => (if bt158.1 = true then (some (bt158.2.1, bt158.2.2.1, bt158.2.2.2, true)) else (some ((⟨#[]⟩ : ByteArray), 0, 0, false)))) else (some ((⟨#[]⟩ : ByteArray), 0, 0, false))) else (some ((⟨#[]⟩ : ByteArray), 0, 0, false))) else (none))) else (none)) = some (r1, r2, r3, r4) := H
       have A24 := aS A240
       clear A240
       by_cases c25 : 3 < (t141.length : Int)
       rotate_left
       ·
        rw [if_neg c25] at H
        exact absurd H (by simp)
       rw [if_pos c25] at H
       have c25b0 : decide (3 < (t141.length : Int)) = true := decide_eq_true c25
       have c25b1 : decide (3 < t141.length) = true := decide_eq_true (by omega)
       clear c25
       replace H := Option.bind_eq_some_iff.mp H
       obtain ⟨⟨t154, t155⟩, A260, H⟩ := H
       replace H : (if 0 < (t141.length : Int) then (if t152 = true then (if t155 = true then ((spec_l03One.f kj13 (rdOf ByteArray.empty t141 0) t151 t154).bind fun bt158 => (if bt158.1 = true then (some (bt158.2.1, bt158.2.2.1, bt158.2.2.2, true)) else (some ((⟨#[]⟩ : ByteArray), 0, 0, false)))) else (some ((⟨#[]⟩ : ByteArray), 0, 0, false))) else (some ((⟨#[]⟩ : ByteArray), 0, 0, false))) else (none)) = some (r1, r2, r3, r4) := H
       have A26 := aS A260
       clear A260
       by_cases c27 : 0 < (t141.length : Int)
       rotate_left
       ·
        rw [if_neg c27] at H
        exact absurd H (by simp)
       rw [if_pos c27] at H
       have c27b0 : decide (0 < (t141.length : Int)) = true := decide_eq_true c27
       have c27b1 : decide (0 < t141.length) = true := decide_eq_true (by omega)
       clear c27
       by_cases c28 : t152 = true
       rotate_left
       ·
        replace c28 := Bool.eq_false_iff.mpr c28
        subst c28
        have H1 : (some ((⟨#[]⟩ : ByteArray), 0, 0, false)) = some (r1, r2, r3, r4) := by rw [if_neg (show ¬ (false = true) by decide)] at H; exact H
        clear H
        have H := H1
        clear H1
        simp only [Option.some.injEq, Prod.mk.injEq] at H
        obtain ⟨rfl, rfl, rfl, rfl⟩ := H
        obtain ⟨Ao56, co56, eo56⟩ := Kd.R_slice HO_5.out
        subst eo56
        have p150 : 0 ≤ (0 : Int) := (by omega)
        have q150 : 0 < (t146.length : Int) := of_decide_eq_true (by first | (with_reducible assumption) | assumption)
        obtain ⟨ad150, e150, hx150_0⟩ := Kd.at_string (Kd.R_reads' HO_5.out).2.2 0 p150 q150
        cases e150
        have qi150 : (0 < t146.length) = True := eq_true (by omega)
        (try rw [show ((0 : Int)).toNat = 0 from rfl] at hx150_0)
        (try rw [Addr.add_zero'] at hx150_0)
        replace p150 := eq_true p150
        replace q150 := eq_true q150
        go_wp2_with (first | ((with_reducible refine gate_callee (f := 57) rfl ?_); refine goesL_ (some 41) rfl rfl Tryd.func57 (by kernel_rfl) rfl #[.string (rdOf ByteArray.empty t146 0)] rfl sG ?_; (with_reducible refine (spec_l01Number.calls kj13 (rdOf ByteArray.empty t146 0) t151 false _ A24.out).mono ?_); rintro e w57 ⟨rfl, hb⟩; refine ⟨_, rfl, ?_⟩; have n0_ := aS (Kd.R_below (sR HO_4.out) hb); have n1_ := aS (Kd.R_below (sR HO_5.out) hb); have n2_ := aS (blk_below (g := gb140) (o := .cells #[.string (⟨#[]⟩ : ByteArray), .int .i64 0, .int .i64 0] 26 (0, 0)) (sB BK140.out) hb); have n3_ := aS (below_step (sW HB.out) hb); clear HO_4 HO_5 BK140 HB; have HO_4 := n0_; have HO_5 := n1_; have BK140 := n2_; have HB := n3_; clear n0_ n1_ n2_ n3_; (try clear hb); (try clear hb2); (try clear hk); (try clear hi); have p153 : 0 ≤ (3 : Int) := (by omega); have q153 : 3 < (t141.length : Int) := of_decide_eq_true (by first | (with_reducible assumption) | assumption); obtain ⟨ad153, e153, hx153_0⟩ := Kd.at_string (Kd.R_reads' HO_4.out).2.2 3 p153 q153; obtain rfl : ad145 = ad153 := (by injection e153); (try simp only [show (3 : Int).toNat = 3 from rfl, Nat.reduceMul, Nat.reduceEqDiff, Go.Addr.add, ↓reduceIte] at hx153_0); have qi153 : (3 < t141.length) = True := eq_true (by omega); (try rw [show ((3 : Int)).toNat = 3 from rfl] at hx153_0); replace p153 := eq_true p153; replace q153 := eq_true q153) | ((with_reducible refine gate_callee (f := 57) rfl ?_); refine goesL_ (some 48) rfl rfl Tryd.func57 (by kernel_rfl) rfl #[.string (rdOf ByteArray.empty t141 3)] rfl sG ?_; (with_reducible refine (spec_l01Number.calls kj13 (rdOf ByteArray.empty t141 3) t154 t155 _ A26.out).mono ?_); rintro e w58 ⟨rfl, hb⟩; refine ⟨_, rfl, ?_⟩; have n0_ := aS (Kd.R_below (sR HO_4.out) hb); have n1_ := aS (Kd.R_below (sR HO_5.out) hb); have n2_ := aS (blk_below (g := gb140) (o := .cells #[.string (⟨#[]⟩ : ByteArray), .int .i64 0, .int .i64 0] 26 (0, 0)) (sB BK140.out) hb); have n3_ := aS (below_step (sW HB.out) hb); clear HO_4 HO_5 BK140 HB; have HO_4 := n0_; have HO_5 := n1_; have BK140 := n2_; have HB := n3_; clear n0_ n1_ n2_ n3_; (try clear hb); (try clear hb2); (try clear hk); (try clear hi); have p156 : 0 ≤ (0 : Int) := (by omega); have q156 : 0 < (t141.length : Int) := of_decide_eq_true (by first | (with_reducible assumption) | assumption); obtain ⟨ad156, e156, hx156_0⟩ := Kd.at_string (Kd.R_reads' HO_4.out).2.2 0 p156 q156; obtain rfl : ad145 = ad156 := (by injection e156); have qi156 : (0 < t141.length) = True := eq_true (by omega); (try rw [show ((0 : Int)).toNat = 0 from rfl] at hx156_0); (try rw [Addr.add_zero'] at hx156_0); replace p156 := eq_true p156; replace q156 := eq_true q156) | ((with_reducible refine gate_dst (N := 10) rfl ?_); refine box_event ?hg (N := 10) ?hd (cs := #[.string (⟨#[]⟩ : ByteArray), .int .i64 0, .int .i64 0]) (t := 26) ?hr ?_; (case hd => rfl); (case hg => rfl); (case hr => first | (go_simp; done) | (go_simp; rfl)); intro gb157 hg w59 hbox hb; have n0_ := aS (Kd.R_below (sR HO_4.out) hb); have n1_ := aS (Kd.R_below (sR HO_5.out) hb); have n2_ := aS (blk_below (g := gb140) (o := .cells #[.string (⟨#[]⟩ : ByteArray), .int .i64 0, .int .i64 0] 26 (0, 0)) (sB BK140.out) hb); have n3_ := aS (below_step (sW HB.out) hb); have n4_ := aS (hbox); have n5_ := aS ((by rw [hg]; exact (below_size (sW HB.out)) : w.heap.size ≤ gb157)); have n6_ := aS ((by rw [hg]; exact (below_size (sW HB.out)) : w.heap.size ≤ gb157)); have n7_ := aS ((by rw [hg]; exact Nat.ne_of_lt (blk_lt (g := gb140) (o := .cells #[.string (⟨#[]⟩ : ByteArray), .int .i64 0, .int .i64 0] 26 (0, 0)) (sB BK140.out)) : gb140 ≠ gb157)); have n8_ := aS ((by rw [hg]; exact Nat.ne_of_gt (blk_lt (g := gb140) (o := .cells #[.string (⟨#[]⟩ : ByteArray), .int .i64 0, .int .i64 0] 26 (0, 0)) (sB BK140.out)) : gb157 ≠ gb140)); clear HO_4 HO_5 BK140 HB; have HO_4 := n0_; have HO_5 := n1_; have BK140 := n2_; have HB := n3_; have BK157 := n4_; have GW157 := n5_; have GE157 := n6_; have NB140_157 := n7_; have NB157_140 := n8_; clear n0_ n1_ n2_ n3_ n4_ n5_ n6_ n7_ n8_; clear hb hbox hg; have hnb60 := NB157_140.out; have hnc60 := NB140_157.out; have hcz61_0 : w59.cell? ⟨gb157, 0, none⟩ = some (.string (⟨#[]⟩ : ByteArray)) := (blk_cell BK157.out 0).trans rfl; have hcz61_1 : w59.cell? ⟨gb157, 1, none⟩ = some (.int .i64 0) := (blk_cell BK157.out 1).trans rfl; have hcz61_2 : w59.cell? ⟨gb157, 2, none⟩ = some (.int .i64 0) := (blk_cell BK157.out 2).trans rfl; have hfz61_0 := blk_frozen BK157.out 0; have hfz61_1 := blk_frozen BK157.out 1; have hfz61_2 := blk_frozen BK157.out 2; have hcz62_0 : w59.cell? ⟨gb140, 0, none⟩ = some (.string (⟨#[]⟩ : ByteArray)) := (blk_cell BK140.out 0).trans rfl; have hcz62_1 : w59.cell? ⟨gb140, 1, none⟩ = some (.int .i64 0) := (blk_cell BK140.out 1).trans rfl; have hcz62_2 : w59.cell? ⟨gb140, 2, none⟩ = some (.int .i64 0) := (blk_cell BK140.out 2).trans rfl; have hfz62_0 := blk_frozen BK140.out 0; have hfz62_1 := blk_frozen BK140.out 1; have hfz62_2 := blk_frozen BK140.out 2))
        refine bodyPost_ret (results_ct rfl _ _ gb140 26 #[.string (⟨#[]⟩ : ByteArray), .int .i64 0, .int .i64 0] (0, 0) _ rfl (by (with_reducible repeat (first | refine blk_drewN ?_ _ | refine blk_drew ?_ | refine blk_alloc ?_ _)); refine blk_put (cs := #[.string (⟨#[]⟩ : ByteArray), .int .i64 0, .int .i64 0]) ?_ 2 _ rfl; (with_reducible repeat (first | refine blk_drewN ?_ _ | refine blk_drew ?_ | refine blk_alloc ?_ _)); refine blk_put (cs := #[.string (⟨#[]⟩ : ByteArray), .int .i64 0, .int .i64 0]) ?_ 1 _ rfl; (with_reducible repeat (first | refine blk_drewN ?_ _ | refine blk_drew ?_ | refine blk_alloc ?_ _)); refine blk_put (cs := #[.string (⟨#[]⟩ : ByteArray), .int .i64 0, .int .i64 0]) ?_ 0 _ rfl; (with_reducible repeat (first | refine blk_drewN ?_ _ | refine blk_drew ?_ | refine blk_alloc ?_ _)); refine blk_far ?_ NB140_157.out _; (with_reducible repeat (first | refine blk_drewN ?_ _ | refine blk_drew ?_ | refine blk_alloc ?_ _)); refine blk_far ?_ NB140_157.out _; (with_reducible repeat (first | refine blk_drewN ?_ _ | refine blk_drew ?_ | refine blk_alloc ?_ _)); refine blk_far ?_ NB140_157.out _; (with_reducible repeat (first | refine blk_drewN ?_ _ | refine blk_drew ?_ | refine blk_alloc ?_ _)); exact BK140.out) Tryd.underlying26 rfl (by kernel_rfl)) rfl ?_
        exact ⟨by first | rfl | (simp [errW_none, errW_some, i64_w]; done) | (simp [errW_none, errW_some] <;> rfl) | (simp [*, errW_none, errW_some] <;> rfl), by repeat (first | (with_reducible first | exact HB.out | apply below_alloc | apply pw_below_drewN | apply below_drew1 | refine below_set ?_ GE140.out | refine below_set ?_ GE157.out) | exact HB.out)⟩
       subst c28
       have H1 : (if t155 = true then ((spec_l03One.f kj13 (rdOf ByteArray.empty t141 0) t151 t154).bind fun bt158 => (if bt158.1 = true then (some (bt158.2.1, bt158.2.2.1, bt158.2.2.2, true)) else (some ((⟨#[]⟩ : ByteArray), 0, 0, false)))) else (some ((⟨#[]⟩ : ByteArray), 0, 0, false))) = some (r1, r2, r3, r4) := by rw [if_pos rfl] at H; exact H
       clear H
       have H := H1
       clear H1
       by_cases c29 : t155 = true
       rotate_left
       ·
        replace c29 := Bool.eq_false_iff.mpr c29
        subst c29
        have H1 : (some ((⟨#[]⟩ : ByteArray), 0, 0, false)) = some (r1, r2, r3, r4) := by rw [if_neg (show ¬ (false = true) by decide)] at H; exact H
        clear H
        have H := H1
        clear H1
        simp only [Option.some.injEq, Prod.mk.injEq] at H
        obtain ⟨rfl, rfl, rfl, rfl⟩ := H
        obtain ⟨Ao49, co49, eo49⟩ := Kd.R_slice HO_5.out
        subst eo49
        have p150 : 0 ≤ (0 : Int) := (by omega)
        have q150 : 0 < (t146.length : Int) := of_decide_eq_true (by first | (with_reducible assumption) | assumption)
        obtain ⟨ad150, e150, hx150_0⟩ := Kd.at_string (Kd.R_reads' HO_5.out).2.2 0 p150 q150
        cases e150
        have qi150 : (0 < t146.length) = True := eq_true (by omega)
        (try rw [show ((0 : Int)).toNat = 0 from rfl] at hx150_0)
        (try rw [Addr.add_zero'] at hx150_0)
        replace p150 := eq_true p150
        replace q150 := eq_true q150
        go_wp2_with (first | ((with_reducible refine gate_callee (f := 57) rfl ?_); refine goesL_ (some 41) rfl rfl Tryd.func57 (by kernel_rfl) rfl #[.string (rdOf ByteArray.empty t146 0)] rfl sG ?_; (with_reducible refine (spec_l01Number.calls kj13 (rdOf ByteArray.empty t146 0) t151 true _ A24.out).mono ?_); rintro e w50 ⟨rfl, hb⟩; refine ⟨_, rfl, ?_⟩; have n0_ := aS (Kd.R_below (sR HO_4.out) hb); have n1_ := aS (Kd.R_below (sR HO_5.out) hb); have n2_ := aS (blk_below (g := gb140) (o := .cells #[.string (⟨#[]⟩ : ByteArray), .int .i64 0, .int .i64 0] 26 (0, 0)) (sB BK140.out) hb); have n3_ := aS (below_step (sW HB.out) hb); clear HO_4 HO_5 BK140 HB; have HO_4 := n0_; have HO_5 := n1_; have BK140 := n2_; have HB := n3_; clear n0_ n1_ n2_ n3_; (try clear hb); (try clear hb2); (try clear hk); (try clear hi); have p153 : 0 ≤ (3 : Int) := (by omega); have q153 : 3 < (t141.length : Int) := of_decide_eq_true (by first | (with_reducible assumption) | assumption); obtain ⟨ad153, e153, hx153_0⟩ := Kd.at_string (Kd.R_reads' HO_4.out).2.2 3 p153 q153; obtain rfl : ad145 = ad153 := (by injection e153); (try simp only [show (3 : Int).toNat = 3 from rfl, Nat.reduceMul, Nat.reduceEqDiff, Go.Addr.add, ↓reduceIte] at hx153_0); have qi153 : (3 < t141.length) = True := eq_true (by omega); (try rw [show ((3 : Int)).toNat = 3 from rfl] at hx153_0); replace p153 := eq_true p153; replace q153 := eq_true q153) | ((with_reducible refine gate_callee (f := 57) rfl ?_); refine goesL_ (some 48) rfl rfl Tryd.func57 (by kernel_rfl) rfl #[.string (rdOf ByteArray.empty t141 3)] rfl sG ?_; (with_reducible refine (spec_l01Number.calls kj13 (rdOf ByteArray.empty t141 3) t154 false _ A26.out).mono ?_); rintro e w51 ⟨rfl, hb⟩; refine ⟨_, rfl, ?_⟩; have n0_ := aS (Kd.R_below (sR HO_4.out) hb); have n1_ := aS (Kd.R_below (sR HO_5.out) hb); have n2_ := aS (blk_below (g := gb140) (o := .cells #[.string (⟨#[]⟩ : ByteArray), .int .i64 0, .int .i64 0] 26 (0, 0)) (sB BK140.out) hb); have n3_ := aS (below_step (sW HB.out) hb); clear HO_4 HO_5 BK140 HB; have HO_4 := n0_; have HO_5 := n1_; have BK140 := n2_; have HB := n3_; clear n0_ n1_ n2_ n3_; (try clear hb); (try clear hb2); (try clear hk); (try clear hi); have p156 : 0 ≤ (0 : Int) := (by omega); have q156 : 0 < (t141.length : Int) := of_decide_eq_true (by first | (with_reducible assumption) | assumption); obtain ⟨ad156, e156, hx156_0⟩ := Kd.at_string (Kd.R_reads' HO_4.out).2.2 0 p156 q156; obtain rfl : ad145 = ad156 := (by injection e156); have qi156 : (0 < t141.length) = True := eq_true (by omega); (try rw [show ((0 : Int)).toNat = 0 from rfl] at hx156_0); (try rw [Addr.add_zero'] at hx156_0); replace p156 := eq_true p156; replace q156 := eq_true q156) | ((with_reducible refine gate_dst (N := 10) rfl ?_); refine box_event ?hg (N := 10) ?hd (cs := #[.string (⟨#[]⟩ : ByteArray), .int .i64 0, .int .i64 0]) (t := 26) ?hr ?_; (case hd => rfl); (case hg => rfl); (case hr => first | (go_simp; done) | (go_simp; rfl)); intro gb157 hg w52 hbox hb; have n0_ := aS (Kd.R_below (sR HO_4.out) hb); have n1_ := aS (Kd.R_below (sR HO_5.out) hb); have n2_ := aS (blk_below (g := gb140) (o := .cells #[.string (⟨#[]⟩ : ByteArray), .int .i64 0, .int .i64 0] 26 (0, 0)) (sB BK140.out) hb); have n3_ := aS (below_step (sW HB.out) hb); have n4_ := aS (hbox); have n5_ := aS ((by rw [hg]; exact (below_size (sW HB.out)) : w.heap.size ≤ gb157)); have n6_ := aS ((by rw [hg]; exact (below_size (sW HB.out)) : w.heap.size ≤ gb157)); have n7_ := aS ((by rw [hg]; exact Nat.ne_of_lt (blk_lt (g := gb140) (o := .cells #[.string (⟨#[]⟩ : ByteArray), .int .i64 0, .int .i64 0] 26 (0, 0)) (sB BK140.out)) : gb140 ≠ gb157)); have n8_ := aS ((by rw [hg]; exact Nat.ne_of_gt (blk_lt (g := gb140) (o := .cells #[.string (⟨#[]⟩ : ByteArray), .int .i64 0, .int .i64 0] 26 (0, 0)) (sB BK140.out)) : gb157 ≠ gb140)); clear HO_4 HO_5 BK140 HB; have HO_4 := n0_; have HO_5 := n1_; have BK140 := n2_; have HB := n3_; have BK157 := n4_; have GW157 := n5_; have GE157 := n6_; have NB140_157 := n7_; have NB157_140 := n8_; clear n0_ n1_ n2_ n3_ n4_ n5_ n6_ n7_ n8_; clear hb hbox hg; have hnb53 := NB157_140.out; have hnc53 := NB140_157.out; have hcz54_0 : w52.cell? ⟨gb157, 0, none⟩ = some (.string (⟨#[]⟩ : ByteArray)) := (blk_cell BK157.out 0).trans rfl; have hcz54_1 : w52.cell? ⟨gb157, 1, none⟩ = some (.int .i64 0) := (blk_cell BK157.out 1).trans rfl; have hcz54_2 : w52.cell? ⟨gb157, 2, none⟩ = some (.int .i64 0) := (blk_cell BK157.out 2).trans rfl; have hfz54_0 := blk_frozen BK157.out 0; have hfz54_1 := blk_frozen BK157.out 1; have hfz54_2 := blk_frozen BK157.out 2; have hcz55_0 : w52.cell? ⟨gb140, 0, none⟩ = some (.string (⟨#[]⟩ : ByteArray)) := (blk_cell BK140.out 0).trans rfl; have hcz55_1 : w52.cell? ⟨gb140, 1, none⟩ = some (.int .i64 0) := (blk_cell BK140.out 1).trans rfl; have hcz55_2 : w52.cell? ⟨gb140, 2, none⟩ = some (.int .i64 0) := (blk_cell BK140.out 2).trans rfl; have hfz55_0 := blk_frozen BK140.out 0; have hfz55_1 := blk_frozen BK140.out 1; have hfz55_2 := blk_frozen BK140.out 2))
        refine bodyPost_ret (results_ct rfl _ _ gb140 26 #[.string (⟨#[]⟩ : ByteArray), .int .i64 0, .int .i64 0] (0, 0) _ rfl (by (with_reducible repeat (first | refine blk_drewN ?_ _ | refine blk_drew ?_ | refine blk_alloc ?_ _)); refine blk_put (cs := #[.string (⟨#[]⟩ : ByteArray), .int .i64 0, .int .i64 0]) ?_ 2 _ rfl; (with_reducible repeat (first | refine blk_drewN ?_ _ | refine blk_drew ?_ | refine blk_alloc ?_ _)); refine blk_put (cs := #[.string (⟨#[]⟩ : ByteArray), .int .i64 0, .int .i64 0]) ?_ 1 _ rfl; (with_reducible repeat (first | refine blk_drewN ?_ _ | refine blk_drew ?_ | refine blk_alloc ?_ _)); refine blk_put (cs := #[.string (⟨#[]⟩ : ByteArray), .int .i64 0, .int .i64 0]) ?_ 0 _ rfl; (with_reducible repeat (first | refine blk_drewN ?_ _ | refine blk_drew ?_ | refine blk_alloc ?_ _)); refine blk_far ?_ NB140_157.out _; (with_reducible repeat (first | refine blk_drewN ?_ _ | refine blk_drew ?_ | refine blk_alloc ?_ _)); refine blk_far ?_ NB140_157.out _; (with_reducible repeat (first | refine blk_drewN ?_ _ | refine blk_drew ?_ | refine blk_alloc ?_ _)); refine blk_far ?_ NB140_157.out _; (with_reducible repeat (first | refine blk_drewN ?_ _ | refine blk_drew ?_ | refine blk_alloc ?_ _)); exact BK140.out) Tryd.underlying26 rfl (by kernel_rfl)) rfl ?_
        exact ⟨by first | rfl | (simp [errW_none, errW_some, i64_w]; done) | (simp [errW_none, errW_some] <;> rfl) | (simp [*, errW_none, errW_some] <;> rfl), by repeat (first | (with_reducible first | exact HB.out | apply below_alloc | apply pw_below_drewN | apply below_drew1 | refine below_set ?_ GE140.out | refine below_set ?_ GE157.out) | exact HB.out)⟩
       subst c29
       have H1 : ((spec_l03One.f kj13 (rdOf ByteArray.empty t141 0) t151 t154).bind fun bt158 => (if bt158.1 = true then (some (bt158.2.1, bt158.2.2.1, bt158.2.2.2, true)) else (some ((⟨#[]⟩ : ByteArray), 0, 0, false)))) = some (r1, r2, r3, r4) := by rw [if_pos rfl] at H; exact H
       clear H
       have H := H1
       clear H1
       replace H := Option.bind_eq_some_iff.mp H
       obtain ⟨⟨t158, t159, t160, t161⟩, A300, H⟩ := H
       replace H : (if t158 = true then (some (t159, t160, t161, true)) else (some ((⟨#[]⟩ : ByteArray), 0, 0, false))) = some (r1, r2, r3, r4) := H
       have A30 := aS A300
       clear A300
       by_cases c31 : t158 = true
       rotate_left
       ·
        replace c31 := Bool.eq_false_iff.mpr c31
        subst c31
        have H1 : (some ((⟨#[]⟩ : ByteArray), 0, 0, false)) = some (r1, r2, r3, r4) := by rw [if_neg (show ¬ (false = true) by decide)] at H; exact H
        clear H
        have H := H1
        clear H1
        simp only [Option.some.injEq, Prod.mk.injEq] at H
        obtain ⟨rfl, rfl, rfl, rfl⟩ := H
        obtain ⟨Ao41, co41, eo41⟩ := Kd.R_slice HO_5.out
        subst eo41
        have p150 : 0 ≤ (0 : Int) := (by omega)
        have q150 : 0 < (t146.length : Int) := of_decide_eq_true (by first | (with_reducible assumption) | assumption)
        obtain ⟨ad150, e150, hx150_0⟩ := Kd.at_string (Kd.R_reads' HO_5.out).2.2 0 p150 q150
        cases e150
        have qi150 : (0 < t146.length) = True := eq_true (by omega)
        (try rw [show ((0 : Int)).toNat = 0 from rfl] at hx150_0)
        (try rw [Addr.add_zero'] at hx150_0)
        replace p150 := eq_true p150
        replace q150 := eq_true q150
        go_wp2_with (first | ((with_reducible refine gate_callee (f := 57) rfl ?_); refine goesL_ (some 41) rfl rfl Tryd.func57 (by kernel_rfl) rfl #[.string (rdOf ByteArray.empty t146 0)] rfl sG ?_; (with_reducible refine (spec_l01Number.calls kj13 (rdOf ByteArray.empty t146 0) t151 true _ A24.out).mono ?_); rintro e w42 ⟨rfl, hb⟩; refine ⟨_, rfl, ?_⟩; have n0_ := aS (Kd.R_below (sR HO_4.out) hb); have n1_ := aS (Kd.R_below (sR HO_5.out) hb); have n2_ := aS (blk_below (g := gb140) (o := .cells #[.string (⟨#[]⟩ : ByteArray), .int .i64 0, .int .i64 0] 26 (0, 0)) (sB BK140.out) hb); have n3_ := aS (below_step (sW HB.out) hb); clear HO_4 HO_5 BK140 HB; have HO_4 := n0_; have HO_5 := n1_; have BK140 := n2_; have HB := n3_; clear n0_ n1_ n2_ n3_; (try clear hb); (try clear hb2); (try clear hk); (try clear hi); have p153 : 0 ≤ (3 : Int) := (by omega); have q153 : 3 < (t141.length : Int) := of_decide_eq_true (by first | (with_reducible assumption) | assumption); obtain ⟨ad153, e153, hx153_0⟩ := Kd.at_string (Kd.R_reads' HO_4.out).2.2 3 p153 q153; obtain rfl : ad145 = ad153 := (by injection e153); (try simp only [show (3 : Int).toNat = 3 from rfl, Nat.reduceMul, Nat.reduceEqDiff, Go.Addr.add, ↓reduceIte] at hx153_0); have qi153 : (3 < t141.length) = True := eq_true (by omega); (try rw [show ((3 : Int)).toNat = 3 from rfl] at hx153_0); replace p153 := eq_true p153; replace q153 := eq_true q153) | ((with_reducible refine gate_callee (f := 57) rfl ?_); refine goesL_ (some 48) rfl rfl Tryd.func57 (by kernel_rfl) rfl #[.string (rdOf ByteArray.empty t141 3)] rfl sG ?_; (with_reducible refine (spec_l01Number.calls kj13 (rdOf ByteArray.empty t141 3) t154 true _ A26.out).mono ?_); rintro e w43 ⟨rfl, hb⟩; refine ⟨_, rfl, ?_⟩; have n0_ := aS (Kd.R_below (sR HO_4.out) hb); have n1_ := aS (Kd.R_below (sR HO_5.out) hb); have n2_ := aS (blk_below (g := gb140) (o := .cells #[.string (⟨#[]⟩ : ByteArray), .int .i64 0, .int .i64 0] 26 (0, 0)) (sB BK140.out) hb); have n3_ := aS (below_step (sW HB.out) hb); clear HO_4 HO_5 BK140 HB; have HO_4 := n0_; have HO_5 := n1_; have BK140 := n2_; have HB := n3_; clear n0_ n1_ n2_ n3_; (try clear hb); (try clear hb2); (try clear hk); (try clear hi); have p156 : 0 ≤ (0 : Int) := (by omega); have q156 : 0 < (t141.length : Int) := of_decide_eq_true (by first | (with_reducible assumption) | assumption); obtain ⟨ad156, e156, hx156_0⟩ := Kd.at_string (Kd.R_reads' HO_4.out).2.2 0 p156 q156; obtain rfl : ad145 = ad156 := (by injection e156); have qi156 : (0 < t141.length) = True := eq_true (by omega); (try rw [show ((0 : Int)).toNat = 0 from rfl] at hx156_0); (try rw [Addr.add_zero'] at hx156_0); replace p156 := eq_true p156; replace q156 := eq_true q156) | ((with_reducible refine gate_dst (N := 10) rfl ?_); refine box_event ?hg (N := 10) ?hd (cs := #[.string (⟨#[]⟩ : ByteArray), .int .i64 0, .int .i64 0]) (t := 26) ?hr ?_; (case hd => rfl); (case hg => rfl); (case hr => first | (go_simp; done) | (go_simp; rfl)); intro gb157 hg w44 hbox hb; have n0_ := aS (Kd.R_below (sR HO_4.out) hb); have n1_ := aS (Kd.R_below (sR HO_5.out) hb); have n2_ := aS (blk_below (g := gb140) (o := .cells #[.string (⟨#[]⟩ : ByteArray), .int .i64 0, .int .i64 0] 26 (0, 0)) (sB BK140.out) hb); have n3_ := aS (below_step (sW HB.out) hb); have n4_ := aS (hbox); have n5_ := aS ((by rw [hg]; exact (below_size (sW HB.out)) : w.heap.size ≤ gb157)); have n6_ := aS ((by rw [hg]; exact (below_size (sW HB.out)) : w.heap.size ≤ gb157)); have n7_ := aS ((by rw [hg]; exact Nat.ne_of_lt (blk_lt (g := gb140) (o := .cells #[.string (⟨#[]⟩ : ByteArray), .int .i64 0, .int .i64 0] 26 (0, 0)) (sB BK140.out)) : gb140 ≠ gb157)); have n8_ := aS ((by rw [hg]; exact Nat.ne_of_gt (blk_lt (g := gb140) (o := .cells #[.string (⟨#[]⟩ : ByteArray), .int .i64 0, .int .i64 0] 26 (0, 0)) (sB BK140.out)) : gb157 ≠ gb140)); clear HO_4 HO_5 BK140 HB; have HO_4 := n0_; have HO_5 := n1_; have BK140 := n2_; have HB := n3_; have BK157 := n4_; have GW157 := n5_; have GE157 := n6_; have NB140_157 := n7_; have NB157_140 := n8_; clear n0_ n1_ n2_ n3_ n4_ n5_ n6_ n7_ n8_; clear hb hbox hg; have hnb45 := NB157_140.out; have hnc45 := NB140_157.out; have hcz46_0 : w44.cell? ⟨gb157, 0, none⟩ = some (.string (⟨#[]⟩ : ByteArray)) := (blk_cell BK157.out 0).trans rfl; have hcz46_1 : w44.cell? ⟨gb157, 1, none⟩ = some (.int .i64 0) := (blk_cell BK157.out 1).trans rfl; have hcz46_2 : w44.cell? ⟨gb157, 2, none⟩ = some (.int .i64 0) := (blk_cell BK157.out 2).trans rfl; have hfz46_0 := blk_frozen BK157.out 0; have hfz46_1 := blk_frozen BK157.out 1; have hfz46_2 := blk_frozen BK157.out 2) | (go_at_call 53; (with_reducible refine (spec_l03One.calls kj13 gb157 (rdOf ByteArray.empty t141 0) t151 t154 false t159 t160 t161 w _ ?side1 ?side2 A30.out).mono ?_); (case side1 => exact ⟨(by (with_reducible repeat (first | refine blk_drewN ?_ _ | refine blk_drew ?_ | refine blk_alloc ?_ _)); refine blk_put (cs := #[.string (rdOf ByteArray.empty t141 0), .int .i64 t151, .int .i64 0]) ?_ 2 _ rfl; (with_reducible repeat (first | refine blk_drewN ?_ _ | refine blk_drew ?_ | refine blk_alloc ?_ _)); refine blk_put (cs := #[.string (rdOf ByteArray.empty t141 0), .int .i64 0, .int .i64 0]) ?_ 1 _ rfl; (with_reducible repeat (first | refine blk_drewN ?_ _ | refine blk_drew ?_ | refine blk_alloc ?_ _)); refine blk_put (cs := #[.string (⟨#[]⟩ : ByteArray), .int .i64 0, .int .i64 0]) ?_ 0 _ rfl; (with_reducible repeat (first | refine blk_drewN ?_ _ | refine blk_drew ?_ | refine blk_alloc ?_ _)); exact BK157.out), GW157.out⟩); (case side2 => repeat (first | (with_reducible first | exact HB.out | apply below_alloc | apply pw_below_drewN | apply below_drew1 | refine below_set ?_ GE140.out | refine below_set ?_ GE157.out) | exact HB.out)); rintro e w47 ⟨rfl, hi, hb, hk⟩; have n0_ := aS (Kd.R_mono (Kd.R_keep (Kd.R_types (sR (Kd.R_mono (Kd.R_far (p := ⟨gb157, 2, none⟩) (Kd.R_far (p := ⟨gb157, 1, none⟩) (Kd.R_far (p := ⟨gb157, 0, none⟩) (Kd.R_types HO_4.out BK157.out (by decide)) (fun _ hk => hk.2) (.string (rdOf ByteArray.empty t141 0))) (fun _ hk => hk.2) (.int .i64 t151)) (fun _ hk => hk.2) (.int .i64 t154)) (fun _ h_ => h_.1))) (show (_ : World).heap[_]? = some (Obj.cells _ 26 (0, 0)) from by (with_reducible repeat (first | refine blk_drewN ?_ _ | refine blk_drew ?_ | refine blk_alloc ?_ _)); refine blk_put (cs := #[.string (rdOf ByteArray.empty t141 0), .int .i64 t151, .int .i64 0]) ?_ 2 _ rfl; (with_reducible repeat (first | refine blk_drewN ?_ _ | refine blk_drew ?_ | refine blk_alloc ?_ _)); refine blk_put (cs := #[.string (rdOf ByteArray.empty t141 0), .int .i64 0, .int .i64 0]) ?_ 1 _ rfl; (with_reducible repeat (first | refine blk_drewN ?_ _ | refine blk_drew ?_ | refine blk_alloc ?_ _)); refine blk_put (cs := #[.string (⟨#[]⟩ : ByteArray), .int .i64 0, .int .i64 0]) ?_ 0 _ rfl; (with_reducible repeat (first | refine blk_drewN ?_ _ | refine blk_drew ?_ | refine blk_alloc ?_ _)); exact BK157.out) (by decide)) hk (fun _ h => h.2)) (fun _ h => h.1)); have n1_ := aS (Kd.R_mono (Kd.R_keep (Kd.R_types (sR (Kd.R_mono (Kd.R_far (p := ⟨gb157, 2, none⟩) (Kd.R_far (p := ⟨gb157, 1, none⟩) (Kd.R_far (p := ⟨gb157, 0, none⟩) (Kd.R_types HO_5.out BK157.out (by decide)) (fun _ hk => hk.2) (.string (rdOf ByteArray.empty t141 0))) (fun _ hk => hk.2) (.int .i64 t151)) (fun _ hk => hk.2) (.int .i64 t154)) (fun _ h_ => h_.1))) (show (_ : World).heap[_]? = some (Obj.cells _ 26 (0, 0)) from by (with_reducible repeat (first | refine blk_drewN ?_ _ | refine blk_drew ?_ | refine blk_alloc ?_ _)); refine blk_put (cs := #[.string (rdOf ByteArray.empty t141 0), .int .i64 t151, .int .i64 0]) ?_ 2 _ rfl; (with_reducible repeat (first | refine blk_drewN ?_ _ | refine blk_drew ?_ | refine blk_alloc ?_ _)); refine blk_put (cs := #[.string (rdOf ByteArray.empty t141 0), .int .i64 0, .int .i64 0]) ?_ 1 _ rfl; (with_reducible repeat (first | refine blk_drewN ?_ _ | refine blk_drew ?_ | refine blk_alloc ?_ _)); refine blk_put (cs := #[.string (⟨#[]⟩ : ByteArray), .int .i64 0, .int .i64 0]) ?_ 0 _ rfl; (with_reducible repeat (first | refine blk_drewN ?_ _ | refine blk_drew ?_ | refine blk_alloc ?_ _)); exact BK157.out) (by decide)) hk (fun _ h => h.2)) (fun _ h => h.1)); have n2_ := aS (KeepBut.blk hk (g' := gb140) (o := .cells #[.string (⟨#[]⟩ : ByteArray), .int .i64 0, .int .i64 0] 26 (0, 0)) (by (with_reducible repeat (first | refine blk_drewN ?_ _ | refine blk_drew ?_ | refine blk_alloc ?_ _)); refine blk_far ?_ NB140_157.out _; (with_reducible repeat (first | refine blk_drewN ?_ _ | refine blk_drew ?_ | refine blk_alloc ?_ _)); refine blk_far ?_ NB140_157.out _; (with_reducible repeat (first | refine blk_drewN ?_ _ | refine blk_drew ?_ | refine blk_alloc ?_ _)); refine blk_far ?_ NB140_157.out _; (with_reducible repeat (first | refine blk_drewN ?_ _ | refine blk_drew ?_ | refine blk_alloc ?_ _)); exact BK140.out) NB140_157.out (by simp)); have n3_ := aS (hb); have n4_ := aS (hi.1); clear HO_4 HO_5 BK140 HB BK157; have HO_4 := n0_; have HO_5 := n1_; have BK140 := n2_; have HB := n3_; have BK157 := n4_; clear n0_ n1_ n2_ n3_ n4_; (try clear hb); (try clear hb2); (try clear hk); (try clear hi); have hcz48_0 : w47.cell? ⟨gb140, 0, none⟩ = some (.string (⟨#[]⟩ : ByteArray)) := (blk_cell BK140.out 0).trans rfl; have hcz48_1 : w47.cell? ⟨gb140, 1, none⟩ = some (.int .i64 0) := (blk_cell BK140.out 1).trans rfl; have hcz48_2 : w47.cell? ⟨gb140, 2, none⟩ = some (.int .i64 0) := (blk_cell BK140.out 2).trans rfl; have hfz48_0 := blk_frozen BK140.out 0; have hfz48_1 := blk_frozen BK140.out 1; have hfz48_2 := blk_frozen BK140.out 2))
        refine bodyPost_ret (results_ct rfl _ _ gb140 26 #[.string (⟨#[]⟩ : ByteArray), .int .i64 0, .int .i64 0] (0, 0) _ rfl (by (with_reducible repeat (first | refine blk_drewN ?_ _ | refine blk_drew ?_ | refine blk_alloc ?_ _)); refine blk_put (cs := #[.string (⟨#[]⟩ : ByteArray), .int .i64 0, .int .i64 0]) ?_ 2 _ rfl; (with_reducible repeat (first | refine blk_drewN ?_ _ | refine blk_drew ?_ | refine blk_alloc ?_ _)); refine blk_put (cs := #[.string (⟨#[]⟩ : ByteArray), .int .i64 0, .int .i64 0]) ?_ 1 _ rfl; (with_reducible repeat (first | refine blk_drewN ?_ _ | refine blk_drew ?_ | refine blk_alloc ?_ _)); refine blk_put (cs := #[.string (⟨#[]⟩ : ByteArray), .int .i64 0, .int .i64 0]) ?_ 0 _ rfl; (with_reducible repeat (first | refine blk_drewN ?_ _ | refine blk_drew ?_ | refine blk_alloc ?_ _)); exact BK140.out) Tryd.underlying26 rfl (by kernel_rfl)) rfl ?_
        exact ⟨by first | rfl | (simp [errW_none, errW_some, i64_w]; done) | (simp [errW_none, errW_some] <;> rfl) | (simp [*, errW_none, errW_some] <;> rfl), by repeat (first | (with_reducible first | exact HB.out | apply below_alloc | apply pw_below_drewN | apply below_drew1 | refine below_set ?_ GE140.out | refine below_set ?_ GE157.out) | exact HB.out)⟩
       subst c31
       have H1 : (some (t159, t160, t161, true)) = some (r1, r2, r3, r4) := by rw [if_pos rfl] at H; exact H
       clear H
       have H := H1
       clear H1
       simp only [Option.some.injEq, Prod.mk.injEq] at H
       obtain ⟨rfl, rfl, rfl, rfl⟩ := H
       obtain ⟨Ao32, co32, eo32⟩ := Kd.R_slice HO_5.out
       subst eo32
       have p150 : 0 ≤ (0 : Int) := (by omega)
       have q150 : 0 < (t146.length : Int) := of_decide_eq_true (by first | (with_reducible assumption) | assumption)
       obtain ⟨ad150, e150, hx150_0⟩ := Kd.at_string (Kd.R_reads' HO_5.out).2.2 0 p150 q150
       cases e150
       have qi150 : (0 < t146.length) = True := eq_true (by omega)
       (try rw [show ((0 : Int)).toNat = 0 from rfl] at hx150_0)
       (try rw [Addr.add_zero'] at hx150_0)
       replace p150 := eq_true p150
       replace q150 := eq_true q150
       go_wp2_with (first | ((with_reducible refine gate_callee (f := 57) rfl ?_); refine goesL_ (some 41) rfl rfl Tryd.func57 (by kernel_rfl) rfl #[.string (rdOf ByteArray.empty t146 0)] rfl sG ?_; (with_reducible refine (spec_l01Number.calls kj13 (rdOf ByteArray.empty t146 0) t151 true _ A24.out).mono ?_); rintro e w33 ⟨rfl, hb⟩; refine ⟨_, rfl, ?_⟩; have n0_ := aS (Kd.R_below (sR HO_4.out) hb); have n1_ := aS (Kd.R_below (sR HO_5.out) hb); have n2_ := aS (blk_below (g := gb140) (o := .cells #[.string (⟨#[]⟩ : ByteArray), .int .i64 0, .int .i64 0] 26 (0, 0)) (sB BK140.out) hb); have n3_ := aS (below_step (sW HB.out) hb); clear HO_4 HO_5 BK140 HB; have HO_4 := n0_; have HO_5 := n1_; have BK140 := n2_; have HB := n3_; clear n0_ n1_ n2_ n3_; (try clear hb); (try clear hb2); (try clear hk); (try clear hi); have p153 : 0 ≤ (3 : Int) := (by omega); have q153 : 3 < (t141.length : Int) := of_decide_eq_true (by first | (with_reducible assumption) | assumption); obtain ⟨ad153, e153, hx153_0⟩ := Kd.at_string (Kd.R_reads' HO_4.out).2.2 3 p153 q153; obtain rfl : ad145 = ad153 := (by injection e153); (try simp only [show (3 : Int).toNat = 3 from rfl, Nat.reduceMul, Nat.reduceEqDiff, Go.Addr.add, ↓reduceIte] at hx153_0); have qi153 : (3 < t141.length) = True := eq_true (by omega); (try rw [show ((3 : Int)).toNat = 3 from rfl] at hx153_0); replace p153 := eq_true p153; replace q153 := eq_true q153) | ((with_reducible refine gate_callee (f := 57) rfl ?_); refine goesL_ (some 48) rfl rfl Tryd.func57 (by kernel_rfl) rfl #[.string (rdOf ByteArray.empty t141 3)] rfl sG ?_; (with_reducible refine (spec_l01Number.calls kj13 (rdOf ByteArray.empty t141 3) t154 true _ A26.out).mono ?_); rintro e w34 ⟨rfl, hb⟩; refine ⟨_, rfl, ?_⟩; have n0_ := aS (Kd.R_below (sR HO_4.out) hb); have n1_ := aS (Kd.R_below (sR HO_5.out) hb); have n2_ := aS (blk_below (g := gb140) (o := .cells #[.string (⟨#[]⟩ : ByteArray), .int .i64 0, .int .i64 0] 26 (0, 0)) (sB BK140.out) hb); have n3_ := aS (below_step (sW HB.out) hb); clear HO_4 HO_5 BK140 HB; have HO_4 := n0_; have HO_5 := n1_; have BK140 := n2_; have HB := n3_; clear n0_ n1_ n2_ n3_; (try clear hb); (try clear hb2); (try clear hk); (try clear hi); have p156 : 0 ≤ (0 : Int) := (by omega); have q156 : 0 < (t141.length : Int) := of_decide_eq_true (by first | (with_reducible assumption) | assumption); obtain ⟨ad156, e156, hx156_0⟩ := Kd.at_string (Kd.R_reads' HO_4.out).2.2 0 p156 q156; obtain rfl : ad145 = ad156 := (by injection e156); have qi156 : (0 < t141.length) = True := eq_true (by omega); (try rw [show ((0 : Int)).toNat = 0 from rfl] at hx156_0); (try rw [Addr.add_zero'] at hx156_0); replace p156 := eq_true p156; replace q156 := eq_true q156) | ((with_reducible refine gate_dst (N := 10) rfl ?_); refine box_event ?hg (N := 10) ?hd (cs := #[.string (⟨#[]⟩ : ByteArray), .int .i64 0, .int .i64 0]) (t := 26) ?hr ?_; (case hd => rfl); (case hg => rfl); (case hr => first | (go_simp; done) | (go_simp; rfl)); intro gb157 hg w35 hbox hb; have n0_ := aS (Kd.R_below (sR HO_4.out) hb); have n1_ := aS (Kd.R_below (sR HO_5.out) hb); have n2_ := aS (blk_below (g := gb140) (o := .cells #[.string (⟨#[]⟩ : ByteArray), .int .i64 0, .int .i64 0] 26 (0, 0)) (sB BK140.out) hb); have n3_ := aS (below_step (sW HB.out) hb); have n4_ := aS (hbox); have n5_ := aS ((by rw [hg]; exact (below_size (sW HB.out)) : w.heap.size ≤ gb157)); have n6_ := aS ((by rw [hg]; exact (below_size (sW HB.out)) : w.heap.size ≤ gb157)); have n7_ := aS ((by rw [hg]; exact Nat.ne_of_lt (blk_lt (g := gb140) (o := .cells #[.string (⟨#[]⟩ : ByteArray), .int .i64 0, .int .i64 0] 26 (0, 0)) (sB BK140.out)) : gb140 ≠ gb157)); have n8_ := aS ((by rw [hg]; exact Nat.ne_of_gt (blk_lt (g := gb140) (o := .cells #[.string (⟨#[]⟩ : ByteArray), .int .i64 0, .int .i64 0] 26 (0, 0)) (sB BK140.out)) : gb157 ≠ gb140)); clear HO_4 HO_5 BK140 HB; have HO_4 := n0_; have HO_5 := n1_; have BK140 := n2_; have HB := n3_; have BK157 := n4_; have GW157 := n5_; have GE157 := n6_; have NB140_157 := n7_; have NB157_140 := n8_; clear n0_ n1_ n2_ n3_ n4_ n5_ n6_ n7_ n8_; clear hb hbox hg; have hnb36 := NB157_140.out; have hnc36 := NB140_157.out; have hcz37_0 : w35.cell? ⟨gb157, 0, none⟩ = some (.string (⟨#[]⟩ : ByteArray)) := (blk_cell BK157.out 0).trans rfl; have hcz37_1 : w35.cell? ⟨gb157, 1, none⟩ = some (.int .i64 0) := (blk_cell BK157.out 1).trans rfl; have hcz37_2 : w35.cell? ⟨gb157, 2, none⟩ = some (.int .i64 0) := (blk_cell BK157.out 2).trans rfl; have hfz37_0 := blk_frozen BK157.out 0; have hfz37_1 := blk_frozen BK157.out 1; have hfz37_2 := blk_frozen BK157.out 2) | (go_at_call 53; (with_reducible refine (spec_l03One.calls kj13 gb157 (rdOf ByteArray.empty t141 0) t151 t154 true t159 t160 t161 w _ ?side1 ?side2 A30.out).mono ?_); (case side1 => exact ⟨(by (with_reducible repeat (first | refine blk_drewN ?_ _ | refine blk_drew ?_ | refine blk_alloc ?_ _)); refine blk_put (cs := #[.string (rdOf ByteArray.empty t141 0), .int .i64 t151, .int .i64 0]) ?_ 2 _ rfl; (with_reducible repeat (first | refine blk_drewN ?_ _ | refine blk_drew ?_ | refine blk_alloc ?_ _)); refine blk_put (cs := #[.string (rdOf ByteArray.empty t141 0), .int .i64 0, .int .i64 0]) ?_ 1 _ rfl; (with_reducible repeat (first | refine blk_drewN ?_ _ | refine blk_drew ?_ | refine blk_alloc ?_ _)); refine blk_put (cs := #[.string (⟨#[]⟩ : ByteArray), .int .i64 0, .int .i64 0]) ?_ 0 _ rfl; (with_reducible repeat (first | refine blk_drewN ?_ _ | refine blk_drew ?_ | refine blk_alloc ?_ _)); exact BK157.out), GW157.out⟩); (case side2 => repeat (first | (with_reducible first | exact HB.out | apply below_alloc | apply pw_below_drewN | apply below_drew1 | refine below_set ?_ GE140.out | refine below_set ?_ GE157.out) | exact HB.out)); rintro e w38 ⟨rfl, hi, hb, hk⟩; have n0_ := aS (Kd.R_mono (Kd.R_keep (Kd.R_types (sR (Kd.R_mono (Kd.R_far (p := ⟨gb157, 2, none⟩) (Kd.R_far (p := ⟨gb157, 1, none⟩) (Kd.R_far (p := ⟨gb157, 0, none⟩) (Kd.R_types HO_4.out BK157.out (by decide)) (fun _ hk => hk.2) (.string (rdOf ByteArray.empty t141 0))) (fun _ hk => hk.2) (.int .i64 t151)) (fun _ hk => hk.2) (.int .i64 t154)) (fun _ h_ => h_.1))) (show (_ : World).heap[_]? = some (Obj.cells _ 26 (0, 0)) from by (with_reducible repeat (first | refine blk_drewN ?_ _ | refine blk_drew ?_ | refine blk_alloc ?_ _)); refine blk_put (cs := #[.string (rdOf ByteArray.empty t141 0), .int .i64 t151, .int .i64 0]) ?_ 2 _ rfl; (with_reducible repeat (first | refine blk_drewN ?_ _ | refine blk_drew ?_ | refine blk_alloc ?_ _)); refine blk_put (cs := #[.string (rdOf ByteArray.empty t141 0), .int .i64 0, .int .i64 0]) ?_ 1 _ rfl; (with_reducible repeat (first | refine blk_drewN ?_ _ | refine blk_drew ?_ | refine blk_alloc ?_ _)); refine blk_put (cs := #[.string (⟨#[]⟩ : ByteArray), .int .i64 0, .int .i64 0]) ?_ 0 _ rfl; (with_reducible repeat (first | refine blk_drewN ?_ _ | refine blk_drew ?_ | refine blk_alloc ?_ _)); exact BK157.out) (by decide)) hk (fun _ h => h.2)) (fun _ h => h.1)); have n1_ := aS (Kd.R_mono (Kd.R_keep (Kd.R_types (sR (Kd.R_mono (Kd.R_far (p := ⟨gb157, 2, none⟩) (Kd.R_far (p := ⟨gb157, 1, none⟩) (Kd.R_far (p := ⟨gb157, 0, none⟩) (Kd.R_types HO_5.out BK157.out (by decide)) (fun _ hk => hk.2) (.string (rdOf ByteArray.empty t141 0))) (fun _ hk => hk.2) (.int .i64 t151)) (fun _ hk => hk.2) (.int .i64 t154)) (fun _ h_ => h_.1))) (show (_ : World).heap[_]? = some (Obj.cells _ 26 (0, 0)) from by (with_reducible repeat (first | refine blk_drewN ?_ _ | refine blk_drew ?_ | refine blk_alloc ?_ _)); refine blk_put (cs := #[.string (rdOf ByteArray.empty t141 0), .int .i64 t151, .int .i64 0]) ?_ 2 _ rfl; (with_reducible repeat (first | refine blk_drewN ?_ _ | refine blk_drew ?_ | refine blk_alloc ?_ _)); refine blk_put (cs := #[.string (rdOf ByteArray.empty t141 0), .int .i64 0, .int .i64 0]) ?_ 1 _ rfl; (with_reducible repeat (first | refine blk_drewN ?_ _ | refine blk_drew ?_ | refine blk_alloc ?_ _)); refine blk_put (cs := #[.string (⟨#[]⟩ : ByteArray), .int .i64 0, .int .i64 0]) ?_ 0 _ rfl; (with_reducible repeat (first | refine blk_drewN ?_ _ | refine blk_drew ?_ | refine blk_alloc ?_ _)); exact BK157.out) (by decide)) hk (fun _ h => h.2)) (fun _ h => h.1)); have n2_ := aS (KeepBut.blk hk (g' := gb140) (o := .cells #[.string (⟨#[]⟩ : ByteArray), .int .i64 0, .int .i64 0] 26 (0, 0)) (by (with_reducible repeat (first | refine blk_drewN ?_ _ | refine blk_drew ?_ | refine blk_alloc ?_ _)); refine blk_far ?_ NB140_157.out _; (with_reducible repeat (first | refine blk_drewN ?_ _ | refine blk_drew ?_ | refine blk_alloc ?_ _)); refine blk_far ?_ NB140_157.out _; (with_reducible repeat (first | refine blk_drewN ?_ _ | refine blk_drew ?_ | refine blk_alloc ?_ _)); refine blk_far ?_ NB140_157.out _; (with_reducible repeat (first | refine blk_drewN ?_ _ | refine blk_drew ?_ | refine blk_alloc ?_ _)); exact BK140.out) NB140_157.out (by simp)); have n3_ := aS (hb); have n4_ := aS (hi.1); clear HO_4 HO_5 BK140 HB BK157; have HO_4 := n0_; have HO_5 := n1_; have BK140 := n2_; have HB := n3_; have BK157 := n4_; clear n0_ n1_ n2_ n3_ n4_; (try clear hb); (try clear hb2); (try clear hk); (try clear hi); have hcz39_0 : w38.cell? ⟨gb157, 0, none⟩ = some (.string t159) := (blk_cell BK157.out 0).trans rfl; have hcz39_1 : w38.cell? ⟨gb157, 1, none⟩ = some (.int .i64 t160) := (blk_cell BK157.out 1).trans rfl; have hcz39_2 : w38.cell? ⟨gb157, 2, none⟩ = some (.int .i64 t161) := (blk_cell BK157.out 2).trans rfl; have hfz39_0 := blk_frozen BK157.out 0; have hfz39_1 := blk_frozen BK157.out 1; have hfz39_2 := blk_frozen BK157.out 2; have hcz40_0 : w38.cell? ⟨gb140, 0, none⟩ = some (.string (⟨#[]⟩ : ByteArray)) := (blk_cell BK140.out 0).trans rfl; have hcz40_1 : w38.cell? ⟨gb140, 1, none⟩ = some (.int .i64 0) := (blk_cell BK140.out 1).trans rfl; have hcz40_2 : w38.cell? ⟨gb140, 2, none⟩ = some (.int .i64 0) := (blk_cell BK140.out 2).trans rfl; have hfz40_0 := blk_frozen BK140.out 0; have hfz40_1 := blk_frozen BK140.out 1; have hfz40_2 := blk_frozen BK140.out 2))
       refine bodyPost_ret (results_ct rfl _ _ gb140 26 #[.string t159, .int .i64 t160, .int .i64 t161] (0, 0) _ rfl (by (with_reducible repeat (first | refine blk_drewN ?_ _ | refine blk_drew ?_ | refine blk_alloc ?_ _)); refine blk_put (cs := #[.string t159, .int .i64 t160, .int .i64 0]) ?_ 2 _ rfl; (with_reducible repeat (first | refine blk_drewN ?_ _ | refine blk_drew ?_ | refine blk_alloc ?_ _)); refine blk_put (cs := #[.string t159, .int .i64 0, .int .i64 0]) ?_ 1 _ rfl; (with_reducible repeat (first | refine blk_drewN ?_ _ | refine blk_drew ?_ | refine blk_alloc ?_ _)); refine blk_put (cs := #[.string (⟨#[]⟩ : ByteArray), .int .i64 0, .int .i64 0]) ?_ 0 _ rfl; (with_reducible repeat (first | refine blk_drewN ?_ _ | refine blk_drew ?_ | refine blk_alloc ?_ _)); exact BK140.out) Tryd.underlying26 rfl (by kernel_rfl)) rfl ?_
       exact ⟨by first | rfl | (simp [errW_none, errW_some, i64_w]; done) | (simp [errW_none, errW_some] <;> rfl) | (simp [*, errW_none, errW_some] <;> rfl), by repeat (first | (with_reducible first | exact HB.out | apply below_alloc | apply pw_below_drewN | apply below_drew1 | refine below_set ?_ GE140.out | refine below_set ?_ GE157.out) | exact HB.out)⟩
    ·
     rw [if_neg c12] at H
     exact absurd H (by simp)

/-! ### strconv_FormatInt: function 61 -/
def strconv_FormatInt.f (a0 a1 : Int) : Option (ByteArray) := if a1 = 10 ∧ -9223372036854775808 ≤ a0 ∧ a0 ≤ 9223372036854775807 then (some ⟨(Lib.itoa a0).toArray⟩) else (none)
theorem strconv_FormatInt.calls (a0 a1 : Int) (r : ByteArray) (w : World) (hT : Gnd.Tab w) (h : strconv_FormatInt.f a0 a1 = some r) :
    Calls Tryd.prog 61 #[.int .i64 a0, .int .i64 a1] w fun e w' => e = .returned (.string r) ∧ Below w.heap.size w w' := by
  unfold strconv_FormatInt.f at h
  split at h
  · rename_i hc
    obtain ⟨rfl, h0, h1⟩ := hc
    obtain rfl := Option.some.inj h
    exact Gnd.formatInt a0 h0 h1 w hT
  · cases h

/-! ### impl_Decimal: function 20 -/
def impl_Decimal.f (a0 : Int) : Option (ByteArray) := (strconv_FormatInt.f a0 10).bind fun t162 => (some t162)
set_option maxHeartbeats 8000000 in
set_option maxRecDepth 100000 in
theorem impl_Decimal.calls (a0 : Int) (r : ByteArray) (w : World) (hT : Gnd.Tab w) (h : impl_Decimal.f a0 = some r) :
  Calls Tryd.prog 20 #[.int .i64 a0] w fun e w' => e = .returned (.string r) ∧ Below w.heap.size w w' := by
 have HB := aS (Below.refl w.heap.size w)
 have H : ((strconv_FormatInt.f a0 10).bind fun t162 => (some t162)) = some r := h
 clear h
 replace H := Option.bind_eq_some_iff.mp H
 obtain ⟨t162, A20, H⟩ := H
 replace H : (some t162) = some r := H
 have A2 := aS A20
 clear A20
 obtain rfl := Option.some.inj H
 go_enter Tryd.func20, Tryd.ntmps20
 go_wp2_with (first | ((with_reducible refine gate_callee (f := 61) rfl ?_); refine goesL_ (some 4) rfl rfl Tryd.func61 (by kernel_rfl) rfl #[.int .i64 a0, .int .i64 10] rfl sG ?_; (with_reducible refine (strconv_FormatInt.calls a0 10 t162 _ ?side1 A2.out).mono ?_); (case side1 => exact Gnd.Tab.on hT (sW HB.out)); rintro e w3 ⟨rfl, hb⟩; refine ⟨_, rfl, ?_⟩; have n0_ := aS (below_step (sW HB.out) hb); clear HB; have HB := n0_; clear n0_; (try clear hb); (try clear hb2); (try clear hk); (try clear hi)))
 go_ret
 exact ⟨by first | rfl | (simp [errW_none, errW_some, i64_w]; done) | (simp [errW_none, errW_some] <;> rfl) | (simp [*, errW_none, errW_some] <;> rfl), by repeat (first | (with_reducible first | exact HB.out | apply below_alloc | apply pw_below_drewN | apply below_drew1) | exact HB.out)⟩

/-! ### strings_TrimPrefix: function 62 -/
def strings_TrimPrefix.f (a0 a1 : ByteArray) : Option (ByteArray) := some ⟨(Lib.trimPrefix a0.data.toList a1.data.toList).toArray⟩
theorem strings_TrimPrefix.calls (a0 a1 r : ByteArray) (w : World) (h : strings_TrimPrefix.f a0 a1 = some r) :
    Calls Tryd.prog 62 #[.string a0, .string a1] w fun e w' => e = .returned (.string r) ∧ Drawn0 w w' := by
  obtain rfl := Option.some.inj h
  exact (Gnd.trimPrefix a0 a1 w).mono fun e w' ⟨he, hw⟩ => ⟨he, hw ▸ Drawn0.refl _⟩

/-! ### impl_ReadDecimal: function 22 -/
mutual
def impl_ReadDecimal.j0 : Nat → ByteArray → ByteArray → Bool → Option (Int × Bool)
 | 0, _, _, _ => none
 | k + 1, x0, x4, x16 => if x16 = true then (some (0, false)) else (impl_ReadDecimal.l0 k x0 x4 0 0)
def impl_ReadDecimal.l0 : Nat → ByteArray → ByteArray → Int → Int → Option (Int × Bool)
 | 0, _, _, _, _ => none
 | k + 1, x0, x4, x5, x6 => if x6 < (x4.size : Int) then (if 0 ≤ x6 then (if (bt x4 x6) < 48 then (some (0, false)) else (if (bt x4 x6) > 57 then (some (0, false)) else (impl_ReadDecimal.l0 k x0 x4 (wrap64 ((wrap64 (10 * x5)) + (((bt x4 x6) - 48) % 256))) (wrap64 (x6 + 1))))) else (none)) else (if (x4.size : Int) < (x0.size : Int) then ((impl_Decimal.f (wrap64 (-x5))).bind fun t164 => (if t164.toList = x0.toList then (some (wrap64 (-x5), true)) else (some (0, false)))) else ((impl_Decimal.f x5).bind fun t165 => (if t165.toList = x0.toList then (some (x5, true)) else (some (0, false)))))
end
def impl_ReadDecimal.f (k : Nat) (a0 : ByteArray) : Option (Int × Bool) := (strings_TrimPrefix.f a0 (⟨#[45]⟩ : ByteArray)).bind fun t163 => (if (t163.size : Int) < 1 then (impl_ReadDecimal.j0 k a0 t163 true) else (impl_ReadDecimal.j0 k a0 t163 (decide ((t163.size : Int) > 18))))
theorem impl_ReadDecimal.mono_l : ∀ k, (∀ y0 y1 y2, LeO (impl_ReadDecimal.j0 k y0 y1 y2) (impl_ReadDecimal.j0 (k + 1) y0 y1 y2)) ∧ (∀ y0 y1 y2 y3, LeO (impl_ReadDecimal.l0 k y0 y1 y2 y3) (impl_ReadDecimal.l0 (k + 1) y0 y1 y2 y3))
 | 0 => ⟨fun _ _ _ r h => by simp [impl_ReadDecimal.j0] at h, fun _ _ _ _ r h => by simp [impl_ReadDecimal.l0] at h⟩
 | k + 1 => by
  obtain ⟨ih0, ih1⟩ := impl_ReadDecimal.mono_l k
  refine ⟨?_, ?_⟩
  ·
   intro y0 y1 y2
   unfold impl_ReadDecimal.j0
   repeat' first
   | (with_reducible exact ih0 _ _ _)
   | (with_reducible exact ih1 _ _ _ _)
   | (with_reducible exact LeO.refl _)
   | (with_reducible exact LeO.none _)
   | (with_reducible refine LeO.ite ?_ ?_)
   | (with_reducible refine LeO.bind ?_ (fun _ => ?_))
   | exact ih0 _ _ _
   | exact ih1 _ _ _ _
   | exact LeO.none _
   | refine LeO.ite ?_ ?_
   | refine LeO.bind ?_ (fun _ => ?_)
  ·
   intro y0 y1 y2 y3
   unfold impl_ReadDecimal.l0
   repeat' first
   | (with_reducible exact ih0 _ _ _)
   | (with_reducible exact ih1 _ _ _ _)
   | (with_reducible exact LeO.refl _)
   | (with_reducible exact LeO.none _)
   | (with_reducible refine LeO.ite ?_ ?_)
   | (with_reducible refine LeO.bind ?_ (fun _ => ?_))
   | exact ih0 _ _ _
   | exact ih1 _ _ _ _
   | exact LeO.none _
   | refine LeO.ite ?_ ?_
   | refine LeO.bind ?_ (fun _ => ?_)
theorem impl_ReadDecimal.mono : ∀ a0 k, LeO (impl_ReadDecimal.f k a0) (impl_ReadDecimal.f (k + 1) a0) := by
 intro a0 k
 obtain ⟨ih0, ih1⟩ := impl_ReadDecimal.mono_l k
 unfold impl_ReadDecimal.f
 repeat' first
   | (with_reducible exact ih0 _ _ _)
   | (with_reducible exact ih1 _ _ _ _)
   | (with_reducible exact LeO.refl _)
   | (with_reducible exact LeO.none _)
   | (with_reducible refine LeO.ite ?_ ?_)
   | (with_reducible refine LeO.bind ?_ (fun _ => ?_))
   | exact ih0 _ _ _
   | exact ih1 _ _ _ _
   | exact LeO.none _
   | refine LeO.ite ?_ ?_
   | refine LeO.bind ?_ (fun _ => ?_)
set_option maxHeartbeats 8000000 in
set_option maxRecDepth 100000 in
theorem impl_ReadDecimal.calls (k : Nat) (a0 : ByteArray) (r1 : Int) (r2 : Bool) (w : World) (hT : Gnd.Tab w) (h : impl_ReadDecimal.f k a0 = some (r1, r2)) :
  Calls Tryd.prog 22 #[.string a0] w fun e w' => e = .returned (.tuple #[.int .i64 r1, .bool r2]) ∧ Below w.heap.size w w' := by
 have HB := aS (Below.refl w.heap.size w)
 have H : ((strings_TrimPrefix.f a0 (⟨#[45]⟩ : ByteArray)).bind fun t163 => (if (t163.size : Int) < 1 then (impl_ReadDecimal.j0 k a0 t163 true) else (impl_ReadDecimal.j0 k a0 t163 (decide ((t163.size : Int) > 18))))) = some (r1, r2) := h
 clear h
 replace H := Option.bind_eq_some_iff.mp H
 obtain ⟨t163, A20, H⟩ := H
 replace H : (if (t163.size : Int) < 1 then (impl_ReadDecimal.j0 k a0 t163 true) else (impl_ReadDecimal.j0 k a0 t163 (decide ((t163.size : Int) > 18)))) = some (r1, r2) := H
 have A2 := aS A20
 clear A20
 have HC3 := aS H
 clear H
 go_enter Tryd.func22, Tryd.ntmps22
 go_upto_region 2 with (first | ((with_reducible refine gate_callee (f := 62) rfl ?_); refine goesL_ (some 8) rfl rfl Tryd.func62 (by kernel_rfl) rfl #[.string a0, .string (⟨#[45]⟩ : ByteArray)] rfl sG ?_; (with_reducible refine (strings_TrimPrefix.calls a0 (⟨#[45]⟩ : ByteArray) t163 _ A2.out).mono ?_); rintro e w' ⟨rfl, ⟨nd, rfl⟩⟩; refine ⟨_, rfl, ?_⟩))
 (try simp only [Act.put, List.setIfInBounds_toArray, List.set_cons_zero, List.set_cons_succ])
 go_cut [16] (fun v16 wc => ∃ (kq : Nat) (x16_2 : Bool), v16 = .bool x16_2 ∧ Aside0 (impl_ReadDecimal.j0 kq a0 t163 x16_2 = some (r1, r2)) ∧ Aside0 (kq ≤ k) ∧ Aside0 (Below w.heap.size w wc))
 case first =>
  have H := HC3.out
  clear HC3
  by_cases c4 : (t163.size : Int) < 1
  ·
   rw [if_pos c4] at H
   have c4b0 : decide ((t163.size : Int) < 1) = true := decide_eq_true c4
   have c4b1 : decide (t163.size < 1) = true := decide_eq_true (by omega)
   clear c4
   (first | rw [c4b0] | (simp only [i64_w, i32_w]; rw [c4b0]) | (rw [c4b2]; simp only [Bool.not_false, Bool.not_true]) | skip)
   have H' := aS H
   clear H
   go_wp2
   go_meet
   case rel => exact ⟨_, (true), (by first | rfl | (simp; done) | (simp [*]; done) | (simp only [i64_w]; done) | (simp [i64_w]; done)), H', ⟨by first | omega | exact Nat.le_refl _⟩, ⟨by repeat (first | (with_reducible first | exact HB.out | apply below_alloc | apply pw_below_drewN | apply below_drew1) | exact HB.out)⟩⟩
  ·
   rw [if_neg c4] at H
   have c4b0 : decide ((t163.size : Int) < 1) = false := decide_eq_false c4
   have c4b1 : decide (t163.size < 1) = false := decide_eq_false (by omega)
   clear c4
   (first | rw [c4b0] | (simp only [i64_w, i32_w]; rw [c4b0]) | (rw [c4b2]; simp only [Bool.not_false, Bool.not_true]) | skip)
   have H' := aS H
   clear H
   go_wp2
   go_meet
   case rel => exact ⟨_, (decide ((t163.size : Int) > 18)), (by first | rfl | (simp; done) | (simp [*]; done) | (simp only [i64_w]; done) | (simp [i64_w]; done)), H', ⟨by first | omega | exact Nat.le_refl _⟩, ⟨by repeat (first | (with_reducible first | exact HB.out | apply below_alloc | apply pw_below_drewN | apply below_drew1) | exact HB.out)⟩⟩
 case rest =>
  clear HC3
  (try clear c2); (try clear p2); (try clear c4); (try clear c4b0); (try clear c4b1); (try clear c4b2)
  obtain ⟨kq, x16_2, rfl, HA, HJ2, HB⟩ := hcut
  cases kq with
  | zero => exact absurd HA.out (by simp [impl_ReadDecimal.j0])
  | succ kj2 =>
   have H := HA.out
   clear HA
   simp only [impl_ReadDecimal.j0] at H
   by_cases c5 : x16_2 = true
   ·
    subst c5
    have H1 : (some (0, false)) = some (r1, r2) := by rw [if_pos rfl] at H; exact H
    clear H
    have H := H1
    clear H1
    simp only [Option.some.injEq, Prod.mk.injEq] at H
    obtain ⟨rfl, rfl⟩ := H
    go_wp2
    go_ret2
    exact ⟨by first | rfl | (simp [errW_none, errW_some, i64_w]; done) | (simp [errW_none, errW_some] <;> rfl) | (simp [*, errW_none, errW_some] <;> rfl), by repeat (first | (with_reducible first | exact HB.out | apply below_alloc | apply pw_below_drewN | apply below_drew1) | exact HB.out)⟩
   ·
    replace c5 := Bool.eq_false_iff.mpr c5
    subst c5
    have H1 : (impl_ReadDecimal.l0 kj2 a0 t163 0 0) = some (r1, r2) := by rw [if_neg (show ¬ (false = true) by decide)] at H; exact H
    clear H
    have H := H1
    clear H1
    have H' := aS H
    clear H
    go_wp2
    go_loopg [5, 6] kj2 (fun kq v5 v6 w' => ∃ (x5_2 : Int) (x6_2 : Int), v5 = .int .i64 x5_2 ∧ v6 = .int .i64 x6_2 ∧ Aside0 (impl_ReadDecimal.l0 kq a0 t163 x5_2 x6_2 = some (r1, r2)) ∧ Aside0 (kq ≤ kj2) ∧ Aside0 (Below w.heap.size w w'))
    case atStart => exact ⟨(0), (0), (by first | rfl | (simp; done) | (simp [*]; done) | (simp only [i64_w]; done) | (simp [i64_w]; done)), (by first | rfl | (simp; done) | (simp [*]; done) | (simp only [i64_w]; done) | (simp [i64_w]; done)), H', ⟨Nat.le_refl _⟩, ⟨by repeat (first | (with_reducible first | exact HB.out | apply below_alloc | apply pw_below_drewN | apply below_drew1) | exact HB.out)⟩⟩
    case round =>
     clear H'
     (try clear c2); (try clear p2); (try clear c4); (try clear c4b0); (try clear c4b1); (try clear c4b2); (try clear c5); (try clear p2)
     obtain ⟨x5_2, x6_2, rfl, rfl, HA, HK2, HB⟩ := hrel
     cases gk with
     | zero => exact absurd HA.out (by simp [impl_ReadDecimal.l0])
     | succ k2 =>
      have H := HA.out
      clear HA
      simp only [impl_ReadDecimal.l0] at H
      by_cases c6 : x6_2 < (t163.size : Int)
      ·
       rw [if_pos c6] at H
       have c6b0 : decide (x6_2 < (t163.size : Int)) = true := decide_eq_true c6
       clear c6
       by_cases c7 : 0 ≤ x6_2
       ·
        rw [if_pos c7] at H
        have c7b0 : decide (0 ≤ x6_2) = true := decide_eq_true c7
        clear c7
        by_cases c9 : (bt t163 x6_2) < 48
        ·
         rw [if_pos c9] at H
         have c9b0 : decide ((bt t163 x6_2) < 48) = true := decide_eq_true c9
         clear c9
         simp only [Option.some.injEq, Prod.mk.injEq] at H
         obtain ⟨rfl, rfl⟩ := H
         have p8 : 0 ≤ (x6_2 : Int) := of_decide_eq_true (by first | (with_reducible assumption) | assumption)
         have q8 : x6_2 < (t163.size : Int) := of_decide_eq_true (by first | (with_reducible assumption) | assumption)
         have hx8 := bt_at t163 x6_2
         replace p8 := eq_true p8
         replace q8 := eq_true q8
         go_wp2
         go_ret2
         exact ⟨by first | rfl | (simp [errW_none, errW_some, i64_w]; done) | (simp [errW_none, errW_some] <;> rfl) | (simp [*, errW_none, errW_some] <;> rfl), by repeat (first | (with_reducible first | exact HB.out | apply below_alloc | apply pw_below_drewN | apply below_drew1) | exact HB.out)⟩
        ·
         rw [if_neg c9] at H
         have c9b0 : decide ((bt t163 x6_2) < 48) = false := decide_eq_false c9
         clear c9
         by_cases c11 : (bt t163 x6_2) > 57
         ·
          rw [if_pos c11] at H
          have c11b0 : decide (57 < (bt t163 x6_2)) = true := decide_eq_true c11
          clear c11
          simp only [Option.some.injEq, Prod.mk.injEq] at H
          obtain ⟨rfl, rfl⟩ := H
          have p8 : 0 ≤ (x6_2 : Int) := of_decide_eq_true (by first | (with_reducible assumption) | assumption)
          have q8 : x6_2 < (t163.size : Int) := of_decide_eq_true (by first | (with_reducible assumption) | assumption)
          have hx8 := bt_at t163 x6_2
          replace p8 := eq_true p8
          replace q8 := eq_true q8
          have p10 : 0 ≤ (x6_2 : Int) := of_decide_eq_true (by first | (with_reducible assumption) | assumption)
          have q10 : x6_2 < (t163.size : Int) := of_decide_eq_true (by first | (with_reducible assumption) | assumption)
          have hx10 := bt_at t163 x6_2
          replace p10 := eq_true p10
          replace q10 := eq_true q10
          go_wp2
          go_ret2
          exact ⟨by first | rfl | (simp [errW_none, errW_some, i64_w]; done) | (simp [errW_none, errW_some] <;> rfl) | (simp [*, errW_none, errW_some] <;> rfl), by repeat (first | (with_reducible first | exact HB.out | apply below_alloc | apply pw_below_drewN | apply below_drew1) | exact HB.out)⟩
         ·
          rw [if_neg c11] at H
          have c11b0 : decide (57 < (bt t163 x6_2)) = false := decide_eq_false c11
          clear c11
          have H' := aS H
          clear H
          have p8 : 0 ≤ (x6_2 : Int) := of_decide_eq_true (by first | (with_reducible assumption) | assumption)
          have q8 : x6_2 < (t163.size : Int) := of_decide_eq_true (by first | (with_reducible assumption) | assumption)
          have hx8 := bt_at t163 x6_2
          replace p8 := eq_true p8
          replace q8 := eq_true q8
          have p10 : 0 ≤ (x6_2 : Int) := of_decide_eq_true (by first | (with_reducible assumption) | assumption)
          have q10 : x6_2 < (t163.size : Int) := of_decide_eq_true (by first | (with_reducible assumption) | assumption)
          have hx10 := bt_at t163 x6_2
          replace p10 := eq_true p10
          replace q10 := eq_true q10
          have p12 : 0 ≤ (x6_2 : Int) := of_decide_eq_true (by first | (with_reducible assumption) | assumption)
          have q12 : x6_2 < (t163.size : Int) := of_decide_eq_true (by first | (with_reducible assumption) | assumption)
          have hx12 := bt_at t163 x6_2
          replace p12 := eq_true p12
          replace q12 := eq_true q12
          go_wp2
          go_roundg k2
          case measure => have := HJ2.out; have := HK2.out; omega
          case rel => exact ⟨(wrap64 ((wrap64 (10 * x5_2)) + (((bt t163 x6_2) - 48) % 256))), (wrap64 (x6_2 + 1)), (by first | rfl | (simp; done) | (simp [*]; done) | (simp only [i64_w]; done) | (simp [i64_w]; done)), (by first | rfl | (simp; done) | (simp [*]; done) | (simp only [i64_w]; done) | (simp [i64_w]; done)), H', ⟨by have := HJ2.out; have := HK2.out; omega⟩, ⟨by repeat (first | (with_reducible first | exact HB.out | apply below_alloc | apply pw_below_drewN | apply below_drew1) | exact HB.out)⟩⟩
       ·
        rw [if_neg c7] at H
        exact absurd H (by simp)
      ·
       rw [if_neg c6] at H
       have c6b0 : decide (x6_2 < (t163.size : Int)) = false := decide_eq_false c6
       clear c6
       by_cases c13 : (t163.size : Int) < (a0.size : Int)
       ·
        rw [if_pos c13] at H
        have c13b0 : decide ((t163.size : Int) < (a0.size : Int)) = true := decide_eq_true c13
        have c13b1 : decide (t163.size < a0.size) = true := decide_eq_true (Int.ofNat_lt.mp c13)
        clear c13
        replace H := Option.bind_eq_some_iff.mp H
        obtain ⟨t164, A140, H⟩ := H
        replace H : (if t164.toList = a0.toList then (some (wrap64 (-x5_2), true)) else (some (0, false))) = some (r1, r2) := H
        have A14 := aS A140
        clear A140
        by_cases c15 : t164.toList = a0.toList
        ·
         rw [if_pos c15] at H
         have c15b0 : (t164.toList == a0.toList) = true := beq_iff_eq.mpr c15
         have c15b1 : (t164.toList != a0.toList) = false := bne_eq_false_iff_eq.mpr c15
         clear c15
         simp only [Option.some.injEq, Prod.mk.injEq] at H
         obtain ⟨rfl, rfl⟩ := H
         go_wp2_with (first | ((with_reducible refine gate_callee (f := 20) rfl ?_); refine goesL_ (some 49) rfl rfl Tryd.func20 (by kernel_rfl) rfl #[.int .i64 (wrap64 (-x5_2))] rfl sG ?_; (with_reducible refine (impl_Decimal.calls (wrap64 (-x5_2)) t164 _ ?side1 A14.out).mono ?_); (case side1 => exact Gnd.Tab.on hT (sW HB.out)); rintro e w16 ⟨rfl, hb⟩; refine ⟨_, rfl, ?_⟩; have n0_ := aS (below_step (sW HB.out) hb); clear HB; have HB := n0_; clear n0_; (try clear hb); (try clear hb2); (try clear hk); (try clear hi)))
         go_ret2
         exact ⟨by first | rfl | (simp [errW_none, errW_some, i64_w]; done) | (simp [errW_none, errW_some] <;> rfl) | (simp [*, errW_none, errW_some] <;> rfl), by repeat (first | (with_reducible first | exact HB.out | apply below_alloc | apply pw_below_drewN | apply below_drew1) | exact HB.out)⟩
        ·
         rw [if_neg c15] at H
         have c15b0 : (t164.toList == a0.toList) = false := beq_eq_false_iff_ne.mpr c15
         have c15b1 : (t164.toList != a0.toList) = true := bne_iff_ne.mpr c15
         simp only [Option.some.injEq, Prod.mk.injEq] at H
         obtain ⟨rfl, rfl⟩ := H
         go_wp2_with (first | ((with_reducible refine gate_callee (f := 20) rfl ?_); refine goesL_ (some 49) rfl rfl Tryd.func20 (by kernel_rfl) rfl #[.int .i64 (wrap64 (-x5_2))] rfl sG ?_; (with_reducible refine (impl_Decimal.calls (wrap64 (-x5_2)) t164 _ ?side1 A14.out).mono ?_); (case side1 => exact Gnd.Tab.on hT (sW HB.out)); rintro e w17 ⟨rfl, hb⟩; refine ⟨_, rfl, ?_⟩; have n0_ := aS (below_step (sW HB.out) hb); clear HB; have HB := n0_; clear n0_; (try clear hb); (try clear hb2); (try clear hk); (try clear hi)))
         go_ret2
         exact ⟨by first | rfl | (simp [errW_none, errW_some, i64_w]; done) | (simp [errW_none, errW_some] <;> rfl) | (simp [*, errW_none, errW_some] <;> rfl), by repeat (first | (with_reducible first | exact HB.out | apply below_alloc | apply pw_below_drewN | apply below_drew1) | exact HB.out)⟩
       ·
        rw [if_neg c13] at H
        have c13b0 : decide ((t163.size : Int) < (a0.size : Int)) = false := decide_eq_false c13
        have c13b1 : decide (t163.size < a0.size) = false := decide_eq_false (fun h => c13 (Int.ofNat_lt.mpr h))
        clear c13
        replace H := Option.bind_eq_some_iff.mp H
        obtain ⟨t165, A180, H⟩ := H
        replace H : (if t165.toList = a0.toList then (some (x5_2, true)) else (some (0, false))) = some (r1, r2) := H
        have A18 := aS A180
        clear A180
        by_cases c19 : t165.toList = a0.toList
        ·
         rw [if_pos c19] at H
         have c19b0 : (t165.toList == a0.toList) = true := beq_iff_eq.mpr c19
         have c19b1 : (t165.toList != a0.toList) = false := bne_eq_false_iff_eq.mpr c19
         clear c19
         simp only [Option.some.injEq, Prod.mk.injEq] at H
         obtain ⟨rfl, rfl⟩ := H
         go_wp2_with (first | ((with_reducible refine gate_callee (f := 20) rfl ?_); refine goesL_ (some 49) rfl rfl Tryd.func20 (by kernel_rfl) rfl #[.int .i64 x5_2] rfl sG ?_; (with_reducible refine (impl_Decimal.calls x5_2 t165 _ ?side1 A18.out).mono ?_); (case side1 => exact Gnd.Tab.on hT (sW HB.out)); rintro e w20 ⟨rfl, hb⟩; refine ⟨_, rfl, ?_⟩; have n0_ := aS (below_step (sW HB.out) hb); clear HB; have HB := n0_; clear n0_; (try clear hb); (try clear hb2); (try clear hk); (try clear hi)))
         go_ret2
         exact ⟨by first | rfl | (simp [errW_none, errW_some, i64_w]; done) | (simp [errW_none, errW_some] <;> rfl) | (simp [*, errW_none, errW_some] <;> rfl), by repeat (first | (with_reducible first | exact HB.out | apply below_alloc | apply pw_below_drewN | apply below_drew1) | exact HB.out)⟩
        ·
         rw [if_neg c19] at H
         have c19b0 : (t165.toList == a0.toList) = false := beq_eq_false_iff_ne.mpr c19
         have c19b1 : (t165.toList != a0.toList) = true := bne_iff_ne.mpr c19
         simp only [Option.some.injEq, Prod.mk.injEq] at H
         obtain ⟨rfl, rfl⟩ := H
         go_wp2_with (first | ((with_reducible refine gate_callee (f := 20) rfl ?_); refine goesL_ (some 49) rfl rfl Tryd.func20 (by kernel_rfl) rfl #[.int .i64 x5_2] rfl sG ?_; (with_reducible refine (impl_Decimal.calls x5_2 t165 _ ?side1 A18.out).mono ?_); (case side1 => exact Gnd.Tab.on hT (sW HB.out)); rintro e w21 ⟨rfl, hb⟩; refine ⟨_, rfl, ?_⟩; have n0_ := aS (below_step (sW HB.out) hb); clear HB; have HB := n0_; clear n0_; (try clear hb); (try clear hb2); (try clear hk); (try clear hi)))
         go_ret2
         exact ⟨by first | rfl | (simp [errW_none, errW_some, i64_w]; done) | (simp [errW_none, errW_some] <;> rfl) | (simp [*, errW_none, errW_some] <;> rfl), by repeat (first | (with_reducible first | exact HB.out | apply below_alloc | apply pw_below_drewN | apply below_drew1) | exact HB.out)⟩

end Go.Proofs.YtginmioklkcgbaaDoor.QFnExactReadJoin

/- What the Go functions of this law compute, each as a Lean function, and that each call comes to that answer; written by a program of this session. No condition. -/
import Derived.Test.YtginmioklkcgbaaVShn
import Derived.Test.YtginmioklkcgbaaVQFnBestJoinsx0
import Derived.Test.YtginmioklkcgbaaVQFnBestJoinsx9
namespace Go.Proofs.Ytginmioklkcgbaa.QFnBestJoins
open Go.RowKit Go.Proofs.YtginmioklkcgbaaW.PrintWords Go.Proofs.YtginmioklkcgbaaW.PrintLast Go.Proofs.YtginmioklkcgbaaW.PrintMore
attribute [local go_sem] max2_int min2_int max_two min_two max_three min_three max_four min_four   -- for this text's walks alone
set_option linter.unusedVariables false
set_option linter.unusedSimpArgs false

/-! ### impl_LinePiece_91: function 91 -/
mutual
def impl_LinePiece_91.l0 : Nat → List (S45) → Int → Int → Int → Int → Option ((List (S45)))
 | 0, _, _, _, _, _ => none
 | k + 1, x0, x1, x6, x7, x8 => if x8 ≤ x1 then ((impl_LinePiece_114.f k x0 x7 x8 0).bind fun t234 => (impl_LinePiece_91.l0 k t234 x1 x6 x8 (wrap64 (x8 + x6)))) else ((impl_LinePiece_114.f k x0 x7 x1 0).bind fun t235 => (impl_LinePiece_91.l1 k t235 x1 x6))
def impl_LinePiece_91.l1 : Nat → List (S45) → Int → Int → Option ((List (S45)))
 | 0, _, _, _ => none
 | k + 1, x0, x1, x6 => if x6 < x1 then (impl_LinePiece_91.l2 k x0 x1 x6 0 (wrap64 (2 * x6))) else (some x0)
def impl_LinePiece_91.l2 : Nat → List (S45) → Int → Int → Int → Int → Option ((List (S45)))
 | 0, _, _, _, _, _ => none
 | k + 1, x0, x1, x6, x7, x8 => if x8 ≤ x1 then (none) else (if (wrap64 (x7 + x6)) < x1 then (none) else (impl_LinePiece_91.l1 k x0 x1 (wrap64 (x6 * 2))))
end
def impl_LinePiece_91.f (k : Nat) (l0 : List (S45)) (a1 : Int) (a2 : Int) : Option ((List (S45))) := impl_LinePiece_91.l0 k l0 a1 20 0 20
theorem impl_LinePiece_91.mono_l : ∀ k, (∀ y0 y1 y2 y3 y4, LeO (impl_LinePiece_91.l0 k y0 y1 y2 y3 y4) (impl_LinePiece_91.l0 (k + 1) y0 y1 y2 y3 y4)) ∧ (∀ y0 y1 y2, LeO (impl_LinePiece_91.l1 k y0 y1 y2) (impl_LinePiece_91.l1 (k + 1) y0 y1 y2)) ∧ (∀ y0 y1 y2 y3 y4, LeO (impl_LinePiece_91.l2 k y0 y1 y2 y3 y4) (impl_LinePiece_91.l2 (k + 1) y0 y1 y2 y3 y4))
 | 0 => by refine ⟨?_, ?_, ?_⟩ <;> (intros; intro r h; simp [impl_LinePiece_91.l0, impl_LinePiece_91.l1, impl_LinePiece_91.l2] at h)
 | k + 1 => by
  obtain ⟨ih0, ih1, ih2⟩ := impl_LinePiece_91.mono_l k
  refine ⟨?_, ?_, ?_⟩ <;> (intros; (first | unfold impl_LinePiece_91.l0 | unfold impl_LinePiece_91.l1 | unfold impl_LinePiece_91.l2); repeat' first | (with_reducible first | exact ih0 _ _ _ _ _ | exact ih1 _ _ _ | exact ih2 _ _ _ _ _ | exact impl_LinePiece_114.mono _ _ _ _ _ | exact LeO.refl _ | exact LeO.none _ | refine LeO.ite ?_ ?_ | refine LeO.bind ?_ (fun _ => ?_)) | refine LeO.ite ?_ ?_ | refine LeO.bind ?_ (fun _ => ?_))
theorem impl_LinePiece_91.mono : ∀ a0 a1 a2 k, LeO (impl_LinePiece_91.f k a0 a1 a2) (impl_LinePiece_91.f (k + 1) a0 a1 a2) := by
 intro a0 a1 a2 k
 obtain ⟨ih0, ih1, ih2⟩ := impl_LinePiece_91.mono_l k
 unfold impl_LinePiece_91.f
 repeat' first | (with_reducible first | exact ih0 _ _ _ _ _ | exact ih1 _ _ _ | exact ih2 _ _ _ _ _ | exact impl_LinePiece_114.mono _ _ _ _ _ | exact LeO.refl _ | exact LeO.none _ | refine LeO.ite ?_ ?_ | refine LeO.bind ?_ (fun _ => ?_)) | refine LeO.ite ?_ ?_ | refine LeO.bind ?_ (fun _ => ?_)
set_option maxHeartbeats 8000000 in
set_option maxRecDepth 100000 in
theorem impl_LinePiece_91.calls (k : Nat) (P0_ : Nat → Prop) (u9000_ : Value) (l0 : List (S45)) (a1 : Int) (a2 : Int) (r : List (S45)) (w0 w : World) (hB : Below w0.heap.size w0 w) (ho0 : Kd.R k45 45 w w0.heap.size P0_ u9000_ l0) (h : impl_LinePiece_91.f k l0 a1 a2 = some r) :
  Calls Try.prog 91 #[u9000_, .int .i64 a1, .func (.func 52) #[] #[]] w fun e w' => e = .returned (.tuple #[]) ∧ Kd.R k45 45 w' w0.heap.size (fun k_ => (P0_ k_ ∨ w.heap.size ≤ k_)) u9000_ r ∧ Below w0.heap.size w0 w' ∧ Kept w w' (fun k_ => P0_ k_) := by
 have HO0 := aS (show Kd.R k45 45 w w0.heap.size (fun k_ => (P0_ k_ ∨ w.heap.size ≤ k_)) u9000_ l0 from Kd.R_mono ho0 (fun k_ hk => (.inl hk)))
 have HK := aS (Kept.refl w (fun k_ => P0_ k_))
 have HW0 := aS hB.size
 have HB := aS hB
 clear hB
 have H := h
 clear h
 unfold impl_LinePiece_91.f at H
 have H' := aS H
 clear H
 go_enter Try.func91, Try.ntmps91
 go_wp2
 go_loopg [7, 8] k (fun kq v7 v8 w' => ∃ (x0_1 : List (S45)) (x7_1 : Int) (x8_1 : Int), v7 = .int .i64 x7_1 ∧ v8 = .int .i64 x8_1 ∧ Aside0 (impl_LinePiece_91.l0 kq x0_1 a1 20 x7_1 x8_1 = some r) ∧ Aside0 (kq ≤ k) ∧ Aside0 (Kd.R k45 45 w' w0.heap.size (fun k_ => (P0_ k_ ∨ w.heap.size ≤ k_)) u9000_ x0_1) ∧ Aside0 (Kept w w' (fun k_ => P0_ k_)) ∧ Aside0 (Below w0.heap.size w0 w'))
 case atStart => exact ⟨(l0), (0), (20), eV, eV, H', ⟨Nat.le_refl _⟩, (aS (sR HO0.out)), (aS (sKp HK.out)), (aS (sW HB.out))⟩
 case round =>
  clear H'
  obtain ⟨x0_1, x7_1, x8_1, rfl, rfl, HA, HK1, HO_0, HK, HB⟩ := hrel
  cases gk with
  | zero => exact absurd HA.out (by simp [impl_LinePiece_91.l0])
  | succ k1 =>
   have H := HA.out
   clear HA
   simp only [impl_LinePiece_91.l0] at H
   replace H := iE H; rcases H with ⟨c4, H⟩ | ⟨c4, H⟩
   ·
    have c4b0 := decide_eq_true c4
    clear c4
    replace H := bE H; obtain ⟨t234, A5, H⟩ := H; try dsimp only at H
    have H' := aS H
    clear H
    obtain ⟨Ao6, co6, eo6⟩ := Kd.R_slice HO_0.out
    subst eo6
    go_wp2_with (first | ((with_reducible refine gate_callee (f := 114) rfl ?_); refine goesL_ (some 18) rfl rfl Try.func114 (by kernel_rfl) rfl #[.slice Ao6 x0_1.length co6, .int .i64 x7_1, .int .i64 x8_1, .func (.func 52) #[] #[]] rfl sG ?_; (with_reducible refine (impl_LinePiece_114.calls k1 (fun k_ => some k_ = (.slice Ao6 x0_1.length co6 : Value).ownBlock) (.slice Ao6 x0_1.length co6) x0_1 x7_1 x8_1 0 t234 w0 _ ?side1 ?side2 A5.out).mono ?_); (case side1 => exact sW HB.out); (case side2 => exact Kd.R_tight rfl HO_0.out); rintro e w7 ⟨rfl, hy0, hb, hkp⟩; refine ⟨_, rfl, ?_⟩; replace HK := aS (Kept.then_ (S := (fun k_ => P0_ k_)) (sKp HK.out) hkp (fun k_ hs_ => (fun e_ => (HO_0.out.1 k_ e_.symm)) hs_)); replace HO_0 := aS (Kd.R_reok rfl hy0 (fun k_ e_ => HO_0.out.1 k_ e_)); replace HB := aS (hb)))
    go_roundg k1
    case measure => have := HK1.out; omega
    case rel => exact ⟨(t234), (x8_1), (wrap64 (x8_1 + 20)), eV, eV, H', ⟨by have := HK1.out; omega⟩, (aS (sR HO_0.out)), (aS (sKp HK.out)), (aS (sW HB.out))⟩
   ·
    have c4b0 := decide_eq_false c4
    clear c4
    replace H := bE H; obtain ⟨t235, A8, H⟩ := H; try dsimp only at H
    have H' := aS H
    clear H
    obtain ⟨Ao9, co9, eo9⟩ := Kd.R_slice HO_0.out
    subst eo9
    go_wp2_with (first | ((with_reducible refine gate_callee (f := 114) rfl ?_); refine goesL_ (some 27) rfl rfl Try.func114 (by kernel_rfl) rfl #[.slice Ao9 x0_1.length co9, .int .i64 x7_1, .int .i64 a1, .func (.func 52) #[] #[]] rfl sG ?_; (with_reducible refine (impl_LinePiece_114.calls k1 (fun k_ => some k_ = (.slice Ao9 x0_1.length co9 : Value).ownBlock) (.slice Ao9 x0_1.length co9) x0_1 x7_1 a1 0 t235 w0 _ ?side1 ?side2 A8.out).mono ?_); (case side1 => exact sW HB.out); (case side2 => exact Kd.R_tight rfl HO_0.out); rintro e w10 ⟨rfl, hy0, hb, hkp⟩; refine ⟨_, rfl, ?_⟩; replace HK := aS (Kept.then_ (S := (fun k_ => P0_ k_)) (sKp HK.out) hkp (fun k_ hs_ => (fun e_ => (HO_0.out.1 k_ e_.symm)) hs_)); replace HO_0 := aS (Kd.R_reok rfl hy0 (fun k_ e_ => HO_0.out.1 k_ e_)); replace HB := aS (hb)))
    (try simp only [Act.put, List.setIfInBounds_toArray, List.set_cons_zero, List.set_cons_succ])
    go_loopg [6] k1 (fun kq v6 w' => ∃ (x6_2 : Int), v6 = .int .i64 x6_2 ∧ Aside0 (impl_LinePiece_91.l1 kq t235 a1 x6_2 = some r) ∧ Aside0 (kq ≤ k1) ∧ Aside0 (Kd.R k45 45 w' w0.heap.size (fun k_ => (P0_ k_ ∨ w.heap.size ≤ k_)) (.slice Ao9 x0_1.length co9) t235) ∧ Aside0 (Kept w w' (fun k_ => P0_ k_)) ∧ Aside0 (Below w0.heap.size w0 w'))
    case atStart => exact ⟨(20), eV, H', ⟨Nat.le_refl _⟩, (aS (sR HO_0.out)), (aS (sKp HK.out)), (aS (sW HB.out))⟩
    case round =>
     clear H'
     obtain ⟨x6_2, rfl, HA, HK2, HO_0, HK, HB⟩ := hrel
     have hl0_2 := (Kd.R_reads' HO_0.out).1
     rw [hl0_2] at HO_0
     (try simp only [hl0_2])
     cases gk with
     | zero => exact absurd HA.out (by simp [impl_LinePiece_91.l1])
     | succ k2 =>
      have H := HA.out
      clear HA
      simp only [impl_LinePiece_91.l1] at H
      replace H := iE H; rcases H with ⟨c11, H⟩ | ⟨c11, H⟩
      ·
       have c11b0 := decide_eq_true c11
       clear c11
       have H' := aS H
       clear H
       go_wp2
       go_loopg [7, 8] k2 (fun kq v7 v8 w' => ∃ (x7_3 : Int) (x8_3 : Int), v7 = .int .i64 x7_3 ∧ v8 = .int .i64 x8_3 ∧ Aside0 (impl_LinePiece_91.l2 kq t235 a1 x6_2 x7_3 x8_3 = some r) ∧ Aside0 (kq ≤ k2) ∧ Aside0 (Kd.R k45 45 w' w0.heap.size (fun k_ => (P0_ k_ ∨ w.heap.size ≤ k_)) (.slice Ao9 t235.length co9) t235) ∧ Aside0 (Kept w w' (fun k_ => P0_ k_)) ∧ Aside0 (Below w0.heap.size w0 w'))
       case atStart => exact ⟨(0), (wrap64 (2 * x6_2)), eV, eV, H', ⟨Nat.le_refl _⟩, ⟨by (try simp only [hl0_2]); (with_reducible repeat (first | apply Kd.R_alloc | apply Kd.R_drewN | apply Kd.R_drew)); exact HO_0.out⟩, (aS (sKp HK.out)), (aS (sW HB.out))⟩
       case round =>
        clear H'
        obtain ⟨x7_3, x8_3, rfl, rfl, HA, HK3, HO_0, HK, HB⟩ := hrel
        cases gk with
        | zero => exact absurd HA.out (by simp [impl_LinePiece_91.l2])
        | succ k3 =>
         have H := HA.out
         clear HA
         simp only [impl_LinePiece_91.l2] at H
         replace H := iE H; rcases H with ⟨c12, H⟩ | ⟨c12, H⟩
         ·
          exact absurd H (by simp)
         ·
          have c12b0 := decide_eq_false c12
          clear c12
          replace H := iE H; rcases H with ⟨c13, H⟩ | ⟨c13, H⟩
          ·
           exact absurd H (by simp)
          ·
           have c13b0 := decide_eq_false c13
           clear c13
           have H' := aS H
           clear H
           go_wp2
           (try simp only [← hl0_2])
           go_roundg k3
           case measure => have := HK1.out; have := HK2.out; have := HK3.out; omega
           case rel => exact ⟨(wrap64 (x6_2 * 2)), eV, H', ⟨by have := HK1.out; have := HK2.out; have := HK3.out; omega⟩, ⟨by (try simp only [hl0_2]); (with_reducible repeat (first | apply Kd.R_alloc | apply Kd.R_drewN | apply Kd.R_drew)); exact HO_0.out⟩, (aS (sKp HK.out)), (aS (sW HB.out))⟩
      ·
       have c11b0 := decide_eq_false c11
       clear c11
       obtain rfl := Option.some.inj H
       go_wp2
       first | go_end0 | ((try simp only [Exit.inBlock, Exit.then]); refine bodyPost_ret (results_none rfl _ _ _) rfl ?_)
       exact ⟨eE, (by first | exact (sR HO_0.out) | (simp only [hl0_2]; exact (sR HO_0.out))), sW HB.out, sKp HK.out⟩

/-! ### impl_LinePiece_51: function 51 -/
def impl_LinePiece_51.f (k : Nat) (l0 : List (S45)) (a1 : Int) : Option ((List (S45))) := (impl_LinePiece_91.f k l0 (l0.length : Int) 0).bind fun t236 => (some t236)
theorem impl_LinePiece_51.mono : ∀ a0 a1 k, LeO (impl_LinePiece_51.f k a0 a1) (impl_LinePiece_51.f (k + 1) a0 a1) := by
 intro a0 a1 k
 unfold impl_LinePiece_51.f
 repeat' first | (with_reducible first | exact impl_LinePiece_91.mono _ _ _ _ | exact LeO.refl _ | exact LeO.none _ | refine LeO.ite ?_ ?_ | refine LeO.bind ?_ (fun _ => ?_)) | refine LeO.ite ?_ ?_ | refine LeO.bind ?_ (fun _ => ?_)
set_option maxHeartbeats 8000000 in
set_option maxRecDepth 100000 in
theorem impl_LinePiece_51.calls (k : Nat) (P0_ : Nat → Prop) (u9000_ : Value) (l0 : List (S45)) (a1 : Int) (r : List (S45)) (w0 w : World) (hB : Below w0.heap.size w0 w) (ho0 : Kd.R k45 45 w w0.heap.size P0_ u9000_ l0) (h : impl_LinePiece_51.f k l0 a1 = some r) :
  Calls Try.prog 51 #[u9000_, .func (.func 52) #[] #[]] w fun e w' => e = .returned (.tuple #[]) ∧ Kd.R k45 45 w' w0.heap.size (fun k_ => (P0_ k_ ∨ w.heap.size ≤ k_)) u9000_ r ∧ Below w0.heap.size w0 w' ∧ Kept w w' (fun k_ => P0_ k_) := by
 have HO0 := aS (show Kd.R k45 45 w w0.heap.size (fun k_ => (P0_ k_ ∨ w.heap.size ≤ k_)) u9000_ l0 from Kd.R_mono ho0 (fun k_ hk => (.inl hk)))
 have HK := aS (Kept.refl w (fun k_ => P0_ k_))
 have HW0 := aS hB.size
 have HB := aS hB
 clear hB
 have H := h
 clear h
 unfold impl_LinePiece_51.f at H
 replace H := bE H; obtain ⟨t236, A3, H⟩ := H; try dsimp only at H
 obtain rfl := Option.some.inj H
 obtain ⟨Ao4, co4, eo4⟩ := Kd.R_slice HO0.out
 subst eo4
 go_enter Try.func51, Try.ntmps51
 go_wp2_with (first | ((with_reducible refine gate_callee (f := 91) rfl ?_); refine goesL_ (some 8) rfl rfl Try.func91 (by kernel_rfl) rfl #[.slice Ao4 l0.length co4, .int .i64 (l0.length : Int), .func (.func 52) #[] #[]] rfl sG ?_; (with_reducible refine (impl_LinePiece_91.calls k (fun k_ => some k_ = (.slice Ao4 l0.length co4 : Value).ownBlock) (.slice Ao4 l0.length co4) l0 (l0.length : Int) 0 t236 w0 _ ?side1 ?side2 A3.out).mono ?_); (case side1 => exact sW HB.out); (case side2 => exact Kd.R_tight rfl HO0.out); rintro e w5 ⟨rfl, hy0, hb, hkp⟩; refine ⟨_, rfl, ?_⟩; replace HK := aS (Kept.then_ (S := (fun k_ => P0_ k_)) (sKp HK.out) hkp (fun k_ hs_ => (fun e_ => (HO0.out.1 k_ e_.symm)) hs_)); replace HO0 := aS (Kd.R_reok rfl hy0 (fun k_ e_ => HO0.out.1 k_ e_)); replace HB := aS (hb)))
 first | go_end0 | ((try simp only [Exit.inBlock, Exit.then]); refine bodyPost_ret (results_none rfl _ _ _) rfl ?_)
 exact ⟨eE, sR HO0.out, sW HB.out, sKp HK.out⟩

/-! ### impl_bestJoin: function 55 -/
def impl_bestJoin.l0 : Nat → List (S61) → Int → Int → List (S61) → Int → Int → Int → Int → Int → Int → Option (Int)
 | 0, _, _, _, _, _, _, _, _, _, _ => none
 | k + 1, x0, x3, x9, x12, x13, x14, x238000, x238001, x239000, x239001 => if x14 < x13 then (if 0 ≤ x14 then (if x14 < (x12.length : Int) then (if (wrap64 ((mn x238000 x239000) * ((rd_T61 x12 x14).f1))) ≥ (wrap64 (1000 * x3)) then (if x9 < 0 then (impl_bestJoin.l0 k x0 x3 x14 x12 x13 (wrap64 (x14 + 1)) x238000 x238001 x239000 x239001) else (if 0 ≤ x9 then (if x9 < (x0.length : Int) then (if ((rd_T61 x12 x14).f2) < ((rd_T61 x0 x9).f2) then (impl_bestJoin.l0 k x0 x3 x14 x12 x13 (wrap64 (x14 + 1)) x238000 x238001 x239000 x239001) else (impl_bestJoin.l0 k x0 x3 x9 x12 x13 (wrap64 (x14 + 1)) x238000 x238001 x239000 x239001)) else (none)) else (none))) else (impl_bestJoin.l0 k x0 x3 x9 x12 x13 (wrap64 (x14 + 1)) x238000 x238001 x239000 x239001)) else (none)) else (none)) else (some x9)
def impl_bestJoin.f (k : Nat) (l0 : List (S61)) (a1_0 : Int) (a1_1 : Int) (a2_0 : Int) (a2_1 : Int) (a3 : Int) : Option (Int) := impl_bestJoin.l0 k l0 a3 (-1) l0 (l0.length : Int) 0 a1_0 a1_1 a2_0 a2_1
theorem impl_bestJoin.mono_l : ∀ k, (∀ y0 y1 y2 y3 y4 y5 y6 y7 y8 y9, LeO (impl_bestJoin.l0 k y0 y1 y2 y3 y4 y5 y6 y7 y8 y9) (impl_bestJoin.l0 (k + 1) y0 y1 y2 y3 y4 y5 y6 y7 y8 y9))
 | 0 => fun _ _ _ _ _ _ _ _ _ _ r h => by simp [impl_bestJoin.l0] at h
 | k + 1 => by
  have ih0 := impl_bestJoin.mono_l k
  ·
   intro y0 y1 y2 y3 y4 y5 y6 y7 y8 y9
   unfold impl_bestJoin.l0
   repeat' first | (with_reducible first | exact ih0 _ _ _ _ _ _ _ _ _ _ | exact LeO.refl _ | exact LeO.none _ | refine LeO.ite ?_ ?_ | refine LeO.bind ?_ (fun _ => ?_)) | refine LeO.ite ?_ ?_ | refine LeO.bind ?_ (fun _ => ?_)
theorem impl_bestJoin.mono : ∀ a0 a1 a2 a3 a4 a5 k, LeO (impl_bestJoin.f k a0 a1 a2 a3 a4 a5) (impl_bestJoin.f (k + 1) a0 a1 a2 a3 a4 a5) := by
 intro a0 a1 a2 a3 a4 a5 k
 have ih0 := impl_bestJoin.mono_l k
 unfold impl_bestJoin.f
 repeat' first | (with_reducible first | exact ih0 _ _ _ _ _ _ _ _ _ _ | exact LeO.refl _ | exact LeO.none _ | refine LeO.ite ?_ ?_ | refine LeO.bind ?_ (fun _ => ?_)) | refine LeO.ite ?_ ?_ | refine LeO.bind ?_ (fun _ => ?_)
def impl_bestJoin.bF (n k : Nat) : Array Bool := ((List.range n).map fun i => k.testBit i).toArray
set_option maxHeartbeats 8000000 in
set_option maxRecDepth 100000 in
theorem impl_bestJoin.calls (k : Nat) (A0 : Option Addr) (c0 : Nat) (l0 : List (S61)) (a1_0 : Int) (a1_1 : Int) (a2_0 : Int) (a2_1 : Int) (a3 : Int) (r : Int) (w : World) (hr0 : Kd.C k61 w A0 l0.length l0) (hc0 : l0.length ≤ c0) (h : impl_bestJoin.f k l0 a1_0 a1_1 a2_0 a2_1 a3 = some r) :
  Calls Try.prog 55 #[.slice A0 l0.length c0, .agg #[.int .i64 a1_0, .int .i64 a1_1], .agg #[.int .i64 a2_0, .int .i64 a2_1], .int .i64 a3] w fun e w' => e = .returned (.int .i64 r) ∧ Below w.heap.size w w' := by
 have hu45 := Try.underlying45
 have hu61 := Try.underlying61
 have HR0 := aS hr0
 have HC0 := aS hc0
 clear hr0 hc0
 have HB := aS (Below.refl w.heap.size w)
 have H := h
 clear h
 unfold impl_bestJoin.f at H
 have H' := aS H
 clear H
 go_enter Try.func55, Try.ntmps55
 go_wp2_with (first | ((with_reducible refine gate_dst (N := 5) rfl ?_); refine bx 5 #[.int .i64 a1_0, .int .i64 a1_1] 45 ?_; intro gb237 hg w5 hbox hb; have BK237 := aS (hbox); have GW237 := aS (gW hg (sW HB.out)); have GE237 := aS (gW hg (sW HB.out)); replace HB := aS (below_step (sW HB.out) hb); clear hb hbox hg) | ((with_reducible refine gate_dst (N := 6) rfl ?_); refine bx 6 #[.int .i64 a2_0, .int .i64 a2_1] 45 ?_; intro gb238 hg w6 hbox hb; have BK238 := aS (hbox); have GW238 := aS (gW hg (sW HB.out)); have GE238 := aS (gW hg (sW HB.out)); replace HB := aS (below_step (sW HB.out) hb); have NB237_238 := aS (nL hg (sB BK237.out)); have NB238_237 := aS (nG hg (sB BK237.out)); replace BK237 := aS (blk_below (sB BK237.out) hb); clear hb hbox hg) | ((with_reducible refine gR ?_); go_quiet (fail)))
 go_loopg [9, 14] k (fun kq v9 v14 w' => ∃ (x9_1 : Int) (x14_1 : Int), v9 = .int .i64 x9_1 ∧ v14 = .int .i64 x14_1 ∧ Aside0 (impl_bestJoin.l0 kq l0 a3 x9_1 l0 (l0.length : Int) x14_1 a1_0 a1_1 a2_0 a2_1 = some r) ∧ Aside0 (kq ≤ k) ∧ Aside0 (w'.heap[gb237]? = some (.cells #[.int .i64 a1_0, .int .i64 a1_1] 45 (0, 0))) ∧ Aside0 (w'.heap[gb238]? = some (.cells #[.int .i64 a2_0, .int .i64 a2_1] 45 (0, 0))) ∧ Aside0 (Below w.heap.size w w'))
 case atStart => exact ⟨((-1)), (0), eV, eV, H', ⟨Nat.le_refl _⟩, (aS (sB BK237.out)), (aS (sB BK238.out)), (aS (sW HB.out))⟩
 case round =>
  clear H'
  obtain ⟨x9_1, x14_1, rfl, rfl, HA, HK1, BK237, BK238, HB⟩ := hrel
  cases gk with
  | zero => exact absurd HA.out (by simp [impl_bestJoin.l0])
  | succ k1 =>
   have H := HA.out
   clear HA
   simp only [impl_bestJoin.l0] at H
   replace H := iE H; rcases H with ⟨c7, H⟩ | ⟨c7, H⟩
   ·
    have c7b0 := decide_eq_true c7
    clear c7
    replace H := iN H
    obtain ⟨c8, H⟩ := H
    have c8b0 := decide_eq_true c8
    clear c8
    replace H := iN H
    obtain ⟨c9, H⟩ := H
    have c9b0 := decide_eq_true c9
    clear c9
    obtain ⟨ji10, hji10⟩ : ∃ j_ : Int, (mn a1_0 a2_0) = j_ := ⟨_, rfl⟩
    replace H : (if (wrap64 ((ji10) * ((rd_T61 l0 x14_1).f1))) ≥ (wrap64 (1000 * a3)) then (if x9_1 < 0 then (impl_bestJoin.l0 k1 l0 a3 x14_1 l0 (l0.length : Int) (wrap64 (x14_1 + 1)) a1_0 a1_1 a2_0 a2_1) else (if 0 ≤ x9_1 then (if x9_1 < (l0.length : Int) then (if ((rd_T61 l0 x14_1).f2) < ((rd_T61 l0 x9_1).f2) then (impl_bestJoin.l0 k1 l0 a3 x14_1 l0 (l0.length : Int) (wrap64 (x14_1 + 1)) a1_0 a1_1 a2_0 a2_1) else (impl_bestJoin.l0 k1 l0 a3 x9_1 l0 (l0.length : Int) (wrap64 (x14_1 + 1)) a1_0 a1_1 a2_0 a2_1)) else (none)) else (none))) else (impl_bestJoin.l0 k1 l0 a3 x9_1 l0 (l0.length : Int) (wrap64 (x14_1 + 1)) a1_0 a1_1 a2_0 a2_1)) = some r := by first | (rw [hji10] at H; exact H) | (simp only [hji10] at H ⊢; exact H)
    have hji10_ : (if a2_0 < a1_0 then a2_0 else a1_0) = ji10 := hji10
    replace H := iE H; rcases H with ⟨c11, H⟩ | ⟨c11, H⟩
    rotate_left
    ·
     have c11b0 : decide ((wrap64 (1000 * a3)) ≤ (wrap64 ((ji10) * ((rd_T61 l0 x14_1).f1)))) = false := decide_eq_false c11
     clear c11
     have H' := aS H
     clear H
     have p239 : 0 ≤ (x14_1 : Int) := sD
     have q239 : x14_1 < (l0.length : Int) := sD
     obtain ⟨ad239, e239, hx239_0, hx239_1, hx239_2⟩ := at_T61 HR0.out x14_1 p239 q239
     cases e239
     replace hx239_0 := bC HB.out hx239_0
     replace hx239_1 := bC HB.out hx239_1
     replace hx239_2 := bC HB.out hx239_2
     replace p239 := eq_true p239
     replace q239 := eq_true q239
     go_wp2_with (first | ((with_reducible refine gate_dst (N := 11) rfl ?_); refine bx 11 #[.string (⟨#[]⟩ : ByteArray), .int .i64 0, .int .i64 0] 61 ?_; intro gb240 hg w31 hbox hb; have BK240 := aS (hbox); have GW240 := aS (gW hg (sW HB.out)); have GE240 := aS (gW hg (sW HB.out)); replace HB := aS (below_step (sW HB.out) hb); have NB237_240 := aS (nL hg (sB BK237.out)); have NB240_237 := aS (nG hg (sB BK237.out)); replace BK237 := aS (blk_below (sB BK237.out) hb); have NB238_240 := aS (nL hg (sB BK238.out)); have NB240_238 := aS (nG hg (sB BK238.out)); replace BK238 := aS (blk_below (sB BK238.out) hb); clear hb hbox hg; have hnb32 := NB240_237.out; have hnc32 := NB237_240.out; have hnb33 := NB240_238.out; have hnc33 := NB238_240.out; obtain ⟨hcz34_0, hcz34_1, hcz34_2, hfz34_0, hfz34_1, hfz34_2⟩ := z3 BK240.out; have hnb35 := NB237_238.out; have hnc35 := NB238_237.out; obtain ⟨hcz36_0, hcz36_1, hfz36_0, hfz36_1⟩ := z2 BK237.out; obtain ⟨hcz37_0, hcz37_1, hfz37_0, hfz37_1⟩ := z2 BK238.out) | ((with_reducible refine gR ?_); go_quiet (fail)))
     go_roundg k1
     case measure => have := HK1.out; omega
     case rel => exact ⟨(x9_1), (wrap64 (x14_1 + 1)), eV, eV, H', ⟨by have := HK1.out; omega⟩, (aS (sF BK237.out NB237_240.out)), (aS (sF BK238.out NB238_240.out)), (aS (sW HB.out))⟩
    have c11b0 : decide ((wrap64 (1000 * a3)) ≤ (wrap64 ((ji10) * ((rd_T61 l0 x14_1).f1)))) = true := decide_eq_true c11
    clear c11
    replace H := iE H; rcases H with ⟨c12, H⟩ | ⟨c12, H⟩
    ·
     have c12b0 := decide_eq_true c12
     clear c12
     have H' := aS H
     clear H
     have p239 : 0 ≤ (x14_1 : Int) := sD
     have q239 : x14_1 < (l0.length : Int) := sD
     obtain ⟨ad239, e239, hx239_0, hx239_1, hx239_2⟩ := at_T61 HR0.out x14_1 p239 q239
     cases e239
     replace hx239_0 := bC HB.out hx239_0
     replace hx239_1 := bC HB.out hx239_1
     replace hx239_2 := bC HB.out hx239_2
     replace p239 := eq_true p239
     replace q239 := eq_true q239
     go_wp2_with (first | ((with_reducible refine gate_dst (N := 11) rfl ?_); refine bx 11 #[.string (⟨#[]⟩ : ByteArray), .int .i64 0, .int .i64 0] 61 ?_; intro gb240 hg w13 hbox hb; have BK240 := aS (hbox); have GW240 := aS (gW hg (sW HB.out)); have GE240 := aS (gW hg (sW HB.out)); replace HB := aS (below_step (sW HB.out) hb); have NB237_240 := aS (nL hg (sB BK237.out)); have NB240_237 := aS (nG hg (sB BK237.out)); replace BK237 := aS (blk_below (sB BK237.out) hb); have NB238_240 := aS (nL hg (sB BK238.out)); have NB240_238 := aS (nG hg (sB BK238.out)); replace BK238 := aS (blk_below (sB BK238.out) hb); clear hb hbox hg; have hnb14 := NB240_237.out; have hnc14 := NB237_240.out; have hnb15 := NB240_238.out; have hnc15 := NB238_240.out; obtain ⟨hcz16_0, hcz16_1, hcz16_2, hfz16_0, hfz16_1, hfz16_2⟩ := z3 BK240.out; have hnb17 := NB237_238.out; have hnc17 := NB238_237.out; obtain ⟨hcz18_0, hcz18_1, hfz18_0, hfz18_1⟩ := z2 BK237.out; obtain ⟨hcz19_0, hcz19_1, hfz19_0, hfz19_1⟩ := z2 BK238.out) | ((with_reducible refine gR ?_); go_quiet (fail)))
     go_roundg k1
     case measure => have := HK1.out; omega
     case rel => exact ⟨(x14_1), (wrap64 (x14_1 + 1)), eV, eV, H', ⟨by have := HK1.out; omega⟩, (aS (sF BK237.out NB237_240.out)), (aS (sF BK238.out NB238_240.out)), (aS (sW HB.out))⟩
    have c12b0 := decide_eq_false c12
    clear c12
    replace H := iN H
    obtain ⟨c20, H⟩ := H
    have c20b0 := decide_eq_true c20
    clear c20
    replace H := iN H
    obtain ⟨c21, H⟩ := H
    have c21b0 := decide_eq_true c21
    clear c21
    have HC22 := aS H
    clear H
    have p239 : 0 ≤ (x14_1 : Int) := sD
    have q239 : x14_1 < (l0.length : Int) := sD
    obtain ⟨ad239, e239, hx239_0, hx239_1, hx239_2⟩ := at_T61 HR0.out x14_1 p239 q239
    cases e239
    replace hx239_0 := bC HB.out hx239_0
    replace hx239_1 := bC HB.out hx239_1
    replace hx239_2 := bC HB.out hx239_2
    replace p239 := eq_true p239
    replace q239 := eq_true q239
    go_upto_if 43 with (first | ((with_reducible refine gate_dst (N := 11) rfl ?_); refine bx 11 #[.string (⟨#[]⟩ : ByteArray), .int .i64 0, .int .i64 0] 61 ?_; intro gb240 hg w23 hbox hb; have BK240 := aS (hbox); have GW240 := aS (gW hg (sW HB.out)); have GE240 := aS (gW hg (sW HB.out)); replace HB := aS (below_step (sW HB.out) hb); have NB237_240 := aS (nL hg (sB BK237.out)); have NB240_237 := aS (nG hg (sB BK237.out)); replace BK237 := aS (blk_below (sB BK237.out) hb); have NB238_240 := aS (nL hg (sB BK238.out)); have NB240_238 := aS (nG hg (sB BK238.out)); replace BK238 := aS (blk_below (sB BK238.out) hb); clear hb hbox hg; have hnb24 := NB240_237.out; have hnc24 := NB237_240.out; have hnb25 := NB240_238.out; have hnc25 := NB238_240.out; obtain ⟨hcz26_0, hcz26_1, hcz26_2, hfz26_0, hfz26_1, hfz26_2⟩ := z3 BK240.out; have hnb27 := NB237_238.out; have hnc27 := NB238_237.out; obtain ⟨hcz28_0, hcz28_1, hfz28_0, hfz28_1⟩ := z2 BK237.out; obtain ⟨hcz29_0, hcz29_1, hfz29_0, hfz29_1⟩ := z2 BK238.out; have p241 : 0 ≤ (x9_1 : Int) := sD; have q241 : x9_1 < (l0.length : Int) := sD; obtain ⟨ad241, e241, hx241_0, hx241_1, hx241_2⟩ := at_T61 HR0.out x9_1 p241 q241; obtain rfl : ad239 = ad241 := (by injection e241); have hn241_0 : ad239.block ≠ gb240 := Nat.ne_of_lt (Nat.lt_of_lt_of_le (by have := World.block_lt_of_cell? _ _ hx241_0; first | rwa [add_block] at this | exact this) GW240.out); have hn241_1 : ad239.block ≠ gb240 := Nat.ne_of_lt (Nat.lt_of_lt_of_le (by have := World.block_lt_of_cell? _ _ hx241_0; first | rwa [add_block] at this | exact this) GW240.out); have hn241_2 : ad239.block ≠ gb240 := Nat.ne_of_lt (Nat.lt_of_lt_of_le (by have := World.block_lt_of_cell? _ _ hx241_0; first | rwa [add_block] at this | exact this) GW240.out); replace hx241_0 := bC HB.out hx241_0; replace hx241_1 := bC HB.out hx241_1; replace hx241_2 := bC HB.out hx241_2; replace hx241_0 := (cell_far (p := ⟨gb240, 0, none⟩) (by first | (rw [add_block]; exact hn241_0) | (show (Addr.add _ _).block ≠ _; rw [add_block]; exact hn241_0) | exact hn241_0) (.string ((rd_T61 l0 x14_1).f0))).trans hx241_0; replace hx241_1 := (cell_far (p := ⟨gb240, 0, none⟩) (by first | (rw [add_block]; exact hn241_0) | (show (Addr.add _ _).block ≠ _; rw [add_block]; exact hn241_0) | exact hn241_0) (.string ((rd_T61 l0 x14_1).f0))).trans hx241_1; replace hx241_2 := (cell_far (p := ⟨gb240, 0, none⟩) (by first | (rw [add_block]; exact hn241_0) | (show (Addr.add _ _).block ≠ _; rw [add_block]; exact hn241_0) | exact hn241_0) (.string ((rd_T61 l0 x14_1).f0))).trans hx241_2; replace hx241_0 := (cell_far (p := ⟨gb240, 1, none⟩) (by first | (rw [add_block]; exact hn241_1) | (show (Addr.add _ _).block ≠ _; rw [add_block]; exact hn241_1) | exact hn241_1) (.int .i64 ((rd_T61 l0 x14_1).f1))).trans hx241_0; replace hx241_1 := (cell_far (p := ⟨gb240, 1, none⟩) (by first | (rw [add_block]; exact hn241_1) | (show (Addr.add _ _).block ≠ _; rw [add_block]; exact hn241_1) | exact hn241_1) (.int .i64 ((rd_T61 l0 x14_1).f1))).trans hx241_1; replace hx241_2 := (cell_far (p := ⟨gb240, 1, none⟩) (by first | (rw [add_block]; exact hn241_1) | (show (Addr.add _ _).block ≠ _; rw [add_block]; exact hn241_1) | exact hn241_1) (.int .i64 ((rd_T61 l0 x14_1).f1))).trans hx241_2; replace hx241_0 := (cell_far (p := ⟨gb240, 2, none⟩) (by first | (rw [add_block]; exact hn241_2) | (show (Addr.add _ _).block ≠ _; rw [add_block]; exact hn241_2) | exact hn241_2) (.int .i64 ((rd_T61 l0 x14_1).f2))).trans hx241_0; replace hx241_1 := (cell_far (p := ⟨gb240, 2, none⟩) (by first | (rw [add_block]; exact hn241_2) | (show (Addr.add _ _).block ≠ _; rw [add_block]; exact hn241_2) | exact hn241_2) (.int .i64 ((rd_T61 l0 x14_1).f2))).trans hx241_1; replace hx241_2 := (cell_far (p := ⟨gb240, 2, none⟩) (by first | (rw [add_block]; exact hn241_2) | (show (Addr.add _ _).block ≠ _; rw [add_block]; exact hn241_2) | exact hn241_2) (.int .i64 ((rd_T61 l0 x14_1).f2))).trans hx241_2; (try have hy241_0 := fun (n_ : Nat) => (show (((((w23.drewN n_).setCell ⟨gb240, 0, none⟩ (.string ((rd_T61 l0 x14_1).f0))).setCell ⟨gb240, 1, none⟩ (.int .i64 ((rd_T61 l0 x14_1).f1))).setCell ⟨gb240, 2, none⟩ (.int .i64 ((rd_T61 l0 x14_1).f2)))).cell? _ = some _ from hx241_0)); (try have hy241_1 := fun (n_ : Nat) => (show (((((w23.drewN n_).setCell ⟨gb240, 0, none⟩ (.string ((rd_T61 l0 x14_1).f0))).setCell ⟨gb240, 1, none⟩ (.int .i64 ((rd_T61 l0 x14_1).f1))).setCell ⟨gb240, 2, none⟩ (.int .i64 ((rd_T61 l0 x14_1).f2)))).cell? _ = some _ from hx241_1)); (try have hy241_2 := fun (n_ : Nat) => (show (((((w23.drewN n_).setCell ⟨gb240, 0, none⟩ (.string ((rd_T61 l0 x14_1).f0))).setCell ⟨gb240, 1, none⟩ (.int .i64 ((rd_T61 l0 x14_1).f1))).setCell ⟨gb240, 2, none⟩ (.int .i64 ((rd_T61 l0 x14_1).f2)))).cell? _ = some _ from hx241_2)); clear hn241_0 hn241_1 hn241_2; replace p241 := eq_true p241; replace q241 := eq_true q241) | ((with_reducible refine gR ?_); go_quiet (fail)))
    (try simp only [Act.put, List.setIfInBounds_toArray, List.set_cons_zero, List.set_cons_succ])
    have H := HC22.out
    clear HC22
    replace H := iE H; rcases H with ⟨c30, H⟩ | ⟨c30, H⟩
    ·
     have c30b0 := decide_eq_true c30
     clear c30
     (first | rw [c30b0] | (simp only [i64_w, i32_w]; rw [c30b0]) | (rw [c30b2]; simp only [Bool.not_false, Bool.not_true]) | skip)
     have H' := aS H
     clear H
     go_wp2
     repeat (go_quiet (fail); try go_wp2)
     go_roundg k1
     case measure => have := HK1.out; omega
     case rel => exact ⟨(x14_1), (wrap64 (x14_1 + 1)), eV, eV, H', ⟨by have := HK1.out; omega⟩, (aS (sF BK237.out NB237_240.out)), (aS (sF BK238.out NB238_240.out)), (aS (sW HB.out))⟩
    have c30b0 := decide_eq_false c30
    clear c30
    (first | rw [c30b0] | (simp only [i64_w, i32_w]; rw [c30b0]) | (rw [c30b2]; simp only [Bool.not_false, Bool.not_true]) | skip)
    have H' := aS H
    clear H
    go_wp2
    repeat (go_quiet (fail); try go_wp2)
    go_roundg k1
    case measure => have := HK1.out; omega
    case rel => exact ⟨(x9_1), (wrap64 (x14_1 + 1)), eV, eV, H', ⟨by have := HK1.out; omega⟩, (aS (sF BK237.out NB237_240.out)), (aS (sF BK238.out NB238_240.out)), (aS (sW HB.out))⟩
   ·
    have c7b0 := decide_eq_false c7
    clear c7
    obtain rfl := Option.some.inj H
    go_wp2
    repeat (go_quiet (fail); try go_wp2)
    go_ret
    exact ⟨eE, sW HB.out⟩

end Go.Proofs.Ytginmioklkcgbaa.QFnBestJoins

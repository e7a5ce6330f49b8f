/- What the Go functions of this law compute, each as a Lean function, and that each call comes to that answer; written by a program of this session. No condition. -/
import Derived.Test.YtginmioklkcgbaaVShn
import Derived.Test.YtginmioklkcgbaaVQFnBestJoinsx0
import Derived.Test.YtginmioklkcgbaaVQFnBestJoinsx12
namespace Go.Proofs.Ytginmioklkcgbaa.QFnBestJoins
open Go.RowKit Go.Proofs.YtginmioklkcgbaaW.PrintWords Go.Proofs.YtginmioklkcgbaaW.PrintLast Go.Proofs.YtginmioklkcgbaaW.PrintMore
attribute [local go_sem] max2_int min2_int max_two min_two max_three min_three max_four min_four   -- for this text's walks alone
set_option linter.unusedVariables false
set_option linter.unusedSimpArgs false

/-! ### spec_l03Bent: function 64 -/
mutual
def spec_l03Bent.j1 : Nat → List (S61) → List Int → Int → Int → Option ((List (S61)) × Int × Int)
 | 0, _, _, _, _ => none
 | k + 1, x3, x1000, x1001, x1002 => if (x3.length : Int) = 0 then (some (x3, x1001, x1002)) else ((spec_l00Src_pick.f x1000 x1001 x1002 (x3.length : Int)).bind fun bt358 => (if 0 ≤ bt358.1 then (if bt358.1 < (x3.length : Int) then ((spec_l00Src_pick.f x1000 bt358.2.1 bt358.2.2 24).bind fun bt361 => (if bt361.1 = 0 then ((spec_l00Src_text.f x1000 bt361.2.1 bt361.2.2 (([(⟨#[]⟩ : ByteArray), (⟨#[69, 121, 101]⟩ : ByteArray), (⟨#[108, 111, 110, 103]⟩ : ByteArray)] : List ByteArray))).bind fun bt367 => (some ((x3.set (bt358.1 : Int).toNat (⟨bt367.1, (rd_T61 x3 bt358.1).f1, (rd_T61 x3 bt358.1).f2⟩ : S61)), bt367.2.1, bt367.2.2))) else (if bt361.1 = 1 then ((spec_l00Src_among.f x1000 bt361.2.1 bt361.2.2 (([(-1), 0, 1, 1000, 1001, (-9223372036854775808)] : List Int))).bind fun bt374 => (some ((x3.set (bt358.1 : Int).toNat (⟨(rd_T61 x3 bt358.1).f0, bt374.1, (rd_T61 x3 bt358.1).f2⟩ : S61)), bt374.2.1, bt374.2.2))) else (if bt361.1 = 2 then ((spec_l00Src_among.f x1000 bt361.2.1 bt361.2.2 (([(-1), 0, 1000, 1001] : List Int))).bind fun bt381 => (some ((x3.set (bt358.1 : Int).toNat (⟨(rd_T61 x3 bt358.1).f0, (rd_T61 x3 bt358.1).f1, bt381.1⟩ : S61)), bt381.2.1, bt381.2.2))) else (some (x3, bt361.2.1, bt361.2.2)))))) else (none)) else (none)))
def spec_l03Bent.l0 : Nat → List (S61) → Int → List Int → Int → Int → Option ((List (S61)) × Int × Int)
 | 0, _, _, _, _, _ => none
 | k + 1, x3, x4, x1000, x1001, x1002 => if x4 > 0 then ((some (([(97 + (((x3.length : Int)) % 256)) % 256] : List Int) : List Int)).bind fun y347 => (if 1 + (strOfNums y347).size ≤ 9223372036854775807 then ((spec_l03New.f x1000 x1001 x1002 ((⟨#[106]⟩ : ByteArray) ++ (strOfNums y347))).bind fun bt350 => (if x3.length < 4398046511104 then (spec_l03Bent.l0 k (x3 ++ [(⟨bt350.1, bt350.2.1, bt350.2.2.1⟩ : S61)]) (wrap64 (x4 - 1)) x1000 bt350.2.2.2.1 bt350.2.2.2.2) else (none))) else (none))) else (spec_l03Bent.j1 k x3 x1000 x1001 x1002)
end
def spec_l03Bent.f (k : Nat) (s0_0 : List Int) (s0_1 : Int) (s0_2 : Int) : Option ((List (S61)) × Int × Int) := (spec_l03Draw.f k s0_0 s0_1 s0_2).bind fun bt333 => ((spec_l00Src_one.f s0_0 bt333.2.1 bt333.2.2 24).bind fun bt338 => (if bt338.1 = true then ((spec_l00Src_pick.f s0_0 bt338.2.1 bt338.2.2 2).bind fun bt344 => (spec_l03Bent.l0 k (([] : List (S61))) (wrap64 (20 + bt344.1)) s0_0 bt344.2.1 bt344.2.2)) else (spec_l03Bent.j1 k bt333.1 s0_0 bt338.2.1 bt338.2.2)))
theorem spec_l03Bent.mono_l : ∀ k, (∀ y0 y1 y2 y3, LeO (spec_l03Bent.j1 k y0 y1 y2 y3) (spec_l03Bent.j1 (k + 1) y0 y1 y2 y3)) ∧ (∀ y0 y1 y2 y3 y4, LeO (spec_l03Bent.l0 k y0 y1 y2 y3 y4) (spec_l03Bent.l0 (k + 1) y0 y1 y2 y3 y4))
 | 0 => by refine ⟨?_, ?_⟩ <;> (intros; intro r h; simp [spec_l03Bent.j1, spec_l03Bent.l0] at h)
 | k + 1 => by
  obtain ⟨ih0, ih1⟩ := spec_l03Bent.mono_l k
  refine ⟨?_, ?_⟩ <;> (intros; (first | unfold spec_l03Bent.j1 | unfold spec_l03Bent.l0); repeat' first | (with_reducible first | exact ih0 _ _ _ _ | exact ih1 _ _ _ _ _ | exact spec_l03Draw.mono _ _ _ _ | exact LeO.refl _ | exact LeO.none _ | refine LeO.ite ?_ ?_ | refine LeO.bind ?_ (fun _ => ?_)) | refine LeO.ite ?_ ?_ | refine LeO.bind ?_ (fun _ => ?_))
theorem spec_l03Bent.mono : ∀ a0 a1 a2 k, LeO (spec_l03Bent.f k a0 a1 a2) (spec_l03Bent.f (k + 1) a0 a1 a2) := by
 intro a0 a1 a2 k
 obtain ⟨ih0, ih1⟩ := spec_l03Bent.mono_l k
 unfold spec_l03Bent.f
 repeat' first | (with_reducible first | exact ih0 _ _ _ _ | exact ih1 _ _ _ _ _ | exact spec_l03Draw.mono _ _ _ _ | exact LeO.refl _ | exact LeO.none _ | refine LeO.ite ?_ ?_ | refine LeO.bind ?_ (fun _ => ?_)) | refine LeO.ite ?_ ?_ | refine LeO.bind ?_ (fun _ => ?_)
def spec_l03Bent.bF (n k : Nat) : Array Bool := ((List.range n).map fun i => k.testBit i).toArray
set_option maxHeartbeats 8000000 in
set_option maxRecDepth 100000 in
theorem spec_l03Bent.calls (k : Nat) (g : Nat) (s0_0 : List Int) (s0_1 : Int) (s0_2 : Int) (r1 : List (S61)) (r2 : Int) (r3 : Int) (w0 w : World) (hI : IsS127 w0 w g s0_0 s0_1 s0_2) (hB : Below w0.heap.size w0 w) (h : spec_l03Bent.f k s0_0 s0_1 s0_2 = some (r1, r2, r3)) :
  Calls Try.prog 64 #[.pointer (some ⟨g, 0, none⟩)] w fun e w' => ∃ v0_ : Value, e = .returned (v0_) ∧ Kd.R k61 61 w' w.heap.size (fun _ => True) v0_ r1 ∧ IsS127 w0 w' g s0_0 r2 r3 ∧ Below w0.heap.size w0 w' ∧ KeepBut w w' g none := by
 have HI0 := aS hI
 have HK := aS (KeepBut.refl w g none)
 have HL := aS hB.size
 clear hI
 have HW0 := aS hB.size
 have HB := aS hB
 clear hB
 have H := h
 clear h
 unfold spec_l03Bent.f at H
 replace H := Option.bind_eq_some_iff.mp H
 obtain ⟨⟨t333, t336, t337⟩, A20, H⟩ := H
 replace H : ((spec_l00Src_one.f s0_0 t336 t337 24).bind fun bt338 => (if bt338.1 = true then ((spec_l00Src_pick.f s0_0 bt338.2.1 bt338.2.2 2).bind fun bt344 => (spec_l03Bent.l0 k (([] : List (S61))) (wrap64 (20 + bt344.1)) s0_0 bt344.2.1 bt344.2.2)) else (spec_l03Bent.j1 k t333 s0_0 bt338.2.1 bt338.2.2))) = some (r1, r2, r3) := H
 have A2 := aS A20
 clear A20
 replace H := Option.bind_eq_some_iff.mp H
 obtain ⟨⟨t338, t339, t340⟩, A30, H⟩ := H
 replace H : (if t338 = true then ((spec_l00Src_pick.f s0_0 t339 t340 2).bind fun bt344 => (spec_l03Bent.l0 k (([] : List (S61))) (wrap64 (20 + bt344.1)) s0_0 bt344.2.1 bt344.2.2)) else (spec_l03Bent.j1 k t333 s0_0 t339 t340)) = some (r1, r2, r3) := H
 have A3 := aS A30
 clear A30
 have HC4 := aS H
 clear H
 go_enter Try.func64, Try.ntmps64
 go_upto_if 9 with (first | ((with_reducible refine gate_callee (f := 93) rfl ?_); refine goesL_ (some 7) rfl rfl Try.func93 (by kernel_rfl) rfl #[.pointer (some ⟨g, 0, none⟩)] rfl sG ?_; (with_reducible refine (spec_l03Draw.calls k g s0_0 s0_1 s0_2 t333 t336 t337 w0 _ ?side1 ?side2 A2.out).mono ?_); (case side1 => exact IsS127.s HI0.out); (case side2 => exact sWg HB.out (IsS127.ge HI0.out)); rintro e w5 ⟨v334, rfl, ho0, hi, hb, hk⟩; refine ⟨_, rfl, ?_⟩; have HO335 := aS (Kd.R_lower ho0 (keep_size (w := w) (g := g) (row := none) (sK HK.out))); replace HK := aS (kT (sK HK.out) hk); replace HB := aS (hb); replace HI0 := aS (hi)) | ((with_reducible refine gate_callee (f := 66) rfl ?_); refine goesL_ (some 9) rfl rfl Try.func66 (by kernel_rfl) rfl #[.pointer (some ⟨g, 0, none⟩), .int .i64 24] rfl sG ?_; (with_reducible refine (spec_l00Src_one.calls g s0_0 t336 t337 24 t338 t339 t340 w0 _ ?side1 ?side2 A3.out).mono ?_); (case side1 => exact IsS127.s HI0.out); (case side2 => exact sWg HB.out (IsS127.ge HI0.out)); rintro e w6 ⟨rfl, hi, hb, hk⟩; refine ⟨_, rfl, ?_⟩; replace HO335 := aS (Kd.R_mono (Kd.R_keep (IsS127.apart (show IsS127 w0 _ g s0_0 t336 t337 from IsS127.s HI0.out) (sR HO335.out) (by decide)) hk (fun _ h => h.2)) (fun _ h => h.1)); replace HK := aS (kT (sK HK.out) hk); replace HB := aS (hb); replace HI0 := aS (hi)))
 (try simp only [Act.put, List.setIfInBounds_toArray, List.set_cons_zero, List.set_cons_succ])
 go_cut [3] (fun v3 wc => ∃ (kq : Nat) (x3_3 : List (S61)) (x1001_3 : Int) (x1002_3 : Int), Aside0 (spec_l03Bent.j1 kq x3_3 s0_0 x1001_3 x1002_3 = some (r1, r2, r3)) ∧ Aside0 (kq ≤ k) ∧ Aside0 (Kd.R k61 61 wc w.heap.size (fun _ => True) v3 x3_3) ∧ Aside0 (IsS127 w0 wc g s0_0 x1001_3 x1002_3) ∧ Aside0 (KeepBut w wc g none) ∧ Aside0 (Below w0.heap.size w0 wc))
 case first =>
  have H := HC4.out
  clear HC4
  by_cases c7 : t338 = true
  rotate_left
  ·
   replace c7 := Bool.eq_false_iff.mpr c7
   subst c7
   have H1 : (spec_l03Bent.j1 k t333 s0_0 t339 t340) = some (r1, r2, r3) := by rw [if_neg (show ¬ (false = true) by decide)] at H; exact H
   clear H
   have H := H1
   clear H1
   have H' := aS H
   clear H
   go_wp2
   go_meet
   case rel => exact ⟨_, (t333), (t339), (t340), H', ⟨by first | omega | exact Nat.le_refl _⟩, (aS (sR HO335.out)), (aS (IsS127.s HI0.out)), (aS (sK HK.out)), ⟨sWg HB.out (IsS127.ge HI0.out)⟩⟩
  subst c7
  have H1 : ((spec_l00Src_pick.f s0_0 t339 t340 2).bind fun bt344 => (spec_l03Bent.l0 k (([] : List (S61))) (wrap64 (20 + bt344.1)) s0_0 bt344.2.1 bt344.2.2)) = some (r1, r2, r3) := by rw [if_pos rfl] at H; exact H
  clear H
  have H := H1
  clear H1
  obtain ⟨y341, hy341⟩ : ∃ y_ : List (S61), y_ = (([] : List (S61))) := ⟨_, rfl⟩
  replace H : ((spec_l00Src_pick.f s0_0 t339 t340 2).bind fun bt344 => (spec_l03Bent.l0 k y341 (wrap64 (20 + bt344.1)) s0_0 bt344.2.1 bt344.2.2)) = some (r1, r2, r3) := by first | (rw [hy341]; with_reducible exact H) | (have H2_ := (Option.bind_some _ _).symm.trans H; rw [hy341]; with_reducible exact H2_) | (have H2_ := (Option.bind_some _ _).symm.trans H; with_reducible exact H2_) | with_reducible exact H | (rw [hy341]; exact H) | exact H
  have Ny341 := aS hy341
  clear hy341
  replace H := Option.bind_eq_some_iff.mp H
  obtain ⟨⟨t344, t345, t346⟩, A80, H⟩ := H
  replace H : (spec_l03Bent.l0 k y341 (wrap64 (20 + t344)) s0_0 t345 t346) = some (r1, r2, r3) := H
  have A8 := aS A80
  clear A80
  have H' := aS H
  clear H
  go_wp2_with (first | ((with_reducible refine gate_dst (N := 10) rfl ?_); refine Kd.R_lit k61 _ 61 ?hg (N := 10) ?hd (xs := ([] : List (S61))) (inner := []) (ok := fun _ => True) (okp := fun _ => True) ?hr ?hp (fun _ hk => hk) trivial (Below.refl _ _) (Nat.le_refl _) (by simp) ?_; (case hd => rfl); (case hg => rfl); (case hr => first | (go_simp; done) | (go_simp; rfl)); (case hp => exact (Reps.none _ _)); intro v342 w9 ho10 hb hg_ hnew_; clear hg_ hnew_; (first | rw [← Ny341.out] at ho10 | (simp only [Int.reduceToNat] at ho10; rw [← Ny341.out] at ho10)); have HO343 := aS (Kd.R_lower (Kd.R_new' ho10 (Kd.R_lt (sR HO335.out))) (keep_size (w := w) (g := g) (row := none) (sK HK.out))); replace HO335 := aS (Kd.R_elder' (sR HO335.out) (Kd.R_base ho10) hb); replace HK := aS (KeepBut.trans (sK HK.out) (KeepBut.of_below hb g none) (.inl rfl)); replace HB := aS (below_step (sWg HB.out (IsS127.ge HI0.out)) hb); replace HI0 := aS (IsS127.below (IsS127.s HI0.out) hb); clear hb ho10) | ((with_reducible refine gate_callee (f := 70) rfl ?_); refine goesL_ (some 12) rfl rfl Try.func70 (by kernel_rfl) rfl #[.pointer (some ⟨g, 0, none⟩), .int .i64 2] rfl sG ?_; (with_reducible refine (spec_l00Src_pick.calls g s0_0 t339 t340 2 t344 t345 t346 w0 _ ?side1 ?side2 A8.out).mono ?_); (case side1 => exact IsS127.s HI0.out); (case side2 => exact sWg HB.out (IsS127.ge HI0.out)); rintro e w11 ⟨rfl, hi, hb, hk⟩; refine ⟨_, rfl, ?_⟩; replace HO335 := aS (Kd.R_mono (Kd.R_keep (IsS127.apart (show IsS127 w0 _ g s0_0 t339 t340 from IsS127.s HI0.out) (sR HO335.out) (by decide)) hk (fun _ h => h.2)) (fun _ h => h.1)); replace HO343 := aS (Kd.R_mono (Kd.R_keep (IsS127.apart (show IsS127 w0 _ g s0_0 t339 t340 from IsS127.s HI0.out) (sR HO343.out) (by decide)) hk (fun _ h => h.2)) (fun _ h => h.1)); replace HK := aS (kT (sK HK.out) hk); replace HB := aS (hb); replace HI0 := aS (hi)))
  (try simp only [Act.put, List.setIfInBounds_toArray, List.set_cons_zero, List.set_cons_succ])
  go_loopg [3, 4] k (fun kq v3 v4 w' => ∃ (x3_1 : List (S61)) (x4_1 : Int) (x1001_1 : Int) (x1002_1 : Int), v4 = .int .i64 x4_1 ∧ Aside0 (spec_l03Bent.l0 kq x3_1 x4_1 s0_0 x1001_1 x1002_1 = some (r1, r2, r3)) ∧ Aside0 (kq ≤ k) ∧ Aside0 (Kd.R k61 61 w' w.heap.size (fun _ => True) v3 x3_1) ∧ Aside0 (IsS127 w0 w' g s0_0 x1001_1 x1002_1) ∧ Aside0 (KeepBut w w' g none) ∧ Aside0 (Below w0.heap.size w0 w'))
  case atStart => exact ⟨(y341), (wrap64 (20 + t344)), (t345), (t346), eV, H', ⟨Nat.le_refl _⟩, (aS (sR (Kd.R_mono HO343.out (fun _ hk => trivial)))), (aS (IsS127.s HI0.out)), (aS (sK HK.out)), ⟨sWg HB.out (IsS127.ge HI0.out)⟩⟩
  case round =>
   clear H'
   obtain ⟨x3_1, x4_1, x1001_1, x1002_1, rfl, HA, HK1, HO_3, HI0, HK, HB⟩ := hrel
   cases gk with
   | zero => exact absurd HA.out (by simp [spec_l03Bent.l0])
   | succ k1 =>
    have H := HA.out
    clear HA
    simp only [spec_l03Bent.l0] at H
    replace H := iE H; rcases H with ⟨c12, H⟩ | ⟨c12, H⟩
    rotate_left
    ·
     have c12b0 : decide (0 < x4_1) = false := decide_eq_false c12
     clear c12
     (first | rw [c12b0] | (simp only [i64_w, i32_w]; rw [c12b0]) | (rw [c12b2]; simp only [Bool.not_false, Bool.not_true]) | skip)
     have H' := aS H
     clear H
     go_wp2
     go_meet
     case rel => exact ⟨_, (x3_1), (x1001_1), (x1002_1), H', ⟨by have := HK1.out; first | omega | exact Nat.le_refl _⟩, (aS (sR HO_3.out)), (aS (IsS127.s HI0.out)), (aS (sK HK.out)), ⟨sWg HB.out (IsS127.ge HI0.out)⟩⟩
    have c12b0 : decide (0 < x4_1) = true := decide_eq_true c12
    clear c12
    (first | rw [c12b0] | (simp only [i64_w, i32_w]; rw [c12b0]) | (rw [c12b2]; simp only [Bool.not_false, Bool.not_true]) | skip)
    obtain ⟨y347, hy347⟩ : ∃ y_ : List Int, y_ = (([(97 + (((x3_1.length : Int)) % 256)) % 256] : List Int)) := ⟨_, rfl⟩
    replace H : (if 1 + (strOfNums y347).size ≤ 9223372036854775807 then ((spec_l03New.f s0_0 x1001_1 x1002_1 ((⟨#[106]⟩ : ByteArray) ++ (strOfNums y347))).bind fun bt350 => (if x3_1.length < 4398046511104 then (spec_l03Bent.l0 k1 (x3_1 ++ [(⟨bt350.1, bt350.2.1, bt350.2.2.1⟩ : S61)]) (wrap64 (x4_1 - 1)) s0_0 bt350.2.2.2.1 bt350.2.2.2.2) else (none))) else (none)) = some (r1, r2, r3) := by first | (rw [hy347]; with_reducible exact H) | (have H2_ := (Option.bind_some _ _).symm.trans H; rw [hy347]; with_reducible exact H2_) | (have H2_ := (Option.bind_some _ _).symm.trans H; with_reducible exact H2_) | with_reducible exact H | (rw [hy347]; exact H) | exact H
    have Ny347 := aS hy347
    clear hy347
    replace H := iN H
    obtain ⟨c13, H⟩ := H
    have c13b0 := eq_true c13
    have c13b1 := decide_eq_true c13
    try have c13b2 : (9223372036854775807 < 1 + (strOfNums y347).size) = False := eq_false (Nat.not_lt.2 c13)
    replace H := Option.bind_eq_some_iff.mp H
    obtain ⟨⟨t350, t351, t352, t353, t354⟩, A140, H⟩ := H
    replace H : (if x3_1.length < 4398046511104 then (spec_l03Bent.l0 k1 (x3_1 ++ [(⟨t350, t351, t352⟩ : S61)]) (wrap64 (x4_1 - 1)) s0_0 t353 t354) else (none)) = some (r1, r2, r3) := H
    have A14 := aS A140
    clear A140
    replace H := iN H
    obtain ⟨c15, H⟩ := H
    have LMc15 := aS c15
    clear c15
    obtain ⟨y355, hy355⟩ : ∃ y_ : List (S61), y_ = (x3_1 ++ [(⟨t350, t351, t352⟩ : S61)]) := ⟨_, rfl⟩
    replace H : (spec_l03Bent.l0 k1 y355 (wrap64 (x4_1 - 1)) s0_0 t353 t354) = some (r1, r2, r3) := by first | (rw [hy355]; with_reducible exact H) | (have H2_ := (Option.bind_some _ _).symm.trans H; rw [hy355]; with_reducible exact H2_) | (have H2_ := (Option.bind_some _ _).symm.trans H; with_reducible exact H2_) | with_reducible exact H | (rw [hy355]; exact H) | exact H
    have Ny355 := aS hy355
    clear hy355
    have H' := aS H
    clear H
    obtain ⟨Ao16, co16, eo16⟩ := Kd.R_slice HO_3.out
    subst eo16
    go_wp2_with (first | ((with_reducible refine gate_dst (N := 24) rfl ?_); refine Kd.R_lit (Kd.int .u8) _ 5 ?hg (N := 24) ?hd (xs := ([(97 + (((x3_1.length : Int)) % 256)) % 256] : List Int)) (inner := [.int .u8 ((97 + (((x3_1.length : Int)) % 256)) % 256)]) (ok := fun _ => True) (okp := fun _ => True) ?hr ?hp (fun _ hk => hk) trivial (Below.refl _ _) (Nat.le_refl _) (by simp) ?_; (case hd => rfl); (case hg => rfl); (case hr => first | (go_simp; done) | (go_simp; rfl)); (case hp => exact (Reps.one (show Kd.M (Kd.int .u8) _ _ _ ((97 + (((x3_1.length : Int)) % 256)) % 256) [.int .u8 ((97 + (((x3_1.length : Int)) % 256)) % 256)] from rfl) (Reps.none _ _))); intro v348 w17 ho18 hb hg_ hnew_; clear hg_ hnew_; (first | rw [← Ny347.out] at ho18 | (simp only [Int.reduceToNat] at ho18; rw [← Ny347.out] at ho18)); replace HO_3 := aS (Kd.R_below (sR HO_3.out) hb); have HO349 := aS (Kd.R_lower ho18 (keep_size (w := w) (g := g) (row := none) (sK HK.out))); replace HK := aS (KeepBut.trans (sK HK.out) (KeepBut.of_below hb g none) (.inl rfl)); replace HB := aS (below_step (sWg HB.out (IsS127.ge HI0.out)) hb); replace HI0 := aS (IsS127.below (IsS127.s HI0.out) hb); clear hb ho18; have hcv19 := own_string (P := Try.prog) Try.underlying42 Try.underlying5 Try.underlying9 (Kd.own_of_R HO349.out)) | ((with_reducible refine gate_callee (f := 94) rfl ?_); refine goesL_ (some 27) rfl rfl Try.func94 (by kernel_rfl) rfl #[.pointer (some ⟨g, 0, none⟩), .string ((⟨#[106]⟩ : ByteArray) ++ (strOfNums y347))] rfl sG ?_; (with_reducible refine (spec_l03New.calls g s0_0 x1001_1 x1002_1 ((⟨#[106]⟩ : ByteArray) ++ (strOfNums y347)) t350 t351 t352 t353 t354 w0 _ ?side1 ?side2 A14.out).mono ?_); (case side1 => exact IsS127.s HI0.out); (case side2 => exact sWg HB.out (IsS127.ge HI0.out)); rintro e w20 ⟨rfl, hi, hb, hk⟩; refine ⟨_, rfl, ?_⟩; replace HO_3 := aS (Kd.R_mono (Kd.R_keep (IsS127.apart (show IsS127 w0 _ g s0_0 x1001_1 x1002_1 from IsS127.s HI0.out) (sR HO_3.out) (by decide)) hk (fun _ h => h.2)) (fun _ h => h.1)); replace HO349 := aS (Kd.R_mono (Kd.R_keep (IsS127.apart (show IsS127 w0 _ g s0_0 x1001_1 x1002_1 from IsS127.s HI0.out) (sR HO349.out) (by decide)) hk (fun _ h => h.2)) (fun _ h => h.1)); replace HK := aS (kT (sK HK.out) hk); replace HB := aS (hb); replace HI0 := aS (hi)) | ((with_reducible refine gate_builtin (b := .append) (xs := #[.tmp 18, .tmp 28]) rfl ?_); at_builtin; refine Kd.R_append k61 w.heap.size rfl (.tmp 18) (.tmp 28) 32 61 (.agg #[(.string ⟨#[]⟩), (.int .i64 0), (.int .i64 0)]) 32 rfl Try.underlying32 info61 rfl (by decide) (by omega) (.slice Ao16 x3_1.length co16) x3_1 (⟨t350, t351, t352⟩ : S61) [.string t350, .int .i64 t351, .int .i64 t352] (fun _ => True) (fun _ => False) rfl rfl ?aP (fun _ hk => hk.elim) ?aF ?aO (Below.refl _ _) ?aS ?aL ?_; (case aP => exact k61_mkM _ _ _ (⟨t350, t351, t352⟩ : S61)); (case aF => exact (fun _ _ => trivial)); (case aO => exact (sR HO_3.out)); (case aS => exact (keep_size (w := w) (g := g) (row := none) (sK HK.out))); (case aL => have := LMc15.out; omega); intro v356 w21 ho hb hg hat; rw [← Ny355.out] at ho; replace HO349 := aS (Kd.R_over' (sR HO349.out) (Kd.R_typed (sR HO_3.out)) (by decide) hg); replace HB := aS (below_weaken (sWg HB.out (IsS127.ge HI0.out)) HL.out hb); replace HI0 := aS (IsS127.grown (show IsS127 w0 _ g s0_0 t353 t354 from IsS127.s HI0.out) hg (IsS127.own_ne HI0.out HO_3.out (by decide))); replace HK := aS (KeepBut.trans (sK HK.out) (KeepBut.of_grown hg g) (Kd.R_base2 HO_3.out)); have HO357 := aS (ho); clear HO_3; clear ho hb hg hat))
    go_roundg k1
    case measure => have := HK1.out; omega
    case rel => exact ⟨(y355), (wrap64 (x4_1 - 1)), (t353), (t354), eV, H', ⟨by have := HK1.out; omega⟩, (aS (sR HO357.out)), (aS (IsS127.s HI0.out)), (aS (sK HK.out)), ⟨sWg HB.out (IsS127.ge HI0.out)⟩⟩
 case rest =>
  clear HC4
  obtain ⟨kq, x3_3, x1001_3, x1002_3, HA, HJ3, HO_3, HI0, HK, HB⟩ := hcut
  cases kq with
  | zero => exact absurd HA.out (by simp [spec_l03Bent.j1])
  | succ kj3 =>
   have H := HA.out
   clear HA
   simp only [spec_l03Bent.j1] at H
   replace H := iE H; rcases H with ⟨c22, H⟩ | ⟨c22, H⟩
   ·
    have c22b0 := beq_iff_eq.mpr c22
    have c22b1 := bne_eq_false_iff_eq.mpr c22
    clear c22
    simp only [Option.some.injEq, Prod.mk.injEq] at H
    obtain ⟨rfl, rfl, rfl⟩ := H
    obtain ⟨Ao23, co23, eo23⟩ := Kd.R_slice HO_3.out
    subst eo23
    go_wp2
    go_ret
    exact ⟨_, eE, sR HO_3.out, IsS127.s HI0.out, sWg HB.out (IsS127.ge HI0.out), sK HK.out⟩
   ·
    have c22b0 := beq_eq_false_iff_ne.mpr c22
    have c22b1 := bne_iff_ne.mpr c22
    have c22b2 : ¬ (x3_3 = []) := fun h_ => c22 (by rw [h_]; rfl)
    replace H := Option.bind_eq_some_iff.mp H
    obtain ⟨⟨t358, t359, t360⟩, A240, H⟩ := H
    replace H : (if 0 ≤ t358 then (if t358 < (x3_3.length : Int) then ((spec_l00Src_pick.f s0_0 t359 t360 24).bind fun bt361 => (if bt361.1 = 0 then ((spec_l00Src_text.f s0_0 bt361.2.1 bt361.2.2 (([(⟨#[]⟩ : ByteArray), (⟨#[69, 121, 101]⟩ : ByteArray), (⟨#[108, 111, 110, 103]⟩ : ByteArray)] : List ByteArray))).bind fun bt367 => (some ((x3_3.set (t358 : Int).toNat (⟨bt367.1, (rd_T61 x3_3 t358).f1, (rd_T61 x3_3 t358).f2⟩ : S61)), bt367.2.1, bt367.2.2))) else (if bt361.1 = 1 then ((spec_l00Src_among.f s0_0 bt361.2.1 bt361.2.2 (([(-1), 0, 1, 1000, 1001, (-9223372036854775808)] : List Int))).bind fun bt374 => (some ((x3_3.set (t358 : Int).toNat (⟨(rd_T61 x3_3 t358).f0, bt374.1, (rd_T61 x3_3 t358).f2⟩ : S61)), bt374.2.1, bt374.2.2))) else (if bt361.1 = 2 then ((spec_l00Src_among.f s0_0 bt361.2.1 bt361.2.2 (([(-1), 0, 1000, 1001] : List Int))).bind fun bt381 => (some ((x3_3.set (t358 : Int).toNat (⟨(rd_T61 x3_3 t358).f0, (rd_T61 x3_3 t358).f1, bt381.1⟩ : S61)), bt381.2.1, bt381.2.2))) else (some (x3_3, bt361.2.1, bt361.2.2)))))) else (none)) else (none)) = some (r1, r2, r3) := H
    have A24 := aS A240
    clear A240
    replace H := iE H; rcases H with ⟨c25, H⟩ | ⟨c25, H⟩
    ·
     have c25b0 := decide_eq_true c25
     clear c25
     replace H := iN H
     obtain ⟨c26, H⟩ := H
     have c26b0 := decide_eq_true c26
     clear c26
     replace H := Option.bind_eq_some_iff.mp H
     obtain ⟨⟨t361, t362, t363⟩, A280, H⟩ := H
     replace H : (if t361 = 0 then ((spec_l00Src_text.f s0_0 t362 t363 (([(⟨#[]⟩ : ByteArray), (⟨#[69, 121, 101]⟩ : ByteArray), (⟨#[108, 111, 110, 103]⟩ : ByteArray)] : List ByteArray))).bind fun bt367 => (some ((x3_3.set (t358 : Int).toNat (⟨bt367.1, (rd_T61 x3_3 t358).f1, (rd_T61 x3_3 t358).f2⟩ : S61)), bt367.2.1, bt367.2.2))) else (if t361 = 1 then ((spec_l00Src_among.f s0_0 t362 t363 (([(-1), 0, 1, 1000, 1001, (-9223372036854775808)] : List Int))).bind fun bt374 => (some ((x3_3.set (t358 : Int).toNat (⟨(rd_T61 x3_3 t358).f0, bt374.1, (rd_T61 x3_3 t358).f2⟩ : S61)), bt374.2.1, bt374.2.2))) else (if t361 = 2 then ((spec_l00Src_among.f s0_0 t362 t363 (([(-1), 0, 1000, 1001] : List Int))).bind fun bt381 => (some ((x3_3.set (t358 : Int).toNat (⟨(rd_T61 x3_3 t358).f0, (rd_T61 x3_3 t358).f1, bt381.1⟩ : S61)), bt381.2.1, bt381.2.2))) else (some (x3_3, t362, t363))))) = some (r1, r2, r3) := H
     have A28 := aS A280
     clear A280
     have HC29 := aS H
     clear H
     obtain ⟨Ao30, co30, eo30⟩ := Kd.R_slice HO_3.out
     subst eo30
     go_upto_if 42 with (first | ((with_reducible refine gate_callee (f := 70) rfl ?_); refine goesL_ (some 38) rfl rfl Try.func70 (by kernel_rfl) rfl #[.pointer (some ⟨g, 0, none⟩), .int .i64 (x3_3.length : Int)] rfl sG ?_; (with_reducible refine (spec_l00Src_pick.calls g s0_0 x1001_3 x1002_3 (x3_3.length : Int) t358 t359 t360 w0 _ ?side1 ?side2 A24.out).mono ?_); (case side1 => exact IsS127.s HI0.out); (case side2 => exact sWg HB.out (IsS127.ge HI0.out)); rintro e w31 ⟨rfl, hi, hb, hk⟩; refine ⟨_, rfl, ?_⟩; replace HO_3 := aS (Kd.R_mono (Kd.R_keep (IsS127.apart (show IsS127 w0 _ g s0_0 x1001_3 x1002_3 from IsS127.s HI0.out) (sR HO_3.out) (by decide)) hk (fun _ h => h.2)) (fun _ h => h.1)); replace HK := aS (kT (sK HK.out) hk); replace HB := aS (hb); replace HI0 := aS (hi); (try clear hb); (try clear hb2); (try clear hk); (try clear hi); have p27 : 0 ≤ (t358 : Int) := sD; have q27 : (t358 : Int) < ((x3_3.length : Int) : Int) := sD; obtain ⟨go27, co27, eo27, gb27, gl27, cl27, HG27⟩ := Kd.R_form HO_3.out (by omega); (first | cases eo27 | (injection eo27 with ea_ en_ ec_; (first | subst ea_ | (injection ea_ with ea_; subst ea_)); subst ec_; clear en_)); have GB27 := aS gb27; have GG27 := aS HG27; clear gb27 gl27 HG27; obtain ⟨ce27, hcl27, hM27, hcc27, hfr27⟩ := Kd.R_elem HO_3.out z61 (t358 : Int) p27 q27; obtain rfl := k61_openM hM27; have hx27_0 : w31.cell? ⟨go27, (t358 : Int).toNat * 3, none⟩ = some (.string ((rd_T61 x3_3 t358).f0)) := hcc27 0 _ rfl; have hx27_1 : w31.cell? ⟨go27, (t358 : Int).toNat * 3 + 1, none⟩ = some (.int .i64 ((rd_T61 x3_3 t358).f1)) := hcc27 1 _ rfl; have hx27_2 : w31.cell? ⟨go27, (t358 : Int).toNat * 3 + 2, none⟩ = some (.int .i64 ((rd_T61 x3_3 t358).f2)) := hcc27 2 _ rfl; have hf27_0 : w31.frozen? ⟨go27, (t358 : Int).toNat * 3, none⟩ = false := hfr27 0; have hf27_1 : w31.frozen? ⟨go27, (t358 : Int).toNat * 3 + 1, none⟩ = false := hfr27 1; have hf27_2 : w31.frozen? ⟨go27, (t358 : Int).toNat * 3 + 2, none⟩ = false := hfr27 2; clear hcl27 hcc27 hfr27 hM27; replace p27 := eq_true p27; replace q27 := eq_true q27) | ((with_reducible refine gate_callee (f := 70) rfl ?_); refine goesL_ (some 41) rfl rfl Try.func70 (by kernel_rfl) rfl #[.pointer (some ⟨g, 0, none⟩), .int .i64 24] rfl sG ?_; (with_reducible refine (spec_l00Src_pick.calls g s0_0 t359 t360 24 t361 t362 t363 w0 _ ?side1 ?side2 A28.out).mono ?_); (case side1 => exact IsS127.s HI0.out); (case side2 => exact sWg HB.out (IsS127.ge HI0.out)); rintro e w32 ⟨rfl, hi, hb, hk⟩; refine ⟨_, rfl, ?_⟩; replace HO_3 := aS (Kd.R_mono (Kd.R_keep (IsS127.apart (show IsS127 w0 _ g s0_0 t359 t360 from IsS127.s HI0.out) (sR HO_3.out) (by decide)) hk (fun _ h => h.2)) (fun _ h => h.1)); replace HK := aS (kT (sK HK.out) hk); replace HB := aS (hb); replace HI0 := aS (hi)))
     (try simp only [Act.put, List.setIfInBounds_toArray, List.set_cons_zero, List.set_cons_succ])
     have H := HC29.out
     clear HC29
     replace H := iE H; rcases H with ⟨c33, H⟩ | ⟨c33, H⟩
     ·
      have c33b0 := beq_iff_eq.mpr c33
      have c33b1 := bne_eq_false_iff_eq.mpr c33
      clear c33
      (first | rw [c33b0] | (simp only [i64_w, i32_w]; rw [c33b0]) | (rw [c33b2]; simp only [Bool.not_false, Bool.not_true]) | skip)
      obtain ⟨y364, hy364⟩ : ∃ y_ : List ByteArray, y_ = (([(⟨#[]⟩ : ByteArray), (⟨#[69, 121, 101]⟩ : ByteArray), (⟨#[108, 111, 110, 103]⟩ : ByteArray)] : List ByteArray)) := ⟨_, rfl⟩
      replace H : ((spec_l00Src_text.f s0_0 t362 t363 y364).bind fun bt367 => (some ((x3_3.set (t358 : Int).toNat (⟨bt367.1, (rd_T61 x3_3 t358).f1, (rd_T61 x3_3 t358).f2⟩ : S61)), bt367.2.1, bt367.2.2))) = some (r1, r2, r3) := by first | (rw [hy364]; with_reducible exact H) | (have H2_ := (Option.bind_some _ _).symm.trans H; rw [hy364]; with_reducible exact H2_) | (have H2_ := (Option.bind_some _ _).symm.trans H; with_reducible exact H2_) | with_reducible exact H | (rw [hy364]; exact H) | exact H
      have Ny364 := aS hy364
      clear hy364
      replace H := Option.bind_eq_some_iff.mp H
      obtain ⟨⟨t367, t368, t369⟩, A340, H⟩ := H
      replace H : (some ((x3_3.set (t358 : Int).toNat (⟨t367, (rd_T61 x3_3 t358).f1, (rd_T61 x3_3 t358).f2⟩ : S61)), t368, t369)) = some (r1, r2, r3) := H
      have A34 := aS A340
      clear A340
      obtain ⟨y370, hy370⟩ : ∃ y_ : List (S61), y_ = (x3_3.set (t358 : Int).toNat (⟨t367, (rd_T61 x3_3 t358).f1, (rd_T61 x3_3 t358).f2⟩ : S61)) := ⟨_, rfl⟩
      replace H : (some (y370, t368, t369)) = some (r1, r2, r3) := by first | (rw [hy370]; with_reducible exact H) | (have H2_ := (Option.bind_some _ _).symm.trans H; rw [hy370]; with_reducible exact H2_) | (have H2_ := (Option.bind_some _ _).symm.trans H; with_reducible exact H2_) | with_reducible exact H | (rw [hy370]; exact H) | exact H
      have Ny370 := aS hy370
      clear hy370
      simp only [Option.some.injEq, Prod.mk.injEq] at H
      obtain ⟨rfl, rfl, rfl⟩ := H
      go_wp2_with (first | ((with_reducible refine gate_dst (N := 46) rfl ?_); refine Kd.R_lit Kd.string _ 9 ?hg (N := 46) ?hd (xs := ([(⟨#[]⟩ : ByteArray), (⟨#[69, 121, 101]⟩ : ByteArray), (⟨#[108, 111, 110, 103]⟩ : ByteArray)] : List ByteArray)) (inner := [.string (⟨#[]⟩ : ByteArray), .string (⟨#[69, 121, 101]⟩ : ByteArray), .string (⟨#[108, 111, 110, 103]⟩ : ByteArray)]) (ok := fun _ => True) (okp := fun _ => True) ?hr ?hp (fun _ hk => hk) trivial (Below.refl _ _) (Nat.le_refl _) (by simp) ?_; (case hd => rfl); (case hg => rfl); (case hr => first | (go_simp; done) | (go_simp; rfl)); (case hp => exact (Reps.one (show Kd.M Kd.string _ _ _ (⟨#[]⟩ : ByteArray) [.string (⟨#[]⟩ : ByteArray)] from rfl) (Reps.one (show Kd.M Kd.string _ _ _ (⟨#[69, 121, 101]⟩ : ByteArray) [.string (⟨#[69, 121, 101]⟩ : ByteArray)] from rfl) (Reps.one (show Kd.M Kd.string _ _ _ (⟨#[108, 111, 110, 103]⟩ : ByteArray) [.string (⟨#[108, 111, 110, 103]⟩ : ByteArray)] from rfl) (Reps.none _ _))))); intro v365 w35 ho36 hb hg_ hnew_; clear hg_ hnew_; (first | rw [← Ny364.out] at ho36 | (simp only [Int.reduceToNat] at ho36; rw [← Ny364.out] at ho36)); replace HO_3 := aS (Kd.R_below (sR HO_3.out) hb); have HO366 := aS (Kd.R_lower ho36 (keep_size (w := w) (g := g) (row := none) (sK HK.out))); replace HK := aS (KeepBut.trans (sK HK.out) (KeepBut.of_below hb g none) (.inl rfl)); replace HB := aS (below_step (sWg HB.out (IsS127.ge HI0.out)) hb); replace HI0 := aS (IsS127.below (IsS127.s HI0.out) hb); clear hb ho36; obtain ⟨Ao37, co37, eo37⟩ := Kd.R_slice HO366.out; subst eo37) | ((with_reducible refine gate_callee (f := 95) rfl ?_); refine goesL_ (some 47) rfl rfl Try.func95 (by kernel_rfl) rfl #[.pointer (some ⟨g, 0, none⟩), .slice Ao37 y364.length co37] rfl sG ?_; (with_reducible refine (spec_l00Src_text.calls g s0_0 t362 t363 _ _ y364 t367 t368 t369 w0 _ ?side1 ?side2 ?side3 ?side4 ?side5 A34.out).mono ?_); (case side1 => exact IsS127.s HI0.out); (case side2 => exact sWg HB.out (IsS127.ge HI0.out)); (case side3 => exact sC (Kd.R_reads' HO366.out).2.2); (case side4 => exact (Kd.R_reads' HO366.out).2.1); (case side5 => exact far_slice (IsS127.own_ne HI0.out HO366.out (by decide))); rintro e w38 ⟨rfl, hi, hb, hk⟩; refine ⟨_, rfl, ?_⟩; replace HO_3 := aS (Kd.R_mono (Kd.R_keep (IsS127.apart (show IsS127 w0 _ g s0_0 t362 t363 from IsS127.s HI0.out) (sR HO_3.out) (by decide)) hk (fun _ h => h.2)) (fun _ h => h.1)); replace HO366 := aS (Kd.R_mono (Kd.R_keep (IsS127.apart (show IsS127 w0 _ g s0_0 t362 t363 from IsS127.s HI0.out) (sR HO366.out) (by decide)) hk (fun _ h => h.2)) (fun _ h => h.1)); replace HK := aS (kT (sK HK.out) hk); replace HB := aS (hb); replace HI0 := aS (hi); (try clear hb); (try clear hb2); (try clear hk); (try clear hi); have HX39 := aS (show Kd.R k61 61 w38 w.heap.size (fun _ => True) (.slice (some ⟨go27, 0, none⟩) x3_3.length co30) x3_3 from (sR HO_3.out)); obtain ⟨ce39, hcl39, hM39, hcc39, hfr39⟩ := Kd.R_elem HX39.out z61 (t358 : Int) (sD) (by have h_ : (t358 : Int) < ((x3_3.length : Int) : Int) := sD; first | exact h_ | (have e_ := (Kd.R_reads' HO_3.out).1; omega) | simpa using h_); obtain rfl := k61_openM hM39; have HP39 := Kd.R_seg HX39.out (t358 : Int) (sD) (by have h_ : (t358 : Int) < ((x3_3.length : Int) : Int) := sD; first | exact h_ | (have e_ := (Kd.R_reads' HO_3.out).1; omega) | simpa using h_) (seg := [.string t367]) (j := 0) hcl39 hcc39 (show 1 ≤ 3 from by decide) (x' := (⟨t367, (rd_T61 x3_3 t358).f1, (rd_T61 x3_3 t358).f2⟩ : S61)) (k61_mkM _ _ _ (⟨t367, (rd_T61 x3_3 t358).f1, (rd_T61 x3_3 t358).f2⟩ : S61) ) (fun _ hk => hk); have hx39_0 := hcc39 0 _ rfl; (try simp only [show (k61).sz = 3 from rfl, Nat.mul_one, Nat.add_zero] at hx39_0); have hf39_0 := hfr39 0; (try simp only [show (k61).sz = 3 from rfl, Nat.mul_one, Nat.add_zero] at hf39_0); clear hcl39 hcc39 hfr39 hM39) | ((with_reducible refine gate_store (t := 9) (p := 49) rfl ?_); refine store_event (t := 9) (p := 49) (v := ?vo_w40) (w1 := (w38.setCell ⟨go27, (t358 : Int).toNat * 3, none⟩ (.string t367))) ?hg ?ho ?hn ?hr ?_; (case ho => rfl); (case hg => rfl); (case hn => rfl); (case hr => first | (go_simp; done) | (go_simp; rfl)); intro w40 hw; have hg : w38.grownBy w40 (some go27) := (by rw [hw]; exact HP39.2); have hp_ : Kd.R k61 61 w40 w.heap.size (fun _ => True) (.slice (some ⟨go27, 0, none⟩) x3_3.length co30) y370 := (by rw [hw, Ny370.out]; exact HP39.1); clear HP39; replace HI0 := aS (IsS127.grown (IsS127.s HI0.out) hg (IsS127.own_ne HI0.out HO_3.out (by decide))); replace HO366 := aS (Kd.R_over' (v := (.slice (some ⟨go27, 0, none⟩) x3_3.length co30)) (sR HO366.out) (Kd.R_typed HO_3.out) (by decide) hg); replace HB := aS ((by rw [hw]; exact below_set (HB.out) (Nat.le_trans HL.out GB27.out) : Below w0.heap.size w0 w40)); replace HK := aS (KeepBut.trans (sK HK.out) (KeepBut.of_grown hg g) (Kd.R_base2 HO_3.out)); replace HO_3 := aS (hp_); clear hg hw hp_))
      go_ret
      exact ⟨_, eE, sR HO_3.out, IsS127.s HI0.out, sWg HB.out (IsS127.ge HI0.out), sK HK.out⟩
     have c33b0 := beq_eq_false_iff_ne.mpr c33
     have c33b1 := bne_iff_ne.mpr c33
     (first | rw [c33b0] | (simp only [i64_w, i32_w]; rw [c33b0]) | (rw [c33b2]; simp only [Bool.not_false, Bool.not_true]) | skip)
     replace H := iE H; rcases H with ⟨c41, H⟩ | ⟨c41, H⟩
     ·
      have c41b0 := beq_iff_eq.mpr c41
      have c41b1 := bne_eq_false_iff_eq.mpr c41
      clear c41
      obtain ⟨y371, hy371⟩ : ∃ y_ : List Int, y_ = (([(-1), 0, 1, 1000, 1001, (-9223372036854775808)] : List Int)) := ⟨_, rfl⟩
      replace H : ((spec_l00Src_among.f s0_0 t362 t363 y371).bind fun bt374 => (some ((x3_3.set (t358 : Int).toNat (⟨(rd_T61 x3_3 t358).f0, bt374.1, (rd_T61 x3_3 t358).f2⟩ : S61)), bt374.2.1, bt374.2.2))) = some (r1, r2, r3) := by first | (rw [hy371]; with_reducible exact H) | (have H2_ := (Option.bind_some _ _).symm.trans H; rw [hy371]; with_reducible exact H2_) | (have H2_ := (Option.bind_some _ _).symm.trans H; with_reducible exact H2_) | with_reducible exact H | (rw [hy371]; exact H) | exact H
      have Ny371 := aS hy371
      clear hy371
      replace H := Option.bind_eq_some_iff.mp H
      obtain ⟨⟨t374, t375, t376⟩, A420, H⟩ := H
      replace H : (some ((x3_3.set (t358 : Int).toNat (⟨(rd_T61 x3_3 t358).f0, t374, (rd_T61 x3_3 t358).f2⟩ : S61)), t375, t376)) = some (r1, r2, r3) := H
      have A42 := aS A420
      clear A420
      obtain ⟨y377, hy377⟩ : ∃ y_ : List (S61), y_ = (x3_3.set (t358 : Int).toNat (⟨(rd_T61 x3_3 t358).f0, t374, (rd_T61 x3_3 t358).f2⟩ : S61)) := ⟨_, rfl⟩
      replace H : (some (y377, t375, t376)) = some (r1, r2, r3) := by first | (rw [hy377]; with_reducible exact H) | (have H2_ := (Option.bind_some _ _).symm.trans H; rw [hy377]; with_reducible exact H2_) | (have H2_ := (Option.bind_some _ _).symm.trans H; with_reducible exact H2_) | with_reducible exact H | (rw [hy377]; exact H) | exact H
      have Ny377 := aS hy377
      clear hy377
      simp only [Option.some.injEq, Prod.mk.injEq] at H
      obtain ⟨rfl, rfl, rfl⟩ := H
      go_wp2_with (first | ((with_reducible refine gate_dst (N := 54) rfl ?_); refine Kd.R_lit (Kd.int .i64) _ 2 ?hg (N := 54) ?hd (xs := ([(-1), 0, 1, 1000, 1001, (-9223372036854775808)] : List Int)) (inner := [.int .i64 (-1), .int .i64 0, .int .i64 1, .int .i64 1000, .int .i64 1001, .int .i64 (-9223372036854775808)]) (ok := fun _ => True) (okp := fun _ => True) ?hr ?hp (fun _ hk => hk) trivial (Below.refl _ _) (Nat.le_refl _) (by simp) ?_; (case hd => rfl); (case hg => rfl); (case hr => first | (go_simp; done) | (go_simp; rfl)); (case hp => exact (Reps.one (show Kd.M (Kd.int .i64) _ _ _ (-1) [.int .i64 (-1)] from rfl) (Reps.one (show Kd.M (Kd.int .i64) _ _ _ 0 [.int .i64 0] from rfl) (Reps.one (show Kd.M (Kd.int .i64) _ _ _ 1 [.int .i64 1] from rfl) (Reps.one (show Kd.M (Kd.int .i64) _ _ _ 1000 [.int .i64 1000] from rfl) (Reps.one (show Kd.M (Kd.int .i64) _ _ _ 1001 [.int .i64 1001] from rfl) (Reps.one (show Kd.M (Kd.int .i64) _ _ _ (-9223372036854775808) [.int .i64 (-9223372036854775808)] from rfl) (Reps.none _ _)))))))); intro v372 w43 ho44 hb hg_ hnew_; clear hg_ hnew_; (first | rw [← Ny371.out] at ho44 | (simp only [Int.reduceToNat] at ho44; rw [← Ny371.out] at ho44)); replace HO_3 := aS (Kd.R_below (sR HO_3.out) hb); have HO373 := aS (Kd.R_lower ho44 (keep_size (w := w) (g := g) (row := none) (sK HK.out))); replace HK := aS (KeepBut.trans (sK HK.out) (KeepBut.of_below hb g none) (.inl rfl)); replace HB := aS (below_step (sWg HB.out (IsS127.ge HI0.out)) hb); replace HI0 := aS (IsS127.below (IsS127.s HI0.out) hb); clear hb ho44; obtain ⟨Ao45, co45, eo45⟩ := Kd.R_slice HO373.out; subst eo45) | ((with_reducible refine gate_callee (f := 96) rfl ?_); refine goesL_ (some 55) rfl rfl Try.func96 (by kernel_rfl) rfl #[.pointer (some ⟨g, 0, none⟩), .slice Ao45 y371.length co45] rfl sG ?_; (with_reducible refine (spec_l00Src_among.calls g s0_0 t362 t363 _ _ y371 t374 t375 t376 w0 _ ?side1 ?side2 ?side3 ?side4 ?side5 A42.out).mono ?_); (case side1 => exact IsS127.s HI0.out); (case side2 => exact sWg HB.out (IsS127.ge HI0.out)); (case side3 => exact sC (Kd.R_reads' HO373.out).2.2); (case side4 => exact (Kd.R_reads' HO373.out).2.1); (case side5 => exact far_slice (IsS127.own_ne HI0.out HO373.out (by decide))); rintro e w46 ⟨rfl, hi, hb, hk⟩; refine ⟨_, rfl, ?_⟩; replace HO_3 := aS (Kd.R_mono (Kd.R_keep (IsS127.apart (show IsS127 w0 _ g s0_0 t362 t363 from IsS127.s HI0.out) (sR HO_3.out) (by decide)) hk (fun _ h => h.2)) (fun _ h => h.1)); replace HO373 := aS (Kd.R_mono (Kd.R_keep (IsS127.apart (show IsS127 w0 _ g s0_0 t362 t363 from IsS127.s HI0.out) (sR HO373.out) (by decide)) hk (fun _ h => h.2)) (fun _ h => h.1)); replace HK := aS (kT (sK HK.out) hk); replace HB := aS (hb); replace HI0 := aS (hi); (try clear hb); (try clear hb2); (try clear hk); (try clear hi); have HX47 := aS (show Kd.R k61 61 w46 w.heap.size (fun _ => True) (.slice (some ⟨go27, 0, none⟩) x3_3.length co30) x3_3 from (sR HO_3.out)); obtain ⟨ce47, hcl47, hM47, hcc47, hfr47⟩ := Kd.R_elem HX47.out z61 (t358 : Int) (sD) (by have h_ : (t358 : Int) < ((x3_3.length : Int) : Int) := sD; first | exact h_ | (have e_ := (Kd.R_reads' HO_3.out).1; omega) | simpa using h_); obtain rfl := k61_openM hM47; have HP47 := Kd.R_seg HX47.out (t358 : Int) (sD) (by have h_ : (t358 : Int) < ((x3_3.length : Int) : Int) := sD; first | exact h_ | (have e_ := (Kd.R_reads' HO_3.out).1; omega) | simpa using h_) (seg := [.int .i64 t374]) (j := 1) hcl47 hcc47 (show 2 ≤ 3 from by decide) (x' := (⟨(rd_T61 x3_3 t358).f0, t374, (rd_T61 x3_3 t358).f2⟩ : S61)) (k61_mkM _ _ _ (⟨(rd_T61 x3_3 t358).f0, t374, (rd_T61 x3_3 t358).f2⟩ : S61) ) (fun _ hk => hk); have hx47_1 := hcc47 1 _ rfl; (try simp only [show (k61).sz = 3 from rfl, Nat.mul_one, Nat.add_zero] at hx47_1); have hf47_1 := hfr47 1; (try simp only [show (k61).sz = 3 from rfl, Nat.mul_one, Nat.add_zero] at hf47_1); clear hcl47 hcc47 hfr47 hM47) | ((with_reducible refine gate_store (t := 2) (p := 57) rfl ?_); refine store_event (t := 2) (p := 57) (v := ?vo_w48) (w1 := (w46.setCell ⟨go27, (t358 : Int).toNat * 3 + 1, none⟩ (.int .i64 t374))) ?hg ?ho ?hn ?hr ?_; (case ho => rfl); (case hg => rfl); (case hn => rfl); (case hr => first | (go_simp; done) | (go_simp; rfl)); intro w48 hw; have hg : w46.grownBy w48 (some go27) := (by rw [hw]; exact HP47.2); have hp_ : Kd.R k61 61 w48 w.heap.size (fun _ => True) (.slice (some ⟨go27, 0, none⟩) x3_3.length co30) y377 := (by rw [hw, Ny377.out]; exact HP47.1); clear HP47; replace HI0 := aS (IsS127.grown (IsS127.s HI0.out) hg (IsS127.own_ne HI0.out HO_3.out (by decide))); replace HO373 := aS (Kd.R_over' (v := (.slice (some ⟨go27, 0, none⟩) x3_3.length co30)) (sR HO373.out) (Kd.R_typed HO_3.out) (by decide) hg); replace HB := aS ((by rw [hw]; exact below_set (HB.out) (Nat.le_trans HL.out GB27.out) : Below w0.heap.size w0 w48)); replace HK := aS (KeepBut.trans (sK HK.out) (KeepBut.of_grown hg g) (Kd.R_base2 HO_3.out)); replace HO_3 := aS (hp_); clear hg hw hp_))
      go_ret
      exact ⟨_, eE, sR HO_3.out, IsS127.s HI0.out, sWg HB.out (IsS127.ge HI0.out), sK HK.out⟩
     have c41b0 := beq_eq_false_iff_ne.mpr c41
     have c41b1 := bne_iff_ne.mpr c41
     replace H := iE H; rcases H with ⟨c49, H⟩ | ⟨c49, H⟩
     rotate_left
     ·
      have c49b0 := beq_eq_false_iff_ne.mpr c49
      have c49b1 := bne_iff_ne.mpr c49
      simp only [Option.some.injEq, Prod.mk.injEq] at H
      obtain ⟨rfl, rfl, rfl⟩ := H
      go_wp2
      go_ret
      exact ⟨_, eE, sR HO_3.out, IsS127.s HI0.out, sWg HB.out (IsS127.ge HI0.out), sK HK.out⟩
     have c49b0 := beq_iff_eq.mpr c49
     have c49b1 := bne_eq_false_iff_eq.mpr c49
     clear c49
     obtain ⟨y378, hy378⟩ : ∃ y_ : List Int, y_ = (([(-1), 0, 1000, 1001] : List Int)) := ⟨_, rfl⟩
     replace H : ((spec_l00Src_among.f s0_0 t362 t363 y378).bind fun bt381 => (some ((x3_3.set (t358 : Int).toNat (⟨(rd_T61 x3_3 t358).f0, (rd_T61 x3_3 t358).f1, bt381.1⟩ : S61)), bt381.2.1, bt381.2.2))) = some (r1, r2, r3) := by first | (rw [hy378]; with_reducible exact H) | (have H2_ := (Option.bind_some _ _).symm.trans H; rw [hy378]; with_reducible exact H2_) | (have H2_ := (Option.bind_some _ _).symm.trans H; with_reducible exact H2_) | with_reducible exact H | (rw [hy378]; exact H) | exact H
     have Ny378 := aS hy378
     clear hy378
     replace H := Option.bind_eq_some_iff.mp H
     obtain ⟨⟨t381, t382, t383⟩, A500, H⟩ := H
     replace H : (some ((x3_3.set (t358 : Int).toNat (⟨(rd_T61 x3_3 t358).f0, (rd_T61 x3_3 t358).f1, t381⟩ : S61)), t382, t383)) = some (r1, r2, r3) := H
     have A50 := aS A500
     clear A500
     obtain ⟨y384, hy384⟩ : ∃ y_ : List (S61), y_ = (x3_3.set (t358 : Int).toNat (⟨(rd_T61 x3_3 t358).f0, (rd_T61 x3_3 t358).f1, t381⟩ : S61)) := ⟨_, rfl⟩
     replace H : (some (y384, t382, t383)) = some (r1, r2, r3) := by first | (rw [hy384]; with_reducible exact H) | (have H2_ := (Option.bind_some _ _).symm.trans H; rw [hy384]; with_reducible exact H2_) | (have H2_ := (Option.bind_some _ _).symm.trans H; with_reducible exact H2_) | with_reducible exact H | (rw [hy384]; exact H) | exact H
     have Ny384 := aS hy384
     clear hy384
     simp only [Option.some.injEq, Prod.mk.injEq] at H
     obtain ⟨rfl, rfl, rfl⟩ := H
     go_wp2_with (first | ((with_reducible refine gate_dst (N := 62) rfl ?_); refine Kd.R_lit (Kd.int .i64) _ 2 ?hg (N := 62) ?hd (xs := ([(-1), 0, 1000, 1001] : List Int)) (inner := [.int .i64 (-1), .int .i64 0, .int .i64 1000, .int .i64 1001]) (ok := fun _ => True) (okp := fun _ => True) ?hr ?hp (fun _ hk => hk) trivial (Below.refl _ _) (Nat.le_refl _) (by simp) ?_; (case hd => rfl); (case hg => rfl); (case hr => first | (go_simp; done) | (go_simp; rfl)); (case hp => exact (Reps.one (show Kd.M (Kd.int .i64) _ _ _ (-1) [.int .i64 (-1)] from rfl) (Reps.one (show Kd.M (Kd.int .i64) _ _ _ 0 [.int .i64 0] from rfl) (Reps.one (show Kd.M (Kd.int .i64) _ _ _ 1000 [.int .i64 1000] from rfl) (Reps.one (show Kd.M (Kd.int .i64) _ _ _ 1001 [.int .i64 1001] from rfl) (Reps.none _ _)))))); intro v379 w51 ho52 hb hg_ hnew_; clear hg_ hnew_; (first | rw [← Ny378.out] at ho52 | (simp only [Int.reduceToNat] at ho52; rw [← Ny378.out] at ho52)); replace HO_3 := aS (Kd.R_below (sR HO_3.out) hb); have HO380 := aS (Kd.R_lower ho52 (keep_size (w := w) (g := g) (row := none) (sK HK.out))); replace HK := aS (KeepBut.trans (sK HK.out) (KeepBut.of_below hb g none) (.inl rfl)); replace HB := aS (below_step (sWg HB.out (IsS127.ge HI0.out)) hb); replace HI0 := aS (IsS127.below (IsS127.s HI0.out) hb); clear hb ho52; obtain ⟨Ao53, co53, eo53⟩ := Kd.R_slice HO380.out; subst eo53) | ((with_reducible refine gate_callee (f := 96) rfl ?_); refine goesL_ (some 63) rfl rfl Try.func96 (by kernel_rfl) rfl #[.pointer (some ⟨g, 0, none⟩), .slice Ao53 y378.length co53] rfl sG ?_; (with_reducible refine (spec_l00Src_among.calls g s0_0 t362 t363 _ _ y378 t381 t382 t383 w0 _ ?side1 ?side2 ?side3 ?side4 ?side5 A50.out).mono ?_); (case side1 => exact IsS127.s HI0.out); (case side2 => exact sWg HB.out (IsS127.ge HI0.out)); (case side3 => exact sC (Kd.R_reads' HO380.out).2.2); (case side4 => exact (Kd.R_reads' HO380.out).2.1); (case side5 => exact far_slice (IsS127.own_ne HI0.out HO380.out (by decide))); rintro e w54 ⟨rfl, hi, hb, hk⟩; refine ⟨_, rfl, ?_⟩; replace HO_3 := aS (Kd.R_mono (Kd.R_keep (IsS127.apart (show IsS127 w0 _ g s0_0 t362 t363 from IsS127.s HI0.out) (sR HO_3.out) (by decide)) hk (fun _ h => h.2)) (fun _ h => h.1)); replace HO380 := aS (Kd.R_mono (Kd.R_keep (IsS127.apart (show IsS127 w0 _ g s0_0 t362 t363 from IsS127.s HI0.out) (sR HO380.out) (by decide)) hk (fun _ h => h.2)) (fun _ h => h.1)); replace HK := aS (kT (sK HK.out) hk); replace HB := aS (hb); replace HI0 := aS (hi); (try clear hb); (try clear hb2); (try clear hk); (try clear hi); have HX55 := aS (show Kd.R k61 61 w54 w.heap.size (fun _ => True) (.slice (some ⟨go27, 0, none⟩) x3_3.length co30) x3_3 from (sR HO_3.out)); obtain ⟨ce55, hcl55, hM55, hcc55, hfr55⟩ := Kd.R_elem HX55.out z61 (t358 : Int) (sD) (by have h_ : (t358 : Int) < ((x3_3.length : Int) : Int) := sD; first | exact h_ | (have e_ := (Kd.R_reads' HO_3.out).1; omega) | simpa using h_); obtain rfl := k61_openM hM55; have HP55 := Kd.R_seg HX55.out (t358 : Int) (sD) (by have h_ : (t358 : Int) < ((x3_3.length : Int) : Int) := sD; first | exact h_ | (have e_ := (Kd.R_reads' HO_3.out).1; omega) | simpa using h_) (seg := [.int .i64 t381]) (j := 2) hcl55 hcc55 (show 3 ≤ 3 from by decide) (x' := (⟨(rd_T61 x3_3 t358).f0, (rd_T61 x3_3 t358).f1, t381⟩ : S61)) (k61_mkM _ _ _ (⟨(rd_T61 x3_3 t358).f0, (rd_T61 x3_3 t358).f1, t381⟩ : S61) ) (fun _ hk => hk); have hx55_2 := hcc55 2 _ rfl; (try simp only [show (k61).sz = 3 from rfl, Nat.mul_one, Nat.add_zero] at hx55_2); have hf55_2 := hfr55 2; (try simp only [show (k61).sz = 3 from rfl, Nat.mul_one, Nat.add_zero] at hf55_2); clear hcl55 hcc55 hfr55 hM55) | ((with_reducible refine gate_store (t := 2) (p := 65) rfl ?_); refine store_event (t := 2) (p := 65) (v := ?vo_w56) (w1 := (w54.setCell ⟨go27, (t358 : Int).toNat * 3 + 2, none⟩ (.int .i64 t381))) ?hg ?ho ?hn ?hr ?_; (case ho => rfl); (case hg => rfl); (case hn => rfl); (case hr => first | (go_simp; done) | (go_simp; rfl)); intro w56 hw; have hg : w54.grownBy w56 (some go27) := (by rw [hw]; exact HP55.2); have hp_ : Kd.R k61 61 w56 w.heap.size (fun _ => True) (.slice (some ⟨go27, 0, none⟩) x3_3.length co30) y384 := (by rw [hw, Ny384.out]; exact HP55.1); clear HP55; replace HI0 := aS (IsS127.grown (IsS127.s HI0.out) hg (IsS127.own_ne HI0.out HO_3.out (by decide))); replace HO380 := aS (Kd.R_over' (v := (.slice (some ⟨go27, 0, none⟩) x3_3.length co30)) (sR HO380.out) (Kd.R_typed HO_3.out) (by decide) hg); replace HB := aS ((by rw [hw]; exact below_set (HB.out) (Nat.le_trans HL.out GB27.out) : Below w0.heap.size w0 w56)); replace HK := aS (KeepBut.trans (sK HK.out) (KeepBut.of_grown hg g) (Kd.R_base2 HO_3.out)); replace HO_3 := aS (hp_); clear hg hw hp_))
     go_ret
     exact ⟨_, eE, sR HO_3.out, IsS127.s HI0.out, sWg HB.out (IsS127.ge HI0.out), sK HK.out⟩
    ·
     exact absurd H (by simp)

/-! ### spec_l03DrawPiece: function 65 -/
def spec_l03DrawPiece.f (s0_0 : List Int) (s0_1 : Int) (s0_2 : Int) : Option (Int × Int × Int × Int) := (spec_l00Src_pick.f s0_0 s0_1 s0_2 12).bind fun bt386 => ((spec_l00Src_pick.f s0_0 bt386.2.1 bt386.2.2 60).bind fun bt390 => (some (wrap64 (500 * (wrap64 (1 + bt386.1))), wrap64 (50 + (wrap64 (10 * bt390.1))), bt390.2.1, bt390.2.2)))
set_option maxHeartbeats 8000000 in
set_option maxRecDepth 100000 in
theorem spec_l03DrawPiece.calls (g : Nat) (s0_0 : List Int) (s0_1 : Int) (s0_2 : Int) (r1 : Int) (r2 : Int) (r3 : Int) (r4 : Int) (w0 w : World) (hI : IsS127 w0 w g s0_0 s0_1 s0_2) (hB : Below w0.heap.size w0 w) (h : spec_l03DrawPiece.f s0_0 s0_1 s0_2 = some (r1, r2, r3, r4)) :
  Calls Try.prog 65 #[.pointer (some ⟨g, 0, none⟩)] w fun e w' => e = .returned (.agg #[.int .i64 r1, .int .i64 r2]) ∧ IsS127 w0 w' g s0_0 r3 r4 ∧ Below w0.heap.size w0 w' ∧ KeepBut w w' g none := by
 have hu45 := Try.underlying45
 have HI0 := aS hI
 have HK := aS (KeepBut.refl w g none)
 have HL := aS hB.size
 clear hI
 have HW0 := aS hB.size
 have HB := aS hB
 clear hB
 have H := h
 clear h
 unfold spec_l03DrawPiece.f at H
 replace H := Option.bind_eq_some_iff.mp H
 obtain ⟨⟨t386, t387, t388⟩, A20, H⟩ := H
 replace H : ((spec_l00Src_pick.f s0_0 t387 t388 60).bind fun bt390 => (some (wrap64 (500 * (wrap64 (1 + t386))), wrap64 (50 + (wrap64 (10 * bt390.1))), bt390.2.1, bt390.2.2))) = some (r1, r2, r3, r4) := H
 have A2 := aS A20
 clear A20
 replace H := Option.bind_eq_some_iff.mp H
 obtain ⟨⟨t390, t391, t392⟩, A30, H⟩ := H
 replace H : (some (wrap64 (500 * (wrap64 (1 + t386))), wrap64 (50 + (wrap64 (10 * t390))), t391, t392)) = some (r1, r2, r3, r4) := H
 have A3 := aS A30
 clear A30
 simp only [Option.some.injEq, Prod.mk.injEq] at H
 obtain ⟨rfl, rfl, rfl, rfl⟩ := H
 go_enter Try.func65, Try.ntmps65
 go_wp2_with (first | ((with_reducible refine gate_dst (N := 2) rfl ?_); refine bx 2 #[.int .i64 0, .int .i64 0] 45 ?_; intro gb385 hg w4 hbox hb; replace HB := aS (below_step (sWg HB.out (IsS127.ge HI0.out)) hb); have BK385 := aS (hbox); have GW385 := aS ((by rw [hg]; exact (keep_size (w := w) (g := g) (row := none) (sK HK.out)) : w.heap.size ≤ gb385)); have GE385 := aS ((Nat.le_trans HW0.out (by rw [hg]; exact (keep_size (w := w) (g := g) (row := none) (sK HK.out)) : w.heap.size ≤ gb385) : w0.heap.size ≤ gb385)); replace HK := aS (KeepBut.trans (sK HK.out) (KeepBut.of_below hb g none) (.inl rfl)); have NB0_385 := aS ((by rw [hg]; exact Nat.ne_of_lt (IsS127.lt (show IsS127 w0 _ g s0_0 s0_1 s0_2 from IsS127.s HI0.out)) : g ≠ gb385)); have NB385_0 := aS ((by rw [hg]; exact Nat.ne_of_gt (IsS127.lt (show IsS127 w0 _ g s0_0 s0_1 s0_2 from IsS127.s HI0.out)) : gb385 ≠ g)); replace HI0 := aS (IsS127.below (IsS127.s HI0.out) hb); clear hb hbox hg) | ((with_reducible refine gate_callee (f := 70) rfl ?_); refine goesL_ (some 5) rfl rfl Try.func70 (by kernel_rfl) rfl #[.pointer (some ⟨g, 0, none⟩), .int .i64 12] rfl sG ?_; (with_reducible refine (spec_l00Src_pick.calls g s0_0 s0_1 s0_2 12 t386 t387 t388 w0 _ ?side1 ?side2 A2.out).mono ?_); (case side1 => exact IsS127.s HI0.out); (case side2 => exact sWg HB.out (IsS127.ge HI0.out)); rintro e w5 ⟨rfl, hi, hb, hk⟩; refine ⟨_, rfl, ?_⟩; replace BK385 := aS (kB hk (sB BK385.out) NB385_0.out); replace HK := aS (kT (sK2 HK.out) hk); replace HB := aS (hb); replace HI0 := aS (hi)) | ((with_reducible refine gate_dst (N := 3) rfl ?_); refine bx 3 #[.int .i64 0, .int .i64 0] 45 ?_; intro gb389 hg w6 hbox hb; replace HB := aS (below_step (sWg HB.out (IsS127.ge HI0.out)) hb); have BK389 := aS (hbox); have GW389 := aS ((by rw [hg]; exact (keep_size (w := w) (g := g) (row := none) (sK2 HK.out)) : w.heap.size ≤ gb389)); have GE389 := aS ((Nat.le_trans HW0.out (by rw [hg]; exact (keep_size (w := w) (g := g) (row := none) (sK2 HK.out)) : w.heap.size ≤ gb389) : w0.heap.size ≤ gb389)); replace HK := aS (KeepBut.trans (sK2 HK.out) (KeepBut.of_below hb g none) (.inl rfl)); have NB385_389 := aS (nL hg (sB BK385.out)); have NB389_385 := aS (nG hg (sB BK385.out)); replace BK385 := aS (blk_below (sB BK385.out) hb); have NB0_389 := aS ((by rw [hg]; exact Nat.ne_of_lt (IsS127.lt (show IsS127 w0 _ g s0_0 t387 t388 from IsS127.s HI0.out)) : g ≠ gb389)); have NB389_0 := aS ((by rw [hg]; exact Nat.ne_of_gt (IsS127.lt (show IsS127 w0 _ g s0_0 t387 t388 from IsS127.s HI0.out)) : gb389 ≠ g)); replace HI0 := aS (IsS127.below (IsS127.s HI0.out) hb); clear hb hbox hg; have hnb7 := NB389_385.out; have hnc7 := NB385_389.out; have hnb8 := NB389_0.out; have hnc8 := NB0_389.out; obtain ⟨hcz9_0, hcz9_1, hfz9_0, hfz9_1⟩ := z2 BK389.out) | ((with_reducible refine gate_callee (f := 70) rfl ?_); refine goesL_ (some 10) rfl rfl Try.func70 (by kernel_rfl) rfl #[.pointer (some ⟨g, 0, none⟩), .int .i64 60] rfl sG ?_; (with_reducible refine (spec_l00Src_pick.calls g s0_0 t387 t388 60 t390 t391 t392 w0 _ ?side1 ?side2 A3.out).mono ?_); (case side1 => exact IsS127.s HI0.out); (case side2 => exact sWg HB.out (IsS127.ge HI0.out)); rintro e w10 ⟨rfl, hi, hb, hk⟩; refine ⟨_, rfl, ?_⟩; replace BK385 := aS (kB hk (sF BK385.out NB385_389.out) NB385_0.out); replace BK389 := aS (kB hk (sB (put2 BK389.out)) NB389_0.out); replace HK := aS (kT (sK2 HK.out) hk); replace HB := aS (hb); replace HI0 := aS (hi); (try clear hb); (try clear hb2); (try clear hk); (try clear hi); obtain ⟨hcz11_0, hcz11_1, hfz11_0, hfz11_1⟩ := z2 BK389.out; have hnb12 := NB385_0.out; have hnc12 := NB0_385.out; obtain ⟨hcz13_0, hcz13_1, hfz13_0, hfz13_1⟩ := z2 BK385.out))
 refine bodyPost_ret (results_cell_row rfl _ _ gb385 45 #[.int .i64 (wrap64 (500 * (wrap64 (1 + t386)))), .int .i64 (wrap64 (50 + (wrap64 (10 * t390))))] (0, 0) _ rfl (by exact sZ BK385.out) Try.underlying45 rfl (by kernel_rfl)) rfl ?_
 exact ⟨eE, IsS127.s HI0.out, sWg HB.out (IsS127.ge HI0.out), sK2 HK.out⟩

/-! ### spec_l03SpoilPiece: function 67 -/
def spec_l03SpoilPiece.f (s0_0 : List Int) (s0_1 : Int) (s0_2 : Int) (a0 a1 : Int) : Option (Int × Int × Int × Int) := (spec_l00Src_one.f s0_0 s0_1 s0_2 2).bind fun b1 => (if b1.1 = true then ((spec_l00Src_among.f s0_0 b1.2.1 b1.2.2 (([(-1), 0, 1, 1000000, 1000001, (-9223372036854775808)] : List Int))).bind fun b2 => (some (b2.1, a1, b2.2.1, b2.2.2))) else ((spec_l00Src_among.f s0_0 b1.2.1 b1.2.2 (([(-1), 0, 1, 100000, 100001] : List Int))).bind fun b2 => (some (a0, b2.1, b2.2.1, b2.2.2))))
set_option maxHeartbeats 8000000 in
set_option maxRecDepth 100000 in
theorem spec_l03SpoilPiece.calls (g : Nat) (s0_0 : List Int) (s0_1 : Int) (s0_2 : Int) (a0 a1 : Int) (u0 u1 r2 r3 : Int) (w0 w : World) (hI : IsS127 w0 w g s0_0 s0_1 s0_2) (hB : Below w0.heap.size w0 w) {b o : Nat} (hp : PieceAt w g b o a0 a1) (h : spec_l03SpoilPiece.f s0_0 s0_1 s0_2 a0 a1 = some (u0, u1, r2, r3)) :
  Calls Try.prog 67 #[.pointer (some ⟨g, 0, none⟩), .pointer (some ⟨b, o, none⟩)] w fun e w' => e = .returned (.tuple #[]) ∧ ∃ w1, IsS127 w0 w1 g s0_0 r2 r3 ∧ Below w0.heap.size w0 w1 ∧ KeepBut w w1 g none ∧ w' = (w1.setCell ⟨b, o, none⟩ (.int .i64 u0)).setCell ⟨b, o + 1, none⟩ (.int .i64 u1) := by
 have HI0 := aS hI
 have HK := aS (KeepBut.refl w g none)
 have HL := aS hB.size
 clear hI
 have HW0 := aS hB.size
 have HB := aS hB
 clear hB
 have HP := aS hp
 clear hp
 have H := h
 clear h
 unfold spec_l03SpoilPiece.f at H
 replace H := Option.bind_eq_some_iff.mp H
 obtain ⟨⟨t394, t395, t396⟩, A20, H⟩ := H
 dsimp only at H
 have A2 := aS A20
 clear A20
 replace H := iE H; rcases H with ⟨c3, H⟩ | ⟨c3, H⟩
 ·
  subst c3
  obtain ⟨y397, hy397⟩ : ∃ y_ : List Int, y_ = ([(-1), 0, 1, 1000000, 1000001, (-9223372036854775808)] : List Int) := ⟨_, rfl⟩
  rw [← hy397] at H
  have Ny397 := aS hy397
  clear hy397
  replace H := Option.bind_eq_some_iff.mp H
  obtain ⟨⟨t400, t401, t402⟩, A40, H⟩ := H
  dsimp only at H
  have A4 := aS A40
  clear A40
  simp only [Option.some.injEq, Prod.mk.injEq] at H
  obtain ⟨rfl, rfl, rfl, rfl⟩ := H
  go_enter Try.func67, Try.ntmps67
  go_wp2_with (first | ((with_reducible refine gate_callee (f := 66) rfl ?_); refine goesL_ (some 5) rfl rfl Try.func66 (by kernel_rfl) rfl #[.pointer (some ⟨g, 0, none⟩), .int .i64 2] rfl sG ?_; (with_reducible refine (spec_l00Src_one.calls g s0_0 s0_1 s0_2 2 true t395 t396 w0 _ ?side1 ?side2 A2.out).mono ?_); (case side1 => exact IsS127.s HI0.out); (case side2 => exact sWg HB.out (IsS127.ge HI0.out)); rintro e w5 ⟨rfl, hi, hb, hk⟩; refine ⟨_, rfl, ?_⟩; replace HK := aS (kT (sK HK.out) hk); replace HB := aS (hb); replace HI0 := aS (hi)) | ((with_reducible refine gate_dst (N := 8) rfl ?_); refine Kd.R_lit (Kd.int .i64) _ 2 ?hg (N := 8) ?hd (xs := ([(-1), 0, 1, 1000000, 1000001, (-9223372036854775808)] : List Int)) (inner := [.int .i64 (-1), .int .i64 0, .int .i64 1, .int .i64 1000000, .int .i64 1000001, .int .i64 (-9223372036854775808)]) (ok := fun _ => True) (okp := fun _ => True) ?hr ?hp (fun _ hk => hk) trivial (Below.refl _ _) (Nat.le_refl _) (by simp) ?_; (case hd => rfl); (case hg => rfl); (case hr => first | (go_simp; done) | (go_simp; rfl)); (case hp => exact (Reps.one (show Kd.M (Kd.int .i64) _ _ _ (-1) [.int .i64 (-1)] from rfl) (Reps.one (show Kd.M (Kd.int .i64) _ _ _ 0 [.int .i64 0] from rfl) (Reps.one (show Kd.M (Kd.int .i64) _ _ _ 1 [.int .i64 1] from rfl) (Reps.one (show Kd.M (Kd.int .i64) _ _ _ 1000000 [.int .i64 1000000] from rfl) (Reps.one (show Kd.M (Kd.int .i64) _ _ _ 1000001 [.int .i64 1000001] from rfl) (Reps.one (show Kd.M (Kd.int .i64) _ _ _ (-9223372036854775808) [.int .i64 (-9223372036854775808)] from rfl) (Reps.none _ _)))))))); intro v398 w6 ho7 hb hg_ hnew_; clear hg_ hnew_; rw [← Ny397.out] at ho7; have HO399 := aS (Kd.R_lower ho7 (keep_size (w := w) (g := g) (row := none) (sK HK.out))); replace HK := aS (KeepBut.trans (sK HK.out) (KeepBut.of_below hb g none) (.inl rfl)); replace HB := aS (below_step (sWg HB.out (IsS127.ge HI0.out)) hb); replace HI0 := aS (IsS127.below (IsS127.s HI0.out) hb); clear hb ho7; obtain ⟨Ao8, co8, eo8⟩ := Kd.R_slice HO399.out; subst eo8) | ((with_reducible refine gate_callee (f := 96) rfl ?_); refine goesL_ (some 9) rfl rfl Try.func96 (by kernel_rfl) rfl #[.pointer (some ⟨g, 0, none⟩), .slice Ao8 y397.length co8] rfl sG ?_; (with_reducible refine (spec_l00Src_among.calls g s0_0 t395 t396 _ _ y397 t400 t401 t402 w0 _ ?side1 ?side2 ?side3 ?side4 ?side5 A4.out).mono ?_); (case side1 => exact IsS127.s HI0.out); (case side2 => exact sWg HB.out (IsS127.ge HI0.out)); (case side3 => exact sC (Kd.R_reads' HO399.out).2.2); (case side4 => exact (Kd.R_reads' HO399.out).2.1); (case side5 => exact far_slice (IsS127.own_ne HI0.out HO399.out (by decide))); rintro e w9 ⟨rfl, hi, hb, hk⟩; refine ⟨_, rfl, ?_⟩; clear HO399; replace HK := aS (kT (sK HK.out) hk); replace HB := aS (hb); replace HI0 := aS (hi); (try clear hb); (try clear hk); (try clear hi); obtain ⟨hn9, hx9, hy9, hz9, hv9⟩ := HP.out.keep HK.out))
  first | go_end0 | ((try simp only [Exit.inBlock, Exit.then]); refine bodyPost_ret (results_none rfl _ _ _) rfl ?_)
  exact ⟨rfl, w9, HI0.out, HB.out, HK.out, (setCell_own (cell_next hy9)).symm⟩
 ·
  replace c3 := Bool.eq_false_iff.mpr c3
  subst c3
  obtain ⟨y397, hy397⟩ : ∃ y_ : List Int, y_ = ([(-1), 0, 1, 100000, 100001] : List Int) := ⟨_, rfl⟩
  rw [← hy397] at H
  have Ny397 := aS hy397
  clear hy397
  replace H := Option.bind_eq_some_iff.mp H
  obtain ⟨⟨t400, t401, t402⟩, A40, H⟩ := H
  dsimp only at H
  have A4 := aS A40
  clear A40
  simp only [Option.some.injEq, Prod.mk.injEq] at H
  obtain ⟨rfl, rfl, rfl, rfl⟩ := H
  go_enter Try.func67, Try.ntmps67
  go_wp2_with (first | ((with_reducible refine gate_callee (f := 66) rfl ?_); refine goesL_ (some 5) rfl rfl Try.func66 (by kernel_rfl) rfl #[.pointer (some ⟨g, 0, none⟩), .int .i64 2] rfl sG ?_; (with_reducible refine (spec_l00Src_one.calls g s0_0 s0_1 s0_2 2 false t395 t396 w0 _ ?side1 ?side2 A2.out).mono ?_); (case side1 => exact IsS127.s HI0.out); (case side2 => exact sWg HB.out (IsS127.ge HI0.out)); rintro e w5 ⟨rfl, hi, hb, hk⟩; refine ⟨_, rfl, ?_⟩; replace HK := aS (kT (sK HK.out) hk); replace HB := aS (hb); replace HI0 := aS (hi)) | ((with_reducible refine gate_dst (N := 14) rfl ?_); refine Kd.R_lit (Kd.int .i64) _ 2 ?hg (N := 14) ?hd (xs := ([(-1), 0, 1, 100000, 100001] : List Int)) (inner := [.int .i64 (-1), .int .i64 0, .int .i64 1, .int .i64 100000, .int .i64 100001]) (ok := fun _ => True) (okp := fun _ => True) ?hr ?hp (fun _ hk => hk) trivial (Below.refl _ _) (Nat.le_refl _) (by simp) ?_; (case hd => rfl); (case hg => rfl); (case hr => first | (go_simp; done) | (go_simp; rfl)); (case hp => exact (Reps.one (show Kd.M (Kd.int .i64) _ _ _ (-1) [.int .i64 (-1)] from rfl) (Reps.one (show Kd.M (Kd.int .i64) _ _ _ 0 [.int .i64 0] from rfl) (Reps.one (show Kd.M (Kd.int .i64) _ _ _ 1 [.int .i64 1] from rfl) (Reps.one (show Kd.M (Kd.int .i64) _ _ _ 100000 [.int .i64 100000] from rfl) (Reps.one (show Kd.M (Kd.int .i64) _ _ _ 100001 [.int .i64 100001] from rfl) (Reps.none _ _))))))); intro v398 w6 ho7 hb hg_ hnew_; clear hg_ hnew_; rw [← Ny397.out] at ho7; have HO399 := aS (Kd.R_lower ho7 (keep_size (w := w) (g := g) (row := none) (sK HK.out))); replace HK := aS (KeepBut.trans (sK HK.out) (KeepBut.of_below hb g none) (.inl rfl)); replace HB := aS (below_step (sWg HB.out (IsS127.ge HI0.out)) hb); replace HI0 := aS (IsS127.below (IsS127.s HI0.out) hb); clear hb ho7; obtain ⟨Ao8, co8, eo8⟩ := Kd.R_slice HO399.out; subst eo8) | ((with_reducible refine gate_callee (f := 96) rfl ?_); refine goesL_ (some 15) rfl rfl Try.func96 (by kernel_rfl) rfl #[.pointer (some ⟨g, 0, none⟩), .slice Ao8 y397.length co8] rfl sG ?_; (with_reducible refine (spec_l00Src_among.calls g s0_0 t395 t396 _ _ y397 t400 t401 t402 w0 _ ?side1 ?side2 ?side3 ?side4 ?side5 A4.out).mono ?_); (case side1 => exact IsS127.s HI0.out); (case side2 => exact sWg HB.out (IsS127.ge HI0.out)); (case side3 => exact sC (Kd.R_reads' HO399.out).2.2); (case side4 => exact (Kd.R_reads' HO399.out).2.1); (case side5 => exact far_slice (IsS127.own_ne HI0.out HO399.out (by decide))); rintro e w9 ⟨rfl, hi, hb, hk⟩; refine ⟨_, rfl, ?_⟩; clear HO399; replace HK := aS (kT (sK HK.out) hk); replace HB := aS (hb); replace HI0 := aS (hi); (try clear hb); (try clear hk); (try clear hi); obtain ⟨hn9, hx9, hy9, hz9, hv9⟩ := HP.out.keep HK.out))
  first | go_end0 | ((try simp only [Exit.inBlock, Exit.then]); refine bodyPost_ret (results_none rfl _ _ _) rfl ?_)
  exact ⟨rfl, w9, HI0.out, HB.out, HK.out, by rw [setCell_own hx9]⟩

/-! ### spec_l03DrawNeed: function 68 -/
def spec_l03DrawNeed.f (s0_0 : List Int) (s0_1 : Int) (s0_2 : Int) : Option (Int × Int × Int) := (spec_l00Src_one.f s0_0 s0_1 s0_2 10).bind fun bt394 => (if bt394.1 = true then ((spec_l00Src_among.f s0_0 bt394.2.1 bt394.2.2 (([(-1), 0, 1000000, 1000001] : List Int))).bind fun bt400 => (some (bt400.1, bt400.2.1, bt400.2.2))) else ((spec_l00Src_pick.f s0_0 bt394.2.1 bt394.2.2 20).bind fun bt403 => (some (wrap64 (250 * bt403.1), bt403.2.1, bt403.2.2))))
set_option maxHeartbeats 8000000 in
set_option maxRecDepth 100000 in
theorem spec_l03DrawNeed.calls (g : Nat) (s0_0 : List Int) (s0_1 : Int) (s0_2 : Int) (r1 : Int) (r2 : Int) (r3 : Int) (w0 w : World) (hI : IsS127 w0 w g s0_0 s0_1 s0_2) (hB : Below w0.heap.size w0 w) (h : spec_l03DrawNeed.f s0_0 s0_1 s0_2 = some (r1, r2, r3)) :
  Calls Try.prog 68 #[.pointer (some ⟨g, 0, none⟩)] w fun e w' => e = .returned (.int .i64 r1) ∧ IsS127 w0 w' g s0_0 r2 r3 ∧ Below w0.heap.size w0 w' ∧ KeepBut w w' g none := by
 have HI0 := aS hI
 have HK := aS (KeepBut.refl w g none)
 have HL := aS hB.size
 clear hI
 have HW0 := aS hB.size
 have HB := aS hB
 clear hB
 have H := h
 clear h
 unfold spec_l03DrawNeed.f at H
 replace H := Option.bind_eq_some_iff.mp H
 obtain ⟨⟨t394, t395, t396⟩, A20, H⟩ := H
 replace H : (if t394 = true then ((spec_l00Src_among.f s0_0 t395 t396 (([(-1), 0, 1000000, 1000001] : List Int))).bind fun bt400 => (some (bt400.1, bt400.2.1, bt400.2.2))) else ((spec_l00Src_pick.f s0_0 t395 t396 20).bind fun bt403 => (some (wrap64 (250 * bt403.1), bt403.2.1, bt403.2.2)))) = some (r1, r2, r3) := H
 have A2 := aS A20
 clear A20
 have HC3 := aS H
 clear H
 go_enter Try.func68, Try.ntmps68
 go_upto_if 4 with (first | ((with_reducible refine gate_callee (f := 66) rfl ?_); refine goesL_ (some 4) rfl rfl Try.func66 (by kernel_rfl) rfl #[.pointer (some ⟨g, 0, none⟩), .int .i64 10] rfl sG ?_; (with_reducible refine (spec_l00Src_one.calls g s0_0 s0_1 s0_2 10 t394 t395 t396 w0 _ ?side1 ?side2 A2.out).mono ?_); (case side1 => exact IsS127.s HI0.out); (case side2 => exact sWg HB.out (IsS127.ge HI0.out)); rintro e w4 ⟨rfl, hi, hb, hk⟩; refine ⟨_, rfl, ?_⟩; replace HK := aS (kT (sK HK.out) hk); replace HB := aS (hb); replace HI0 := aS (hi)))
 (try simp only [Act.put, List.setIfInBounds_toArray, List.set_cons_zero, List.set_cons_succ])
 have H := HC3.out
 clear HC3
 by_cases c5 : t394 = true
 ·
  subst c5
  have H1 : ((spec_l00Src_among.f s0_0 t395 t396 (([(-1), 0, 1000000, 1000001] : List Int))).bind fun bt400 => (some (bt400.1, bt400.2.1, bt400.2.2))) = some (r1, r2, r3) := by rw [if_pos rfl] at H; exact H
  clear H
  have H := H1
  clear H1
  obtain ⟨y397, hy397⟩ : ∃ y_ : List Int, y_ = (([(-1), 0, 1000000, 1000001] : List Int)) := ⟨_, rfl⟩
  replace H : ((spec_l00Src_among.f s0_0 t395 t396 y397).bind fun bt400 => (some (bt400.1, bt400.2.1, bt400.2.2))) = some (r1, r2, r3) := by first | (rw [hy397]; with_reducible exact H) | (have H2_ := (Option.bind_some _ _).symm.trans H; rw [hy397]; with_reducible exact H2_) | (have H2_ := (Option.bind_some _ _).symm.trans H; with_reducible exact H2_) | with_reducible exact H | (rw [hy397]; exact H) | exact H
  have Ny397 := aS hy397
  clear hy397
  replace H := Option.bind_eq_some_iff.mp H
  obtain ⟨⟨t400, t401, t402⟩, A60, H⟩ := H
  replace H : (some (t400, t401, t402)) = some (r1, r2, r3) := H
  have A6 := aS A60
  clear A60
  simp only [Option.some.injEq, Prod.mk.injEq] at H
  obtain ⟨rfl, rfl, rfl⟩ := H
  go_wp2_with (first | ((with_reducible refine gate_dst (N := 6) rfl ?_); refine Kd.R_lit (Kd.int .i64) _ 2 ?hg (N := 6) ?hd (xs := ([(-1), 0, 1000000, 1000001] : List Int)) (inner := [.int .i64 (-1), .int .i64 0, .int .i64 1000000, .int .i64 1000001]) (ok := fun _ => True) (okp := fun _ => True) ?hr ?hp (fun _ hk => hk) trivial (Below.refl _ _) (Nat.le_refl _) (by simp) ?_; (case hd => rfl); (case hg => rfl); (case hr => first | (go_simp; done) | (go_simp; rfl)); (case hp => exact (Reps.one (show Kd.M (Kd.int .i64) _ _ _ (-1) [.int .i64 (-1)] from rfl) (Reps.one (show Kd.M (Kd.int .i64) _ _ _ 0 [.int .i64 0] from rfl) (Reps.one (show Kd.M (Kd.int .i64) _ _ _ 1000000 [.int .i64 1000000] from rfl) (Reps.one (show Kd.M (Kd.int .i64) _ _ _ 1000001 [.int .i64 1000001] from rfl) (Reps.none _ _)))))); intro v398 w7 ho8 hb hg_ hnew_; clear hg_ hnew_; (first | rw [← Ny397.out] at ho8 | (simp only [Int.reduceToNat] at ho8; rw [← Ny397.out] at ho8)); have HO399 := aS (Kd.R_lower ho8 (keep_size (w := w) (g := g) (row := none) (sK HK.out))); replace HK := aS (KeepBut.trans (sK HK.out) (KeepBut.of_below hb g none) (.inl rfl)); replace HB := aS (below_step (sWg HB.out (IsS127.ge HI0.out)) hb); replace HI0 := aS (IsS127.below (IsS127.s HI0.out) hb); clear hb ho8; obtain ⟨Ao9, co9, eo9⟩ := Kd.R_slice HO399.out; subst eo9) | ((with_reducible refine gate_callee (f := 96) rfl ?_); refine goesL_ (some 7) rfl rfl Try.func96 (by kernel_rfl) rfl #[.pointer (some ⟨g, 0, none⟩), .slice Ao9 y397.length co9] rfl sG ?_; (with_reducible refine (spec_l00Src_among.calls g s0_0 t395 t396 _ _ y397 t400 t401 t402 w0 _ ?side1 ?side2 ?side3 ?side4 ?side5 A6.out).mono ?_); (case side1 => exact IsS127.s HI0.out); (case side2 => exact sWg HB.out (IsS127.ge HI0.out)); (case side3 => exact sC (Kd.R_reads' HO399.out).2.2); (case side4 => exact (Kd.R_reads' HO399.out).2.1); (case side5 => exact far_slice (IsS127.own_ne HI0.out HO399.out (by decide))); rintro e w10 ⟨rfl, hi, hb, hk⟩; refine ⟨_, rfl, ?_⟩; replace HO399 := aS (Kd.R_mono (Kd.R_keep (IsS127.apart (show IsS127 w0 _ g s0_0 t395 t396 from IsS127.s HI0.out) (sR HO399.out) (by decide)) hk (fun _ h => h.2)) (fun _ h => h.1)); replace HK := aS (kT (sK HK.out) hk); replace HB := aS (hb); replace HI0 := aS (hi)))
  go_ret
  exact ⟨eE, IsS127.s HI0.out, sWg HB.out (IsS127.ge HI0.out), sK HK.out⟩
 ·
  replace c5 := Bool.eq_false_iff.mpr c5
  subst c5
  have H1 : ((spec_l00Src_pick.f s0_0 t395 t396 20).bind fun bt403 => (some (wrap64 (250 * bt403.1), bt403.2.1, bt403.2.2))) = some (r1, r2, r3) := by rw [if_neg (show ¬ (false = true) by decide)] at H; exact H
  clear H
  have H := H1
  clear H1
  replace H := Option.bind_eq_some_iff.mp H
  obtain ⟨⟨t403, t404, t405⟩, A110, H⟩ := H
  replace H : (some (wrap64 (250 * t403), t404, t405)) = some (r1, r2, r3) := H
  have A11 := aS A110
  clear A110
  simp only [Option.some.injEq, Prod.mk.injEq] at H
  obtain ⟨rfl, rfl, rfl⟩ := H
  go_wp2_with (first | ((with_reducible refine gate_callee (f := 70) rfl ?_); refine goesL_ (some 9) rfl rfl Try.func70 (by kernel_rfl) rfl #[.pointer (some ⟨g, 0, none⟩), .int .i64 20] rfl sG ?_; (with_reducible refine (spec_l00Src_pick.calls g s0_0 t395 t396 20 t403 t404 t405 w0 _ ?side1 ?side2 A11.out).mono ?_); (case side1 => exact IsS127.s HI0.out); (case side2 => exact sWg HB.out (IsS127.ge HI0.out)); rintro e w12 ⟨rfl, hi, hb, hk⟩; refine ⟨_, rfl, ?_⟩; replace HK := aS (kT (sK HK.out) hk); replace HB := aS (hb); replace HI0 := aS (hi)))
  go_ret
  exact ⟨eE, IsS127.s HI0.out, sWg HB.out (IsS127.ge HI0.out), sK HK.out⟩

end Go.Proofs.Ytginmioklkcgbaa.QFnBestJoins

/- What the Go functions of this law compute, each as a Lean function, and that each call comes to that answer; written by a program of this session. No condition. -/
import Derived.Test.YtginmioklkcgbaaGreatDoorVShn
import Derived.Test.YtginmioklkcgbaaGreatDoorVQFnLinesx0
import Derived.Test.YtginmioklkcgbaaGreatDoorVQFnLinesx1
import Derived.Test.YtginmioklkcgbaaGreatDoorVQFnLinesx2
namespace Go.Proofs.YtginmioklkcgbaaGreatDoor.QFnLines
open Go.RowKit Go.Proofs.YtginmioklkcgbaaGreatDoorW.PrintWords Go.Proofs.YtginmioklkcgbaaGreatDoorW.PrintLast Go.Proofs.YtginmioklkcgbaaGreatDoorW.PrintMore
attribute [local go_sem] max2_int min2_int max_two min_two max_three min_three max_four min_four   -- for this text's walks alone
set_option linter.unusedVariables false
set_option linter.unusedSimpArgs false
set_option maxHeartbeats 8000000
set_option maxRecDepth 100000
/-- A state of type 47 at block g of W; what its slices lead to came in by w0. -/
def IsS47 (w0 W : World) (g : Nat) (f0 : ByteArray) (f1 : Int) (f2 : Int) : Prop := W.heap[g]? = some (.cells #[.string f0, .int .i64 f1, .int .i64 f2] 47 (0, 0)) ∧ w0.heap.size ≤ g
theorem IsS47.grown {w0 W : World} {g : Nat} {f0 : ByteArray} {f1 : Int} {f2 : Int} {W1 : World} {row : Option Nat} (h : IsS47 w0 W g f0 f1 f2) (hw : W.grownBy W1 row) (hne : some g ≠ row) : IsS47 w0 W1 g f0 f1 f2 := by
 obtain ⟨hb, hg⟩ := h; exact ⟨blk_grown hb hw hne, hg⟩
theorem IsS47.below {w0 W : World} {g : Nat} {f0 : ByteArray} {f1 : Int} {f2 : Int} {W1 : World} (h : IsS47 w0 W g f0 f1 f2) (hw : Below W.heap.size W W1) : IsS47 w0 W1 g f0 f1 f2 := h.grown (grown_of_below hw none) (by simp)
theorem IsS47.alloc {w0 W : World} {g : Nat} {f0 : ByteArray} {f1 : Int} {f2 : Int} (h : IsS47 w0 W g f0 f1 f2) (o : Obj) : IsS47 w0 (W.alloc o) g f0 f1 f2 := h.below (below_alloc (Below.refl _ _) o)
theorem IsS47.drewN {w0 W : World} {g : Nat} {f0 : ByteArray} {f1 : Int} {f2 : Int} (h : IsS47 w0 W g f0 f1 f2) (m : Nat) : IsS47 w0 (W.drewN m) g f0 f1 f2 := h
theorem IsS47.drew {w0 W : World} {g : Nat} {f0 : ByteArray} {f1 : Int} {f2 : Int} (h : IsS47 w0 W g f0 f1 f2) : IsS47 w0 W.drew g f0 f1 f2 := h
theorem IsS47.lt {w0 W : World} {g : Nat} {f0 : ByteArray} {f1 : Int} {f2 : Int} (h : IsS47 w0 W g f0 f1 f2) : g < W.heap.size := by
 obtain ⟨hb, hg⟩ := h; exact blk_lt hb
theorem IsS47.ge {w0 W : World} {g : Nat} {f0 : ByteArray} {f1 : Int} {f2 : Int} (h : IsS47 w0 W g f0 f1 f2) : w0.heap.size ≤ g := by
 obtain ⟨hb, hg⟩ := h; exact hg
theorem IsS47.far {w0 W : World} {g : Nat} {f0 : ByteArray} {f1 : Int} {f2 : Int} {p : Addr} (h : IsS47 w0 W g f0 f1 f2) (hne : g ≠ p.block) (u : Value) : IsS47 w0 (W.setCell p u) g f0 f1 f2 := by
 obtain ⟨hb, hg⟩ := h; exact ⟨blk_far hb hne u, hg⟩
theorem cellS47_0 {W : World} {g : Nat} {f0 : ByteArray} {f1 : Int} {f2 : Int} (h : W.heap[g]? = some (.cells #[.string f0, .int .i64 f1, .int .i64 f2] 47 (0, 0))) : W.cell? ⟨g, 0, none⟩ = some (.string f0) := bq h 0
theorem IsS47.set_0 {w0 W : World} {g : Nat} {f0 : ByteArray} {f1 : Int} {f2 : Int} (h : IsS47 w0 W g f0 f1 f2) (x : ByteArray) : IsS47 w0 (W.setCell ⟨g, 0, none⟩ (.string x)) g x f1 f2 := by
 obtain ⟨hb, hg⟩ := h; exact ⟨by simpa using blk_set hb 0 (.string x), hg⟩
theorem cellS47_1 {W : World} {g : Nat} {f0 : ByteArray} {f1 : Int} {f2 : Int} (h : W.heap[g]? = some (.cells #[.string f0, .int .i64 f1, .int .i64 f2] 47 (0, 0))) : W.cell? ⟨g, 1, none⟩ = some (.int .i64 f1) := bq h 1
theorem IsS47.set_1 {w0 W : World} {g : Nat} {f0 : ByteArray} {f1 : Int} {f2 : Int} (h : IsS47 w0 W g f0 f1 f2) (x : Int) : IsS47 w0 (W.setCell ⟨g, 1, none⟩ (.int .i64 x)) g f0 x f2 := by
 obtain ⟨hb, hg⟩ := h; exact ⟨by simpa using blk_set hb 1 (.int .i64 x), hg⟩
theorem cellS47_2 {W : World} {g : Nat} {f0 : ByteArray} {f1 : Int} {f2 : Int} (h : W.heap[g]? = some (.cells #[.string f0, .int .i64 f1, .int .i64 f2] 47 (0, 0))) : W.cell? ⟨g, 2, none⟩ = some (.int .i64 f2) := bq h 2
theorem IsS47.set_2 {w0 W : World} {g : Nat} {f0 : ByteArray} {f1 : Int} {f2 : Int} (h : IsS47 w0 W g f0 f1 f2) (x : Int) : IsS47 w0 (W.setCell ⟨g, 2, none⟩ (.int .i64 x)) g f0 f1 x := by
 obtain ⟨hb, hg⟩ := h; exact ⟨by simpa using blk_set hb 2 (.int .i64 x), hg⟩
theorem IsS47.s {w0 W : World} {g : Nat} {f0 : ByteArray} {f1 : Int} {f2 : Int} {p : Prop} (h : IsS47 w0 W g f0 f1 f2) (k : IsS47 w0 W g f0 f1 f2 → p := by (intro h; repeat (first | (with_reducible first | exact h | apply IsS47.alloc | apply IsS47.drewN | apply IsS47.drew | apply IsS47.set_0 | apply IsS47.set_1 | apply IsS47.set_2) | refine IsS47.far ?_ (Aside0.out (by assumption)) _ | exact h))) : p := k h
def spec_l03One.f (k : Nat) (s0_0 : ByteArray) (s0_1 : Int) (s0_2 : Int) : Option (Bool × ByteArray × Int × Int) := (spec_IsName.f k s0_0).bind fun t425 => (if t425 = true then ((spec_l00In.f s0_1 1 1000).bind fun t426 => (if t426 = true then ((spec_l00In.f s0_2 0 1000).bind fun t427 => (some (t427, s0_0, s0_1, s0_2))) else (some (false, s0_0, s0_1, s0_2)))) else (some (false, s0_0, s0_1, s0_2)))
theorem spec_l03One.calls (k : Nat) (g : Nat) (s0_0 : ByteArray) (s0_1 : Int) (s0_2 : Int) (r1 : Bool) (r2 : ByteArray) (r3 : Int) (r4 : Int) (w0 w : World) (hI : IsS47 w0 w g s0_0 s0_1 s0_2) (hB : Below w0.heap.size w0 w) (h : spec_l03One.f k s0_0 s0_1 s0_2 = some (r1, r2, r3, r4)) :
  Calls Tryz.prog 62 #[.pointer (some ⟨g, 0, none⟩)] w fun e w' => e = .returned (.bool r1) ∧ IsS47 w0 w' g r2 r3 r4 ∧ Below w0.heap.size w0 w' ∧ KeepBut w w' g none := by
 have HI0 := aS hI; have HK := aS (KeepBut.refl w g none); have HL := aS hB.size; clear hI; have HW0 := aS hB.size; have HB := aS hB; clear hB; have H := h; clear h; unfold spec_l03One.f at H; replace H := bE H; obtain ⟨t425, A2, H⟩ := H; try dsimp only at H
 replace H := iZ H; rcases H with ⟨rfl, H⟩ | ⟨rfl, H⟩
 ·
  replace H := bE H; obtain ⟨t426, A4, H⟩ := H; try dsimp only at H
  replace H := iZ H; rcases H with ⟨rfl, H⟩ | ⟨rfl, H⟩
  ·
   replace H := bE H; obtain ⟨t427, A6, H⟩ := H; try dsimp only at H
   simp only [Option.some.injEq, Prod.mk.injEq] at H; obtain ⟨rfl, rfl, rfl, rfl⟩ := H; obtain ⟨HGz7, hgz7⟩ := HI0.out; have hcz7_0 := cellS47_0 HGz7; have hcz7_1 := cellS47_1 HGz7; have hcz7_2 := cellS47_2 HGz7; have hfz7_0 := blk_frozen HGz7 0; have hfz7_1 := blk_frozen HGz7 1; have hfz7_2 := blk_frozen HGz7 2; clear HGz7 hgz7; go_enter Tryz.func62, Tryz.ntmps62
   go_wp2_with (first | ((with_reducible refine gk 89 rfl ?_); refine gC (some 7) rfl Tryz.func89 #[.string s0_0] (spec_IsName.calls k s0_0 true _ A2.out) ?_; rintro e w' ⟨rfl, ⟨nd, rfl⟩⟩; refine ⟨_, rfl, ?_⟩) | (go_at_call 48; (with_reducible refine (spec_l00In.calls s0_1 1 1000 true _ A4.out).mono ?_); rintro e w' ⟨rfl, ⟨nd, rfl⟩⟩) | (go_at_call 48; (with_reducible refine (spec_l00In.calls s0_2 0 1000 t427 _ A6.out).mono ?_); rintro e w' ⟨rfl, ⟨nd, rfl⟩⟩))
   go_ret; exact ⟨eE, IsS47.s HI0.out, sWg HB.out (IsS47.ge HI0.out), sK HK.out⟩
  ·
   simp only [Option.some.injEq, Prod.mk.injEq] at H; obtain ⟨rfl, rfl, rfl, rfl⟩ := H; obtain ⟨HGz8, hgz8⟩ := HI0.out; have hcz8_0 := cellS47_0 HGz8; have hcz8_1 := cellS47_1 HGz8; have hcz8_2 := cellS47_2 HGz8; have hfz8_0 := blk_frozen HGz8 0; have hfz8_1 := blk_frozen HGz8 1; have hfz8_2 := blk_frozen HGz8 2; clear HGz8 hgz8; go_enter Tryz.func62, Tryz.ntmps62
   go_wp2_with (first | ((with_reducible refine gk 89 rfl ?_); refine gC (some 7) rfl Tryz.func89 #[.string s0_0] (spec_IsName.calls k s0_0 true _ A2.out) ?_; rintro e w' ⟨rfl, ⟨nd, rfl⟩⟩; refine ⟨_, rfl, ?_⟩) | (go_at_call 48; (with_reducible refine (spec_l00In.calls s0_1 1 1000 false _ A4.out).mono ?_); rintro e w' ⟨rfl, ⟨nd, rfl⟩⟩))
   go_ret; exact ⟨eE, IsS47.s HI0.out, sWg HB.out (IsS47.ge HI0.out), sK HK.out⟩
 ·
  simp only [Option.some.injEq, Prod.mk.injEq] at H; obtain ⟨rfl, rfl, rfl, rfl⟩ := H; obtain ⟨HGz9, hgz9⟩ := HI0.out; have hcz9_0 := cellS47_0 HGz9; have hcz9_1 := cellS47_1 HGz9; have hcz9_2 := cellS47_2 HGz9; have hfz9_0 := blk_frozen HGz9 0; have hfz9_1 := blk_frozen HGz9 1; have hfz9_2 := blk_frozen HGz9 2; clear HGz9 hgz9; go_enter Tryz.func62, Tryz.ntmps62
  go_wp2_with (first | ((with_reducible refine gk 89 rfl ?_); refine gC (some 7) rfl Tryz.func89 #[.string s0_0] (spec_IsName.calls k s0_0 false _ A2.out) ?_; rintro e w' ⟨rfl, ⟨nd, rfl⟩⟩; refine ⟨_, rfl, ?_⟩))
  go_ret; exact ⟨eE, IsS47.s HI0.out, sWg HB.out (IsS47.ge HI0.out), sK HK.out⟩

def spec_l03OneAt.f (k : Nat) (l0 : List (S47)) : Option (Bool) := if 0 < (l0.length : Int) then ((spec_IsName.f k ((rd_T47 l0 0).f0)).bind fun t429 => (if t429 = true then ((spec_l00In.f ((rd_T47 l0 0).f1) 1 1000).bind fun t431 => (if t431 = true then ((spec_l00In.f ((rd_T47 l0 0).f2) 0 1000).bind fun t433 => (some t433)) else (some false))) else (some false))) else (none)
theorem spec_l03OneAt.calls (k : Nat) (A0 : Option Addr) (c0 : Nat) (l0 : List (S47)) (r : Bool) (w : World) (hr0 : Kd.C k47 w A0 l0.length l0) (hc0 : l0.length ≤ c0) (h : spec_l03OneAt.f k l0 = some r) :
  Calls Tryz.prog 62 #[.pointer A0] w fun e w' => e = .returned (.bool r) ∧ Drawn0 w w' := by
 have HR0 := aS hr0; have HC0 := aS hc0; clear hr0 hc0; have H := h; clear h; unfold spec_l03OneAt.f at H; replace H := iE H; rcases H with ⟨c2, H⟩ | ⟨c2, H⟩
 ·
  have c2b0 := decide_eq_true c2; have c2b1 : decide (0 < l0.length) = true := decide_eq_true (by omega); clear c2; replace H := bE H; obtain ⟨t429, A3, H⟩ := H; try dsimp only at H
  replace H := iZ H; rcases H with ⟨rfl, H⟩ | ⟨rfl, H⟩
  ·
   replace H := bE H; obtain ⟨t431, A5, H⟩ := H; try dsimp only at H
   replace H := iZ H; rcases H with ⟨rfl, H⟩ | ⟨rfl, H⟩
   ·
    replace H := bE H; obtain ⟨t433, A7, H⟩ := H; try dsimp only at H
    obtain rfl := Option.some.inj H; have p428 : 0 ≤ (0 : Int) := (by omega); have q428 : 0 < (l0.length : Int) := sD; obtain ⟨ad428, e428, hx428_0, hx428_1, hx428_2⟩ := at_T47 HR0.out 0 p428 q428; cases e428; have qi428 : (0 < l0.length) = True := eq_true (by omega); (try rw [show ((0 : Int)).toNat = 0 from rfl] at hx428_0); (try rw [show 0 * 3 = 0 from rfl] at hx428_0); (try rw [Addr.add_zero'] at hx428_0); (try rw [show ((0 : Int)).toNat = 0 from rfl] at hx428_1); (try rw [show 0 * 3 = 0 from rfl] at hx428_1); (try rw [Addr.add_zero'] at hx428_1); (try rw [show ((0 : Int)).toNat = 0 from rfl] at hx428_2); (try rw [show 0 * 3 = 0 from rfl] at hx428_2); (try rw [Addr.add_zero'] at hx428_2); go_enter Tryz.func62, Tryz.ntmps62
    go_wp2_with (first | ((with_reducible refine gk 89 rfl ?_); refine gC (some 7) rfl Tryz.func89 #[.string ((rd_T47 l0 0).f0)] (spec_IsName.calls k ((rd_T47 l0 0).f0) true _ A3.out) ?_; rintro e w' ⟨rfl, ⟨nd, rfl⟩⟩; refine ⟨_, rfl, ?_⟩; have p430 : 0 ≤ (0 : Int) := (by omega); have q430 : 0 < (l0.length : Int) := sD; obtain ⟨ad430, e430, hx430_0, hx430_1, hx430_2⟩ := at_T47 HR0.out 0 p430 q430; obtain rfl : ad428 = ad430 := (by injection e430); have qi430 : (0 < l0.length) = True := eq_true (by omega); (try rw [show ((0 : Int)).toNat = 0 from rfl] at hx430_0); (try rw [show 0 * 3 = 0 from rfl] at hx430_0); (try rw [Addr.add_zero'] at hx430_0); (try rw [show ((0 : Int)).toNat = 0 from rfl] at hx430_1); (try rw [show 0 * 3 = 0 from rfl] at hx430_1); (try rw [Addr.add_zero'] at hx430_1); (try rw [show ((0 : Int)).toNat = 0 from rfl] at hx430_2); (try rw [show 0 * 3 = 0 from rfl] at hx430_2); (try rw [Addr.add_zero'] at hx430_2)) | (go_at_call 48; (with_reducible refine (spec_l00In.calls ((rd_T47 l0 0).f1) 1 1000 true _ A5.out).mono ?_); rintro e w' ⟨rfl, ⟨nd, rfl⟩⟩; have p432 : 0 ≤ (0 : Int) := (by omega); have q432 : 0 < (l0.length : Int) := sD; obtain ⟨ad432, e432, hx432_0, hx432_1, hx432_2⟩ := at_T47 HR0.out 0 p432 q432; obtain rfl : ad428 = ad432 := (by injection e432); have qi432 : (0 < l0.length) = True := eq_true (by omega); (try rw [show ((0 : Int)).toNat = 0 from rfl] at hx432_0); (try rw [show 0 * 3 = 0 from rfl] at hx432_0); (try rw [Addr.add_zero'] at hx432_0); (try rw [show ((0 : Int)).toNat = 0 from rfl] at hx432_1); (try rw [show 0 * 3 = 0 from rfl] at hx432_1); (try rw [Addr.add_zero'] at hx432_1); (try rw [show ((0 : Int)).toNat = 0 from rfl] at hx432_2); (try rw [show 0 * 3 = 0 from rfl] at hx432_2); (try rw [Addr.add_zero'] at hx432_2)) | (go_at_call 48; (with_reducible refine (spec_l00In.calls ((rd_T47 l0 0).f2) 0 1000 t433 _ A7.out).mono ?_); rintro e w' ⟨rfl, ⟨nd, rfl⟩⟩))
    go_ret; exact ⟨eV, eD⟩
   ·
    obtain rfl := Option.some.inj H; have p428 : 0 ≤ (0 : Int) := (by omega); have q428 : 0 < (l0.length : Int) := sD; obtain ⟨ad428, e428, hx428_0, hx428_1, hx428_2⟩ := at_T47 HR0.out 0 p428 q428; cases e428; have qi428 : (0 < l0.length) = True := eq_true (by omega); (try rw [show ((0 : Int)).toNat = 0 from rfl] at hx428_0); (try rw [show 0 * 3 = 0 from rfl] at hx428_0); (try rw [Addr.add_zero'] at hx428_0); (try rw [show ((0 : Int)).toNat = 0 from rfl] at hx428_1); (try rw [show 0 * 3 = 0 from rfl] at hx428_1); (try rw [Addr.add_zero'] at hx428_1); (try rw [show ((0 : Int)).toNat = 0 from rfl] at hx428_2); (try rw [show 0 * 3 = 0 from rfl] at hx428_2); (try rw [Addr.add_zero'] at hx428_2); go_enter Tryz.func62, Tryz.ntmps62
    go_wp2_with (first | ((with_reducible refine gk 89 rfl ?_); refine gC (some 7) rfl Tryz.func89 #[.string ((rd_T47 l0 0).f0)] (spec_IsName.calls k ((rd_T47 l0 0).f0) true _ A3.out) ?_; rintro e w' ⟨rfl, ⟨nd, rfl⟩⟩; refine ⟨_, rfl, ?_⟩; have p430 : 0 ≤ (0 : Int) := (by omega); have q430 : 0 < (l0.length : Int) := sD; obtain ⟨ad430, e430, hx430_0, hx430_1, hx430_2⟩ := at_T47 HR0.out 0 p430 q430; obtain rfl : ad428 = ad430 := (by injection e430); have qi430 : (0 < l0.length) = True := eq_true (by omega); (try rw [show ((0 : Int)).toNat = 0 from rfl] at hx430_0); (try rw [show 0 * 3 = 0 from rfl] at hx430_0); (try rw [Addr.add_zero'] at hx430_0); (try rw [show ((0 : Int)).toNat = 0 from rfl] at hx430_1); (try rw [show 0 * 3 = 0 from rfl] at hx430_1); (try rw [Addr.add_zero'] at hx430_1); (try rw [show ((0 : Int)).toNat = 0 from rfl] at hx430_2); (try rw [show 0 * 3 = 0 from rfl] at hx430_2); (try rw [Addr.add_zero'] at hx430_2)) | (go_at_call 48; (with_reducible refine (spec_l00In.calls ((rd_T47 l0 0).f1) 1 1000 false _ A5.out).mono ?_); rintro e w' ⟨rfl, ⟨nd, rfl⟩⟩))
    go_ret; exact ⟨eV, eD⟩
  ·
   obtain rfl := Option.some.inj H; have p428 : 0 ≤ (0 : Int) := (by omega); have q428 : 0 < (l0.length : Int) := sD; obtain ⟨ad428, e428, hx428_0, hx428_1, hx428_2⟩ := at_T47 HR0.out 0 p428 q428; cases e428; have qi428 : (0 < l0.length) = True := eq_true (by omega); (try rw [show ((0 : Int)).toNat = 0 from rfl] at hx428_0); (try rw [show 0 * 3 = 0 from rfl] at hx428_0); (try rw [Addr.add_zero'] at hx428_0); (try rw [show ((0 : Int)).toNat = 0 from rfl] at hx428_1); (try rw [show 0 * 3 = 0 from rfl] at hx428_1); (try rw [Addr.add_zero'] at hx428_1); (try rw [show ((0 : Int)).toNat = 0 from rfl] at hx428_2); (try rw [show 0 * 3 = 0 from rfl] at hx428_2); (try rw [Addr.add_zero'] at hx428_2); go_enter Tryz.func62, Tryz.ntmps62
   go_wp2_with (first | ((with_reducible refine gk 89 rfl ?_); refine gC (some 7) rfl Tryz.func89 #[.string ((rd_T47 l0 0).f0)] (spec_IsName.calls k ((rd_T47 l0 0).f0) false _ A3.out) ?_; rintro e w' ⟨rfl, ⟨nd, rfl⟩⟩; refine ⟨_, rfl, ?_⟩))
   go_ret; exact ⟨eV, eD⟩
 ·
  exact absurd H (by simp)

mutual
def spec_l03Ok.l0 : Nat → List (S47) → Int → Option (Bool)
 | 0, _, _ => none
 | k + 1, x0, x3 => if x3 < (x0.length : Int) then (if 0 ≤ x3 then ((spec_l03OneAt.f k [rd_T47 x0 x3]).bind fun t435 => (if t435 = true then (spec_l03Ok.l1 k x0 x3 0) else (some false))) else (none)) else (some (decide ((x0.length : Int) ≤ 20)))
def spec_l03Ok.l1 : Nat → List (S47) → Int → Int → Option (Bool)
 | 0, _, _, _ => none
 | k + 1, x0, x3, x4 => if x4 < x3 then (if 0 ≤ x4 then (if x4 < (x0.length : Int) then (if 0 ≤ x3 then (if x3 < (x0.length : Int) then (if ((rd_T47 x0 x4).f0).toList = ((rd_T47 x0 x3).f0).toList then (some false) else (spec_l03Ok.l1 k x0 x3 (wrap64 (x4 + 1)))) else (none)) else (none)) else (none)) else (none)) else (spec_l03Ok.l0 k x0 (wrap64 (x3 + 1)))
end
def spec_l03Ok.f (k : Nat) (l0 : List (S47)) : Option (Bool) := spec_l03Ok.l0 k l0 0
theorem spec_l03Ok.calls (k : Nat) (A0 : Option Addr) (c0 : Nat) (l0 : List (S47)) (r : Bool) (w : World) (hr0 : Kd.C k47 w A0 l0.length l0) (hc0 : l0.length ≤ c0) (h : spec_l03Ok.f k l0 = some r) :
  Calls Tryz.prog 68 #[.slice A0 l0.length c0] w fun e w' => e = .returned (.bool r) ∧ Below w.heap.size w w' := by
 have HR0 := aS hr0; have HC0 := aS hc0; clear hr0 hc0; have HB := aS (Below.refl w.heap.size w); have H := h; clear h; unfold spec_l03Ok.f at H; have H' := aS H; clear H; go_enter Tryz.func68, Tryz.ntmps68; go_wp2
 repeat (go_quiet (fail); try go_wp2)
 go_loopg [3] k (fun kq v3 w' => ∃ (x3_1 : Int), v3 = .int .i64 x3_1 ∧ Aside0 (spec_l03Ok.l0 kq l0 x3_1 = some r) ∧ Aside0 (kq ≤ k) ∧ Aside0 (Below w.heap.size w w'))
 case atStart => exact ⟨(0), eV, H', ⟨Nat.le_refl _⟩, (aS (sW HB.out))⟩
 case round =>
  clear H'; obtain ⟨x3_1, rfl, HA, HK1, HB⟩ := hrel; cases gk with
  | zero => exact absurd HA.out (by simp [spec_l03Ok.l0])
  | succ k1 =>
   have H := HA.out; clear HA; simp only [spec_l03Ok.l0] at H; replace H := iD H; rcases H with ⟨c2b0, H⟩ | ⟨c2b0, H⟩
   ·
    replace H := iE H; rcases H with ⟨c3, H⟩ | ⟨c3, H⟩
    ·
     have c3b0 := decide_eq_true c3; clear c3; replace H := bE H; obtain ⟨t435, A4, H⟩ := H; try dsimp only at H
     have HC5 := aS H; clear H; have p434 : 0 ≤ (x3_1 : Int) := sD; have q434 : x3_1 < (l0.length : Int) := sD; obtain ⟨ad434, e434, hx434_0, hx434_1, hx434_2⟩ := at_T47 HR0.out x3_1 p434 q434; cases e434; replace hx434_0 := bC HB.out hx434_0; replace hx434_1 := bC HB.out hx434_1; replace hx434_2 := bC HB.out hx434_2
     go_upto_if 15 with (first | (go_at_call 62; (with_reducible refine (spec_l03OneAt.calls k1 _ 1 [rd_T47 l0 x3_1] t435 _ ?side1 ?side2 A4.out).mono ?_); (case side1 => refine elem_C ?_ z47 x3_1 (sD) (sD); repeat (first | exact (Kd.C_below HR0.out HB.out) | (with_reducible refine Kd.C_alloc ?_ _) | (with_reducible refine Kd.C_drewN ?_ _) | (with_reducible refine Kd.C_drew ?_))); (case side2 => exact Nat.le_refl _); rintro e w' ⟨rfl, ⟨nd, rfl⟩⟩; (try exact eW)) | ((with_reducible refine gR ?_); go_quiet (first | (go_at_call 62; (with_reducible refine (spec_l03OneAt.calls k1 _ 1 [rd_T47 l0 x3_1] t435 _ ?side1 ?side2 A4.out).mono ?_); (case side1 => refine elem_C ?_ z47 x3_1 (sD) (sD); repeat (first | exact (Kd.C_below HR0.out HB.out) | (with_reducible refine Kd.C_alloc ?_ _) | (with_reducible refine Kd.C_drewN ?_ _) | (with_reducible refine Kd.C_drew ?_))); (case side2 => exact Nat.le_refl _); rintro e w' ⟨rfl, ⟨nd, rfl⟩⟩; (try exact eW)))))
     (try simp only [Act.put, List.setIfInBounds_toArray, List.set_cons_zero, List.set_cons_succ]); have H := HC5.out; clear HC5; replace H := iZ H; rcases H with ⟨rfl, H⟩ | ⟨rfl, H⟩
     ·
      have H' := aS H; clear H; go_wp2
      repeat (go_quiet (fail); try go_wp2)
      go_loopg [4] k1 (fun kq v4 w' => ∃ (x4_2 : Int), v4 = .int .i64 x4_2 ∧ Aside0 (spec_l03Ok.l1 kq l0 x3_1 x4_2 = some r) ∧ Aside0 (kq ≤ k1) ∧ Aside0 (Below w.heap.size w w'))
      case atStart => exact ⟨(0), eV, H', ⟨Nat.le_refl _⟩, (aS (sW HB.out))⟩
      case round =>
       clear H'; (try clear hx4); (try clear hx434_0); (try clear hx434_1); (try clear hx434_2); obtain ⟨x4_2, rfl, HA, HK2, HB⟩ := hrel; cases gk with
       | zero => exact absurd HA.out (by simp [spec_l03Ok.l1])
       | succ k2 =>
        have H := HA.out; clear HA; simp only [spec_l03Ok.l1] at H; replace H := iD H; rcases H with ⟨c7b0, H⟩ | ⟨c7b0, H⟩
        ·
         (first | rw [c7b0] | (simp only [i64_w, i32_w]; rw [c7b0]) | (rw [c7b2]; simp only [Bool.not_false, Bool.not_true]) | rw [c7b1] | skip); replace H := iE H; rcases H with ⟨c8, H⟩ | ⟨c8, H⟩
         ·
          have c8b0 := decide_eq_true c8; clear c8; replace H := iE H; rcases H with ⟨c9, H⟩ | ⟨c9, H⟩
          ·
           have c9b0 := decide_eq_true c9; clear c9; replace H := iE H; rcases H with ⟨c10, H⟩ | ⟨c10, H⟩
           ·
            have c10b0 := decide_eq_true c10; clear c10; replace H := iE H; rcases H with ⟨c11, H⟩ | ⟨c11, H⟩
            ·
             have c11b0 := decide_eq_true c11; clear c11; replace H := iB H; rcases H with ⟨c12b0, c12b1, H⟩ | ⟨c12, c12b0, c12b1, H⟩
             ·
              obtain rfl := Option.some.inj H; have p436 : 0 ≤ (x4_2 : Int) := sD; have q436 : x4_2 < (l0.length : Int) := sD; obtain ⟨ad436, e436, hx436_0, hx436_1, hx436_2⟩ := at_T47 HR0.out x4_2 p436 q436; obtain rfl : ad434 = ad436 := (by injection e436); replace hx436_0 := bC HB.out hx436_0; replace hx436_1 := bC HB.out hx436_1; replace hx436_2 := bC HB.out hx436_2; have p437 : 0 ≤ (x3_1 : Int) := sD; have q437 : x3_1 < (l0.length : Int) := sD; obtain ⟨ad437, e437, hx437_0, hx437_1, hx437_2⟩ := at_T47 HR0.out x3_1 p437 q437; obtain rfl : ad434 = ad437 := (by injection e437); replace hx437_0 := bC HB.out hx437_0; replace hx437_1 := bC HB.out hx437_1; replace hx437_2 := bC HB.out hx437_2; go_wp2
              repeat (go_quiet (fail); try go_wp2)
              go_ret; exact ⟨eE, sW HB.out⟩
             ·
              have H' := aS H; clear H; have p436 : 0 ≤ (x4_2 : Int) := sD; have q436 : x4_2 < (l0.length : Int) := sD; obtain ⟨ad436, e436, hx436_0, hx436_1, hx436_2⟩ := at_T47 HR0.out x4_2 p436 q436; obtain rfl : ad434 = ad436 := (by injection e436); replace hx436_0 := bC HB.out hx436_0; replace hx436_1 := bC HB.out hx436_1; replace hx436_2 := bC HB.out hx436_2; have p437 : 0 ≤ (x3_1 : Int) := sD; have q437 : x3_1 < (l0.length : Int) := sD; obtain ⟨ad437, e437, hx437_0, hx437_1, hx437_2⟩ := at_T47 HR0.out x3_1 p437 q437; obtain rfl : ad434 = ad437 := (by injection e437); replace hx437_0 := bC HB.out hx437_0; replace hx437_1 := bC HB.out hx437_1; replace hx437_2 := bC HB.out hx437_2; go_wp2
              repeat (go_quiet (fail); try go_wp2)
              go_roundg k2
              case measure => have := HK1.out; have := HK2.out; omega
              case rel => exact ⟨(wrap64 (x4_2 + 1)), eV, H', ⟨by have := HK1.out; have := HK2.out; omega⟩, (aS (sW HB.out))⟩
            ·
             exact absurd H (by simp)
           ·
            exact absurd H (by simp)
          ·
           exact absurd H (by simp)
         ·
          exact absurd H (by simp)
        ·
         (first | rw [c7b0] | (simp only [i64_w, i32_w]; rw [c7b0]) | (rw [c7b2]; simp only [Bool.not_false, Bool.not_true]) | rw [c7b1] | skip); have H' := aS H; clear H; go_wp2
         repeat (go_quiet (fail); try go_wp2)
         go_roundg k2
         case measure => have := HK1.out; have := HK2.out; omega
         case rel => exact ⟨(wrap64 (x3_1 + 1)), eV, H', ⟨by have := HK1.out; have := HK2.out; omega⟩, (aS (sW HB.out))⟩
     ·
      obtain rfl := Option.some.inj H; go_wp2
      repeat (go_quiet (fail); try go_wp2)
      go_ret; exact ⟨eE, sW HB.out⟩
    ·
     exact absurd H (by simp)
   ·
    obtain rfl := Option.some.inj H; go_wp2
    repeat (go_quiet (fail); try go_wp2)
    go_ret; exact ⟨eE, sW HB.out⟩

def spec_l03Piece.f (a0_0 : Int) (a0_1 : Int) : Option (Bool) := (spec_l00In.f a0_0 1 1000000).bind fun t439 => (if t439 = true then ((spec_l00In.f a0_1 1 100000).bind fun t440 => (some t440)) else (some false))
theorem spec_l03Piece.calls (a0_0 : Int) (a0_1 : Int) (r : Bool) (w : World) (h : spec_l03Piece.f a0_0 a0_1 = some r) :
  Calls Tryz.prog 71 #[.agg #[.int .i64 a0_0, .int .i64 a0_1]] w fun e w' => e = .returned (.bool r) ∧ Below w.heap.size w w' := by
 have hu58 := Tryz.underlying58; have HB := aS (Below.refl w.heap.size w); have H := h; clear h; unfold spec_l03Piece.f at H; replace H := bE H; obtain ⟨t439, A2, H⟩ := H; try dsimp only at H
 replace H := iZ H; rcases H with ⟨rfl, H⟩ | ⟨rfl, H⟩
 ·
  replace H := bE H; obtain ⟨t440, A4, H⟩ := H; try dsimp only at H
  obtain rfl := Option.some.inj H; go_enter Tryz.func71, Tryz.ntmps71
  go_wp2_with (first | ((with_reducible refine gt 1 rfl ?_); refine bx 1 #[.int .i64 a0_0, .int .i64 a0_1] 58 ?_; intro gb438 hg w5 hbox hb; have BK438 := aS (hbox); have GW438 := aS (gW hg (sW HB.out)); have GE438 := aS (gW hg (sW HB.out)); replace HB := lW HB hb; clear hb hbox hg; obtain ⟨hcz6_0, hcz6_1, hfz6_0, hfz6_1⟩ := z2 BK438.out) | ((with_reducible refine gk 48 rfl ?_); refine gC (some 5) rfl Tryz.func48 #[.int .i64 a0_0, .int .i64 1, .int .i64 1000000] (spec_l00In.calls a0_0 1 1000000 true _ A2.out) ?_; rintro e w' ⟨rfl, ⟨nd, rfl⟩⟩; refine ⟨_, rfl, ?_⟩) | (go_at_call 48; (with_reducible refine (spec_l00In.calls a0_1 1 100000 t440 _ A4.out).mono ?_); rintro e w' ⟨rfl, ⟨nd, rfl⟩⟩))
  go_ret; exact ⟨eE, sW HB.out⟩
 ·
  obtain rfl := Option.some.inj H; go_enter Tryz.func71, Tryz.ntmps71
  go_wp2_with (first | ((with_reducible refine gt 1 rfl ?_); refine bx 1 #[.int .i64 a0_0, .int .i64 a0_1] 58 ?_; intro gb438 hg w7 hbox hb; have BK438 := aS (hbox); have GW438 := aS (gW hg (sW HB.out)); have GE438 := aS (gW hg (sW HB.out)); replace HB := lW HB hb; clear hb hbox hg; obtain ⟨hcz8_0, hcz8_1, hfz8_0, hfz8_1⟩ := z2 BK438.out) | ((with_reducible refine gk 48 rfl ?_); refine gC (some 5) rfl Tryz.func48 #[.int .i64 a0_0, .int .i64 1, .int .i64 1000000] (spec_l00In.calls a0_0 1 1000000 false _ A2.out) ?_; rintro e w' ⟨rfl, ⟨nd, rfl⟩⟩; refine ⟨_, rfl, ?_⟩))
  go_ret; exact ⟨eE, sW HB.out⟩

-- NOT PRINTED: function 34 (spec_l03Line)
mutual
def spec_l03LineAt.j0 : Nat → List (S47) → List (S28) → Bool → Option (Bool)
 | 0, _, _, _ => none
 | k + 1, x0, x1, x32 => if x32 = true then (some false) else (spec_l03LineAt.l0 k x0 x1 0)
def spec_l03LineAt.l0 : Nat → List (S47) → List (S28) → Int → Option (Bool)
 | 0, _, _, _ => none
 | k + 1, x0, x1, x5 => if 0 < (x1.length : Int) then (if x5 < (((rd_T28 x1 0).f0).length : Int) then (if 0 ≤ x5 then ((spec_l03Piece.f ((rd_T58 ((rd_T28 x1 0).f0) x5).f0) ((rd_T58 ((rd_T28 x1 0).f0) x5).f1)).bind fun t456 => (if t456 = true then (spec_l03LineAt.l0 k x0 x1 (wrap64 (x5 + 1))) else (some false))) else (none)) else (spec_l03LineAt.l1 k x0 x1 0)) else (none)
def spec_l03LineAt.l1 : Nat → List (S47) → List (S28) → Int → Option (Bool)
 | 0, _, _, _ => none
 | k + 1, x0, x1, x6 => if 0 < (x1.length : Int) then (if x6 < (((rd_T28 x1 0).f1).length : Int) then (if 0 ≤ x6 then ((spec_l00In.f (rd ((rd_T28 x1 0).f1) x6) 0 (wrap64 ((x0.length : Int) - 1))).bind fun t460 => (if t460 = true then (spec_l03LineAt.l1 k x0 x1 (wrap64 (x6 + 1))) else (some false))) else (none)) else ((spec_l03LengthAt.f k x0 x1).bind fun t461 => (some (decide (t461 ≥ 1))))) else (none)
end
def spec_l03LineAt.f (k : Nat) (l0 : List (S47)) (l1 : List (S28)) : Option (Bool) := (spec_l03Ok.f k l0).bind fun t448 => (if t448 = true then (if 0 < (l1.length : Int) then ((spec_l00In.f (((rd_T28 l1 0).f0).length : Int) 1 12).bind fun t450 => (if t450 = true then (spec_l03LineAt.j0 k l0 l1 ((((rd_T28 l1 0).f1).length : Int) != (wrap64 ((((rd_T28 l1 0).f0).length : Int) - 1)))) else (spec_l03LineAt.j0 k l0 l1 true))) else (none)) else (spec_l03LineAt.j0 k l0 l1 true))
def spec_l03LineAt.T1 : Bool × List (List Nat × List Nat) := (true,[([],[]),([0],[0]),([1],[1]),([2,1],[2]),([3],[3]),([4,3],[3,4]),([5,3],[3,5]),([6,3],[3,6]),([7,3],[3,7]),([8,3,3],[3,8]),([9,3],[3,9]),([3,10],[3,10]),([11,9],[11]),([12],[12]),([13,12],[12,13]),([14,12],[12,14]),([15,12],[12,15]),([16,12],[12,16]),([12],[12]),([18,12],[12,18]),([19,12],[12,19]),([20,12],[12,20]),([21,12],[12,21]),([22,12],[12,22]),([17,23,12],[12,17,23]),([12,24],[12,24])])
def spec_l03LineAt.B1 : List Nat := [0,1,3,7,15,31,63,127,255,511,1023,2047,4095,8191,16383,32767,65535,131071,8191,270335,794623,1843199,3940351,8134655,16777215,33554431]
theorem spec_l03LineAt.tab1 : rtab .any (opsOf Tryz.f34 1) = spec_l03LineAt.T1 := by kernel_rfl
theorem spec_l03LineAt.bits1 : waitsOk spec_l03LineAt.T1.2 spec_l03LineAt.B1 = true := by kernel_rfl
theorem spec_l03LineAt.calls (k : Nat) (A0 : Option Addr) (c0 : Nat) (l0 : List (S47)) (A1 : Option Addr) (c1 : Nat) (l1 : List (S28)) (r : Bool) (w : World) (hr0 : Kd.C k47 w A0 l0.length l0) (hc0 : l0.length ≤ c0) (hr1 : Kd.C k28 w A1 l1.length l1) (hc1 : l1.length ≤ c1) (h : spec_l03LineAt.f k l0 l1 = some r) :
  Calls Tryz.prog 34 #[.slice A0 l0.length c0, .pointer A1] w fun e w' => e = .returned (.bool r) ∧ Below w.heap.size w w' := by
 have hu58 := Tryz.underlying58; have HR0 := aS hr0; have HC0 := aS hc0; clear hr0 hc0; have HR1 := aS hr1; have HC1 := aS hc1; clear hr1 hc1; have HB := aS (Below.refl w.heap.size w); have H := h; clear h; unfold spec_l03LineAt.f at H; have HC3 := aS H; clear H; go_enter Tryz.func34, Tryz.ntmps34
 go_upto_region 1 with (fail)
 go_cut [32] (fun v32 wc => ∃ (kq : Nat) (x32_2 : Bool), v32 = .bool x32_2 ∧ Aside0 (spec_l03LineAt.j0 kq l0 l1 x32_2 = some r) ∧ Aside0 (kq ≤ k) ∧ Aside0 (Below w.heap.size w wc))
 case first =>
  have H := HC3.out; clear HC3; replace H := bE H; obtain ⟨t448, A4, H⟩ := H; try dsimp only at H
  replace H := iZ H; rcases H with ⟨rfl, H⟩ | ⟨rfl, H⟩; rotate_left
  ·
   have H' := aS H; clear H
   try go_wp2
   replace HB := aS (below_drew1 HB.out); refine start_ (n := 26) (S := fun w' => True) (ds := []) _ (by kernel_rfl) rfl rfl trivial (fun hHeld => ?_); refine with_tabW spec_l03LineAt.tab1 spec_l03LineAt.bits1 (fun HT_ HW_ => ?_); generalize w.drew = w13 at HB hHeld ⊢; refine pX 0 7 ?_; refine oX 1 (some 8) fun K hK => ?_
   refine goes_ Tryz.func68 (by kernel_rfl) rfl #[.slice A0 l0.length c0] (by rfl) rfl rfl sG ?_; with_reducible refine (spec_l03Ok.calls k _ _ l0 false _ ?side1 ?side2 A4.out).mono ?_
   (case side1 => exact sC (Kd.C_below HR0.out HB.out)); (case side2 => exact HC0.out); rintro e w14 ⟨rfl, hb⟩; refine ⟨_, rfl, ?_⟩; replace HB := lW HB hb; refine hK.out _ _ trivial (fun hHeld => ?_); clear hK K; refine nX 8 ?_; refine pX 2 9 ?_; refine pX 3 10 ?_; refine pU 4 11 ?_; refine pU 5 12 ?_; refine pU 6 13 ?_; refine pU 7 14 ?_; refine pU 8 15 ?_; refine pU 9 16 ?_; refine pU 10 17 ?_; refine pX 11 18 ?_; refine pX 12 19 ?_; refine pU 13 20 ?_; refine pU 14 21 ?_; refine pU 15 22 ?_; refine pU 16 23 ?_; refine pU 17 24 ?_; refine pU 18 25 ?_; refine pU 19 26 ?_; refine pU 20 27 ?_; refine pU 21 28 ?_; refine pU 22 29 ?_; refine pU 23 30 ?_; refine pU 24 31 ?_; refine pX 25 32 ?_; refine dX ?_
   try go_wp2
   go_meet
   case rel => exact ⟨_, (true), eV, H', jL0, (aS (sW HB.out))⟩
  replace H := iN H; obtain ⟨c6, H⟩ := H; have c6b0 := decide_eq_true c6; have c6b1 : decide (0 < l1.length) = true := decide_eq_true (by omega); clear c6; (first | rw [c6b0] | (simp only [i64_w, i32_w]; rw [c6b0]) | (rw [c6b2]; simp only [Bool.not_false, Bool.not_true]) | rw [c6b1] | skip); replace H := bE H; obtain ⟨t450, A7, H⟩ := H; try dsimp only at H
  replace H := iZ H; rcases H with ⟨rfl, H⟩ | ⟨rfl, H⟩; rotate_left
  ·
   have H' := aS H; clear H
   try go_wp2
   replace HB := aS (below_drew1 HB.out); have p449 : 0 ≤ (0 : Int) := (by omega); have q449 : 0 < (l1.length : Int) := sD; obtain ⟨ad449, A449_0, c449_0, A449_1, c449_1, e449, hx449_0, hx449_1, hl449_0, hi449_0, hl449_1, hi449_1⟩ := at_T28 HR1.out 0 p449 q449; have hw449_1 := hx449_1; (try rw [show ((0 : Int)).toNat = 0 from rfl] at hw449_1); (try rw [show 0 * 2 = 0 from rfl] at hw449_1); (try rw [Addr.add_zero'] at hw449_1); have hw449_0 := hx449_0; (try rw [show ((0 : Int)).toNat = 0 from rfl] at hw449_0); (try rw [show 0 * 2 = 0 from rfl] at hw449_0); (try rw [Addr.add_zero'] at hw449_0); cases e449; have qi449 : (0 < l1.length) = True := eq_true (by omega); (try rw [show ((0 : Int)).toNat = 0 from rfl] at hx449_0); (try rw [show 0 * 2 = 0 from rfl] at hx449_0); (try rw [Addr.add_zero'] at hx449_0); (try rw [show ((0 : Int)).toNat = 0 from rfl] at hx449_1); (try rw [show 0 * 2 = 0 from rfl] at hx449_1); (try rw [Addr.add_zero'] at hx449_1); replace hx449_0 := bC HB.out hx449_0; replace hx449_1 := bC HB.out hx449_1; have HR449_0 := aS hi449_0; have HC449_0 := aS hl449_0; clear hi449_0 hl449_0; have HR449_1 := aS hi449_1; have HC449_1 := aS hl449_1; clear hi449_1 hl449_1; refine start_ (n := 26) (S := fun w' => w'.cell? ad449 = some (.slice A449_0 ((rd_T28 l1 0).f0).length c449_0) ∧ w'.cell? ⟨ad449.block, ad449.off + 1, none⟩ = some (.slice A449_1 ((rd_T28 l1 0).f1).length c449_1)) (ds := []) _ (by kernel_rfl) rfl rfl ⟨((HB.out.cell (World.block_lt_of_cell? w _ hw449_0)).trans hw449_0), ((HB.out.cell (World.block_lt_of_cell? w _ hw449_1)).trans hw449_1)⟩ (fun hHeld => ?_); refine with_tabW spec_l03LineAt.tab1 spec_l03LineAt.bits1 (fun HT_ HW_ => ?_); generalize w.drew = w11 at HB HR449_0 HR449_1 hx449_0 hx449_1 hHeld ⊢; refine pX 0 7 ?_; refine oX 1 (some 8) fun K hK => ?_
   refine goes_ Tryz.func68 (by kernel_rfl) rfl #[.slice A0 l0.length c0] (by rfl) rfl rfl sG ?_; with_reducible refine (spec_l03Ok.calls k _ _ l0 true _ ?side1 ?side2 A4.out).mono ?_
   (case side1 => exact sC (Kd.C_below HR0.out HB.out)); (case side2 => exact HC0.out); rintro e w12 ⟨rfl, hb⟩; refine ⟨_, rfl, ?_⟩; replace HB := lW HB hb; refine hK.out _ _ ⟨((HB.out.cell (World.block_lt_of_cell? w _ hw449_0)).trans hw449_0), ((HB.out.cell (World.block_lt_of_cell? w _ hw449_1)).trans hw449_1)⟩ (fun hHeld => ?_); clear hK K; refine nX 8 ?_; refine pX 2 9 ?_; refine pX 3 10 ?_; refine pX 4 11 ?_; refine pX 5 12 ?_; refine pX 6 13 ?_; refine tX 7 14 ?_; refine pX 8 15 ?_; refine oX 9 (some 16) fun K hK => ?_
   refine goes_ Tryz.func48 (by kernel_rfl) rfl #[.int .i64 (((rd_T28 l1 0).f0).length : Int), .int .i64 1, .int .i64 12] (by rfl) rfl rfl sG ?_; with_reducible refine (spec_l00In.calls (((rd_T28 l1 0).f0).length : Int) 1 12 false _ A7.out).mono ?_
   rintro e w' ⟨rfl, ⟨nd, rfl⟩⟩; refine ⟨_, rfl, ?_⟩; refine hK.out _ _ ⟨((HB.out.cell (World.block_lt_of_cell? w _ hw449_0)).trans hw449_0), ((HB.out.cell (World.block_lt_of_cell? w _ hw449_1)).trans hw449_1)⟩ (fun hHeld => ?_); clear hK K; refine nX 16 ?_; refine pX 10 17 ?_; refine pX 11 18 ?_; refine pX 12 19 ?_; refine pU 13 20 ?_; refine pU 14 21 ?_; refine pU 15 22 ?_; refine pU 16 23 ?_; refine pU 17 24 ?_; refine pU 18 25 ?_; refine pU 19 26 ?_; refine pU 20 27 ?_; refine pU 21 28 ?_; refine pU 22 29 ?_; refine pU 23 30 ?_; refine pU 24 31 ?_; refine pX 25 32 ?_; refine dX ?_
   try go_wp2
   go_meet
   case rel => exact ⟨_, (true), eV, H', jL0, (aS (sW HB.out))⟩
  have H' := aS H; clear H
  try go_wp2
  replace HB := aS (below_drew1 HB.out); have p449 : 0 ≤ (0 : Int) := (by omega); have q449 : 0 < (l1.length : Int) := sD; obtain ⟨ad449, A449_0, c449_0, A449_1, c449_1, e449, hx449_0, hx449_1, hl449_0, hi449_0, hl449_1, hi449_1⟩ := at_T28 HR1.out 0 p449 q449; have hw449_1 := hx449_1; (try rw [show ((0 : Int)).toNat = 0 from rfl] at hw449_1); (try rw [show 0 * 2 = 0 from rfl] at hw449_1); (try rw [Addr.add_zero'] at hw449_1); have hw449_0 := hx449_0; (try rw [show ((0 : Int)).toNat = 0 from rfl] at hw449_0); (try rw [show 0 * 2 = 0 from rfl] at hw449_0); (try rw [Addr.add_zero'] at hw449_0); cases e449; have qi449 : (0 < l1.length) = True := eq_true (by omega); (try rw [show ((0 : Int)).toNat = 0 from rfl] at hx449_0); (try rw [show 0 * 2 = 0 from rfl] at hx449_0); (try rw [Addr.add_zero'] at hx449_0); (try rw [show ((0 : Int)).toNat = 0 from rfl] at hx449_1); (try rw [show 0 * 2 = 0 from rfl] at hx449_1); (try rw [Addr.add_zero'] at hx449_1); replace hx449_0 := bC HB.out hx449_0; replace hx449_1 := bC HB.out hx449_1; have HR449_0 := aS hi449_0; have HC449_0 := aS hl449_0; clear hi449_0 hl449_0; have HR449_1 := aS hi449_1; have HC449_1 := aS hl449_1; clear hi449_1 hl449_1; have p451 : 0 ≤ (0 : Int) := (by omega); have q451 : 0 < (l1.length : Int) := sD; obtain ⟨ad451, A451_0, c451_0, A451_1, c451_1, e451, hx451_0, hx451_1, hl451_0, hi451_0, hl451_1, hi451_1⟩ := at_T28 HR1.out 0 p451 q451; have hw451_1 := hx451_1; (try rw [show ((0 : Int)).toNat = 0 from rfl] at hw451_1); (try rw [show 0 * 2 = 0 from rfl] at hw451_1); (try rw [Addr.add_zero'] at hw451_1); have hw451_0 := hx451_0; (try rw [show ((0 : Int)).toNat = 0 from rfl] at hw451_0); (try rw [show 0 * 2 = 0 from rfl] at hw451_0); (try rw [Addr.add_zero'] at hw451_0); obtain rfl : ad449 = ad451 := (by injection e451); have qi451 : (0 < l1.length) = True := eq_true (by omega); (try rw [show ((0 : Int)).toNat = 0 from rfl] at hx451_0); (try rw [show 0 * 2 = 0 from rfl] at hx451_0); (try rw [Addr.add_zero'] at hx451_0); (try rw [show ((0 : Int)).toNat = 0 from rfl] at hx451_1); (try rw [show 0 * 2 = 0 from rfl] at hx451_1); (try rw [Addr.add_zero'] at hx451_1); replace hx451_0 := bC HB.out hx451_0; replace hx451_1 := bC HB.out hx451_1; have HR451_0 := aS hi451_0; have HC451_0 := aS hl451_0; clear hi451_0 hl451_0; have HR451_1 := aS hi451_1; have HC451_1 := aS hl451_1; clear hi451_1 hl451_1; have ea_ := Option.some.inj (hx449_0.symm.trans hx451_0)
  injection ea_ with ea_ en_ ec_
  subst ea_; subst ec_; clear en_; have ea_ := Option.some.inj (hx449_1.symm.trans hx451_1)
  injection ea_ with ea_ en_ ec_
  subst ea_; subst ec_; clear en_; have p452 : 0 ≤ (0 : Int) := (by omega); have q452 : 0 < (l1.length : Int) := sD; obtain ⟨ad452, A452_0, c452_0, A452_1, c452_1, e452, hx452_0, hx452_1, hl452_0, hi452_0, hl452_1, hi452_1⟩ := at_T28 HR1.out 0 p452 q452; have hw452_1 := hx452_1; (try rw [show ((0 : Int)).toNat = 0 from rfl] at hw452_1); (try rw [show 0 * 2 = 0 from rfl] at hw452_1); (try rw [Addr.add_zero'] at hw452_1); have hw452_0 := hx452_0; (try rw [show ((0 : Int)).toNat = 0 from rfl] at hw452_0); (try rw [show 0 * 2 = 0 from rfl] at hw452_0); (try rw [Addr.add_zero'] at hw452_0); obtain rfl : ad449 = ad452 := (by injection e452); have qi452 : (0 < l1.length) = True := eq_true (by omega); (try rw [show ((0 : Int)).toNat = 0 from rfl] at hx452_0); (try rw [show 0 * 2 = 0 from rfl] at hx452_0); (try rw [Addr.add_zero'] at hx452_0); (try rw [show ((0 : Int)).toNat = 0 from rfl] at hx452_1); (try rw [show 0 * 2 = 0 from rfl] at hx452_1); (try rw [Addr.add_zero'] at hx452_1); replace hx452_0 := bC HB.out hx452_0; replace hx452_1 := bC HB.out hx452_1; have HR452_0 := aS hi452_0; have HC452_0 := aS hl452_0; clear hi452_0 hl452_0; have HR452_1 := aS hi452_1; have HC452_1 := aS hl452_1; clear hi452_1 hl452_1; have ea_ := Option.some.inj (hx449_0.symm.trans hx452_0)
  injection ea_ with ea_ en_ ec_
  subst ea_; subst ec_; clear en_; have ea_ := Option.some.inj (hx449_1.symm.trans hx452_1)
  injection ea_ with ea_ en_ ec_
  subst ea_; subst ec_; clear en_; refine start_ (n := 26) (S := fun w' => w'.cell? ad449 = some (.slice A449_0 ((rd_T28 l1 0).f0).length c449_0) ∧ w'.cell? ⟨ad449.block, ad449.off + 1, none⟩ = some (.slice A449_1 ((rd_T28 l1 0).f1).length c449_1) ∧ w'.cell? ad449 = some (.slice A449_0 ((rd_T28 l1 0).f0).length c449_0) ∧ w'.cell? ⟨ad449.block, ad449.off + 1, none⟩ = some (.slice A449_1 ((rd_T28 l1 0).f1).length c449_1) ∧ w'.cell? ad449 = some (.slice A449_0 ((rd_T28 l1 0).f0).length c449_0) ∧ w'.cell? ⟨ad449.block, ad449.off + 1, none⟩ = some (.slice A449_1 ((rd_T28 l1 0).f1).length c449_1)) (ds := []) _ (by kernel_rfl) rfl rfl ⟨((HB.out.cell (World.block_lt_of_cell? w _ hw449_0)).trans hw449_0), ((HB.out.cell (World.block_lt_of_cell? w _ hw449_1)).trans hw449_1), ((HB.out.cell (World.block_lt_of_cell? w _ hw451_0)).trans hw451_0), ((HB.out.cell (World.block_lt_of_cell? w _ hw451_1)).trans hw451_1), ((HB.out.cell (World.block_lt_of_cell? w _ hw452_0)).trans hw452_0), ((HB.out.cell (World.block_lt_of_cell? w _ hw452_1)).trans hw452_1)⟩ (fun hHeld => ?_); refine with_tabW spec_l03LineAt.tab1 spec_l03LineAt.bits1 (fun HT_ HW_ => ?_); generalize w.drew = w9 at HB HR449_0 HR449_1 HR451_0 HR451_1 HR452_0 HR452_1 hx449_0 hx449_1 hx451_0 hx451_1 hx452_0 hx452_1 hHeld ⊢; refine pX 0 7 ?_; refine oX 1 (some 8) fun K hK => ?_
  refine goes_ Tryz.func68 (by kernel_rfl) rfl #[.slice A0 l0.length c0] (by rfl) rfl rfl sG ?_; with_reducible refine (spec_l03Ok.calls k _ _ l0 true _ ?side1 ?side2 A4.out).mono ?_
  (case side1 => exact sC (Kd.C_below HR0.out HB.out)); (case side2 => exact HC0.out); rintro e w10 ⟨rfl, hb⟩; refine ⟨_, rfl, ?_⟩; replace HB := lW HB hb; refine hK.out _ _ ⟨((HB.out.cell (World.block_lt_of_cell? w _ hw449_0)).trans hw449_0), ((HB.out.cell (World.block_lt_of_cell? w _ hw449_1)).trans hw449_1), ((HB.out.cell (World.block_lt_of_cell? w _ hw451_0)).trans hw451_0), ((HB.out.cell (World.block_lt_of_cell? w _ hw451_1)).trans hw451_1), ((HB.out.cell (World.block_lt_of_cell? w _ hw452_0)).trans hw452_0), ((HB.out.cell (World.block_lt_of_cell? w _ hw452_1)).trans hw452_1)⟩ (fun hHeld => ?_); clear hK K; refine nX 8 ?_; refine pX 2 9 ?_; refine pX 3 10 ?_; refine pX 4 11 ?_; refine pX 5 12 ?_; refine pX 6 13 ?_; refine tX 7 14 ?_; refine pX 8 15 ?_; refine oX 9 (some 16) fun K hK => ?_
  refine goes_ Tryz.func48 (by kernel_rfl) rfl #[.int .i64 (((rd_T28 l1 0).f0).length : Int), .int .i64 1, .int .i64 12] (by rfl) rfl rfl sG ?_; with_reducible refine (spec_l00In.calls (((rd_T28 l1 0).f0).length : Int) 1 12 true _ A7.out).mono ?_
  rintro e w' ⟨rfl, ⟨nd, rfl⟩⟩; refine ⟨_, rfl, ?_⟩; refine hK.out _ _ ⟨((HB.out.cell (World.block_lt_of_cell? w _ hw449_0)).trans hw449_0), ((HB.out.cell (World.block_lt_of_cell? w _ hw449_1)).trans hw449_1), ((HB.out.cell (World.block_lt_of_cell? w _ hw451_0)).trans hw451_0), ((HB.out.cell (World.block_lt_of_cell? w _ hw451_1)).trans hw451_1), ((HB.out.cell (World.block_lt_of_cell? w _ hw452_0)).trans hw452_0), ((HB.out.cell (World.block_lt_of_cell? w _ hw452_1)).trans hw452_1)⟩ (fun hHeld => ?_); clear hK K; refine nX 16 ?_; refine pX 10 17 ?_; refine pX 11 18 ?_; refine pX 12 19 ?_; refine pX 13 20 ?_; refine pX 14 21 ?_; refine pX 15 22 ?_; refine pX 18 25 ?_; refine pX 19 26 ?_; refine pX 20 27 ?_; refine tX 16 23 ?_; refine pX 17 24 ?_; refine tX 21 28 ?_; refine pX 22 29 ?_; refine pX 23 30 ?_; refine pX 24 31 ?_; refine pX 25 32 ?_; refine dX ?_
  try go_wp2
  go_meet
  case rel => exact ⟨_, (((((rd_T28 l1 0).f1).length : Int) != (wrap64 ((((rd_T28 l1 0).f0).length : Int) - 1)))), eV, H', jL0, (aS (sW HB.out))⟩
 case rest =>
  clear HC3; (try clear hx4); (try clear hx449_0); (try clear hx449_1); obtain ⟨kq, x32_2, rfl, HA, HJ2, HB⟩ := hcut; cases kq with
  | zero => exact absurd HA.out (by simp [spec_l03LineAt.j0])
  | succ kj2 =>
   have H := HA.out; clear HA; simp only [spec_l03LineAt.j0] at H; replace H := iZ H; rcases H with ⟨rfl, H⟩ | ⟨rfl, H⟩
   ·
    obtain rfl := Option.some.inj H; go_wp2; go_ret; exact ⟨eE, sW HB.out⟩
   ·
    have H' := aS H; clear H; go_wp2
    go_loopg [5] kj2 (fun kq v5 w' => ∃ (x5_2 : Int), v5 = .int .i64 x5_2 ∧ Aside0 (spec_l03LineAt.l0 kq l0 l1 x5_2 = some r) ∧ Aside0 (kq ≤ kj2) ∧ Aside0 (Below w.heap.size w w'))
    case atStart => exact ⟨(0), eV, H', ⟨Nat.le_refl _⟩, (aS (sW HB.out))⟩
    case round =>
     clear H'; (try clear hx4); (try clear hx449_0); (try clear hx449_1); obtain ⟨x5_2, rfl, HA, HK2, HB⟩ := hrel; cases gk with
     | zero => exact absurd HA.out (by simp [spec_l03LineAt.l0])
     | succ k2 =>
      have H := HA.out; clear HA; simp only [spec_l03LineAt.l0] at H; replace H := iE H; rcases H with ⟨c16, H⟩ | ⟨c16, H⟩
      ·
       have c16b0 := decide_eq_true c16; have c16b1 : decide (0 < l1.length) = true := decide_eq_true (by omega); clear c16; replace H := iD H; rcases H with ⟨c17b0, H⟩ | ⟨c17b0, H⟩
       ·
        replace H := iN H; obtain ⟨c18, H⟩ := H; have c18b0 := decide_eq_true c18; clear c18; replace H := bE H; obtain ⟨t456, A19, H⟩ := H; try dsimp only at H
        have HC20 := aS H; clear H; have p453 : 0 ≤ (0 : Int) := (by omega); have q453 : 0 < (l1.length : Int) := sD; obtain ⟨ad453, A453_0, c453_0, A453_1, c453_1, e453, hx453_0, hx453_1, hl453_0, hi453_0, hl453_1, hi453_1⟩ := at_T28 HR1.out 0 p453 q453; cases e453; have qi453 : (0 < l1.length) = True := eq_true (by omega); (try rw [show ((0 : Int)).toNat = 0 from rfl] at hx453_0); (try rw [show 0 * 2 = 0 from rfl] at hx453_0); (try rw [Addr.add_zero'] at hx453_0); (try rw [show ((0 : Int)).toNat = 0 from rfl] at hx453_1); (try rw [show 0 * 2 = 0 from rfl] at hx453_1); (try rw [Addr.add_zero'] at hx453_1); replace hx453_0 := bC HB.out hx453_0; replace hx453_1 := bC HB.out hx453_1; have HR453_0 := aS hi453_0; have HC453_0 := aS hl453_0; clear hi453_0 hl453_0; have HR453_1 := aS hi453_1; have HC453_1 := aS hl453_1; clear hi453_1 hl453_1; have p454 : 0 ≤ (0 : Int) := (by omega); have q454 : 0 < (l1.length : Int) := sD; obtain ⟨ad454, A454_0, c454_0, A454_1, c454_1, e454, hx454_0, hx454_1, hl454_0, hi454_0, hl454_1, hi454_1⟩ := at_T28 HR1.out 0 p454 q454; obtain rfl : ad453 = ad454 := (by injection e454); have qi454 : (0 < l1.length) = True := eq_true (by omega); (try rw [show ((0 : Int)).toNat = 0 from rfl] at hx454_0); (try rw [show 0 * 2 = 0 from rfl] at hx454_0); (try rw [Addr.add_zero'] at hx454_0); (try rw [show ((0 : Int)).toNat = 0 from rfl] at hx454_1); (try rw [show 0 * 2 = 0 from rfl] at hx454_1); (try rw [Addr.add_zero'] at hx454_1); replace hx454_0 := bC HB.out hx454_0; replace hx454_1 := bC HB.out hx454_1; have HR454_0 := aS hi454_0; have HC454_0 := aS hl454_0; clear hi454_0 hl454_0; have HR454_1 := aS hi454_1; have HC454_1 := aS hl454_1; clear hi454_1 hl454_1; have ea_ := Option.some.inj (hx453_0.symm.trans hx454_0)
        injection ea_ with ea_ en_ ec_
        subst ea_; subst ec_; clear en_; have ea_ := Option.some.inj (hx453_1.symm.trans hx454_1)
        injection ea_ with ea_ en_ ec_
        subst ea_; subst ec_; clear en_; have p455 : 0 ≤ (x5_2 : Int) := sD; have q455 : x5_2 < (((rd_T28 l1 0).f0).length : Int) := sD; obtain ⟨ad455, e455, hx455_0, hx455_1⟩ := at_T58 HR454_0.out x5_2 p455 q455; cases e455; replace hx455_0 := bC HB.out hx455_0; replace hx455_1 := bC HB.out hx455_1
        go_upto_if 50 with (first | ((with_reducible refine gk 71 rfl ?_); refine gC (some 49) rfl Tryz.func71 #[.agg #[.int .i64 ((rd_T58 ((rd_T28 l1 0).f0) x5_2).f0), .int .i64 ((rd_T58 ((rd_T28 l1 0).f0) x5_2).f1)]] (spec_l03Piece.calls ((rd_T58 ((rd_T28 l1 0).f0) x5_2).f0) ((rd_T58 ((rd_T28 l1 0).f0) x5_2).f1) t456 _ A19.out) ?_; rintro e w21 ⟨rfl, hb⟩; refine ⟨_, rfl, ?_⟩; replace HB := lW HB hb))
        (try simp only [Act.put, List.setIfInBounds_toArray, List.set_cons_zero, List.set_cons_succ]); have H := HC20.out; clear HC20; replace H := iZ H; rcases H with ⟨rfl, H⟩ | ⟨rfl, H⟩; rotate_left
        ·
         obtain rfl := Option.some.inj H; go_wp2; go_ret; exact ⟨eE, sW HB.out⟩
        have H' := aS H; clear H; go_wp2
        go_roundg k2
        case measure => have := HJ2.out; have := HK2.out; omega
        case rel => exact ⟨(wrap64 (x5_2 + 1)), eV, H', ⟨by have := HJ2.out; have := HK2.out; omega⟩, (aS (sW HB.out))⟩
       have H' := aS H; clear H; have p453 : 0 ≤ (0 : Int) := (by omega); have q453 : 0 < (l1.length : Int) := sD; obtain ⟨ad453, A453_0, c453_0, A453_1, c453_1, e453, hx453_0, hx453_1, hl453_0, hi453_0, hl453_1, hi453_1⟩ := at_T28 HR1.out 0 p453 q453; cases e453; have qi453 : (0 < l1.length) = True := eq_true (by omega); (try rw [show ((0 : Int)).toNat = 0 from rfl] at hx453_0); (try rw [show 0 * 2 = 0 from rfl] at hx453_0); (try rw [Addr.add_zero'] at hx453_0); (try rw [show ((0 : Int)).toNat = 0 from rfl] at hx453_1); (try rw [show 0 * 2 = 0 from rfl] at hx453_1); (try rw [Addr.add_zero'] at hx453_1); replace hx453_0 := bC HB.out hx453_0; replace hx453_1 := bC HB.out hx453_1; have HR453_0 := aS hi453_0; have HC453_0 := aS hl453_0; clear hi453_0 hl453_0; have HR453_1 := aS hi453_1; have HC453_1 := aS hl453_1; clear hi453_1 hl453_1; go_wp2
       go_loopg [6] k2 (fun kq v6 w' => ∃ (x6_3 : Int), v6 = .int .i64 x6_3 ∧ Aside0 (spec_l03LineAt.l1 kq l0 l1 x6_3 = some r) ∧ Aside0 (kq ≤ k2) ∧ Aside0 (Below w.heap.size w w'))
       case atStart => exact ⟨(0), eV, H', ⟨Nat.le_refl _⟩, (aS (sW HB.out))⟩
       case round =>
        clear H'; (try clear hx4); (try clear hx449_0); (try clear hx449_1); (try clear hx453_0); (try clear hx453_1); (try clear hx454_0); (try clear hx454_1); (try clear hx455_0); (try clear hx455_1); obtain ⟨x6_3, rfl, HA, HK3, HB⟩ := hrel; cases gk with
        | zero => exact absurd HA.out (by simp [spec_l03LineAt.l1])
        | succ k3 =>
         have H := HA.out; clear HA; simp only [spec_l03LineAt.l1] at H; replace H := iN H; obtain ⟨c23, H⟩ := H; have c23b0 := decide_eq_true c23; have c23b1 : decide (0 < l1.length) = true := decide_eq_true (by omega); clear c23; replace H := iD H; rcases H with ⟨c24b0, H⟩ | ⟨c24b0, H⟩; rotate_left
         ·
          replace H := bE H; obtain ⟨t461, A29, H⟩ := H; try dsimp only at H
          obtain rfl := Option.some.inj H; have p457 : 0 ≤ (0 : Int) := (by omega); have q457 : 0 < (l1.length : Int) := sD; obtain ⟨ad457, A457_0, c457_0, A457_1, c457_1, e457, hx457_0, hx457_1, hl457_0, hi457_0, hl457_1, hi457_1⟩ := at_T28 HR1.out 0 p457 q457; obtain rfl : ad453 = ad457 := (by injection e457); have qi457 : (0 < l1.length) = True := eq_true (by omega); (try rw [show ((0 : Int)).toNat = 0 from rfl] at hx457_0); (try rw [show 0 * 2 = 0 from rfl] at hx457_0); (try rw [Addr.add_zero'] at hx457_0); (try rw [show ((0 : Int)).toNat = 0 from rfl] at hx457_1); (try rw [show 0 * 2 = 0 from rfl] at hx457_1); (try rw [Addr.add_zero'] at hx457_1); replace hx457_0 := bC HB.out hx457_0; replace hx457_1 := bC HB.out hx457_1; have HR457_0 := aS hi457_0; have HC457_0 := aS hl457_0; clear hi457_0 hl457_0; have HR457_1 := aS hi457_1; have HC457_1 := aS hl457_1; clear hi457_1 hl457_1
          go_wp2_with (first | ((with_reducible refine gk 38 rfl ?_); refine gC (some 74) rfl Tryz.func38 #[.slice A0 l0.length c0, .pointer (some ad453)] (spec_l03LengthAt.calls k3 _ _ l0 _ l1.length l1 t461 _ (sC (Kd.C_below HR0.out HB.out)) HC0.out (sC (Kd.C_below HR1.out HB.out)) (Nat.le_refl _) A29.out) ?_; rintro e w' ⟨rfl, ⟨nd, rfl⟩⟩; refine ⟨_, rfl, ?_⟩))
          go_ret; exact ⟨eE, sW HB.out⟩
         replace H := iN H; obtain ⟨c25, H⟩ := H; have c25b0 := decide_eq_true c25; clear c25; replace H := bE H; obtain ⟨t460, A26, H⟩ := H; try dsimp only at H
         have HC27 := aS H; clear H; have p457 : 0 ≤ (0 : Int) := (by omega); have q457 : 0 < (l1.length : Int) := sD; obtain ⟨ad457, A457_0, c457_0, A457_1, c457_1, e457, hx457_0, hx457_1, hl457_0, hi457_0, hl457_1, hi457_1⟩ := at_T28 HR1.out 0 p457 q457; obtain rfl : ad453 = ad457 := (by injection e457); have qi457 : (0 < l1.length) = True := eq_true (by omega); (try rw [show ((0 : Int)).toNat = 0 from rfl] at hx457_0); (try rw [show 0 * 2 = 0 from rfl] at hx457_0); (try rw [Addr.add_zero'] at hx457_0); (try rw [show ((0 : Int)).toNat = 0 from rfl] at hx457_1); (try rw [show 0 * 2 = 0 from rfl] at hx457_1); (try rw [Addr.add_zero'] at hx457_1); replace hx457_0 := bC HB.out hx457_0; replace hx457_1 := bC HB.out hx457_1; have HR457_0 := aS hi457_0; have HC457_0 := aS hl457_0; clear hi457_0 hl457_0; have HR457_1 := aS hi457_1; have HC457_1 := aS hl457_1; clear hi457_1 hl457_1; have p458 : 0 ≤ (0 : Int) := (by omega); have q458 : 0 < (l1.length : Int) := sD; obtain ⟨ad458, A458_0, c458_0, A458_1, c458_1, e458, hx458_0, hx458_1, hl458_0, hi458_0, hl458_1, hi458_1⟩ := at_T28 HR1.out 0 p458 q458; obtain rfl : ad453 = ad458 := (by injection e458); have qi458 : (0 < l1.length) = True := eq_true (by omega); (try rw [show ((0 : Int)).toNat = 0 from rfl] at hx458_0); (try rw [show 0 * 2 = 0 from rfl] at hx458_0); (try rw [Addr.add_zero'] at hx458_0); (try rw [show ((0 : Int)).toNat = 0 from rfl] at hx458_1); (try rw [show 0 * 2 = 0 from rfl] at hx458_1); (try rw [Addr.add_zero'] at hx458_1); replace hx458_0 := bC HB.out hx458_0; replace hx458_1 := bC HB.out hx458_1; have HR458_0 := aS hi458_0; have HC458_0 := aS hl458_0; clear hi458_0 hl458_0; have HR458_1 := aS hi458_1; have HC458_1 := aS hl458_1; clear hi458_1 hl458_1; have ea_ := Option.some.inj (hx457_0.symm.trans hx458_0)
         injection ea_ with ea_ en_ ec_
         subst ea_; subst ec_; clear en_; have ea_ := Option.some.inj (hx457_1.symm.trans hx458_1)
         injection ea_ with ea_ en_ ec_
         subst ea_; subst ec_; clear en_; have p459 : 0 ≤ (x6_3 : Int) := sD; have q459 : x6_3 < (((rd_T28 l1 0).f1).length : Int) := sD; obtain ⟨ad459, e459, hx459_0⟩ := Kd.at_int HR458_1.out x6_3 p459 q459; cases e459; replace hx459_0 := bC HB.out hx459_0
         go_upto_if 71 with (first | ((with_reducible refine gk 48 rfl ?_); refine gC (some 70) rfl Tryz.func48 #[.int .i64 (rd ((rd_T28 l1 0).f1) x6_3), .int .i64 0, .int .i64 (wrap64 ((l0.length : Int) - 1))] (spec_l00In.calls (rd ((rd_T28 l1 0).f1) x6_3) 0 (wrap64 ((l0.length : Int) - 1)) t460 _ A26.out) ?_; rintro e w' ⟨rfl, ⟨nd, rfl⟩⟩; refine ⟨_, rfl, ?_⟩))
         (try simp only [Act.put, List.setIfInBounds_toArray, List.set_cons_zero, List.set_cons_succ]); have H := HC27.out; clear HC27; replace H := iZ H; rcases H with ⟨rfl, H⟩ | ⟨rfl, H⟩; rotate_left
         ·
          obtain rfl := Option.some.inj H; go_wp2; go_ret; exact ⟨eE, sW HB.out⟩
         have H' := aS H; clear H; go_wp2
         go_roundg k3
         case measure => have := HJ2.out; have := HK2.out; have := HK3.out; omega
         case rel => exact ⟨(wrap64 (x6_3 + 1)), eV, H', ⟨by have := HJ2.out; have := HK2.out; have := HK3.out; omega⟩, (aS (sW HB.out))⟩
      ·
       exact absurd H (by simp)
def spec_l00Min.f (a0 : Int) (a1 : Int) : Option (Int) := if a0 < a1 then (some a0) else (some a1)
theorem spec_l00Min.calls (a0 : Int) (a1 : Int) (r : Int) (w : World) (h : spec_l00Min.f a0 a1 = some r) :
  Calls Tryz.prog 96 #[.int .i64 a0, .int .i64 a1] w fun e w' => e = .returned (.int .i64 r) ∧ Drawn0 w w' := by
 have H := h; clear h; unfold spec_l00Min.f at H; replace H := iD H; rcases H with ⟨c3b0, H⟩ | ⟨c3b0, H⟩
 ·
  obtain rfl := Option.some.inj H; go_enter Tryz.func96, Tryz.ntmps96; go_wp2; go_ret; exact ⟨eV, eD⟩
 ·
  obtain rfl := Option.some.inj H; go_enter Tryz.func96, Tryz.ntmps96; go_wp2; go_ret; exact ⟨eV, eD⟩

def spec_l03Joined.f (s0_0 : ByteArray) (s0_1 : Int) (s0_2 : Int) (a1_0 : Int) (a1_1 : Int) (a2_0 : Int) (a2_1 : Int) : Option (Int × ByteArray × Int × Int) := (spec_l00Min.f a1_0 a2_0).bind fun t464 => (some (wrap64 (s0_1 * t464), s0_0, s0_1, s0_2))
def spec_l03JoinedAt.f (l0 : List (S47)) (a1_0 : Int) (a1_1 : Int) (a2_0 : Int) (a2_1 : Int) : Option (Int) := if 0 < (l0.length : Int) then ((spec_l00Min.f a1_0 a2_0).bind fun t468 => (some (wrap64 (((rd_T47 l0 0).f1) * t468)))) else (none)
theorem spec_l03JoinedAt.calls (A0 : Option Addr) (c0 : Nat) (l0 : List (S47)) (a1_0 : Int) (a1_1 : Int) (a2_0 : Int) (a2_1 : Int) (r : Int) (w : World) (hr0 : Kd.C k47 w A0 l0.length l0) (hc0 : l0.length ≤ c0) (h : spec_l03JoinedAt.f l0 a1_0 a1_1 a2_0 a2_1 = some r) :
  Calls Tryz.prog 72 #[.pointer A0, .agg #[.int .i64 a1_0, .int .i64 a1_1], .agg #[.int .i64 a2_0, .int .i64 a2_1]] w fun e w' => e = .returned (.int .i64 r) ∧ Below w.heap.size w w' := by
 have hu58 := Tryz.underlying58; have HR0 := aS hr0; have HC0 := aS hc0; clear hr0 hc0; have HB := aS (Below.refl w.heap.size w); have H := h; clear h; unfold spec_l03JoinedAt.f at H; replace H := iE H; rcases H with ⟨c4, H⟩ | ⟨c4, H⟩
 ·
  have c4b0 := decide_eq_true c4; have c4b1 : decide (0 < l0.length) = true := decide_eq_true (by omega); clear c4; replace H := bE H; obtain ⟨t468, A5, H⟩ := H; try dsimp only at H
  obtain rfl := Option.some.inj H; go_enter Tryz.func72, Tryz.ntmps72
  go_wp2_with (first | ((with_reducible refine gt 4 rfl ?_); refine bx 4 #[.int .i64 a1_0, .int .i64 a1_1] 58 ?_; intro gb465 hg w6 hbox hb; have BK465 := aS (hbox); have GW465 := aS (gW hg (sW HB.out)); have GE465 := aS (gW hg (sW HB.out)); replace HB := lW HB hb; clear hb hbox hg) | ((with_reducible refine gt 5 rfl ?_); refine bx 5 #[.int .i64 a2_0, .int .i64 a2_1] 58 ?_; intro gb466 hg w7 hbox hb; have BK466 := aS (hbox); have GW466 := aS (gW hg (sW HB.out)); have GE466 := aS (gW hg (sW HB.out)); replace HB := lW HB hb; have NB465_466 := aS (nL hg (sB BK465.out)); have NB466_465 := aS (nG hg (sB BK465.out)); replace BK465 := lB BK465 hb; clear hb hbox hg; have p467 : 0 ≤ (0 : Int) := (by omega); have q467 : 0 < (l0.length : Int) := sD; obtain ⟨ad467, e467, hx467_0, hx467_1, hx467_2⟩ := at_T47 HR0.out 0 p467 q467; cases e467; have qi467 : (0 < l0.length) = True := eq_true (by omega); (try rw [show ((0 : Int)).toNat = 0 from rfl] at hx467_0); (try rw [show 0 * 3 = 0 from rfl] at hx467_0); (try rw [Addr.add_zero'] at hx467_0); (try rw [show ((0 : Int)).toNat = 0 from rfl] at hx467_1); (try rw [show 0 * 3 = 0 from rfl] at hx467_1); (try rw [Addr.add_zero'] at hx467_1); (try rw [show ((0 : Int)).toNat = 0 from rfl] at hx467_2); (try rw [show 0 * 3 = 0 from rfl] at hx467_2); (try rw [Addr.add_zero'] at hx467_2); replace hx467_0 := bC HB.out hx467_0; replace hx467_1 := bC HB.out hx467_1; replace hx467_2 := bC HB.out hx467_2; obtain ⟨hnb8, hnc8⟩ := nD NB465_466; obtain ⟨hcz9_0, hcz9_1, hfz9_0, hfz9_1⟩ := z2 BK465.out; obtain ⟨hcz10_0, hcz10_1, hfz10_0, hfz10_1⟩ := z2 BK466.out) | (go_at_call 96; (with_reducible refine (spec_l00Min.calls a1_0 a2_0 t468 _ A5.out).mono ?_); rintro e w' ⟨rfl, ⟨nd, rfl⟩⟩; (try exact eW)))
  repeat ((refine wp_region_quiet_lit (by kernel_rfl) (by kernel_rfl) ?_; (repeat ((first | (with_reducible refine wpQuiet_step (fun K hK => ?_)) | refine wpQuiet_step (fun K hK => ?_)); go_simp; first | (refine hK _ ?_; clear hK K) | (apply Exists.intro; refine ⟨fun _ => ?_, hK _ ?_⟩; (try simp only [i64_w]); (first | ((with_reducible refine gt 4 rfl ?_); refine bx 4 #[.int .i64 a1_0, .int .i64 a1_1] 58 ?_; intro gb465 hg w6 hbox hb; have BK465 := aS (hbox); have GW465 := aS (gW hg (sW HB.out)); have GE465 := aS (gW hg (sW HB.out)); replace HB := lW HB hb; clear hb hbox hg) | ((with_reducible refine gt 5 rfl ?_); refine bx 5 #[.int .i64 a2_0, .int .i64 a2_1] 58 ?_; intro gb466 hg w7 hbox hb; have BK466 := aS (hbox); have GW466 := aS (gW hg (sW HB.out)); have GE466 := aS (gW hg (sW HB.out)); replace HB := lW HB hb; have NB465_466 := aS (nL hg (sB BK465.out)); have NB466_465 := aS (nG hg (sB BK465.out)); replace BK465 := lB BK465 hb; clear hb hbox hg; have p467 : 0 ≤ (0 : Int) := (by omega); have q467 : 0 < (l0.length : Int) := sD; obtain ⟨ad467, e467, hx467_0, hx467_1, hx467_2⟩ := at_T47 HR0.out 0 p467 q467; cases e467; have qi467 : (0 < l0.length) = True := eq_true (by omega); (try rw [show ((0 : Int)).toNat = 0 from rfl] at hx467_0); (try rw [show 0 * 3 = 0 from rfl] at hx467_0); (try rw [Addr.add_zero'] at hx467_0); (try rw [show ((0 : Int)).toNat = 0 from rfl] at hx467_1); (try rw [show 0 * 3 = 0 from rfl] at hx467_1); (try rw [Addr.add_zero'] at hx467_1); (try rw [show ((0 : Int)).toNat = 0 from rfl] at hx467_2); (try rw [show 0 * 3 = 0 from rfl] at hx467_2); (try rw [Addr.add_zero'] at hx467_2); replace hx467_0 := bC HB.out hx467_0; replace hx467_1 := bC HB.out hx467_1; replace hx467_2 := bC HB.out hx467_2; obtain ⟨hnb8, hnc8⟩ := nD NB465_466; obtain ⟨hcz9_0, hcz9_1, hfz9_0, hfz9_1⟩ := z2 BK465.out; obtain ⟨hcz10_0, hcz10_1, hfz10_0, hfz10_1⟩ := z2 BK466.out) | (go_at_call 96; (with_reducible refine (spec_l00Min.calls a1_0 a2_0 t468 _ A5.out).mono ?_); rintro e w' ⟨rfl, ⟨nd, rfl⟩⟩; (try exact eW))); clear hK K))); refine wpQuiet_nil ?_; intro _ hw'; obtain ⟨nq, hw''⟩ := hw'; subst hw''); try go_wp2_with (first | ((with_reducible refine gt 4 rfl ?_); refine bx 4 #[.int .i64 a1_0, .int .i64 a1_1] 58 ?_; intro gb465 hg w6 hbox hb; have BK465 := aS (hbox); have GW465 := aS (gW hg (sW HB.out)); have GE465 := aS (gW hg (sW HB.out)); replace HB := lW HB hb; clear hb hbox hg) | ((with_reducible refine gt 5 rfl ?_); refine bx 5 #[.int .i64 a2_0, .int .i64 a2_1] 58 ?_; intro gb466 hg w7 hbox hb; have BK466 := aS (hbox); have GW466 := aS (gW hg (sW HB.out)); have GE466 := aS (gW hg (sW HB.out)); replace HB := lW HB hb; have NB465_466 := aS (nL hg (sB BK465.out)); have NB466_465 := aS (nG hg (sB BK465.out)); replace BK465 := lB BK465 hb; clear hb hbox hg; have p467 : 0 ≤ (0 : Int) := (by omega); have q467 : 0 < (l0.length : Int) := sD; obtain ⟨ad467, e467, hx467_0, hx467_1, hx467_2⟩ := at_T47 HR0.out 0 p467 q467; cases e467; have qi467 : (0 < l0.length) = True := eq_true (by omega); (try rw [show ((0 : Int)).toNat = 0 from rfl] at hx467_0); (try rw [show 0 * 3 = 0 from rfl] at hx467_0); (try rw [Addr.add_zero'] at hx467_0); (try rw [show ((0 : Int)).toNat = 0 from rfl] at hx467_1); (try rw [show 0 * 3 = 0 from rfl] at hx467_1); (try rw [Addr.add_zero'] at hx467_1); (try rw [show ((0 : Int)).toNat = 0 from rfl] at hx467_2); (try rw [show 0 * 3 = 0 from rfl] at hx467_2); (try rw [Addr.add_zero'] at hx467_2); replace hx467_0 := bC HB.out hx467_0; replace hx467_1 := bC HB.out hx467_1; replace hx467_2 := bC HB.out hx467_2; obtain ⟨hnb8, hnc8⟩ := nD NB465_466; obtain ⟨hcz9_0, hcz9_1, hfz9_0, hfz9_1⟩ := z2 BK465.out; obtain ⟨hcz10_0, hcz10_1, hfz10_0, hfz10_1⟩ := z2 BK466.out) | (go_at_call 96; (with_reducible refine (spec_l00Min.calls a1_0 a2_0 t468 _ A5.out).mono ?_); rintro e w' ⟨rfl, ⟨nd, rfl⟩⟩; (try exact eW))))
  go_ret; exact ⟨eE, sW HB.out⟩
 ·
  exact absurd H (by simp)

-- NOT PRINTED: function 35 (spec_l03Weakest)
mutual
def spec_l03WeakestAt.l0 : Nat → List (S47) → List (S28) → ByteArray → Int → Int → Int → Option (ByteArray × Int × Int)
 | 0, _, _, _, _, _, _ => none
 | k + 1, x0, x1, x7, x8, x9, x10 => if 0 < (x1.length : Int) then (if x10 < (((rd_T28 x1 0).f0).length : Int) then (if 0 ≤ x10 then (if (wrap64 (1000 * ((rd_T58 ((rd_T28 x1 0).f0) x10).f0))) < x9 then (spec_l03WeakestAt.l0 k x0 x1 x7 x10 (wrap64 (1000 * ((rd_T58 ((rd_T28 x1 0).f0) x10).f0))) (wrap64 (x10 + 1))) else (spec_l03WeakestAt.l0 k x0 x1 x7 x8 x9 (wrap64 (x10 + 1)))) else (none)) else (spec_l03WeakestAt.l1 k x0 x1 x7 x8 x9 0)) else (none)
def spec_l03WeakestAt.l1 : Nat → List (S47) → List (S28) → ByteArray → Int → Int → Int → Option (ByteArray × Int × Int)
 | 0, _, _, _, _, _, _ => none
 | k + 1, x0, x1, x7, x8, x9, x11 => if 0 < (x1.length : Int) then (if x11 < (((rd_T28 x1 0).f1).length : Int) then (if 0 ≤ x11 then (if 0 ≤ (rd ((rd_T28 x1 0).f1) x11) then (if (rd ((rd_T28 x1 0).f1) x11) < (x0.length : Int) then (if x11 < (((rd_T28 x1 0).f0).length : Int) then (if 0 ≤ (wrap64 (x11 + 1)) then (if (wrap64 (x11 + 1)) < (((rd_T28 x1 0).f0).length : Int) then ((spec_l03JoinedAt.f [rd_T47 x0 (rd ((rd_T28 x1 0).f1) x11)] ((rd_T58 ((rd_T28 x1 0).f0) x11).f0) ((rd_T58 ((rd_T28 x1 0).f0) x11).f1) ((rd_T58 ((rd_T28 x1 0).f0) (wrap64 (x11 + 1))).f0) ((rd_T58 ((rd_T28 x1 0).f0) (wrap64 (x11 + 1))).f1)).bind fun t492 => (if t492 < x9 then (spec_l03WeakestAt.l1 k x0 x1 (⟨#[106, 111, 105, 110]⟩ : ByteArray) x11 t492 (wrap64 (x11 + 1))) else (spec_l03WeakestAt.l1 k x0 x1 x7 x8 x9 (wrap64 (x11 + 1))))) else (none)) else (none)) else (none)) else (none)) else (none)) else (none)) else (some (x7, x8, x9))) else (none)
end
def spec_l03WeakestAt.f (k : Nat) (l0 : List (S47)) (l1 : List (S28)) : Option (ByteArray × Int × Int) := if 0 < (l1.length : Int) then (if 0 < (((rd_T28 l1 0).f0).length : Int) then (spec_l03WeakestAt.l0 k l0 l1 (⟨#[112, 105, 101, 99, 101]⟩ : ByteArray) 0 (wrap64 (1000 * ((rd_T58 ((rd_T28 l1 0).f0) 0).f0))) 1) else (none)) else (none)
def spec_l03WeakestAt.T13 : Bool × List (List Nat × List Nat) := (true,[([],[]),([],[]),([1],[1]),([2],[2]),([3],[3]),([],[]),([4,5],[4,5]),([6],[6]),([0,7],[0,7]),([],[]),([9],[9]),([10],[10]),([11],[11]),([],[]),([12,13],[12,13]),([14],[14]),([],[]),([16],[16]),([17],[17]),([18],[18]),([],[]),([20],[20]),([19,21],[19,21]),([22],[22]),([8,15,23],[8,15,23]),([24,24,0,1,2,3,4,5,6,7,8,9,10,11,12,13,14,15,16,17,18,19,20,21,22,23,24],[24])])
def spec_l03WeakestAt.B13 : List Nat := [0,0,2,6,14,0,62,126,255,0,512,1536,3584,0,15872,32256,0,65536,196608,458752,0,1048576,4128768,8323072,16777215,33554431]
theorem spec_l03WeakestAt.tab13 : rtab .any (opsOf Tryz.f35 13) = spec_l03WeakestAt.T13 := by kernel_rfl
theorem spec_l03WeakestAt.bits13 : waitsOk spec_l03WeakestAt.T13.2 spec_l03WeakestAt.B13 = true := by kernel_rfl
theorem spec_l03WeakestAt.calls (k : Nat) (A0 : Option Addr) (c0 : Nat) (l0 : List (S47)) (A1 : Option Addr) (c1 : Nat) (l1 : List (S28)) (r1 : ByteArray) (r2 : Int) (r3 : Int) (w : World) (hr0 : Kd.C k47 w A0 l0.length l0) (hc0 : l0.length ≤ c0) (hr1 : Kd.C k28 w A1 l1.length l1) (hc1 : l1.length ≤ c1) (h : spec_l03WeakestAt.f k l0 l1 = some (r1, r2, r3)) :
  Calls Tryz.prog 35 #[.slice A0 l0.length c0, .pointer A1] w fun e w' => e = .returned (.tuple #[.string r1, .int .i64 r2, .int .i64 r3]) ∧ Below w.heap.size w w' := by
 have hu58 := Tryz.underlying58; have HR0 := aS hr0; have HC0 := aS hc0; clear hr0 hc0; have HR1 := aS hr1; have HC1 := aS hc1; clear hr1 hc1; have HB := aS (Below.refl w.heap.size w); have H := h; clear h; unfold spec_l03WeakestAt.f at H; replace H := iE H; rcases H with ⟨c3, H⟩ | ⟨c3, H⟩
 ·
  have c3b0 := decide_eq_true c3; have c3b1 : decide (0 < l1.length) = true := decide_eq_true (by omega); clear c3; replace H := iN H; obtain ⟨c4, H⟩ := H; have c4b0 := decide_eq_true c4; have c4b1 : decide (0 < ((rd_T28 l1 0).f0).length) = true := decide_eq_true (by omega); clear c4; have H' := aS H; clear H; have p477 : 0 ≤ (0 : Int) := (by omega); have q477 : 0 < (l1.length : Int) := sD; obtain ⟨ad477, A477_0, c477_0, A477_1, c477_1, e477, hx477_0, hx477_1, hl477_0, hi477_0, hl477_1, hi477_1⟩ := at_T28 HR1.out 0 p477 q477; cases e477; have qi477 : (0 < l1.length) = True := eq_true (by omega); (try rw [show ((0 : Int)).toNat = 0 from rfl] at hx477_0); (try rw [show 0 * 2 = 0 from rfl] at hx477_0); (try rw [Addr.add_zero'] at hx477_0); (try rw [show ((0 : Int)).toNat = 0 from rfl] at hx477_1); (try rw [show 0 * 2 = 0 from rfl] at hx477_1); (try rw [Addr.add_zero'] at hx477_1); have HR477_0 := aS hi477_0; have HC477_0 := aS hl477_0; clear hi477_0 hl477_0; have HR477_1 := aS hi477_1; have HC477_1 := aS hl477_1; clear hi477_1 hl477_1; have p478 : 0 ≤ (0 : Int) := (by omega); have q478 : 0 < (((rd_T28 l1 0).f0).length : Int) := sD; obtain ⟨ad478, e478, hx478_0, hx478_1⟩ := at_T58 HR477_0.out 0 p478 q478; cases e478; have qi478 : (0 < ((rd_T28 l1 0).f0).length) = True := eq_true (by omega); (try rw [show ((0 : Int)).toNat = 0 from rfl] at hx478_0); (try rw [show 0 * 2 = 0 from rfl] at hx478_0); (try rw [Addr.add_zero'] at hx478_0); (try rw [show ((0 : Int)).toNat = 0 from rfl] at hx478_1); (try rw [show 0 * 2 = 0 from rfl] at hx478_1); (try rw [Addr.add_zero'] at hx478_1); go_enter Tryz.func35, Tryz.ntmps35; go_wp2
  go_loopg [8, 9, 10] k (fun kq v8 v9 v10 w' => ∃ (x8_1 : Int) (x9_1 : Int) (x10_1 : Int), v8 = .int .i64 x8_1 ∧ v9 = .int .i64 x9_1 ∧ v10 = .int .i64 x10_1 ∧ Aside0 (spec_l03WeakestAt.l0 kq l0 l1 (⟨#[112, 105, 101, 99, 101]⟩ : ByteArray) x8_1 x9_1 x10_1 = some (r1, r2, r3)) ∧ Aside0 (kq ≤ k) ∧ Aside0 (Below w.heap.size w w'))
  case atStart => exact ⟨(0), (wrap64 (1000 * ((rd_T58 ((rd_T28 l1 0).f0) 0).f0))), (1), eV, eV, eV, H', ⟨Nat.le_refl _⟩, (aS (sW HB.out))⟩
  case round =>
   clear H'; (try clear hx4); (try clear hx477_0); (try clear hx477_1); (try clear hx478_0); (try clear hx478_1); obtain ⟨x8_1, x9_1, x10_1, rfl, rfl, rfl, HA, HK1, HB⟩ := hrel; cases gk with
   | zero => exact absurd HA.out (by simp [spec_l03WeakestAt.l0])
   | succ k1 =>
    have H := HA.out; clear HA; simp only [spec_l03WeakestAt.l0] at H; replace H := iN H; obtain ⟨c5, H⟩ := H; have c5b0 := decide_eq_true c5; have c5b1 : decide (0 < l1.length) = true := decide_eq_true (by omega); clear c5; replace H := iD H; rcases H with ⟨c6b0, H⟩ | ⟨c6b0, H⟩
    ·
     replace H := iN H; obtain ⟨c7, H⟩ := H; have c7b0 := decide_eq_true c7; clear c7; replace H := iD H; rcases H with ⟨c8b0, H⟩ | ⟨c8b0, H⟩; rotate_left
     ·
      have H' := aS H; clear H; have p479 : 0 ≤ (0 : Int) := (by omega); have q479 : 0 < (l1.length : Int) := sD; obtain ⟨ad479, A479_0, c479_0, A479_1, c479_1, e479, hx479_0, hx479_1, hl479_0, hi479_0, hl479_1, hi479_1⟩ := at_T28 HR1.out 0 p479 q479; obtain rfl : ad477 = ad479 := (by injection e479); have qi479 : (0 < l1.length) = True := eq_true (by omega); (try rw [show ((0 : Int)).toNat = 0 from rfl] at hx479_0); (try rw [show 0 * 2 = 0 from rfl] at hx479_0); (try rw [Addr.add_zero'] at hx479_0); (try rw [show ((0 : Int)).toNat = 0 from rfl] at hx479_1); (try rw [show 0 * 2 = 0 from rfl] at hx479_1); (try rw [Addr.add_zero'] at hx479_1); replace hx479_0 := bC HB.out hx479_0; replace hx479_1 := bC HB.out hx479_1; have HR479_0 := aS hi479_0; have HC479_0 := aS hl479_0; clear hi479_0 hl479_0; have HR479_1 := aS hi479_1; have HC479_1 := aS hl479_1; clear hi479_1 hl479_1; have p480 : 0 ≤ (0 : Int) := (by omega); have q480 : 0 < (l1.length : Int) := sD; obtain ⟨ad480, A480_0, c480_0, A480_1, c480_1, e480, hx480_0, hx480_1, hl480_0, hi480_0, hl480_1, hi480_1⟩ := at_T28 HR1.out 0 p480 q480; obtain rfl : ad477 = ad480 := (by injection e480); have qi480 : (0 < l1.length) = True := eq_true (by omega); (try rw [show ((0 : Int)).toNat = 0 from rfl] at hx480_0); (try rw [show 0 * 2 = 0 from rfl] at hx480_0); (try rw [Addr.add_zero'] at hx480_0); (try rw [show ((0 : Int)).toNat = 0 from rfl] at hx480_1); (try rw [show 0 * 2 = 0 from rfl] at hx480_1); (try rw [Addr.add_zero'] at hx480_1); replace hx480_0 := bC HB.out hx480_0; replace hx480_1 := bC HB.out hx480_1; have HR480_0 := aS hi480_0; have HC480_0 := aS hl480_0; clear hi480_0 hl480_0; have HR480_1 := aS hi480_1; have HC480_1 := aS hl480_1; clear hi480_1 hl480_1; have ea_ := Option.some.inj (hx479_0.symm.trans hx480_0)
      injection ea_ with ea_ en_ ec_
      subst ea_; subst ec_; clear en_; have ea_ := Option.some.inj (hx479_1.symm.trans hx480_1)
      injection ea_ with ea_ en_ ec_
      subst ea_; subst ec_; clear en_; have p481 : 0 ≤ (x10_1 : Int) := sD; have q481 : x10_1 < (((rd_T28 l1 0).f0).length : Int) := sD; obtain ⟨ad481, e481, hx481_0, hx481_1⟩ := at_T58 HR480_0.out x10_1 p481 q481; cases e481; replace hx481_0 := bC HB.out hx481_0; replace hx481_1 := bC HB.out hx481_1; go_wp2
      go_roundg k1
      case measure => have := HK1.out; omega
      case rel => exact ⟨(x8_1), (x9_1), (wrap64 (x10_1 + 1)), eV, eV, eV, H', ⟨by have := HK1.out; omega⟩, (aS (sW HB.out))⟩
     have H' := aS H; clear H; have p479 : 0 ≤ (0 : Int) := (by omega); have q479 : 0 < (l1.length : Int) := sD; obtain ⟨ad479, A479_0, c479_0, A479_1, c479_1, e479, hx479_0, hx479_1, hl479_0, hi479_0, hl479_1, hi479_1⟩ := at_T28 HR1.out 0 p479 q479; obtain rfl : ad477 = ad479 := (by injection e479); have qi479 : (0 < l1.length) = True := eq_true (by omega); (try rw [show ((0 : Int)).toNat = 0 from rfl] at hx479_0); (try rw [show 0 * 2 = 0 from rfl] at hx479_0); (try rw [Addr.add_zero'] at hx479_0); (try rw [show ((0 : Int)).toNat = 0 from rfl] at hx479_1); (try rw [show 0 * 2 = 0 from rfl] at hx479_1); (try rw [Addr.add_zero'] at hx479_1); replace hx479_0 := bC HB.out hx479_0; replace hx479_1 := bC HB.out hx479_1; have HR479_0 := aS hi479_0; have HC479_0 := aS hl479_0; clear hi479_0 hl479_0; have HR479_1 := aS hi479_1; have HC479_1 := aS hl479_1; clear hi479_1 hl479_1; have p480 : 0 ≤ (0 : Int) := (by omega); have q480 : 0 < (l1.length : Int) := sD; obtain ⟨ad480, A480_0, c480_0, A480_1, c480_1, e480, hx480_0, hx480_1, hl480_0, hi480_0, hl480_1, hi480_1⟩ := at_T28 HR1.out 0 p480 q480; obtain rfl : ad477 = ad480 := (by injection e480); have qi480 : (0 < l1.length) = True := eq_true (by omega); (try rw [show ((0 : Int)).toNat = 0 from rfl] at hx480_0); (try rw [show 0 * 2 = 0 from rfl] at hx480_0); (try rw [Addr.add_zero'] at hx480_0); (try rw [show ((0 : Int)).toNat = 0 from rfl] at hx480_1); (try rw [show 0 * 2 = 0 from rfl] at hx480_1); (try rw [Addr.add_zero'] at hx480_1); replace hx480_0 := bC HB.out hx480_0; replace hx480_1 := bC HB.out hx480_1; have HR480_0 := aS hi480_0; have HC480_0 := aS hl480_0; clear hi480_0 hl480_0; have HR480_1 := aS hi480_1; have HC480_1 := aS hl480_1; clear hi480_1 hl480_1; have ea_ := Option.some.inj (hx479_0.symm.trans hx480_0)
     injection ea_ with ea_ en_ ec_
     subst ea_; subst ec_; clear en_; have ea_ := Option.some.inj (hx479_1.symm.trans hx480_1)
     injection ea_ with ea_ en_ ec_
     subst ea_; subst ec_; clear en_; have p481 : 0 ≤ (x10_1 : Int) := sD; have q481 : x10_1 < (((rd_T28 l1 0).f0).length : Int) := sD; obtain ⟨ad481, e481, hx481_0, hx481_1⟩ := at_T58 HR480_0.out x10_1 p481 q481; cases e481; replace hx481_0 := bC HB.out hx481_0; replace hx481_1 := bC HB.out hx481_1; have p482 : 0 ≤ (0 : Int) := (by omega); have q482 : 0 < (l1.length : Int) := sD; obtain ⟨ad482, A482_0, c482_0, A482_1, c482_1, e482, hx482_0, hx482_1, hl482_0, hi482_0, hl482_1, hi482_1⟩ := at_T28 HR1.out 0 p482 q482; obtain rfl : ad477 = ad482 := (by injection e482); have qi482 : (0 < l1.length) = True := eq_true (by omega); (try rw [show ((0 : Int)).toNat = 0 from rfl] at hx482_0); (try rw [show 0 * 2 = 0 from rfl] at hx482_0); (try rw [Addr.add_zero'] at hx482_0); (try rw [show ((0 : Int)).toNat = 0 from rfl] at hx482_1); (try rw [show 0 * 2 = 0 from rfl] at hx482_1); (try rw [Addr.add_zero'] at hx482_1); replace hx482_0 := bC HB.out hx482_0; replace hx482_1 := bC HB.out hx482_1; have HR482_0 := aS hi482_0; have HC482_0 := aS hl482_0; clear hi482_0 hl482_0; have HR482_1 := aS hi482_1; have HC482_1 := aS hl482_1; clear hi482_1 hl482_1; have ea_ := Option.some.inj (hx479_0.symm.trans hx482_0)
     injection ea_ with ea_ en_ ec_
     subst ea_; subst ec_; clear en_; have ea_ := Option.some.inj (hx479_1.symm.trans hx482_1)
     injection ea_ with ea_ en_ ec_
     subst ea_; subst ec_; clear en_; have p483 : 0 ≤ (x10_1 : Int) := sD; have q483 : x10_1 < (((rd_T28 l1 0).f0).length : Int) := sD; obtain ⟨ad483, e483, hx483_0, hx483_1⟩ := at_T58 HR482_0.out x10_1 p483 q483; cases e483; replace hx483_0 := bC HB.out hx483_0; replace hx483_1 := bC HB.out hx483_1; go_wp2
     go_roundg k1
     case measure => have := HK1.out; omega
     case rel => exact ⟨(x10_1), (wrap64 (1000 * ((rd_T58 ((rd_T28 l1 0).f0) x10_1).f0))), (wrap64 (x10_1 + 1)), eV, eV, eV, H', ⟨by have := HK1.out; omega⟩, (aS (sW HB.out))⟩
    have H' := aS H; clear H; have p479 : 0 ≤ (0 : Int) := (by omega); have q479 : 0 < (l1.length : Int) := sD; obtain ⟨ad479, A479_0, c479_0, A479_1, c479_1, e479, hx479_0, hx479_1, hl479_0, hi479_0, hl479_1, hi479_1⟩ := at_T28 HR1.out 0 p479 q479; obtain rfl : ad477 = ad479 := (by injection e479); have qi479 : (0 < l1.length) = True := eq_true (by omega); (try rw [show ((0 : Int)).toNat = 0 from rfl] at hx479_0); (try rw [show 0 * 2 = 0 from rfl] at hx479_0); (try rw [Addr.add_zero'] at hx479_0); (try rw [show ((0 : Int)).toNat = 0 from rfl] at hx479_1); (try rw [show 0 * 2 = 0 from rfl] at hx479_1); (try rw [Addr.add_zero'] at hx479_1); replace hx479_0 := bC HB.out hx479_0; replace hx479_1 := bC HB.out hx479_1; have HR479_0 := aS hi479_0; have HC479_0 := aS hl479_0; clear hi479_0 hl479_0; have HR479_1 := aS hi479_1; have HC479_1 := aS hl479_1; clear hi479_1 hl479_1; go_wp2
    go_loopg [7, 8, 9, 11] k1 (fun kq v7 v8 v9 v11 w' => ∃ (x7_2 : ByteArray) (x8_2 : Int) (x9_2 : Int) (x11_2 : Int), v7 = .string x7_2 ∧ v8 = .int .i64 x8_2 ∧ v9 = .int .i64 x9_2 ∧ v11 = .int .i64 x11_2 ∧ Aside0 (spec_l03WeakestAt.l1 kq l0 l1 x7_2 x8_2 x9_2 x11_2 = some (r1, r2, r3)) ∧ Aside0 (kq ≤ k1) ∧ Aside0 (Below w.heap.size w w'))
    case atStart => exact ⟨((⟨#[112, 105, 101, 99, 101]⟩ : ByteArray)), (x8_1), (x9_1), (0), eV, eV, eV, eV, H', ⟨Nat.le_refl _⟩, (aS (sW HB.out))⟩
    case round =>
     clear H'; (try clear hx4); (try clear hx477_0); (try clear hx477_1); (try clear hx478_0); (try clear hx478_1); (try clear hx479_0); (try clear hx479_1); (try clear hx480_0); (try clear hx480_1); (try clear hx481_0); (try clear hx481_1); (try clear hx482_0); (try clear hx482_1); (try clear hx483_0); (try clear hx483_1); obtain ⟨x7_2, x8_2, x9_2, x11_2, rfl, rfl, rfl, rfl, HA, HK2, HB⟩ := hrel; cases gk with
     | zero => exact absurd HA.out (by simp [spec_l03WeakestAt.l1])
     | succ k2 =>
      have H := HA.out; clear HA; simp only [spec_l03WeakestAt.l1] at H; replace H := iN H; obtain ⟨c9, H⟩ := H; have c9b0 := decide_eq_true c9; have c9b1 : decide (0 < l1.length) = true := decide_eq_true (by omega); clear c9; replace H := iD H; rcases H with ⟨c10b0, H⟩ | ⟨c10b0, H⟩; rotate_left
      ·
       simp only [Option.some.injEq, Prod.mk.injEq] at H; obtain ⟨rfl, rfl, rfl⟩ := H; have p484 : 0 ≤ (0 : Int) := (by omega); have q484 : 0 < (l1.length : Int) := sD; obtain ⟨ad484, A484_0, c484_0, A484_1, c484_1, e484, hx484_0, hx484_1, hl484_0, hi484_0, hl484_1, hi484_1⟩ := at_T28 HR1.out 0 p484 q484; obtain rfl : ad477 = ad484 := (by injection e484); have qi484 : (0 < l1.length) = True := eq_true (by omega); (try rw [show ((0 : Int)).toNat = 0 from rfl] at hx484_0); (try rw [show 0 * 2 = 0 from rfl] at hx484_0); (try rw [Addr.add_zero'] at hx484_0); (try rw [show ((0 : Int)).toNat = 0 from rfl] at hx484_1); (try rw [show 0 * 2 = 0 from rfl] at hx484_1); (try rw [Addr.add_zero'] at hx484_1); replace hx484_0 := bC HB.out hx484_0; replace hx484_1 := bC HB.out hx484_1; have HR484_0 := aS hi484_0; have HC484_0 := aS hl484_0; clear hi484_0 hl484_0; have HR484_1 := aS hi484_1; have HC484_1 := aS hl484_1; clear hi484_1 hl484_1; go_wp2
       go_ret3
       exact ⟨eE, sW HB.out⟩
      replace H := iN H; obtain ⟨c11, H⟩ := H; have c11b0 := decide_eq_true c11; clear c11; replace H := iN H; obtain ⟨c12, H⟩ := H; have c12b0 := decide_eq_true c12; clear c12; replace H := iN H; obtain ⟨c13, H⟩ := H; have c13b0 := decide_eq_true c13; clear c13; replace H := iN H; obtain ⟨c14, H⟩ := H; have c14b0 := decide_eq_true c14; clear c14; obtain ⟨ji15, hji15⟩ : ∃ j_ : Int, (wrap64 (x11_2 + 1)) = j_ := ⟨_, rfl⟩; replace H : (if 0 ≤ (ji15) then (if (ji15) < (((rd_T28 l1 0).f0).length : Int) then ((spec_l03JoinedAt.f [rd_T47 l0 (rd ((rd_T28 l1 0).f1) x11_2)] ((rd_T58 ((rd_T28 l1 0).f0) x11_2).f0) ((rd_T58 ((rd_T28 l1 0).f0) x11_2).f1) ((rd_T58 ((rd_T28 l1 0).f0) (ji15)).f0) ((rd_T58 ((rd_T28 l1 0).f0) (ji15)).f1)).bind fun t492 => (if t492 < x9_2 then (spec_l03WeakestAt.l1 k2 l0 l1 (⟨#[106, 111, 105, 110]⟩ : ByteArray) x11_2 t492 ji15) else (spec_l03WeakestAt.l1 k2 l0 l1 x7_2 x8_2 x9_2 ji15))) else (none)) else (none)) = some (r1, r2, r3) := by first | (rw [hji15] at H; exact H) | (simp only [hji15] at H ⊢; exact H)
      have hji15w : (IntKind.i64.wrap (x11_2 + 1)) = ji15 := (i64_w _).trans hji15; replace H := iN H; obtain ⟨c16, H⟩ := H; have c16b0 := decide_eq_true c16; clear c16; replace H := iN H; obtain ⟨c17, H⟩ := H; have c17b0 := decide_eq_true c17; clear c17; replace H := bE H; obtain ⟨t492, A18, H⟩ := H; try dsimp only at H
      have HC19 := aS H; clear H; have p484 : 0 ≤ (0 : Int) := (by omega); have q484 : 0 < (l1.length : Int) := sD; obtain ⟨ad484, A484_0, c484_0, A484_1, c484_1, e484, hx484_0, hx484_1, hl484_0, hi484_0, hl484_1, hi484_1⟩ := at_T28 HR1.out 0 p484 q484; obtain rfl : ad477 = ad484 := (by injection e484); have qi484 : (0 < l1.length) = True := eq_true (by omega); (try rw [show ((0 : Int)).toNat = 0 from rfl] at hx484_0); (try rw [show 0 * 2 = 0 from rfl] at hx484_0); (try rw [Addr.add_zero'] at hx484_0); (try rw [show ((0 : Int)).toNat = 0 from rfl] at hx484_1); (try rw [show 0 * 2 = 0 from rfl] at hx484_1); (try rw [Addr.add_zero'] at hx484_1); replace hx484_0 := bC HB.out hx484_0; replace hx484_1 := bC HB.out hx484_1; have HR484_0 := aS hi484_0; have HC484_0 := aS hl484_0; clear hi484_0 hl484_0; have HR484_1 := aS hi484_1; have HC484_1 := aS hl484_1; clear hi484_1 hl484_1
      try go_wp2
      replace HB := aS (below_drew1 HB.out); have p485 : 0 ≤ (0 : Int) := (by omega); have q485 : 0 < (l1.length : Int) := sD; obtain ⟨ad485, A485_0, c485_0, A485_1, c485_1, e485, hx485_0, hx485_1, hl485_0, hi485_0, hl485_1, hi485_1⟩ := at_T28 HR1.out 0 p485 q485; have hw485_1 := hx485_1; (try rw [show ((0 : Int)).toNat = 0 from rfl] at hw485_1); (try rw [show 0 * 2 = 0 from rfl] at hw485_1); (try rw [Addr.add_zero'] at hw485_1); have hw485_0 := hx485_0; (try rw [show ((0 : Int)).toNat = 0 from rfl] at hw485_0); (try rw [show 0 * 2 = 0 from rfl] at hw485_0); (try rw [Addr.add_zero'] at hw485_0); obtain rfl : ad477 = ad485 := (by injection e485); have qi485 : (0 < l1.length) = True := eq_true (by omega); (try rw [show ((0 : Int)).toNat = 0 from rfl] at hx485_0); (try rw [show 0 * 2 = 0 from rfl] at hx485_0); (try rw [Addr.add_zero'] at hx485_0); (try rw [show ((0 : Int)).toNat = 0 from rfl] at hx485_1); (try rw [show 0 * 2 = 0 from rfl] at hx485_1); (try rw [Addr.add_zero'] at hx485_1); replace hx485_0 := bC HB.out hx485_0; replace hx485_1 := bC HB.out hx485_1; have HR485_0 := aS hi485_0; have HC485_0 := aS hl485_0; clear hi485_0 hl485_0; have HR485_1 := aS hi485_1; have HC485_1 := aS hl485_1; clear hi485_1 hl485_1; have p486 : 0 ≤ (x11_2 : Int) := sD; have q486 : x11_2 < (((rd_T28 l1 0).f1).length : Int) := sD; obtain ⟨ad486, e486, hx486_0⟩ := Kd.at_int HR485_1.out x11_2 p486 q486; have hw486_0 := hx486_0; cases e486; replace hx486_0 := bC HB.out hx486_0; have p487 : 0 ≤ ((rd ((rd_T28 l1 0).f1) x11_2) : Int) := sD; have q487 : (rd ((rd_T28 l1 0).f1) x11_2) < (l0.length : Int) := sD; obtain ⟨ad487, e487, hx487_0, hx487_1, hx487_2⟩ := at_T47 HR0.out (rd ((rd_T28 l1 0).f1) x11_2) p487 q487; have hw487_2 := hx487_2; have hw487_1 := hx487_1; have hw487_0 := hx487_0; cases e487; replace hx487_0 := bC HB.out hx487_0; replace hx487_1 := bC HB.out hx487_1; replace hx487_2 := bC HB.out hx487_2; have p488 : 0 ≤ (0 : Int) := (by omega); have q488 : 0 < (l1.length : Int) := sD; obtain ⟨ad488, A488_0, c488_0, A488_1, c488_1, e488, hx488_0, hx488_1, hl488_0, hi488_0, hl488_1, hi488_1⟩ := at_T28 HR1.out 0 p488 q488; have hw488_1 := hx488_1; (try rw [show ((0 : Int)).toNat = 0 from rfl] at hw488_1); (try rw [show 0 * 2 = 0 from rfl] at hw488_1); (try rw [Addr.add_zero'] at hw488_1); have hw488_0 := hx488_0; (try rw [show ((0 : Int)).toNat = 0 from rfl] at hw488_0); (try rw [show 0 * 2 = 0 from rfl] at hw488_0); (try rw [Addr.add_zero'] at hw488_0); obtain rfl : ad477 = ad488 := (by injection e488); have qi488 : (0 < l1.length) = True := eq_true (by omega); (try rw [show ((0 : Int)).toNat = 0 from rfl] at hx488_0); (try rw [show 0 * 2 = 0 from rfl] at hx488_0); (try rw [Addr.add_zero'] at hx488_0); (try rw [show ((0 : Int)).toNat = 0 from rfl] at hx488_1); (try rw [show 0 * 2 = 0 from rfl] at hx488_1); (try rw [Addr.add_zero'] at hx488_1); replace hx488_0 := bC HB.out hx488_0; replace hx488_1 := bC HB.out hx488_1; have HR488_0 := aS hi488_0; have HC488_0 := aS hl488_0; clear hi488_0 hl488_0; have HR488_1 := aS hi488_1; have HC488_1 := aS hl488_1; clear hi488_1 hl488_1; have ea_ := Option.some.inj (hx485_0.symm.trans hx488_0)
      injection ea_ with ea_ en_ ec_
      subst ea_; subst ec_; clear en_; have ea_ := Option.some.inj (hx485_1.symm.trans hx488_1)
      injection ea_ with ea_ en_ ec_
      subst ea_; subst ec_; clear en_; have p489 : 0 ≤ (x11_2 : Int) := sD; have q489 : x11_2 < (((rd_T28 l1 0).f0).length : Int) := sD; obtain ⟨ad489, e489, hx489_0, hx489_1⟩ := at_T58 HR488_0.out x11_2 p489 q489; have hw489_1 := hx489_1; have hw489_0 := hx489_0; cases e489; replace hx489_0 := bC HB.out hx489_0; replace hx489_1 := bC HB.out hx489_1; have p490 : 0 ≤ (0 : Int) := (by omega); have q490 : 0 < (l1.length : Int) := sD; obtain ⟨ad490, A490_0, c490_0, A490_1, c490_1, e490, hx490_0, hx490_1, hl490_0, hi490_0, hl490_1, hi490_1⟩ := at_T28 HR1.out 0 p490 q490; have hw490_1 := hx490_1; (try rw [show ((0 : Int)).toNat = 0 from rfl] at hw490_1); (try rw [show 0 * 2 = 0 from rfl] at hw490_1); (try rw [Addr.add_zero'] at hw490_1); have hw490_0 := hx490_0; (try rw [show ((0 : Int)).toNat = 0 from rfl] at hw490_0); (try rw [show 0 * 2 = 0 from rfl] at hw490_0); (try rw [Addr.add_zero'] at hw490_0); obtain rfl : ad477 = ad490 := (by injection e490); have qi490 : (0 < l1.length) = True := eq_true (by omega); (try rw [show ((0 : Int)).toNat = 0 from rfl] at hx490_0); (try rw [show 0 * 2 = 0 from rfl] at hx490_0); (try rw [Addr.add_zero'] at hx490_0); (try rw [show ((0 : Int)).toNat = 0 from rfl] at hx490_1); (try rw [show 0 * 2 = 0 from rfl] at hx490_1); (try rw [Addr.add_zero'] at hx490_1); replace hx490_0 := bC HB.out hx490_0; replace hx490_1 := bC HB.out hx490_1; have HR490_0 := aS hi490_0; have HC490_0 := aS hl490_0; clear hi490_0 hl490_0; have HR490_1 := aS hi490_1; have HC490_1 := aS hl490_1; clear hi490_1 hl490_1; have ea_ := Option.some.inj (hx485_0.symm.trans hx490_0)
      injection ea_ with ea_ en_ ec_
      subst ea_; subst ec_; clear en_; have ea_ := Option.some.inj (hx485_1.symm.trans hx490_1)
      injection ea_ with ea_ en_ ec_
      subst ea_; subst ec_; clear en_; have p491 : 0 ≤ ((ji15) : Int) := sD; have q491 : (ji15) < (((rd_T28 l1 0).f0).length : Int) := sD; obtain ⟨ad491, e491, hx491_0, hx491_1⟩ := at_T58 HR490_0.out (ji15) p491 q491; have hw491_1 := hx491_1; have hw491_0 := hx491_0; cases e491; replace hx491_0 := bC HB.out hx491_0; replace hx491_1 := bC HB.out hx491_1; refine start_ (n := 26) (S := fun w' => w'.cell? ad477 = some (.slice (some ad489) ((rd_T28 l1 0).f0).length c485_0) ∧ w'.cell? ⟨ad477.block, ad477.off + 1, none⟩ = some (.slice (some ad486) ((rd_T28 l1 0).f1).length c485_1) ∧ w'.cell? (ad486.add (x11_2).toNat) = some (.int .i64 (rd ((rd_T28 l1 0).f1) x11_2)) ∧ w'.cell? (ad487.add (((rd ((rd_T28 l1 0).f1) x11_2)).toNat * 3)) = some (.string ((rd_T47 l0 (rd ((rd_T28 l1 0).f1) x11_2)).f0)) ∧ w'.cell? ⟨(ad487.add (((rd ((rd_T28 l1 0).f1) x11_2)).toNat * 3)).block, (ad487.add (((rd ((rd_T28 l1 0).f1) x11_2)).toNat * 3)).off + 1, none⟩ = some (.int .i64 ((rd_T47 l0 (rd ((rd_T28 l1 0).f1) x11_2)).f1)) ∧ w'.cell? ⟨(ad487.add (((rd ((rd_T28 l1 0).f1) x11_2)).toNat * 3)).block, (ad487.add (((rd ((rd_T28 l1 0).f1) x11_2)).toNat * 3)).off + 2, none⟩ = some (.int .i64 ((rd_T47 l0 (rd ((rd_T28 l1 0).f1) x11_2)).f2)) ∧ w'.cell? ad477 = some (.slice (some ad489) ((rd_T28 l1 0).f0).length c485_0) ∧ w'.cell? ⟨ad477.block, ad477.off + 1, none⟩ = some (.slice (some ad486) ((rd_T28 l1 0).f1).length c485_1) ∧ w'.cell? (ad489.add ((x11_2).toNat * 2)) = some (.int .i64 ((rd_T58 ((rd_T28 l1 0).f0) x11_2).f0)) ∧ w'.cell? ⟨(ad489.add ((x11_2).toNat * 2)).block, (ad489.add ((x11_2).toNat * 2)).off + 1, none⟩ = some (.int .i64 ((rd_T58 ((rd_T28 l1 0).f0) x11_2).f1)) ∧ w'.cell? ad477 = some (.slice (some ad489) ((rd_T28 l1 0).f0).length c485_0) ∧ w'.cell? ⟨ad477.block, ad477.off + 1, none⟩ = some (.slice (some ad486) ((rd_T28 l1 0).f1).length c485_1) ∧ w'.cell? (ad489.add (((ji15)).toNat * 2)) = some (.int .i64 ((rd_T58 ((rd_T28 l1 0).f0) (ji15)).f0)) ∧ w'.cell? ⟨(ad489.add (((ji15)).toNat * 2)).block, (ad489.add (((ji15)).toNat * 2)).off + 1, none⟩ = some (.int .i64 ((rd_T58 ((rd_T28 l1 0).f0) (ji15)).f1))) (ds := []) _ (by kernel_rfl) rfl rfl ⟨((HB.out.cell (World.block_lt_of_cell? w _ hw485_0)).trans hw485_0), ((HB.out.cell (World.block_lt_of_cell? w _ hw485_1)).trans hw485_1), ((HB.out.cell (World.block_lt_of_cell? w _ hw486_0)).trans hw486_0), ((HB.out.cell (World.block_lt_of_cell? w _ hw487_0)).trans hw487_0), ((HB.out.cell (World.block_lt_of_cell? w _ hw487_1)).trans hw487_1), ((HB.out.cell (World.block_lt_of_cell? w _ hw487_2)).trans hw487_2), ((HB.out.cell (World.block_lt_of_cell? w _ hw488_0)).trans hw488_0), ((HB.out.cell (World.block_lt_of_cell? w _ hw488_1)).trans hw488_1), ((HB.out.cell (World.block_lt_of_cell? w _ hw489_0)).trans hw489_0), ((HB.out.cell (World.block_lt_of_cell? w _ hw489_1)).trans hw489_1), ((HB.out.cell (World.block_lt_of_cell? w _ hw490_0)).trans hw490_0), ((HB.out.cell (World.block_lt_of_cell? w _ hw490_1)).trans hw490_1), ((HB.out.cell (World.block_lt_of_cell? w _ hw491_0)).trans hw491_0), ((HB.out.cell (World.block_lt_of_cell? w _ hw491_1)).trans hw491_1)⟩ (fun hHeld => ?_); refine with_tabW spec_l03WeakestAt.tab13 spec_l03WeakestAt.bits13 (fun HT_ HW_ => ?_); generalize wr.drew = w20 at HB HR485_0 HR485_1 HR488_0 HR488_1 HR490_0 HR490_1 hx485_0 hx485_1 hx486_0 hx487_0 hx487_1 hx487_2 hx488_0 hx488_1 hx489_0 hx489_1 hx490_0 hx490_1 hx491_0 hx491_1 hHeld ⊢; refine pX 0 60 ?_; refine pX 1 61 ?_; refine pX 2 62 ?_; refine pX 3 63 ?_; refine pX 5 65 ?_; refine pX 9 69 ?_; refine pX 10 70 ?_; refine pX 11 71 ?_; refine pX 13 73 ?_; refine pX 16 76 ?_; refine pX 17 77 ?_; refine pX 18 78 ?_; refine pX 20 80 ?_; refine pX 21 81 ?_; refine tX 4 64 ?_; refine pX 6 66 ?_; refine tX 7 67 ?_; refine pX 8 68 ?_; refine tX 12 72 ?_; refine pX 14 74 ?_; refine tX 15 75 ?_; refine tX 19 79 ?_; refine pX 22 82 ?_; refine tX 23 83 ?_; refine oX 24 (some 84) fun K hK => ?_
      refine goes_ Tryz.func72 (by kernel_rfl) rfl #[.pointer (some (ad487.add (((rd ((rd_T28 l1 0).f1) x11_2)).toNat * 3))), .agg #[.int .i64 ((rd_T58 ((rd_T28 l1 0).f0) x11_2).f0), .int .i64 ((rd_T58 ((rd_T28 l1 0).f0) x11_2).f1)], .agg #[.int .i64 ((rd_T58 ((rd_T28 l1 0).f0) (ji15)).f0), .int .i64 ((rd_T58 ((rd_T28 l1 0).f0) (ji15)).f1)]] (by rfl) rfl rfl (by (try simp only [List.map_toArray, List.map_cons, List.map_nil]); first | done | (simp only [hji15]; rfl) | rfl | (simp only [List.length_drop, List.length_take]; rfl)) ?_; with_reducible refine (spec_l03JoinedAt.calls _ 1 [rd_T47 l0 (rd ((rd_T28 l1 0).f1) x11_2)] ((rd_T58 ((rd_T28 l1 0).f0) x11_2).f0) ((rd_T58 ((rd_T28 l1 0).f0) x11_2).f1) ((rd_T58 ((rd_T28 l1 0).f0) (ji15)).f0) ((rd_T58 ((rd_T28 l1 0).f0) (ji15)).f1) t492 _ ?side1 ?side2 A18.out).mono ?_
      (case side1 => refine elem_C ?_ z47 (rd ((rd_T28 l1 0).f1) x11_2) (sD) (sD); repeat (first | exact (Kd.C_below HR0.out HB.out) | (with_reducible refine Kd.C_alloc ?_ _) | (with_reducible refine Kd.C_drewN ?_ _) | (with_reducible refine Kd.C_drew ?_))); (case side2 => exact Nat.le_refl _); rintro e w21 ⟨rfl, hb⟩; refine ⟨_, rfl, ?_⟩; replace HB := lW HB hb; refine hK.out _ _ ⟨((HB.out.cell (World.block_lt_of_cell? w _ hw485_0)).trans hw485_0), ((HB.out.cell (World.block_lt_of_cell? w _ hw485_1)).trans hw485_1), ((HB.out.cell (World.block_lt_of_cell? w _ hw486_0)).trans hw486_0), ((HB.out.cell (World.block_lt_of_cell? w _ hw487_0)).trans hw487_0), ((HB.out.cell (World.block_lt_of_cell? w _ hw487_1)).trans hw487_1), ((HB.out.cell (World.block_lt_of_cell? w _ hw487_2)).trans hw487_2), ((HB.out.cell (World.block_lt_of_cell? w _ hw488_0)).trans hw488_0), ((HB.out.cell (World.block_lt_of_cell? w _ hw488_1)).trans hw488_1), ((HB.out.cell (World.block_lt_of_cell? w _ hw489_0)).trans hw489_0), ((HB.out.cell (World.block_lt_of_cell? w _ hw489_1)).trans hw489_1), ((HB.out.cell (World.block_lt_of_cell? w _ hw490_0)).trans hw490_0), ((HB.out.cell (World.block_lt_of_cell? w _ hw490_1)).trans hw490_1), ((HB.out.cell (World.block_lt_of_cell? w _ hw491_0)).trans hw491_0), ((HB.out.cell (World.block_lt_of_cell? w _ hw491_1)).trans hw491_1)⟩ (fun hHeld => ?_); clear hK K; refine nX 84 ?_; refine pX 25 12 ?_; refine dX ?_
      go_upto_if 87 with (fail)
      have H := HC19.out; clear HC19; replace H := iD H; rcases H with ⟨c22b0, H⟩ | ⟨c22b0, H⟩; rotate_left
      ·
       (first | rw [c22b0] | (simp only [i64_w, i32_w]; rw [c22b0]) | (rw [c22b2]; simp only [Bool.not_false, Bool.not_true]) | rw [c22b1] | skip); have H' := aS H; clear H; go_wp2
       go_roundg k2
       case measure => have := HK1.out; have := HK2.out; omega
       case rel => exact ⟨(x7_2), (x8_2), (x9_2), (ji15), eV, eV, eV, (by first | rfl | (simp; done) | (simp only [← hji15] <;> (first | rfl | simp)) | (simp [*]; done) | (simp only [i64_w]; done) | (simp [i64_w]; done)), H', ⟨by have := HK1.out; have := HK2.out; omega⟩, (aS (sW HB.out))⟩
      (first | rw [c22b0] | (simp only [i64_w, i32_w]; rw [c22b0]) | (rw [c22b2]; simp only [Bool.not_false, Bool.not_true]) | rw [c22b1] | skip); have H' := aS H; clear H; go_wp2
      go_roundg k2
      case measure => have := HK1.out; have := HK2.out; omega
      case rel => exact ⟨((⟨#[106, 111, 105, 110]⟩ : ByteArray)), (x11_2), (t492), (ji15), eV, eV, eV, (by first | rfl | (simp; done) | (simp only [← hji15] <;> (first | rfl | simp)) | (simp [*]; done) | (simp only [i64_w]; done) | (simp [i64_w]; done)), H', ⟨by have := HK1.out; have := HK2.out; omega⟩, (aS (sW HB.out))⟩
 ·
  exact absurd H (by simp)
def spec_l00Gcd.l0 : Nat → Int → Int → Option (Int)
 | 0, _, _ => none
 | k + 1, x0, x1 => if x1 = 0 then (some x0) else (spec_l00Gcd.l0 k x1 (Int.tmod x0 x1))
def spec_l00Gcd.f (k : Nat) (a0 : Int) (a1 : Int) : Option (Int) := spec_l00Gcd.l0 k a0 a1
theorem spec_l00Gcd.calls (k : Nat) (a0 : Int) (a1 : Int) (r : Int) (w : World) (h : spec_l00Gcd.f k a0 a1 = some r) :
  Calls Tryz.prog 73 #[.int .i64 a0, .int .i64 a1] w fun e w' => e = .returned (.int .i64 r) ∧ Drawn0 w w' := by
 have H := h; clear h; unfold spec_l00Gcd.f at H; have H' := aS H; clear H; go_enter Tryz.func73, Tryz.ntmps73; go_wp2
 go_loopg [0, 1] k (fun kq v0 v1 w' => ∃ (x0_1 : Int) (x1_1 : Int), v0 = .int .i64 x0_1 ∧ v1 = .int .i64 x1_1 ∧ Aside0 (spec_l00Gcd.l0 kq x0_1 x1_1 = some r) ∧ Aside0 (kq ≤ k) ∧ Drawn0 w w')
 case atStart => exact ⟨(a0), (a1), eV, eV, H', ⟨Nat.le_refl _⟩, eD⟩
 case round =>
  clear H'; obtain ⟨x0_1, x1_1, rfl, rfl, HA, HK1, ⟨m1, rfl⟩⟩ := hrel; cases gk with
  | zero => exact absurd HA.out (by simp [spec_l00Gcd.l0])
  | succ k1 =>
   have H := HA.out; clear HA; simp only [spec_l00Gcd.l0] at H; replace H := iB H; rcases H with ⟨c3b0, c3b1, H⟩ | ⟨c3, c3b0, c3b1, H⟩
   ·
    obtain rfl := Option.some.inj H; go_wp2; go_ret; exact ⟨eV, eD⟩
   ·
    have H' := aS H; clear H; go_wp2
    go_roundg k1
    case measure => have := HK1.out; omega
    case rel => exact ⟨(x1_1), (Int.tmod x0_1 x1_1), eV, eV, H', ⟨by have := HK1.out; omega⟩, eD⟩

def spec_l00Size.f (a0 : Int) : Option (Int) := if a0 < 0 then (some (wrap64 (-a0))) else (some a0)
theorem spec_l00Size.calls (a0 : Int) (r : Int) (w : World) (h : spec_l00Size.f a0 = some r) :
  Calls Tryz.prog 74 #[.int .i64 a0] w fun e w' => e = .returned (.int .i64 r) ∧ Drawn0 w w' := by
 have H := h; clear h; unfold spec_l00Size.f at H; replace H := iD H; rcases H with ⟨c2b0, H⟩ | ⟨c2b0, H⟩
 ·
  obtain rfl := Option.some.inj H; go_enter Tryz.func74, Tryz.ntmps74; go_wp2; go_ret; exact ⟨eV, eD⟩
 ·
  obtain rfl := Option.some.inj H; go_enter Tryz.func74, Tryz.ntmps74; go_wp2; go_ret; exact ⟨eV, eD⟩

def spec_l01Make.f (k : Nat) (a0 : Int) (a1 : Int) : Option (Int × Int) := (spec_l00Size.f a0).bind fun t494 => ((spec_l00Gcd.f k t494 a1).bind fun t495 => (if t495 = 0 then (none) else (some (wrap64 (Int.tdiv a0 t495), wrap64 (Int.tdiv a1 t495)))))
def spec_l01Make.T2 : Bool × List (List Nat × List Nat) := (true,[([],[]),([],[]),([0,1],[0,1]),([],[]),([],[]),([3,4],[3,4]),([2,5],[2,5]),([6,0,1,2,3,4,5,6],[6])])
def spec_l01Make.B2 : List Nat := [0,0,3,0,0,24,63,127]
theorem spec_l01Make.tab2 : rtab .any (opsOf Tryz.f36 2) = spec_l01Make.T2 := by kernel_rfl
theorem spec_l01Make.bits2 : waitsOk spec_l01Make.T2.2 spec_l01Make.B2 = true := by kernel_rfl
theorem spec_l01Make.calls (k : Nat) (a0 : Int) (a1 : Int) (r1 : Int) (r2 : Int) (w : World) (h : spec_l01Make.f k a0 a1 = some (r1, r2)) :
  Calls Tryz.prog 36 #[.int .i64 a0, .int .i64 a1] w fun e w' => e = .returned (.agg #[.int .i64 r1, .int .i64 r2]) ∧ Below w.heap.size w w' := by
 have hu32 := Tryz.underlying32; have HB := aS (Below.refl w.heap.size w); have H := h; clear h; unfold spec_l01Make.f at H; replace H := bE H; obtain ⟨t494, A3, H⟩ := H; try dsimp only at H
 replace H := bE H; obtain ⟨t495, A4, H⟩ := H; try dsimp only at H
 replace H := iE H; rcases H with ⟨c5, H⟩ | ⟨c5, H⟩
 ·
  exact absurd H (by simp)
 ·
  have c5b0 := beq_eq_false_iff_ne.mpr c5; have c5b1 := bne_iff_ne.mpr c5; simp only [Option.some.injEq, Prod.mk.injEq] at H; obtain ⟨rfl, rfl⟩ := H; go_enter Tryz.func36, Tryz.ntmps36
  try go_wp2_with (first | ((with_reducible refine gt 4 rfl ?_); refine bx 4 #[.int .i64 0, .int .i64 0] 32 ?_; intro gb493 hg w6 hbox hb; have BK493 := aS (hbox); have GW493 := aS (gW hg (sW HB.out)); have GE493 := aS (gW hg (sW HB.out)); replace HB := lW HB hb; clear hb hbox hg) | ((with_reducible refine gk 74 rfl ?_); refine gC (some 7) rfl Tryz.func74 #[.int .i64 a0] (spec_l00Size.calls a0 t494 _ A3.out) ?_; rintro e w' ⟨rfl, ⟨nd, rfl⟩⟩; refine ⟨_, rfl, ?_⟩; (try (rw [drewN_self w6]; generalize hq_ : World.drewN w6 _ = w6; have n0_ : Aside0 (w6.heap[gb493]? = some (.cells #[.int .i64 0, .int .i64 0] 32 (0, 0))) := ⟨by rw [← hq_]; exact (sB BK493.out)⟩; have n1_ : Aside0 (Below w.heap.size w w6) := ⟨by rw [← hq_]; exact (sW HB.out)⟩; clear BK493 HB hq_; have BK493 := n0_; have HB := n1_; clear n0_ n1_)); (try (have hcu7_0 : w6.cell? ⟨gb493, 0, none⟩ = some (.int .i64 0) := bq BK493.out 0; have hfu7_0 := blk_frozen BK493.out 0; have hcu7_1 : w6.cell? ⟨gb493, 1, none⟩ = some (.int .i64 0) := bq BK493.out 1; have hfu7_1 := blk_frozen BK493.out 1))) | ((with_reducible refine gk 73 rfl ?_); refine gC (some 9) rfl Tryz.func73 #[.int .i64 t494, .int .i64 a1] (spec_l00Gcd.calls k t494 a1 t495 _ A4.out) ?_; rintro e w' ⟨rfl, ⟨nd, rfl⟩⟩; refine ⟨_, rfl, ?_⟩; (try (rw [drewN_self w6]; generalize hq_ : World.drewN w6 _ = w6; have n0_ : Aside0 (w6.heap[gb493]? = some (.cells #[.int .i64 0, .int .i64 0] 32 (0, 0))) := ⟨by rw [← hq_]; exact (sB BK493.out)⟩; have n1_ : Aside0 (Below w.heap.size w w6) := ⟨by rw [← hq_]; exact (sW HB.out)⟩; clear BK493 HB hq_; have BK493 := n0_; have HB := n1_; clear n0_ n1_)); (try (have hcu8_0 : w6.cell? ⟨gb493, 0, none⟩ = some (.int .i64 0) := bq BK493.out 0; have hfu8_0 := blk_frozen BK493.out 0; have hcu8_1 : w6.cell? ⟨gb493, 1, none⟩ = some (.int .i64 0) := bq BK493.out 1; have hfu8_1 := blk_frozen BK493.out 1))))
  replace BK493 := aS (blk_drew BK493.out); replace HB := aS (below_drew1 HB.out); refine start_ (n := 8) (S := fun w' => True) (ds := []) _ (by kernel_rfl) rfl rfl trivial (fun hHeld => ?_); refine with_tabW spec_l01Make.tab2 spec_l01Make.bits2 (fun HT_ HW_ => ?_); generalize w6.drew = w9 at BK493 HB hHeld ⊢; refine pX 0 10 ?_; refine pX 1 11 ?_; refine pX 2 12 ?_; refine pX 3 13 ?_; refine pX 4 14 ?_; refine pX 5 15 ?_; refine pX 6 16 ?_; refine oX 7 none fun K hK => ?_
  have hs10 : w9.cell? ⟨gb493, 0, none⟩ = some (.int .i64 0) := bq BK493.out 0; have hfs10 := blk_frozen BK493.out 0; have hs11 : w9.cell? ⟨gb493, 1, none⟩ = some (.int .i64 0) := bq BK493.out 1; have hfs11 := blk_frozen BK493.out 1; refine skip_ (w1 := ?_) (by rfl) rfl ?_ ?_; rotate_left
  ·
   go_simp
   rfl
  refine hK.out _ _ trivial (fun hHeld => ?_); clear hK K; refine dX ?_
  try go_wp2
  refine bodyPost_ret (results_cell_row rfl _ _ gb493 32 #[.int .i64 (wrap64 (Int.tdiv a0 t495)), .int .i64 (wrap64 (Int.tdiv a1 t495))] (0, 0) _ rfl (sB (put2 BK493.out)) Tryz.underlying32 rfl (by kernel_rfl)) rfl ?_; exact ⟨eE, sW HB.out⟩

def spec_LineStrength.f (k : Nat) (l0 : List (S47)) (l1_0 : List (S58)) (l1_1 : List Int) : Option (Int × Int × Int) := (spec_l03LineAt.f k l0 [(⟨l1_0, l1_1⟩ : S28)]).bind fun t498 => (if t498 = true then ((spec_l03WeakestAt.f k l0 [(⟨l1_0, l1_1⟩ : S28)]).bind fun bt499 => ((spec_l01Make.f k bt499.2.2 1000).bind fun bt502 => (some (bt502.1, bt502.2, 0)))) else (some (0, 0, 1)))
theorem spec_LineStrength.calls (k : Nat) (A0 : Option Addr) (c0 : Nat) (l0 : List (S47)) (A1_0 : Option Addr) (c1_0 : Nat) (l1_0 : List (S58)) (A1_1 : Option Addr) (c1_1 : Nat) (l1_1 : List Int) (r1 : Int) (r2 : Int) (r3 : Int) (w : World) (hr0 : Kd.C k47 w A0 l0.length l0) (hc0 : l0.length ≤ c0) (hr1_0 : Kd.C k58 w A1_0 l1_0.length l1_0) (hc1_0 : l1_0.length ≤ c1_0) (hr1_1 : Kd.C (Kd.int .i64) w A1_1 l1_1.length l1_1) (hc1_1 : l1_1.length ≤ c1_1) (h : spec_LineStrength.f k l0 l1_0 l1_1 = some (r1, r2, r3)) :
  Calls Tryz.prog 7 #[.slice A0 l0.length c0, .agg #[.slice A1_0 l1_0.length c1_0, .slice A1_1 l1_1.length c1_1]] w fun e w' => e = .returned (.tuple #[.agg #[.int .i64 r1, .int .i64 r2], .int .i64 r3]) ∧ Below w.heap.size w w' := by
 have hu28 := Tryz.underlying28; have hu32 := Tryz.underlying32; have HR0 := aS hr0; have HC0 := aS hc0; clear hr0 hc0; have HR1_0 := aS hr1_0; have HC1_0 := aS hc1_0; clear hr1_0 hc1_0; have HR1_1 := aS hr1_1; have HC1_1 := aS hc1_1; clear hr1_1 hc1_1; have HB := aS (Below.refl w.heap.size w); have H := h; clear h; unfold spec_LineStrength.f at H; replace H := bE H; obtain ⟨t498, A3, H⟩ := H; try dsimp only at H
 have HC4 := aS H; clear H; go_enter Tryz.func7, Tryz.ntmps7
 go_upto_if 11 with (first | ((with_reducible refine gt 3 rfl ?_); refine bx 3 #[.slice A1_0 l1_0.length c1_0, .slice A1_1 l1_1.length c1_1] 28 ?_; intro gb496 hg w5 hbox hb; have BK496 := aS (hbox); have GW496 := aS (gW hg (sW HB.out)); have GE496 := aS (gW hg (sW HB.out)); replace HB := lW HB hb; clear hb hbox hg) | ((with_reducible refine gt 4 rfl ?_); refine bx 4 #[.int .i64 0, .int .i64 0] 32 ?_; intro gb497 hg w6 hbox hb; have BK497 := aS (hbox); have GW497 := aS (gW hg (sW HB.out)); have GE497 := aS (gW hg (sW HB.out)); replace HB := lW HB hb; have NB496_497 := aS (nL hg (sB BK496.out)); have NB497_496 := aS (nG hg (sB BK496.out)); replace BK496 := lB BK496 hb; clear hb hbox hg) | ((with_reducible refine gk 34 rfl ?_); refine gC (some 10) rfl Tryz.func34 #[.slice A0 l0.length c0, .pointer (some ⟨gb496, 0, none⟩)] (spec_l03LineAt.calls k _ _ l0 _ 1 [(⟨l1_0, l1_1⟩ : S28)] t498 _ (sC (Kd.C_below HR0.out HB.out)) HC0.out ?side3 (Nat.le_refl _) A3.out) ?_; (case side3 => exact box_C (show (_ : World).heap[_]? = some (Obj.cells #[.slice A1_0 l1_0.length c1_0, .slice A1_1 l1_1.length c1_1] 28 (0, 0)) from by (with_reducible repeat (first | refine blk_drewN ?_ _ | refine blk_drew ?_ | refine blk_alloc ?_ _)); exact BK496.out) (k28_mk _ _ (by exact HC1_0.out) (by repeat (first | exact (Kd.C_below HR1_0.out HB.out) | (with_reducible refine Kd.C_alloc ?_ _) | (with_reducible refine Kd.C_drewN ?_ _) | (with_reducible refine Kd.C_drew ?_))) (by exact HC1_1.out) (by repeat (first | exact (Kd.C_below HR1_1.out HB.out) | (with_reducible refine Kd.C_alloc ?_ _) | (with_reducible refine Kd.C_drewN ?_ _) | (with_reducible refine Kd.C_drew ?_))))); rintro e w7 ⟨rfl, hb⟩; refine ⟨_, rfl, ?_⟩; replace BK496 := lB BK496 hb; replace BK497 := lB BK497 hb; replace HB := lW HB hb))
 (try simp only [Act.put, List.setIfInBounds_toArray, List.set_cons_zero, List.set_cons_succ]); have H := HC4.out; clear HC4; replace H := iZ H; rcases H with ⟨rfl, H⟩ | ⟨rfl, H⟩
 ·
  replace H := bE H; obtain ⟨⟨t499, t500, t501⟩, A9, H⟩ := H; try dsimp only at H
  replace H := bE H; obtain ⟨⟨t502, t503⟩, A10, H⟩ := H; try dsimp only at H
  simp only [Option.some.injEq, Prod.mk.injEq] at H; obtain ⟨rfl, rfl, rfl⟩ := H
  go_wp2_with (first | ((with_reducible refine gk 35 rfl ?_); refine gC (some 15) rfl Tryz.func35 #[.slice A0 l0.length c0, .pointer (some ⟨gb496, 0, none⟩)] (spec_l03WeakestAt.calls k _ _ l0 _ 1 [(⟨l1_0, l1_1⟩ : S28)] t499 t500 t501 _ (sC (Kd.C_below HR0.out HB.out)) HC0.out ?side3 (Nat.le_refl _) A9.out) ?_; (case side3 => exact box_C (show (_ : World).heap[_]? = some (Obj.cells #[.slice A1_0 l1_0.length c1_0, .slice A1_1 l1_1.length c1_1] 28 (0, 0)) from by (with_reducible repeat (first | refine blk_drewN ?_ _ | refine blk_drew ?_ | refine blk_alloc ?_ _)); exact BK496.out) (k28_mk _ _ (by exact HC1_0.out) (by repeat (first | exact (Kd.C_below HR1_0.out HB.out) | (with_reducible refine Kd.C_alloc ?_ _) | (with_reducible refine Kd.C_drewN ?_ _) | (with_reducible refine Kd.C_drew ?_))) (by exact HC1_1.out) (by repeat (first | exact (Kd.C_below HR1_1.out HB.out) | (with_reducible refine Kd.C_alloc ?_ _) | (with_reducible refine Kd.C_drewN ?_ _) | (with_reducible refine Kd.C_drew ?_))))); rintro e w11 ⟨rfl, hb⟩; refine ⟨_, rfl, ?_⟩; replace BK496 := lB BK496 hb; replace BK497 := lB BK497 hb; replace HB := lW HB hb) | ((with_reducible refine gk 36 rfl ?_); refine gC (some 20) rfl Tryz.func36 #[.int .i64 t501, .int .i64 1000] (spec_l01Make.calls k t501 1000 t502 t503 _ A10.out) ?_; rintro e w12 ⟨rfl, hb⟩; refine ⟨_, rfl, ?_⟩; replace BK496 := lB BK496 hb; replace BK497 := lB BK497 hb; replace HB := lW HB hb; (try clear hb); (try clear hb2); (try clear hk); (try clear hi); obtain ⟨hnb13, hnc13⟩ := nD NB497_496; obtain ⟨hcz14_0, hcz14_1, hfz14_0, hfz14_1⟩ := z2 BK497.out))
  refine bodyPost_ret (results_ct rfl _ _ gb497 32 #[.int .i64 t502, .int .i64 t503] (0, 0) _ rfl (sB (put2 BK497.out)) Tryz.underlying32 rfl (by kernel_rfl)) rfl ?_; exact ⟨eE, sW HB.out⟩
 ·
  simp only [Option.some.injEq, Prod.mk.injEq] at H; obtain ⟨rfl, rfl, rfl⟩ := H; obtain ⟨hnb15, hnc15⟩ := nD NB497_496; obtain ⟨hcz16_0, hcz16_1, hfz16_0, hfz16_1⟩ := z2 BK497.out; go_wp2; refine bodyPost_ret (results_ct rfl _ _ gb497 32 #[.int .i64 0, .int .i64 0] (0, 0) _ rfl (sB (put2 BK497.out)) Tryz.underlying32 rfl (by kernel_rfl)) rfl ?_; exact ⟨eE, sW HB.out⟩

def impl_LineLength.f (k : Nat) (l0 : List (S47)) (l1_0 : List (S58)) (l1_1 : List Int) : Option (Int × Int) := (impl_ValidJoins.f k l0).bind fun t505 => (if t505 = true then ((impl_validLine.f k l0 l1_0 l1_1).bind fun t506 => (if t506 = true then ((impl_lineLength.f k l0 l1_0 l1_1).bind fun t507 => (some (t507, 0))) else (some (0, 1)))) else (some (0, 1)))
theorem impl_LineLength.calls (k : Nat) (A0 : Option Addr) (c0 : Nat) (l0 : List (S47)) (A1_0 : Option Addr) (c1_0 : Nat) (l1_0 : List (S58)) (A1_1 : Option Addr) (c1_1 : Nat) (l1_1 : List Int) (r1 : Int) (r2 : Int) (w : World) (hr0 : Kd.C k47 w A0 l0.length l0) (hc0 : l0.length ≤ c0) (hr1_0 : Kd.C k58 w A1_0 l1_0.length l1_0) (hc1_0 : l1_0.length ≤ c1_0) (hr1_1 : Kd.C (Kd.int .i64) w A1_1 l1_1.length l1_1) (hc1_1 : l1_1.length ≤ c1_1) (h : impl_LineLength.f k l0 l1_0 l1_1 = some (r1, r2)) :
  Calls Tryz.prog 8 #[.slice A0 l0.length c0, .agg #[.slice A1_0 l1_0.length c1_0, .slice A1_1 l1_1.length c1_1]] w fun e w' => e = .returned (.tuple #[.int .i64 r1, .int .i64 r2]) ∧ Below w.heap.size w w' := by
 have hu28 := Tryz.underlying28; have HR0 := aS hr0; have HC0 := aS hc0; clear hr0 hc0; have HR1_0 := aS hr1_0; have HC1_0 := aS hc1_0; clear hr1_0 hc1_0; have HR1_1 := aS hr1_1; have HC1_1 := aS hc1_1; clear hr1_1 hc1_1; have HB := aS (Below.refl w.heap.size w); have H := h; clear h; unfold impl_LineLength.f at H; replace H := bE H; obtain ⟨t505, A3, H⟩ := H; try dsimp only at H
 replace H := iZ H; rcases H with ⟨rfl, H⟩ | ⟨rfl, H⟩
 ·
  replace H := bE H; obtain ⟨t506, A5, H⟩ := H; try dsimp only at H
  have HC6 := aS H; clear H; go_enter Tryz.func8, Tryz.ntmps8
  go_upto_if 14 with (first | ((with_reducible refine gt 3 rfl ?_); refine bx 3 #[.slice A1_0 l1_0.length c1_0, .slice A1_1 l1_1.length c1_1] 28 ?_; intro gb504 hg w7 hbox hb; have BK504 := aS (hbox); have GW504 := aS (gW hg (sW HB.out)); have GE504 := aS (gW hg (sW HB.out)); replace HB := lW HB hb; clear hb hbox hg) | ((with_reducible refine gk 28 rfl ?_); refine gC (some 7) rfl Tryz.func28 #[.slice A0 l0.length c0] (impl_ValidJoins.calls k _ _ l0 true _ (sC (Kd.C_below HR0.out HB.out)) HC0.out A3.out) ?_; rintro e w8 ⟨rfl, hb⟩; refine ⟨_, rfl, ?_⟩; replace BK504 := lB BK504 hb; replace HB := lW HB hb; (try clear hb); (try clear hb2); (try clear hk); (try clear hi); obtain ⟨hcz9_0, hcz9_1, hfz9_0, hfz9_1⟩ := z2 BK504.out) | (go_at_call 32; (with_reducible refine (impl_validLine.calls k _ _ l0 _ _ l1_0 _ _ l1_1 t506 _ ?side1 ?side2 ?side3 ?side4 ?side5 ?side6 A5.out).mono ?_); (case side1 => exact sC (Kd.C_below HR0.out HB.out)); (case side2 => exact HC0.out); (case side3 => exact sC (Kd.C_below HR1_0.out HB.out)); (case side4 => exact HC1_0.out); (case side5 => exact sC (Kd.C_below HR1_1.out HB.out)); (case side6 => exact HC1_1.out); rintro e w10 ⟨rfl, hb⟩; replace BK504 := lB BK504 hb; replace HB := lW HB hb))
  (try simp only [Act.put, List.setIfInBounds_toArray, List.set_cons_zero, List.set_cons_succ]); have H := HC6.out; clear HC6; replace H := iZ H; rcases H with ⟨rfl, H⟩ | ⟨rfl, H⟩
  ·
   replace H := bE H; obtain ⟨t507, A12, H⟩ := H; try dsimp only at H
   simp only [Option.some.injEq, Prod.mk.injEq] at H; obtain ⟨rfl, rfl⟩ := H; obtain ⟨hcz13_0, hcz13_1, hfz13_0, hfz13_1⟩ := z2 BK504.out
   go_wp2_with (first | ((with_reducible refine gk 37 rfl ?_); refine gC (some 17) rfl Tryz.func37 #[.slice A0 l0.length c0, .agg #[.slice A1_0 l1_0.length c1_0, .slice A1_1 l1_1.length c1_1]] (impl_lineLength.calls k _ _ l0 _ _ l1_0 _ _ l1_1 t507 _ (sC (Kd.C_below HR0.out HB.out)) HC0.out (sC (Kd.C_below HR1_0.out HB.out)) HC1_0.out (sC (Kd.C_below HR1_1.out HB.out)) HC1_1.out A12.out) ?_; rintro e w14 ⟨rfl, hb⟩; refine ⟨_, rfl, ?_⟩; replace BK504 := lB BK504 hb; replace HB := lW HB hb))
   go_ret2
   exact ⟨eE, sW HB.out⟩
  ·
   simp only [Option.some.injEq, Prod.mk.injEq] at H; obtain ⟨rfl, rfl⟩ := H; go_wp2
   go_ret2
   exact ⟨eE, sW HB.out⟩
 ·
  simp only [Option.some.injEq, Prod.mk.injEq] at H; obtain ⟨rfl, rfl⟩ := H; go_enter Tryz.func8, Tryz.ntmps8
  go_wp2_with (first | ((with_reducible refine gt 3 rfl ?_); refine bx 3 #[.slice A1_0 l1_0.length c1_0, .slice A1_1 l1_1.length c1_1] 28 ?_; intro gb504 hg w15 hbox hb; have BK504 := aS (hbox); have GW504 := aS (gW hg (sW HB.out)); have GE504 := aS (gW hg (sW HB.out)); replace HB := lW HB hb; clear hb hbox hg) | ((with_reducible refine gk 28 rfl ?_); refine gC (some 7) rfl Tryz.func28 #[.slice A0 l0.length c0] (impl_ValidJoins.calls k _ _ l0 false _ (sC (Kd.C_below HR0.out HB.out)) HC0.out A3.out) ?_; rintro e w16 ⟨rfl, hb⟩; refine ⟨_, rfl, ?_⟩; replace BK504 := lB BK504 hb; replace HB := lW HB hb))
  go_ret2
  exact ⟨eE, sW HB.out⟩

def spec_LineLength.f (k : Nat) (l0 : List (S47)) (l1_0 : List (S58)) (l1_1 : List Int) : Option (Int × Int) := (spec_l03LineAt.f k l0 [(⟨l1_0, l1_1⟩ : S28)]).bind fun t509 => (if t509 = true then ((spec_l03LengthAt.f k l0 [(⟨l1_0, l1_1⟩ : S28)]).bind fun t510 => (some (t510, 0))) else (some (0, 1)))
theorem spec_LineLength.calls (k : Nat) (A0 : Option Addr) (c0 : Nat) (l0 : List (S47)) (A1_0 : Option Addr) (c1_0 : Nat) (l1_0 : List (S58)) (A1_1 : Option Addr) (c1_1 : Nat) (l1_1 : List Int) (r1 : Int) (r2 : Int) (w : World) (hr0 : Kd.C k47 w A0 l0.length l0) (hc0 : l0.length ≤ c0) (hr1_0 : Kd.C k58 w A1_0 l1_0.length l1_0) (hc1_0 : l1_0.length ≤ c1_0) (hr1_1 : Kd.C (Kd.int .i64) w A1_1 l1_1.length l1_1) (hc1_1 : l1_1.length ≤ c1_1) (h : spec_LineLength.f k l0 l1_0 l1_1 = some (r1, r2)) :
  Calls Tryz.prog 9 #[.slice A0 l0.length c0, .agg #[.slice A1_0 l1_0.length c1_0, .slice A1_1 l1_1.length c1_1]] w fun e w' => e = .returned (.tuple #[.int .i64 r1, .int .i64 r2]) ∧ Below w.heap.size w w' := by
 have hu28 := Tryz.underlying28; have HR0 := aS hr0; have HC0 := aS hc0; clear hr0 hc0; have HR1_0 := aS hr1_0; have HC1_0 := aS hc1_0; clear hr1_0 hc1_0; have HR1_1 := aS hr1_1; have HC1_1 := aS hc1_1; clear hr1_1 hc1_1; have HB := aS (Below.refl w.heap.size w); have H := h; clear h; unfold spec_LineLength.f at H; replace H := bE H; obtain ⟨t509, A3, H⟩ := H; try dsimp only at H
 have HC4 := aS H; clear H; go_enter Tryz.func9, Tryz.ntmps9
 go_upto_if 8 with (first | ((with_reducible refine gt 3 rfl ?_); refine bx 3 #[.slice A1_0 l1_0.length c1_0, .slice A1_1 l1_1.length c1_1] 28 ?_; intro gb508 hg w5 hbox hb; have BK508 := aS (hbox); have GW508 := aS (gW hg (sW HB.out)); have GE508 := aS (gW hg (sW HB.out)); replace HB := lW HB hb; clear hb hbox hg) | ((with_reducible refine gk 34 rfl ?_); refine gC (some 7) rfl Tryz.func34 #[.slice A0 l0.length c0, .pointer (some ⟨gb508, 0, none⟩)] (spec_l03LineAt.calls k _ _ l0 _ 1 [(⟨l1_0, l1_1⟩ : S28)] t509 _ (sC (Kd.C_below HR0.out HB.out)) HC0.out ?side3 (Nat.le_refl _) A3.out) ?_; (case side3 => exact box_C (show (_ : World).heap[_]? = some (Obj.cells #[.slice A1_0 l1_0.length c1_0, .slice A1_1 l1_1.length c1_1] 28 (0, 0)) from by (with_reducible repeat (first | refine blk_drewN ?_ _ | refine blk_drew ?_ | refine blk_alloc ?_ _)); exact BK508.out) (k28_mk _ _ (by exact HC1_0.out) (by repeat (first | exact (Kd.C_below HR1_0.out HB.out) | (with_reducible refine Kd.C_alloc ?_ _) | (with_reducible refine Kd.C_drewN ?_ _) | (with_reducible refine Kd.C_drew ?_))) (by exact HC1_1.out) (by repeat (first | exact (Kd.C_below HR1_1.out HB.out) | (with_reducible refine Kd.C_alloc ?_ _) | (with_reducible refine Kd.C_drewN ?_ _) | (with_reducible refine Kd.C_drew ?_))))); rintro e w6 ⟨rfl, hb⟩; refine ⟨_, rfl, ?_⟩; replace BK508 := lB BK508 hb; replace HB := lW HB hb))
 (try simp only [Act.put, List.setIfInBounds_toArray, List.set_cons_zero, List.set_cons_succ]); have H := HC4.out; clear HC4; replace H := iZ H; rcases H with ⟨rfl, H⟩ | ⟨rfl, H⟩
 ·
  replace H := bE H; obtain ⟨t510, A8, H⟩ := H; try dsimp only at H
  simp only [Option.some.injEq, Prod.mk.injEq] at H; obtain ⟨rfl, rfl⟩ := H
  go_wp2_with (first | ((with_reducible refine gk 38 rfl ?_); refine gC (some 10) rfl Tryz.func38 #[.slice A0 l0.length c0, .pointer (some ⟨gb508, 0, none⟩)] (spec_l03LengthAt.calls k _ _ l0 _ 1 [(⟨l1_0, l1_1⟩ : S28)] t510 _ (sC (Kd.C_below HR0.out HB.out)) HC0.out ?side3 (Nat.le_refl _) A8.out) ?_; (case side3 => exact box_C (show (_ : World).heap[_]? = some (Obj.cells #[.slice A1_0 l1_0.length c1_0, .slice A1_1 l1_1.length c1_1] 28 (0, 0)) from by (with_reducible repeat (first | refine blk_drewN ?_ _ | refine blk_drew ?_ | refine blk_alloc ?_ _)); exact BK508.out) (k28_mk _ _ (by exact HC1_0.out) (by repeat (first | exact (Kd.C_below HR1_0.out HB.out) | (with_reducible refine Kd.C_alloc ?_ _) | (with_reducible refine Kd.C_drewN ?_ _) | (with_reducible refine Kd.C_drew ?_))) (by exact HC1_1.out) (by repeat (first | exact (Kd.C_below HR1_1.out HB.out) | (with_reducible refine Kd.C_alloc ?_ _) | (with_reducible refine Kd.C_drewN ?_ _) | (with_reducible refine Kd.C_drew ?_))))); rintro e w' ⟨rfl, ⟨nd, rfl⟩⟩; refine ⟨_, rfl, ?_⟩))
  go_ret2
  exact ⟨eE, sW HB.out⟩
 ·
  simp only [Option.some.injEq, Prod.mk.injEq] at H; obtain ⟨rfl, rfl⟩ := H; go_wp2
  go_ret2
  exact ⟨eE, sW HB.out⟩
section
attribute [local go_sem high] eqA32
mutual
def impl_WeakestPlace.j0 : Nat → List (S47) → Bool → List (S58) → List Int → Option (ByteArray × Int × Int)
 | 0, _, _, _, _ => none
 | k + 1, x0, x19, x512000, x512001 => if x19 = true then (some ((⟨#[]⟩ : ByteArray), 0, 1)) else ((impl_lineStrength.f k x0 x512000 x512001).bind fun bt514 => (impl_WeakestPlace.l0 k x0 x512000 (x512000.length : Int) 0 x512000 x512001 bt514.1 bt514.2))
def impl_WeakestPlace.l0 : Nat → List (S47) → List (S58) → Int → Int → List (S58) → List Int → Int → Int → Option (ByteArray × Int × Int)
 | 0, _, _, _, _, _, _, _, _ => none
 | k + 1, x0, x24, x25, x26, x512000, x512001, x517000, x517001 => if x26 < x25 then (if 0 ≤ x26 then (if x26 < (x24.length : Int) then ((impl_fraction.f k ((rd_T58 x24 x26).f0) 1).bind fun bt519 => (if (bt519.1 == x517000 && (bt519.2 == x517001)) = true then (some ((⟨#[112, 105, 101, 99, 101]⟩ : ByteArray), x26, 0)) else (impl_WeakestPlace.l0 k x0 x24 x25 (wrap64 (x26 + 1)) x512000 x512001 x517000 x517001))) else (none)) else (none)) else (impl_WeakestPlace.l1 k x0 (x512001.length : Int) 0 x512000 x512001 x517000 x517001)
def impl_WeakestPlace.l1 : Nat → List (S47) → Int → Int → List (S58) → List Int → Int → Int → Option (ByteArray × Int × Int)
 | 0, _, _, _, _, _, _, _ => none
 | k + 1, x0, x40, x41, x512000, x512001, x517000, x517001 => if x41 < x40 then ((impl_strengthAt.f k x0 x512000 x512001 x41).bind fun bt521 => (if (bt521.1 == x517000 && (bt521.2 == x517001)) = true then (some ((⟨#[106, 111, 105, 110]⟩ : ByteArray), x41, 0)) else (impl_WeakestPlace.l1 k x0 x40 (wrap64 (x41 + 1)) x512000 x512001 x517000 x517001))) else (some ((⟨#[]⟩ : ByteArray), 0, 1))
end
def impl_WeakestPlace.f (k : Nat) (l0 : List (S47)) (l1_0 : List (S58)) (l1_1 : List Int) : Option (ByteArray × Int × Int) := (impl_ValidJoins.f k l0).bind fun t512 => (if t512 = true then ((impl_validLine.f k l0 l1_0 l1_1).bind fun t513 => (impl_WeakestPlace.j0 k l0 (!t513) l1_0 l1_1)) else (impl_WeakestPlace.j0 k l0 true l1_0 l1_1))
theorem impl_WeakestPlace.calls (k : Nat) (A0 : Option Addr) (c0 : Nat) (l0 : List (S47)) (A1_0 : Option Addr) (c1_0 : Nat) (l1_0 : List (S58)) (A1_1 : Option Addr) (c1_1 : Nat) (l1_1 : List Int) (r1 : ByteArray) (r2 : Int) (r3 : Int) (w : World) (hr0 : Kd.C k47 w A0 l0.length l0) (hc0 : l0.length ≤ c0) (hr1_0 : Kd.C k58 w A1_0 l1_0.length l1_0) (hc1_0 : l1_0.length ≤ c1_0) (hr1_1 : Kd.C (Kd.int .i64) w A1_1 l1_1.length l1_1) (hc1_1 : l1_1.length ≤ c1_1) (h : impl_WeakestPlace.f k l0 l1_0 l1_1 = some (r1, r2, r3)) :
  Calls Tryz.prog 10 #[.slice A0 l0.length c0, .agg #[.slice A1_0 l1_0.length c1_0, .slice A1_1 l1_1.length c1_1]] w fun e w' => e = .returned (.tuple #[.string r1, .int .i64 r2, .int .i64 r3]) ∧ Below w.heap.size w w' := by
 have hu28 := Tryz.underlying28; have hu32 := Tryz.underlying32; have hu58 := Tryz.underlying58; have HR0 := aS hr0; have HC0 := aS hc0; clear hr0 hc0; have HR1_0 := aS hr1_0; have HC1_0 := aS hc1_0; clear hr1_0 hc1_0; have HR1_1 := aS hr1_1; have HC1_1 := aS hc1_1; clear hr1_1 hc1_1; have HB := aS (Below.refl w.heap.size w); have H := h; clear h; unfold impl_WeakestPlace.f at H; have HC3 := aS H; clear H; go_enter Tryz.func10, Tryz.ntmps10
 go_upto_region 1 with (first | ((with_reducible refine gt 3 rfl ?_); refine bx 3 #[.slice A1_0 l1_0.length c1_0, .slice A1_1 l1_1.length c1_1] 28 ?_; intro gb511 hg w4 hbox hb; have BK511 := aS (hbox); have GW511 := aS (gW hg (sW HB.out)); have GE511 := aS (gW hg (sW HB.out)); replace HB := lW HB hb; clear hb hbox hg))
 (try simp only [Act.put, List.setIfInBounds_toArray, List.set_cons_zero, List.set_cons_succ])
 go_cut [19] (fun v19 wc => ∃ (kq : Nat) (x19_2 : Bool), v19 = .bool x19_2 ∧ Aside0 (impl_WeakestPlace.j0 kq l0 x19_2 l1_0 l1_1 = some (r1, r2, r3)) ∧ Aside0 (kq ≤ k) ∧ Aside0 (wc.heap[gb511]? = some (.cells #[(.slice A1_0 l1_0.length c1_0), (.slice A1_1 l1_1.length c1_1)] 28 (0, 0))) ∧ Aside0 (Below w.heap.size w wc))
 case first =>
  have H := HC3.out; clear HC3; replace H := bE H; obtain ⟨t512, A5, H⟩ := H; try dsimp only at H
  replace H := iZ H; rcases H with ⟨rfl, H⟩ | ⟨rfl, H⟩
  ·
   replace H := bE H; obtain ⟨t513, A7, H⟩ := H; try dsimp only at H
   have H' := aS H; clear H
   go_wp2_with (first | ((with_reducible refine gk 28 rfl ?_); refine gC (some 12) rfl Tryz.func28 #[.slice A0 l0.length c0] (impl_ValidJoins.calls k _ _ l0 true _ (sC (Kd.C_below HR0.out HB.out)) HC0.out A5.out) ?_; rintro e w8 ⟨rfl, hb⟩; refine ⟨_, rfl, ?_⟩; replace BK511 := lB BK511 hb; replace HB := lW HB hb; (try clear hb); (try clear hb2); (try clear hk); (try clear hi); obtain ⟨hcz9_0, hcz9_1, hfz9_0, hfz9_1⟩ := z2 BK511.out) | (go_at_call 32; (with_reducible refine (impl_validLine.calls k _ _ l0 _ _ l1_0 _ _ l1_1 t513 _ ?side1 ?side2 ?side3 ?side4 ?side5 ?side6 A7.out).mono ?_); (case side1 => exact sC (Kd.C_below HR0.out HB.out)); (case side2 => exact HC0.out); (case side3 => exact sC (Kd.C_below HR1_0.out HB.out)); (case side4 => exact HC1_0.out); (case side5 => exact sC (Kd.C_below HR1_1.out HB.out)); (case side6 => exact HC1_1.out); rintro e w10 ⟨rfl, hb⟩; replace BK511 := lB BK511 hb; replace HB := lW HB hb))
   go_meet
   case rel => exact ⟨_, (!t513), eV, H', jL0, (aS (sB BK511.out)), (aS (sW HB.out))⟩
  ·
   have H' := aS H; clear H
   go_wp2_with (first | ((with_reducible refine gk 28 rfl ?_); refine gC (some 12) rfl Tryz.func28 #[.slice A0 l0.length c0] (impl_ValidJoins.calls k _ _ l0 false _ (sC (Kd.C_below HR0.out HB.out)) HC0.out A5.out) ?_; rintro e w11 ⟨rfl, hb⟩; refine ⟨_, rfl, ?_⟩; replace BK511 := lB BK511 hb; replace HB := lW HB hb))
   go_meet
   case rel => exact ⟨_, (true), eV, H', jL0, (aS (sB BK511.out)), (aS (sW HB.out))⟩
 case rest =>
  clear HC3; obtain ⟨kq, x19_2, rfl, HA, HJ2, BK511, HB⟩ := hcut; cases kq with
  | zero => exact absurd HA.out (by simp [impl_WeakestPlace.j0])
  | succ kj2 =>
   have H := HA.out; clear HA; simp only [impl_WeakestPlace.j0] at H; replace H := iZ H; rcases H with ⟨rfl, H⟩ | ⟨rfl, H⟩
   ·
    simp only [Option.some.injEq, Prod.mk.injEq] at H; obtain ⟨rfl, rfl, rfl⟩ := H; go_wp2
    go_ret3
    exact ⟨eE, sW HB.out⟩
   ·
    replace H := bE H; obtain ⟨⟨t514, t515⟩, A13, H⟩ := H; try dsimp only at H
    have H' := aS H; clear H; obtain ⟨hcz14_0, hcz14_1, hfz14_0, hfz14_1⟩ := z2 BK511.out
    go_wp2_with (first | ((with_reducible refine gk 33 rfl ?_); refine gC (some 22) rfl Tryz.func33 #[.slice A0 l0.length c0, .agg #[.slice A1_0 l1_0.length c1_0, .slice A1_1 l1_1.length c1_1]] (impl_lineStrength.calls kj2 _ _ l0 _ _ l1_0 _ _ l1_1 t514 t515 _ (sC (Kd.C_below HR0.out HB.out)) HC0.out (sC (Kd.C_below HR1_0.out HB.out)) HC1_0.out (sC (Kd.C_below HR1_1.out HB.out)) HC1_1.out A13.out) ?_; rintro e w15 ⟨rfl, hb⟩; refine ⟨_, rfl, ?_⟩; replace BK511 := lB BK511 hb; replace HB := lW HB hb) | ((with_reducible refine gt 7 rfl ?_); refine bx 7 #[.int .i64 0, .int .i64 0] 32 ?_; intro gb516 hg w16 hbox hb; have BK516 := aS (hbox); have GW516 := aS (gW hg (sW HB.out)); have GE516 := aS (gW hg (sW HB.out)); replace HB := lW HB hb; have NB511_516 := aS (nL hg (sB BK511.out)); have NB516_511 := aS (nG hg (sB BK511.out)); replace BK511 := lB BK511 hb; clear hb hbox hg; obtain ⟨hnb17, hnc17⟩ := nD NB516_511; obtain ⟨hcz18_0, hcz18_1, hfz18_0, hfz18_1⟩ := z2 BK516.out; obtain ⟨hcz19_0, hcz19_1, hfz19_0, hfz19_1⟩ := z2 BK511.out))
    (try simp only [Act.put, List.setIfInBounds_toArray, List.set_cons_zero, List.set_cons_succ])
    go_loopg [26] kj2 (fun kq v26 w' => ∃ (x26_2 : Int), v26 = .int .i64 x26_2 ∧ Aside0 (impl_WeakestPlace.l0 kq l0 l1_0 (l1_0.length : Int) x26_2 l1_0 l1_1 t514 t515 = some (r1, r2, r3)) ∧ Aside0 (kq ≤ kj2) ∧ Aside0 (w'.heap[gb511]? = some (.cells #[(.slice A1_0 l1_0.length c1_0), (.slice A1_1 l1_1.length c1_1)] 28 (0, 0))) ∧ Aside0 (w'.heap[gb516]? = some (.cells #[.int .i64 t514, .int .i64 t515] 32 (0, 0))) ∧ Aside0 (Below w.heap.size w w'))
    case atStart => exact ⟨(0), eV, H', ⟨Nat.le_refl _⟩, (aS (sF BK511.out NB511_516.out)), (aS (sB (put2 BK516.out))), (aS (sW HB.out))⟩
    case round =>
     clear H'; obtain ⟨x26_2, rfl, HA, HK2, BK511, BK516, HB⟩ := hrel; cases gk with
     | zero => exact absurd HA.out (by simp [impl_WeakestPlace.l0])
     | succ k2 =>
      have H := HA.out; clear HA; simp only [impl_WeakestPlace.l0] at H; replace H := iD H; rcases H with ⟨c20b0, H⟩ | ⟨c20b0, H⟩
      ·
       replace H := iE H; rcases H with ⟨c21, H⟩ | ⟨c21, H⟩
       ·
        have c21b0 := decide_eq_true c21; clear c21; replace H := iE H; rcases H with ⟨c22, H⟩ | ⟨c22, H⟩
        ·
         have c22b0 := decide_eq_true c22; clear c22; replace H := bE H; obtain ⟨⟨t519, t520⟩, A23, H⟩ := H; try dsimp only at H
         have HC24 := aS H; clear H; have p517 : 0 ≤ (x26_2 : Int) := sD; have q517 : x26_2 < (l1_0.length : Int) := sD; obtain ⟨ad517, e517, hx517_0, hx517_1⟩ := at_T58 HR1_0.out x26_2 p517 q517; cases e517; replace hx517_0 := bC HB.out hx517_0; replace hx517_1 := bC HB.out hx517_1
         try go_wp2_with (first | ((with_reducible refine gt 9 rfl ?_); refine bx 9 #[.int .i64 0, .int .i64 0] 58 ?_; intro gb518 hg w25 hbox hb; have BK518 := aS (hbox); have GW518 := aS (gW hg (sW HB.out)); have GE518 := aS (gW hg (sW HB.out)); replace HB := lW HB hb; have NB511_518 := aS (nL hg (sB BK511.out)); have NB518_511 := aS (nG hg (sB BK511.out)); replace BK511 := lB BK511 hb; have NB516_518 := aS (nL hg (sB BK516.out)); have NB518_516 := aS (nG hg (sB BK516.out)); replace BK516 := lB BK516 hb; clear hb hbox hg; obtain ⟨hnb26, hnc26⟩ := nD NB518_511; obtain ⟨hnb27, hnc27⟩ := nD NB518_516; obtain ⟨hcz28_0, hcz28_1, hfz28_0, hfz28_1⟩ := z2 BK518.out))
         have n0_ : Aside0 (((w25.setCell ⟨gb518, 0, none⟩ (.int .i64 ((rd_T58 l1_0 x26_2).f0))).setCell ⟨gb518, 1, none⟩ (.int .i64 ((rd_T58 l1_0 x26_2).f1))).heap[gb511]? = some (.cells #[.slice (some ad517) l1_0.length c1_0, .slice A1_1 l1_1.length c1_1] 28 (0, 0))) := (aS (sF BK511.out NB511_518.out)); have n1_ : Aside0 (((w25.setCell ⟨gb518, 0, none⟩ (.int .i64 ((rd_T58 l1_0 x26_2).f0))).setCell ⟨gb518, 1, none⟩ (.int .i64 ((rd_T58 l1_0 x26_2).f1))).heap[gb516]? = some (.cells #[.int .i64 t514, .int .i64 t515] 32 (0, 0))) := (aS (sF BK516.out NB516_518.out)); have n2_ : Aside0 (((w25.setCell ⟨gb518, 0, none⟩ (.int .i64 ((rd_T58 l1_0 x26_2).f0))).setCell ⟨gb518, 1, none⟩ (.int .i64 ((rd_T58 l1_0 x26_2).f1))).heap[gb518]? = some (.cells #[.int .i64 ((rd_T58 l1_0 x26_2).f0), .int .i64 ((rd_T58 l1_0 x26_2).f1)] 58 (0, 0))) := (aS (sB (put2 BK518.out))); have n3_ : Aside0 (Below w.heap.size w ((w25.setCell ⟨gb518, 0, none⟩ (.int .i64 ((rd_T58 l1_0 x26_2).f0))).setCell ⟨gb518, 1, none⟩ (.int .i64 ((rd_T58 l1_0 x26_2).f1)))) := (aS (sW HB.out)); generalize ((w25.setCell ⟨gb518, 0, none⟩ (.int .i64 ((rd_T58 l1_0 x26_2).f0))).setCell ⟨gb518, 1, none⟩ (.int .i64 ((rd_T58 l1_0 x26_2).f1))) = w29 at n0_ n1_ n2_ n3_ ⊢; have BK511 := n0_; have BK516 := n1_; have BK518 := n2_; have HB := n3_; clear n0_ n1_ n2_ n3_; replace BK511 := aS (blk_drew BK511.out); replace BK516 := aS (blk_drew BK516.out); replace BK518 := aS (blk_drew BK518.out); replace HB := aS (below_drew1 HB.out); refine start_ (n := 5) (S := fun w' => w'.cell? ⟨gb518, 0, none⟩ = some (.int .i64 ((rd_T58 l1_0 x26_2).f0)) ∧ w'.cell? ⟨gb518, 1, none⟩ = some (.int .i64 ((rd_T58 l1_0 x26_2).f1)) ∧ w'.cell? ⟨gb516, 0, none⟩ = some (.int .i64 t514) ∧ w'.cell? ⟨gb516, 1, none⟩ = some (.int .i64 t515)) (ds := []) _ (by kernel_rfl) rfl rfl ⟨bq BK518.out 0, bq BK518.out 1, bq BK516.out 0, bq BK516.out 1⟩ (fun hHeld => ?_); generalize w29.drew = w30 at BK511 BK516 BK518 HB hHeld ⊢; refine pure_ (i := 0) (N := some 31) (v := ?_) (a' := ?_) #[true,false,false,false,false] rfl rfl (by kernel_rfl) (fun _ _ _ h => h) (Or.inl ⟨by rfl, ?_⟩) ?_ ?_; rotate_left
         ·
          intro w'; go_simp
          with_reducible rfl
         rotate_left
         ·
          exact sP
         refine take_ (i := 1) (N := some 32) (v := ?_) (a' := ?_) #[true,true,false,false,false] rfl rfl (by kernel_rfl) (fun _ _ _ h => h) (Or.inl ⟨by rfl, ?_⟩) hHeld ?_ ?_; rotate_left
         ·
          rintro w' ⟨s0, s1, s2, s3⟩; go_simp
          with_reducible rfl
         rotate_left
         ·
          exact sP
         refine take_ (i := 3) (N := some 34) (v := ?_) (a' := ?_) #[true,true,false,true,false] rfl rfl (by kernel_rfl) (fun _ _ _ h => h) (Or.inl ⟨by rfl, ?_⟩) hHeld ?_ ?_; rotate_left
         ·
          rintro w' ⟨s0, s1, s2, s3⟩; go_simp
          with_reducible rfl
         rotate_left
         ·
          exact sP
         refine one_ (i := 2) (N := some 33) #[true,true,true,true,false] rfl rfl (by kernel_rfl) (by decide) (fun K hK => ?_); refine goes_ Tryz.func39 (by kernel_rfl) rfl #[.int .i64 ((rd_T58 l1_0 x26_2).f0), .int .i64 1] (by rfl) rfl rfl sG ?_; with_reducible refine (impl_fraction.calls k2 ((rd_T58 l1_0 x26_2).f0) 1 t519 t520 _ A23.out).mono ?_
         rintro e w31 ⟨rfl, hb⟩; refine ⟨_, rfl, ?_⟩; replace BK511 := lB BK511 hb; replace BK516 := lB BK516 hb; replace BK518 := lB BK518 hb; replace HB := lW HB hb; refine hK.out _ _ ⟨bq BK518.out 0, bq BK518.out 1, bq BK516.out 0, bq BK516.out 1⟩ (fun hHeld => ?_); clear hK K; refine nX 33 ?_; refine pure_ (i := 4) (N := some 35) (v := ?_) (a' := ?_) #[true,true,true,true,true] rfl rfl (by kernel_rfl) (fun _ _ _ h => h) (Or.inl ⟨by rfl, ?_⟩) ?_ ?_; rotate_left
         ·
          intro w'; go_simp
          with_reducible rfl
         rotate_left
         ·
          exact sP
         refine done_ (by kernel_rfl) ?_
         go_upto_if 35 with (fail)
         have H := HC24.out; clear HC24; replace H := iE H; rcases H with ⟨c32, H⟩ | ⟨c32, H⟩
         ·
          have c32b0 : (t519 == t514 && (t520 == t515)) = true := c32; (try (have c32b1 : decide (t519 = t514 && (t520 == t515)) = true := by simpa using c32)); (try (have c32b2 : (t519 == t514 && (t520 == t515)) = true := by simpa using c32)); clear c32; (first | rw [c32b0] | (simp only [i64_w, i32_w]; rw [c32b0]) | (rw [c32b2]; simp only [Bool.not_false, Bool.not_true]) | rw [c32b1] | skip); simp only [Option.some.injEq, Prod.mk.injEq] at H; obtain ⟨rfl, rfl, rfl⟩ := H; go_wp2
          go_ret3
          exact ⟨eE, sW HB.out⟩
         ·
          have c32b0 : (t519 == t514 && (t520 == t515)) = false := by simpa using c32
          (try (have c32b1 : decide (t519 = t514 && (t520 == t515)) = false := by simpa using c32)); (try (have c32b2 : (t519 == t514 && (t520 == t515)) = false := by simpa using c32)); (try (have c32b3 : ¬ (t519 = t514 && (t520 == t515)) := by simpa using c32)); clear c32; (first | rw [c32b0] | (simp only [i64_w, i32_w]; rw [c32b0]) | (rw [c32b2]; simp only [Bool.not_false, Bool.not_true]) | rw [c32b1] | skip); have H' := aS H; clear H; go_wp2
          go_roundg k2
          case measure => have := HJ2.out; have := HK2.out; omega
          case rel => exact ⟨(wrap64 (x26_2 + 1)), eV, H', ⟨by have := HJ2.out; have := HK2.out; omega⟩, (aS (sB BK511.out)), (aS (sB BK516.out)), (aS (sW HB.out))⟩
        ·
         exact absurd H (by simp)
       ·
        exact absurd H (by simp)
      ·
       have H' := aS H; clear H; obtain ⟨hnb33, hnc33⟩ := nD NB511_516; obtain ⟨hcz34_0, hcz34_1, hfz34_0, hfz34_1⟩ := z2 BK511.out; go_wp2
       go_loopg [41] k2 (fun kq v41 w' => ∃ (x41_3 : Int), v41 = .int .i64 x41_3 ∧ Aside0 (impl_WeakestPlace.l1 kq l0 (l1_1.length : Int) x41_3 l1_0 l1_1 t514 t515 = some (r1, r2, r3)) ∧ Aside0 (kq ≤ k2) ∧ Aside0 (w'.heap[gb511]? = some (.cells #[(.slice A1_0 l1_0.length c1_0), (.slice A1_1 l1_1.length c1_1)] 28 (0, 0))) ∧ Aside0 (w'.heap[gb516]? = some (.cells #[.int .i64 t514, .int .i64 t515] 32 (0, 0))) ∧ Aside0 (Below w.heap.size w w'))
       case atStart => exact ⟨(0), eV, H', ⟨Nat.le_refl _⟩, (aS (sB BK511.out)), (aS (sB BK516.out)), (aS (sW HB.out))⟩
       case round =>
        clear H'; (try clear hx5); (try clear hx517_0); (try clear hx517_1); obtain ⟨x41_3, rfl, HA, HK3, BK511, BK516, HB⟩ := hrel; cases gk with
        | zero => exact absurd HA.out (by simp [impl_WeakestPlace.l1])
        | succ k3 =>
         have H := HA.out; clear HA; simp only [impl_WeakestPlace.l1] at H; replace H := iD H; rcases H with ⟨c35b0, H⟩ | ⟨c35b0, H⟩
         ·
          replace H := bE H; obtain ⟨⟨t521, t522⟩, A36, H⟩ := H; try dsimp only at H
          have HC37 := aS H; clear H
          try go_wp2
          replace BK511 := aS (blk_drew BK511.out); replace BK516 := aS (blk_drew BK516.out); replace HB := aS (below_drew1 HB.out); refine start_ (n := 6) (S := fun w' => w'.cell? ⟨gb511, 0, none⟩ = some (.slice A1_0 l1_0.length c1_0) ∧ w'.cell? ⟨gb511, 1, none⟩ = some (.slice A1_1 l1_1.length c1_1) ∧ w'.cell? ⟨gb516, 0, none⟩ = some (.int .i64 t514) ∧ w'.cell? ⟨gb516, 1, none⟩ = some (.int .i64 t515)) (ds := []) _ (by kernel_rfl) rfl rfl ⟨bq BK511.out 0, bq BK511.out 1, bq BK516.out 0, bq BK516.out 1⟩ (fun hHeld => ?_); generalize wr.drew = w38 at BK511 BK516 HB hHeld ⊢; refine pure_ (i := 0) (N := some 44) (v := ?_) (a' := ?_) #[true,false,false,false,false,false] rfl rfl (by kernel_rfl) (fun _ _ _ h => h) (Or.inl ⟨by rfl, ?_⟩) ?_ ?_; rotate_left
          ·
           intro w'; go_simp
           with_reducible rfl
          rotate_left
          ·
           exact sP
          refine pure_ (i := 2) (N := some 46) (v := ?_) (a' := ?_) #[true,false,true,false,false,false] rfl rfl (by kernel_rfl) (fun _ _ _ h => h) (Or.inl ⟨by rfl, ?_⟩) ?_ ?_; rotate_left
          ·
           intro w'; go_simp
           with_reducible rfl
          rotate_left
          ·
           exact sP
          refine take_ (i := 1) (N := some 45) (v := ?_) (a' := ?_) #[true,true,true,false,false,false] rfl rfl (by kernel_rfl) (fun _ _ _ h => h) (Or.inl ⟨by rfl, ?_⟩) hHeld ?_ ?_; rotate_left
          ·
           rintro w' ⟨s0, s1, s2, s3⟩; go_simp
           with_reducible rfl
          rotate_left
          ·
           exact sP
          refine take_ (i := 4) (N := some 48) (v := ?_) (a' := ?_) #[true,true,true,false,true,false] rfl rfl (by kernel_rfl) (fun _ _ _ h => h) (Or.inl ⟨by rfl, ?_⟩) hHeld ?_ ?_; rotate_left
          ·
           rintro w' ⟨s0, s1, s2, s3⟩; go_simp
           with_reducible rfl
          rotate_left
          ·
           exact sP
          refine one_ (i := 3) (N := some 47) #[true,true,true,true,true,false] rfl rfl (by kernel_rfl) (by decide) (fun K hK => ?_); refine goes_ Tryz.func40 (by kernel_rfl) rfl #[.slice A0 l0.length c0, .agg #[.slice A1_0 l1_0.length c1_0, .slice A1_1 l1_1.length c1_1], .int .i64 x41_3] (by rfl) rfl rfl sG ?_; with_reducible refine (impl_strengthAt.calls k3 _ _ l0 _ _ l1_0 _ _ l1_1 x41_3 t521 t522 _ ?side1 ?side2 ?side3 ?side4 ?side5 ?side6 A36.out).mono ?_
          (case side1 => exact sC (Kd.C_below HR0.out HB.out)); (case side2 => exact HC0.out); (case side3 => exact sC (Kd.C_below HR1_0.out HB.out)); (case side4 => exact HC1_0.out); (case side5 => exact sC (Kd.C_below HR1_1.out HB.out)); (case side6 => exact HC1_1.out); rintro e w39 ⟨rfl, hb⟩; refine ⟨_, rfl, ?_⟩; replace BK511 := lB BK511 hb; replace BK516 := lB BK516 hb; replace HB := lW HB hb; refine hK.out _ _ ⟨bq BK511.out 0, bq BK511.out 1, bq BK516.out 0, bq BK516.out 1⟩ (fun hHeld => ?_); clear hK K; refine nX 47 ?_; refine pure_ (i := 5) (N := some 49) (v := ?_) (a' := ?_) #[true,true,true,true,true,true] rfl rfl (by kernel_rfl) (fun _ _ _ h => h) (Or.inl ⟨by rfl, ?_⟩) ?_ ?_; rotate_left
          ·
           intro w'; go_simp
           with_reducible rfl
          rotate_left
          ·
           exact sP
          refine done_ (by kernel_rfl) ?_
          go_upto_if 49 with (fail)
          have H := HC37.out; clear HC37; replace H := iE H; rcases H with ⟨c40, H⟩ | ⟨c40, H⟩
          ·
           have c40b0 : (t521 == t514 && (t522 == t515)) = true := c40; (try (have c40b1 : decide (t521 = t514 && (t522 == t515)) = true := by simpa using c40)); (try (have c40b2 : (t521 == t514 && (t522 == t515)) = true := by simpa using c40)); clear c40; (first | rw [c40b0] | (simp only [i64_w, i32_w]; rw [c40b0]) | (rw [c40b2]; simp only [Bool.not_false, Bool.not_true]) | rw [c40b1] | skip); simp only [Option.some.injEq, Prod.mk.injEq] at H; obtain ⟨rfl, rfl, rfl⟩ := H; go_wp2
           go_ret3
           exact ⟨eE, sW HB.out⟩
          ·
           have c40b0 : (t521 == t514 && (t522 == t515)) = false := by simpa using c40
           (try (have c40b1 : decide (t521 = t514 && (t522 == t515)) = false := by simpa using c40)); (try (have c40b2 : (t521 == t514 && (t522 == t515)) = false := by simpa using c40)); (try (have c40b3 : ¬ (t521 = t514 && (t522 == t515)) := by simpa using c40)); clear c40; (first | rw [c40b0] | (simp only [i64_w, i32_w]; rw [c40b0]) | (rw [c40b2]; simp only [Bool.not_false, Bool.not_true]) | rw [c40b1] | skip); have H' := aS H; clear H; go_wp2
           go_roundg k3
           case measure => have := HJ2.out; have := HK2.out; have := HK3.out; omega
           case rel => exact ⟨(wrap64 (x41_3 + 1)), eV, H', ⟨by have := HJ2.out; have := HK2.out; have := HK3.out; omega⟩, (aS (sB BK511.out)), (aS (sB BK516.out)), (aS (sW HB.out))⟩
         ·
          simp only [Option.some.injEq, Prod.mk.injEq] at H; obtain ⟨rfl, rfl, rfl⟩ := H; go_wp2
          go_ret3
          exact ⟨eE, sW HB.out⟩

def spec_WeakestPlace.f (k : Nat) (l0 : List (S47)) (l1_0 : List (S58)) (l1_1 : List Int) : Option (ByteArray × Int × Int) := (spec_l03LineAt.f k l0 [(⟨l1_0, l1_1⟩ : S28)]).bind fun t524 => (if t524 = true then ((spec_l03WeakestAt.f k l0 [(⟨l1_0, l1_1⟩ : S28)]).bind fun bt525 => (some (bt525.1, bt525.2.1, 0))) else (some ((⟨#[]⟩ : ByteArray), 0, 1)))
theorem spec_WeakestPlace.calls (k : Nat) (A0 : Option Addr) (c0 : Nat) (l0 : List (S47)) (A1_0 : Option Addr) (c1_0 : Nat) (l1_0 : List (S58)) (A1_1 : Option Addr) (c1_1 : Nat) (l1_1 : List Int) (r1 : ByteArray) (r2 : Int) (r3 : Int) (w : World) (hr0 : Kd.C k47 w A0 l0.length l0) (hc0 : l0.length ≤ c0) (hr1_0 : Kd.C k58 w A1_0 l1_0.length l1_0) (hc1_0 : l1_0.length ≤ c1_0) (hr1_1 : Kd.C (Kd.int .i64) w A1_1 l1_1.length l1_1) (hc1_1 : l1_1.length ≤ c1_1) (h : spec_WeakestPlace.f k l0 l1_0 l1_1 = some (r1, r2, r3)) :
  Calls Tryz.prog 11 #[.slice A0 l0.length c0, .agg #[.slice A1_0 l1_0.length c1_0, .slice A1_1 l1_1.length c1_1]] w fun e w' => e = .returned (.tuple #[.string r1, .int .i64 r2, .int .i64 r3]) ∧ Below w.heap.size w w' := by
 have hu28 := Tryz.underlying28; have HR0 := aS hr0; have HC0 := aS hc0; clear hr0 hc0; have HR1_0 := aS hr1_0; have HC1_0 := aS hc1_0; clear hr1_0 hc1_0; have HR1_1 := aS hr1_1; have HC1_1 := aS hc1_1; clear hr1_1 hc1_1; have HB := aS (Below.refl w.heap.size w); have H := h; clear h; unfold spec_WeakestPlace.f at H; replace H := bE H; obtain ⟨t524, A3, H⟩ := H; try dsimp only at H
 have HC4 := aS H; clear H; go_enter Tryz.func11, Tryz.ntmps11
 go_upto_if 12 with (first | ((with_reducible refine gt 3 rfl ?_); refine bx 3 #[.slice A1_0 l1_0.length c1_0, .slice A1_1 l1_1.length c1_1] 28 ?_; intro gb523 hg w5 hbox hb; have BK523 := aS (hbox); have GW523 := aS (gW hg (sW HB.out)); have GE523 := aS (gW hg (sW HB.out)); replace HB := lW HB hb; clear hb hbox hg) | ((with_reducible refine gk 34 rfl ?_); refine gC (some 11) rfl Tryz.func34 #[.slice A0 l0.length c0, .pointer (some ⟨gb523, 0, none⟩)] (spec_l03LineAt.calls k _ _ l0 _ 1 [(⟨l1_0, l1_1⟩ : S28)] t524 _ (sC (Kd.C_below HR0.out HB.out)) HC0.out ?side3 (Nat.le_refl _) A3.out) ?_; (case side3 => exact box_C (show (_ : World).heap[_]? = some (Obj.cells #[.slice A1_0 l1_0.length c1_0, .slice A1_1 l1_1.length c1_1] 28 (0, 0)) from by (with_reducible repeat (first | refine blk_drewN ?_ _ | refine blk_drew ?_ | refine blk_alloc ?_ _)); exact BK523.out) (k28_mk _ _ (by exact HC1_0.out) (by repeat (first | exact (Kd.C_below HR1_0.out HB.out) | (with_reducible refine Kd.C_alloc ?_ _) | (with_reducible refine Kd.C_drewN ?_ _) | (with_reducible refine Kd.C_drew ?_))) (by exact HC1_1.out) (by repeat (first | exact (Kd.C_below HR1_1.out HB.out) | (with_reducible refine Kd.C_alloc ?_ _) | (with_reducible refine Kd.C_drewN ?_ _) | (with_reducible refine Kd.C_drew ?_))))); rintro e w6 ⟨rfl, hb⟩; refine ⟨_, rfl, ?_⟩; replace BK523 := lB BK523 hb; replace HB := lW HB hb))
 (try simp only [Act.put, List.setIfInBounds_toArray, List.set_cons_zero, List.set_cons_succ]); have H := HC4.out; clear HC4; replace H := iZ H; rcases H with ⟨rfl, H⟩ | ⟨rfl, H⟩
 ·
  replace H := bE H; obtain ⟨⟨t525, t526, t527⟩, A8, H⟩ := H; try dsimp only at H
  simp only [Option.some.injEq, Prod.mk.injEq] at H; obtain ⟨rfl, rfl, rfl⟩ := H
  go_wp2_with (first | ((with_reducible refine gk 35 rfl ?_); refine gC (some 15) rfl Tryz.func35 #[.slice A0 l0.length c0, .pointer (some ⟨gb523, 0, none⟩)] (spec_l03WeakestAt.calls k _ _ l0 _ 1 [(⟨l1_0, l1_1⟩ : S28)] t525 t526 t527 _ (sC (Kd.C_below HR0.out HB.out)) HC0.out ?side3 (Nat.le_refl _) A8.out) ?_; (case side3 => exact box_C (show (_ : World).heap[_]? = some (Obj.cells #[.slice A1_0 l1_0.length c1_0, .slice A1_1 l1_1.length c1_1] 28 (0, 0)) from by (with_reducible repeat (first | refine blk_drewN ?_ _ | refine blk_drew ?_ | refine blk_alloc ?_ _)); exact BK523.out) (k28_mk _ _ (by exact HC1_0.out) (by repeat (first | exact (Kd.C_below HR1_0.out HB.out) | (with_reducible refine Kd.C_alloc ?_ _) | (with_reducible refine Kd.C_drewN ?_ _) | (with_reducible refine Kd.C_drew ?_))) (by exact HC1_1.out) (by repeat (first | exact (Kd.C_below HR1_1.out HB.out) | (with_reducible refine Kd.C_alloc ?_ _) | (with_reducible refine Kd.C_drewN ?_ _) | (with_reducible refine Kd.C_drew ?_))))); rintro e w9 ⟨rfl, hb⟩; refine ⟨_, rfl, ?_⟩; replace BK523 := lB BK523 hb; replace HB := lW HB hb))
  go_ret3
  exact ⟨eE, sW HB.out⟩
 ·
  simp only [Option.some.injEq, Prod.mk.injEq] at H; obtain ⟨rfl, rfl, rfl⟩ := H; go_wp2
  go_ret3
  exact ⟨eE, sW HB.out⟩
end
def impl_LinePiece_41.l0 : Nat → List (S58) → Int → Int → Option ((List (S58)))
 | 0, _, _, _ => none
 | k + 1, x0, x2, x3 => if x2 < x3 then (if 0 ≤ x3 then (if x3 < (x0.length : Int) then (if 0 ≤ x2 then (if x2 < (x0.length : Int) then (impl_LinePiece_41.l0 k ((x0.set (x2 : Int).toNat (⟨(rd_T58 x0 x3).f0, (rd_T58 x0 x3).f1⟩ : S58)).set (x3 : Int).toNat (⟨(rd_T58 x0 x2).f0, (rd_T58 x0 x2).f1⟩ : S58)) (wrap64 (x2 + 1)) (wrap64 (x3 - 1))) else (none)) else (none)) else (none)) else (none)) else (some x0)
def impl_LinePiece_41.f (k : Nat) (l0 : List (S58)) : Option ((List (S58))) := impl_LinePiece_41.l0 k l0 0 (wrap64 ((l0.length : Int) - 1))
def impl_LinePiece_41.T3 : Bool × List (List Nat × List Nat) := (true,[([],[]),([],[]),([],[]),([],[]),([],[]),([],[]),([4,5],[4,5]),([6],[6]),([],[]),([],[]),([8,9],[8,9]),([10],[10]),([0,1,0,1,4,5,6,7,11],[0,1]),([12,7,0,1,4,5,6,7,11],[7,12]),([2,3,0,1,2,3,4,5,6,7,8,9,10,11,12,13],[2,3]),([14,11,13,0,1,2,3,4,5,6,7,8,9,10,11,12,13],[11,14])])
def impl_LinePiece_41.B3 : List Nat := [0,0,0,0,0,0,48,112,0,0,768,1792,4083,8179,16383,32767]
theorem impl_LinePiece_41.tab3 : rtab .any (opsOf Tryz.f41 3) = impl_LinePiece_41.T3 := by kernel_rfl
theorem impl_LinePiece_41.bits3 : waitsOk impl_LinePiece_41.T3.2 impl_LinePiece_41.B3 = true := by kernel_rfl
theorem impl_LinePiece_41.calls (k : Nat) (P0_ : Nat → Prop) (u9000_ : Value) (l0 : List (S58)) (r : List (S58)) (w0 w : World) (hB : Below w0.heap.size w0 w) (ho0 : Kd.R k58 58 w w0.heap.size P0_ u9000_ l0) (h : impl_LinePiece_41.f k l0 = some r) :
  Calls Tryz.prog 41 #[u9000_] w fun e w' => e = .returned (.tuple #[]) ∧ Kd.R k58 58 w' w0.heap.size (fun k_ => (P0_ k_ ∨ w.heap.size ≤ k_)) u9000_ r ∧ Below w0.heap.size w0 w' ∧ Kept w w' (fun k_ => P0_ k_) := by
 have hu58 := Tryz.underlying58; have HO0 := aS (show Kd.R k58 58 w w0.heap.size (fun k_ => (P0_ k_ ∨ w.heap.size ≤ k_)) u9000_ l0 from Kd.R_mono ho0 (fun k_ hk => (.inl hk))); have HK := aS (Kept.refl w (fun k_ => P0_ k_)); have HW0 := aS hB.size; have HB := aS hB; clear hB; have H := h; clear h; unfold impl_LinePiece_41.f at H; have H' := aS H; clear H; obtain ⟨Ao2, co2, eo2⟩ := Kd.R_slice HO0.out; subst eo2; go_enter Tryz.func41, Tryz.ntmps41; go_wp2
 go_loopg [2, 3] k (fun kq v2 v3 w' => ∃ (x0_1 : List (S58)) (x2_1 : Int) (x3_1 : Int), v2 = .int .i64 x2_1 ∧ v3 = .int .i64 x3_1 ∧ Aside0 (impl_LinePiece_41.l0 kq x0_1 x2_1 x3_1 = some r) ∧ Aside0 (kq ≤ k) ∧ Aside0 (Kd.R k58 58 w' w0.heap.size (fun k_ => (P0_ k_ ∨ w.heap.size ≤ k_)) (.slice Ao2 l0.length co2) x0_1) ∧ Aside0 (Kept w w' (fun k_ => P0_ k_)) ∧ Aside0 (Below w0.heap.size w0 w'))
 case atStart => exact ⟨(l0), (0), (wrap64 ((l0.length : Int) - 1)), eV, eV, H', ⟨Nat.le_refl _⟩, (aS (sR HO0.out)), (aS (sKp HK.out)), (aS (sW HB.out))⟩
 case round =>
  clear H'; obtain ⟨x0_1, x2_1, x3_1, rfl, rfl, HA, HK1, HO_0, HK, HB⟩ := hrel; have hl0_1 := (Kd.R_reads' HO_0.out).1; rw [hl0_1] at HO_0; (try simp only [hl0_1]); cases gk with
  | zero => exact absurd HA.out (by simp [impl_LinePiece_41.l0])
  | succ k1 =>
   have H := HA.out; clear HA; simp only [impl_LinePiece_41.l0] at H; replace H := iD H; rcases H with ⟨c3b0, H⟩ | ⟨c3b0, H⟩
   ·
    replace H := iE H; rcases H with ⟨c4, H⟩ | ⟨c4, H⟩
    ·
     have c4b0 := decide_eq_true c4; clear c4; replace H := iE H; rcases H with ⟨c5, H⟩ | ⟨c5, H⟩
     ·
      have c5b0 := decide_eq_true c5; (try (have c5b0hl0_1 := c5b0; simp only [hl0_1] at c5b0hl0_1)); clear c5; replace H := iE H; rcases H with ⟨c6, H⟩ | ⟨c6, H⟩
      ·
       have c6b0 := decide_eq_true c6; clear c6; replace H := iE H; rcases H with ⟨c7, H⟩ | ⟨c7, H⟩
       ·
        have c7b0 := decide_eq_true c7; (try (have c7b0hl0_1 := c7b0; simp only [hl0_1] at c7b0hl0_1)); clear c7; obtain ⟨y530, hy530⟩ : ∃ y_ : List (S58), y_ = (x0_1.set (x2_1 : Int).toNat (⟨(rd_T58 x0_1 x3_1).f0, (rd_T58 x0_1 x3_1).f1⟩ : S58)) := ⟨_, rfl⟩; replace H : (impl_LinePiece_41.l0 k1 (y530.set (x3_1 : Int).toNat (⟨(rd_T58 x0_1 x2_1).f0, (rd_T58 x0_1 x2_1).f1⟩ : S58)) (wrap64 (x2_1 + 1)) (wrap64 (x3_1 - 1))) = some r := by first | (rw [hy530]; with_reducible exact H) | (have H2_ := (Option.bind_some _ _).symm.trans H; rw [hy530]; with_reducible exact H2_) | (have H2_ := (Option.bind_some _ _).symm.trans H; with_reducible exact H2_) | with_reducible exact H | (rw [hy530]; exact H) | exact H
        have Ny530 := aS hy530; clear hy530; obtain ⟨y531, hy531⟩ : ∃ y_ : List (S58), y_ = (y530.set (x3_1 : Int).toNat (⟨(rd_T58 x0_1 x2_1).f0, (rd_T58 x0_1 x2_1).f1⟩ : S58)) := ⟨_, rfl⟩; replace H : (impl_LinePiece_41.l0 k1 y531 (wrap64 (x2_1 + 1)) (wrap64 (x3_1 - 1))) = some r := by first | (rw [hy531]; with_reducible exact H) | (have H2_ := (Option.bind_some _ _).symm.trans H; rw [hy531]; with_reducible exact H2_) | (have H2_ := (Option.bind_some _ _).symm.trans H; with_reducible exact H2_) | with_reducible exact H | (rw [hy531]; exact H) | exact H
        have Ny531 := aS hy531; clear hy531; have H' := aS H; clear H
        try go_wp2
        replace HO_0 := aS (Kd.R_drew HO_0.out); replace HK := aS (Kept.drew HK.out); replace HB := aS (below_drew1 HB.out); have p528 : 0 ≤ (x3_1 : Int) := sD; have q528 : x3_1 < (x0_1.length : Int) := sD; obtain ⟨ad528, e528, hx528_0, hx528_1⟩ := at_T58 (Kd.R_reads' HO_0.out).2.2 x3_1 p528 q528; cases e528; have p529 : 0 ≤ (x2_1 : Int) := sD; have q529 : x2_1 < (x0_1.length : Int) := sD; obtain ⟨ad529, e529, hx529_0, hx529_1⟩ := at_T58 (Kd.R_reads' HO_0.out).2.2 x2_1 p529 q529; obtain rfl : ad528 = ad529 := (by injection e529); have p8 : 0 ≤ (x2_1 : Int) := sD; have q8 : (x2_1 : Int) < ((x0_1.length : Int) : Int) := sD; obtain ⟨go8, co8, eo8, gb8, gl8, cl8, HG8⟩ := Kd.R_form HO_0.out (by omega); (first | cases eo8 | (injection eo8 with ea_ en_ ec_; (first | subst ea_ | (injection ea_ with ea_; subst ea_)); subst ec_; clear en_)); have GB8 := aS gb8; have GG8 := aS HG8; clear gb8 gl8 HG8; have HMgo8 := aS (show (P0_ go8 ∨ w.heap.size ≤ go8) from (HO_0.out.1 _ rfl)); (first | simp only [add_plain] at hx528_0 | skip); (first | simp only [add_plain] at hx528_1 | skip); (first | simp only [add_plain] at hx529_0 | skip); (first | simp only [add_plain] at hx529_1 | skip); obtain ⟨ce8, hcl8, hM8, hcc8, hfr8⟩ := Kd.R_elem HO_0.out z58 (x2_1 : Int) p8 q8; obtain rfl := k58_openM hM8; have hx8_0 : World.cell? _ ⟨go8, (x2_1 : Int).toNat * 2, none⟩ = some (.int .i64 ((rd_T58 x0_1 x2_1).f0)) := hcc8 0 _ rfl; have hx8_1 : World.cell? _ ⟨go8, (x2_1 : Int).toNat * 2 + 1, none⟩ = some (.int .i64 ((rd_T58 x0_1 x2_1).f1)) := hcc8 1 _ rfl; have hf8_0 : World.frozen? _ ⟨go8, (x2_1 : Int).toNat * 2, none⟩ = false := hfr8 0; have hf8_1 : World.frozen? _ ⟨go8, (x2_1 : Int).toNat * 2 + 1, none⟩ = false := hfr8 1; clear hcl8 hcc8 hfr8 hM8; obtain ⟨ce11, hcl11, hM11, hcc11, hfr11⟩ := Kd.R_elem HO_0.out z58 (x2_1 : Int) (sD) (by have h_ : (x2_1 : Int) < ((x0_1.length : Int) : Int) := sD; first | exact h_ | (have e_ := (Kd.R_reads' HO_0.out).1; omega) | simpa using h_); obtain rfl := k58_openM hM11; have HP11 := (Kd.R_seg HO_0.out (x2_1 : Int) (sD) (by have h_ : (x2_1 : Int) < ((x0_1.length : Int) : Int) := sD; first | exact h_ | (have e_ := (Kd.R_reads' HO_0.out).1; omega) | simpa using h_) (seg := [.int .i64 ((rd_T58 x0_1 x3_1).f0), .int .i64 ((rd_T58 x0_1 x3_1).f1)]) (j := 0) hcl11 hcc11 (show 2 ≤ 2 from by decide) (x' := (⟨(rd_T58 x0_1 x3_1).f0, (rd_T58 x0_1 x3_1).f1⟩ : S58)) (k58_mkM _ _ _ (⟨(rd_T58 x0_1 x3_1).f0, (rd_T58 x0_1 x3_1).f1⟩ : S58) ) (fun _ hk => hk)).1; rw [← Ny530.out] at HP11; have HQ11 := aS HP11; clear hcl11 hcc11 hfr11 hM11 HP11; have p9 : 0 ≤ (x3_1 : Int) := sD; have q9 : (x3_1 : Int) < ((x0_1.length : Int) : Int) := sD; obtain ⟨ce9, hcl9, hM9, hcc9, hfr9⟩ := Kd.R_elem HQ11.out z58 (x3_1 : Int) p9 q9; obtain rfl := k58_openM hM9; have hx9_0 : World.cell? _ ⟨go8, (x3_1 : Int).toNat * 2, none⟩ = some (.int .i64 ((rd_T58 y530 x3_1).f0)) := hcc9 0 _ rfl; have hx9_1 : World.cell? _ ⟨go8, (x3_1 : Int).toNat * 2 + 1, none⟩ = some (.int .i64 ((rd_T58 y530 x3_1).f1)) := hcc9 1 _ rfl; have hf9_0 : World.frozen? _ ⟨go8, (x3_1 : Int).toNat * 2, none⟩ = false := hfr9 0; have hf9_1 : World.frozen? _ ⟨go8, (x3_1 : Int).toNat * 2 + 1, none⟩ = false := hfr9 1; clear hcl9 hcc9 hfr9 hM9; obtain ⟨ce12, hcl12, hM12, hcc12, hfr12⟩ := Kd.R_elem HQ11.out z58 (x3_1 : Int) (sD) (by have h_ : (x3_1 : Int) < ((x0_1.length : Int) : Int) := sD; first | exact h_ | (have e_ := (Kd.R_reads' HO_0.out).1; omega) | simpa using h_); obtain rfl := k58_openM hM12; have HP12 := (Kd.R_seg HQ11.out (x3_1 : Int) (sD) (by have h_ : (x3_1 : Int) < ((x0_1.length : Int) : Int) := sD; first | exact h_ | (have e_ := (Kd.R_reads' HO_0.out).1; omega) | simpa using h_) (seg := [.int .i64 ((rd_T58 x0_1 x2_1).f0), .int .i64 ((rd_T58 x0_1 x2_1).f1)]) (j := 0) hcl12 hcc12 (show 2 ≤ 2 from by decide) (x' := (⟨(rd_T58 x0_1 x2_1).f0, (rd_T58 x0_1 x2_1).f1⟩ : S58)) (k58_mkM _ _ _ (⟨(rd_T58 x0_1 x2_1).f0, (rd_T58 x0_1 x2_1).f1⟩ : S58) ) (fun _ hk => hk)).1; rw [← Ny531.out] at HP12; have HQ12 := aS HP12
        clear hcl12 hcc12 hfr12 hM12 HP12; (try (have hne_x2_1_x3_1 : ¬ ((x2_1 : Int).toNat = (x3_1 : Int).toNat) ∧ ¬ ((x3_1 : Int).toNat = (x2_1 : Int).toNat) := (by first | ((have h1 : x2_1 < x3_1 := of_decide_eq_true (by assumption)); (have h2 : 0 ≤ x2_1 := by first | exact of_decide_eq_true (by assumption) | exact of_eq_true (by assumption)); omega)); obtain ⟨hnea_x2_1_x3_1, hneb_x2_1_x3_1⟩ := hne_x2_1_x3_1)); (try (have hne_x3_1_x2_1 : ¬ ((x3_1 : Int).toNat = (x2_1 : Int).toNat) ∧ ¬ ((x2_1 : Int).toNat = (x3_1 : Int).toNat) := (by first | ((have h1 : x3_1 < x2_1 := of_decide_eq_true (by assumption)); (have h2 : 0 ≤ x3_1 := by first | exact of_decide_eq_true (by assumption) | exact of_eq_true (by assumption)); omega)); obtain ⟨hnea_x3_1_x2_1, hneb_x3_1_x2_1⟩ := hne_x3_1_x2_1)); refine start_ (n := 16) (S := fun w' => w'.cell? ⟨go8, ((x3_1).toNat * 2), none⟩ = some (.int .i64 ((rd_T58 x0_1 x3_1).f0)) ∧ w'.cell? ⟨go8, ((x3_1).toNat * 2) + 1, none⟩ = some (.int .i64 ((rd_T58 x0_1 x3_1).f1)) ∧ w'.cell? ⟨go8, ((x2_1).toNat * 2), none⟩ = some (.int .i64 ((rd_T58 x0_1 x2_1).f0)) ∧ w'.cell? ⟨go8, ((x2_1).toNat * 2) + 1, none⟩ = some (.int .i64 ((rd_T58 x0_1 x2_1).f1))) (ds := [13, 15]) _ (by kernel_rfl) rfl rfl ⟨hx528_0, hx528_1, hx529_0, hx529_1⟩ (fun hHeld => ?_); refine with_tabW impl_LinePiece_41.tab3 impl_LinePiece_41.bits3 (fun HT_ HW_ => ?_); generalize wr.drew = w10 at HO_0 HK HB GG8 HQ11 HQ12 hf8_0 hf8_1 hf9_0 hf9_1 hx528_0 hx528_1 hx529_0 hx529_1 hx8_0 hx8_1 hx9_0 hx9_1 hHeld ⊢; (try (have hf8_0z := (World.frozen?_setCells _ _ _ _ _).symm.trans hf8_0)); (try (have hf8_1z := (World.frozen?_setCells _ _ _ _ _).symm.trans hf8_1)); (try (have hf9_0z := (World.frozen?_setCells _ _ _ _ _).symm.trans hf9_0)); (try (have hf9_1z := (World.frozen?_setCells _ _ _ _ _).symm.trans hf9_1)); refine pX 0 14 ?_; refine pX 1 15 ?_; refine pX 2 16 ?_; refine pX 3 17 ?_; refine pX 4 18 ?_; refine pX 5 19 ?_; refine pX 6 20 ?_; refine pX 8 22 ?_; refine pX 9 23 ?_; refine pX 10 24 ?_; refine tX 7 21 ?_; refine tX 11 25 ?_; refine pX 12 26 ?_; refine lX 13 none fun K hK => ?_
        refine skip_ (w1 := ?_) (by rfl) rfl ?_ ?_; rotate_left
        ·
         go_simp
         rfl
        refine hK.out _ _ ?_; clear hK K; refine pX 14 27 ?_; refine lX 15 none fun K hK => ?_
        refine skip_ (w1 := ?_) (by rfl) rfl ?_ ?_; rotate_left
        ·
         go_simp
         rfl
        refine hK.out _ _ ?_; clear hK K; refine dX ?_
        try go_wp2
        (try simp only [← hl0_1])
        go_roundg k1
        case measure => have := HK1.out; omega
        case rel => exact ⟨(y531), (wrap64 (x2_1 + 1)), (wrap64 (x3_1 - 1)), eV, eV, H', ⟨by have := HK1.out; omega⟩, ⟨by (try simp only [hl0_1]); (with_reducible repeat (first | apply Kd.R_alloc | apply Kd.R_drewN | apply Kd.R_drew)); exact HQ12.out⟩, ⟨by repeat (first | (with_reducible first | exact HK.out | apply Kept.alloc | apply Kept.drewN | apply Kept.drew | refine Kept.setCell ?_ HMgo8.out _ | refine Kept.setCell ?_ HMgo8.out _ | refine Kept.setCell ?_ HMgo8.out _ | refine Kept.setCell ?_ HMgo8.out _) | exact HK.out)⟩, (aS (sW HB.out))⟩
       ·
        exact absurd H (by simp)
      ·
       exact absurd H (by simp)
     ·
      exact absurd H (by simp)
    ·
     exact absurd H (by simp)
   ·
    obtain rfl := Option.some.inj H; go_wp2
    first | go_end0 | ((try simp only [Exit.inBlock, Exit.then]); refine bodyPost_ret (results_none rfl _ _ _) rfl ?_)
    exact ⟨eE, (by first | exact (sR HO_0.out) | (simp only [hl0_1]; exact (sR HO_0.out))), sW HB.out, sKp HK.out⟩

def slices_Reverse_int64_int64.l0 : Nat → List Int → Int → Int → Option (List Int)
 | 0, _, _, _ => none
 | k + 1, x0, x2, x3 => if x2 < x3 then (if 0 ≤ x3 then (if x3 < (x0.length : Int) then (if 0 ≤ x2 then (if x2 < (x0.length : Int) then (slices_Reverse_int64_int64.l0 k ((x0.set (x2 : Int).toNat (rd x0 x3)).set (x3 : Int).toNat (rd x0 x2)) (wrap64 (x2 + 1)) (wrap64 (x3 - 1))) else (none)) else (none)) else (none)) else (none)) else (some x0)
def slices_Reverse_int64_int64.f (k : Nat) (l0 : List Int) : Option (List Int) := slices_Reverse_int64_int64.l0 k l0 0 (wrap64 ((l0.length : Int) - 1))
def slices_Reverse_int64_int64.T3 : Bool × List (List Nat × List Nat) := (true,[([],[]),([],[]),([],[]),([],[]),([],[]),([],[]),([4,5],[4,5]),([6],[6]),([],[]),([],[]),([8,9],[8,9]),([10],[10]),([0,1,0,1,4,5,6,7,11],[0,1]),([12,7,0,1,4,5,6,7,11],[7,12]),([2,3,0,1,2,3,4,5,6,7,8,9,10,11,12,13],[2,3]),([14,11,13,0,1,2,3,4,5,6,7,8,9,10,11,12,13],[11,14])])
def slices_Reverse_int64_int64.B3 : List Nat := [0,0,0,0,0,0,48,112,0,0,768,1792,4083,8179,16383,32767]
theorem slices_Reverse_int64_int64.tab3 : rtab .any (opsOf Tryz.f42 3) = slices_Reverse_int64_int64.T3 := by kernel_rfl
theorem slices_Reverse_int64_int64.bits3 : waitsOk slices_Reverse_int64_int64.T3.2 slices_Reverse_int64_int64.B3 = true := by kernel_rfl
theorem slices_Reverse_int64_int64.calls (k : Nat) (P0_ : Nat → Prop) (u9000_ : Value) (l0 : List Int) (r : List Int) (w0 w : World) (hB : Below w0.heap.size w0 w) (ho0 : Kd.R (Kd.int .i64) 2 w w0.heap.size P0_ u9000_ l0) (h : slices_Reverse_int64_int64.f k l0 = some r) :
  Calls Tryz.prog 42 #[u9000_] w fun e w' => e = .returned (.tuple #[]) ∧ Kd.R (Kd.int .i64) 2 w' w0.heap.size (fun k_ => (P0_ k_ ∨ w.heap.size ≤ k_)) u9000_ r ∧ Below w0.heap.size w0 w' ∧ Kept w w' (fun k_ => P0_ k_) := by
 have HO0 := aS (show Kd.R (Kd.int .i64) 2 w w0.heap.size (fun k_ => (P0_ k_ ∨ w.heap.size ≤ k_)) u9000_ l0 from Kd.R_mono ho0 (fun k_ hk => (.inl hk))); have HK := aS (Kept.refl w (fun k_ => P0_ k_)); have HW0 := aS hB.size; have HB := aS hB; clear hB; have H := h; clear h; unfold slices_Reverse_int64_int64.f at H; have H' := aS H; clear H; obtain ⟨Ao2, co2, eo2⟩ := Kd.R_slice HO0.out; subst eo2; go_enter Tryz.func42, Tryz.ntmps42; go_wp2
 go_loopg [2, 3] k (fun kq v2 v3 w' => ∃ (x0_1 : List Int) (x2_1 : Int) (x3_1 : Int), v2 = .int .i64 x2_1 ∧ v3 = .int .i64 x3_1 ∧ Aside0 (slices_Reverse_int64_int64.l0 kq x0_1 x2_1 x3_1 = some r) ∧ Aside0 (kq ≤ k) ∧ Aside0 (Kd.R (Kd.int .i64) 2 w' w0.heap.size (fun k_ => (P0_ k_ ∨ w.heap.size ≤ k_)) (.slice Ao2 l0.length co2) x0_1) ∧ Aside0 (Kept w w' (fun k_ => P0_ k_)) ∧ Aside0 (Below w0.heap.size w0 w'))
 case atStart => exact ⟨(l0), (0), (wrap64 ((l0.length : Int) - 1)), eV, eV, H', ⟨Nat.le_refl _⟩, (aS (sR HO0.out)), (aS (sKp HK.out)), (aS (sW HB.out))⟩
 case round =>
  clear H'; obtain ⟨x0_1, x2_1, x3_1, rfl, rfl, HA, HK1, HO_0, HK, HB⟩ := hrel; have hl0_1 := (Kd.R_reads' HO_0.out).1; rw [hl0_1] at HO_0; (try simp only [hl0_1]); cases gk with
  | zero => exact absurd HA.out (by simp [slices_Reverse_int64_int64.l0])
  | succ k1 =>
   have H := HA.out; clear HA; simp only [slices_Reverse_int64_int64.l0] at H; replace H := iD H; rcases H with ⟨c3b0, H⟩ | ⟨c3b0, H⟩
   ·
    replace H := iE H; rcases H with ⟨c4, H⟩ | ⟨c4, H⟩
    ·
     have c4b0 := decide_eq_true c4; clear c4; replace H := iE H; rcases H with ⟨c5, H⟩ | ⟨c5, H⟩
     ·
      have c5b0 := decide_eq_true c5; (try (have c5b0hl0_1 := c5b0; simp only [hl0_1] at c5b0hl0_1)); clear c5; replace H := iE H; rcases H with ⟨c6, H⟩ | ⟨c6, H⟩
      ·
       have c6b0 := decide_eq_true c6; clear c6; replace H := iE H; rcases H with ⟨c7, H⟩ | ⟨c7, H⟩
       ·
        have c7b0 := decide_eq_true c7; (try (have c7b0hl0_1 := c7b0; simp only [hl0_1] at c7b0hl0_1)); clear c7; obtain ⟨y534, hy534⟩ : ∃ y_ : List Int, y_ = (x0_1.set (x2_1 : Int).toNat (rd x0_1 x3_1)) := ⟨_, rfl⟩; replace H : (slices_Reverse_int64_int64.l0 k1 (y534.set (x3_1 : Int).toNat (rd x0_1 x2_1)) (wrap64 (x2_1 + 1)) (wrap64 (x3_1 - 1))) = some r := by first | (rw [hy534]; with_reducible exact H) | (have H2_ := (Option.bind_some _ _).symm.trans H; rw [hy534]; with_reducible exact H2_) | (have H2_ := (Option.bind_some _ _).symm.trans H; with_reducible exact H2_) | with_reducible exact H | (rw [hy534]; exact H) | exact H
        have Ny534 := aS hy534; clear hy534; obtain ⟨y535, hy535⟩ : ∃ y_ : List Int, y_ = (y534.set (x3_1 : Int).toNat (rd x0_1 x2_1)) := ⟨_, rfl⟩; replace H : (slices_Reverse_int64_int64.l0 k1 y535 (wrap64 (x2_1 + 1)) (wrap64 (x3_1 - 1))) = some r := by first | (rw [hy535]; with_reducible exact H) | (have H2_ := (Option.bind_some _ _).symm.trans H; rw [hy535]; with_reducible exact H2_) | (have H2_ := (Option.bind_some _ _).symm.trans H; with_reducible exact H2_) | with_reducible exact H | (rw [hy535]; exact H) | exact H
        have Ny535 := aS hy535; clear hy535; have H' := aS H; clear H
        try go_wp2
        replace HO_0 := aS (Kd.R_drew HO_0.out); replace HK := aS (Kept.drew HK.out); replace HB := aS (below_drew1 HB.out); have p532 : 0 ≤ (x3_1 : Int) := sD; have q532 : x3_1 < (x0_1.length : Int) := sD; obtain ⟨ad532, e532, hx532_0⟩ := Kd.at_int (Kd.R_reads' HO_0.out).2.2 x3_1 p532 q532; cases e532; have p533 : 0 ≤ (x2_1 : Int) := sD; have q533 : x2_1 < (x0_1.length : Int) := sD; obtain ⟨ad533, e533, hx533_0⟩ := Kd.at_int (Kd.R_reads' HO_0.out).2.2 x2_1 p533 q533; obtain rfl : ad532 = ad533 := (by injection e533); have p8 : 0 ≤ (x2_1 : Int) := sD; have q8 : (x2_1 : Int) < ((x0_1.length : Int) : Int) := sD; obtain ⟨go8, co8, eo8, gb8, gl8, cl8, HG8⟩ := Kd.R_form HO_0.out (by omega); (first | cases eo8 | (injection eo8 with ea_ en_ ec_; (first | subst ea_ | (injection ea_ with ea_; subst ea_)); subst ec_; clear en_)); have GB8 := aS gb8; have GG8 := aS HG8; clear gb8 gl8 HG8; have HMgo8 := aS (show (P0_ go8 ∨ w.heap.size ≤ go8) from (HO_0.out.1 _ rfl)); (first | simp only [add_plain] at hx532_0 | skip); (first | simp only [add_plain] at hx533_0 | skip); obtain ⟨hx8_0, hf8_0⟩ := Kd.R_celln 0 HO_0.out (x2_1 : Int) p8 q8; have HP11 := Kd.R_putn HO_0.out (x2_1 : Int) (rd x0_1 x3_1); rw [← Ny534.out] at HP11; have HQ11 := aS HP11; clear HP11; have p9 : 0 ≤ (x3_1 : Int) := sD; have q9 : (x3_1 : Int) < ((x0_1.length : Int) : Int) := sD; obtain ⟨hx9_0, hf9_0⟩ := Kd.R_celln 0 HQ11.out (x3_1 : Int) p9 q9; have HP12 := Kd.R_putn HQ11.out (x3_1 : Int) (rd x0_1 x2_1); rw [← Ny535.out] at HP12; have HQ12 := aS HP12; clear HP12; refine start_ (n := 16) (S := fun w' => w'.cell? ⟨go8, (x3_1).toNat, none⟩ = some (.int .i64 (rd x0_1 x3_1)) ∧ w'.cell? ⟨go8, (x2_1).toNat, none⟩ = some (.int .i64 (rd x0_1 x2_1))) (ds := [13, 15]) _ (by kernel_rfl) rfl rfl ⟨hx532_0, hx533_0⟩ (fun hHeld => ?_); refine with_tabW slices_Reverse_int64_int64.tab3 slices_Reverse_int64_int64.bits3 (fun HT_ HW_ => ?_); generalize wr.drew = w10 at HO_0 HK HB GG8 HQ11 HQ12 hf8_0 hf9_0 hx532_0 hx533_0 hx8_0 hx9_0 hHeld ⊢; refine pX 0 14 ?_; refine pX 1 15 ?_; refine pX 2 16 ?_; refine pX 3 17 ?_; refine pX 4 18 ?_; refine pX 5 19 ?_; refine pX 6 20 ?_; refine pX 8 22 ?_; refine pX 9 23 ?_; refine pX 10 24 ?_; refine tX 7 21 ?_; refine tX 11 25 ?_; refine pX 12 26 ?_; refine lX 13 none fun K hK => ?_
        refine skip_ (w1 := ?_) (by rfl) rfl ?_ ?_; rotate_left
        ·
         go_simp
         rfl
        refine hK.out _ _ ?_; clear hK K; refine pX 14 27 ?_; refine lX 15 none fun K hK => ?_
        refine skip_ (w1 := ?_) (by rfl) rfl ?_ ?_; rotate_left
        ·
         go_simp
         rfl
        refine hK.out _ _ ?_; clear hK K; refine dX ?_
        try go_wp2
        (try simp only [← hl0_1])
        go_roundg k1
        case measure => have := HK1.out; omega
        case rel => exact ⟨(y535), (wrap64 (x2_1 + 1)), (wrap64 (x3_1 - 1)), eV, eV, H', ⟨by have := HK1.out; omega⟩, ⟨by (try simp only [hl0_1]); (with_reducible repeat (first | apply Kd.R_alloc | apply Kd.R_drewN | apply Kd.R_drew)); exact HQ12.out⟩, ⟨by repeat (first | (with_reducible first | exact HK.out | apply Kept.alloc | apply Kept.drewN | apply Kept.drew | refine Kept.setCell ?_ HMgo8.out _ | refine Kept.setCell ?_ HMgo8.out _) | exact HK.out)⟩, (aS (sW HB.out))⟩
       ·
        exact absurd H (by simp)
      ·
       exact absurd H (by simp)
     ·
      exact absurd H (by simp)
    ·
     exact absurd H (by simp)
   ·
    obtain rfl := Option.some.inj H; go_wp2
    first | go_end0 | ((try simp only [Exit.inBlock, Exit.then]); refine bodyPost_ret (results_none rfl _ _ _) rfl ?_)
    exact ⟨eE, (by first | exact (sR HO_0.out) | (simp only [hl0_1]; exact (sR HO_0.out))), sW HB.out, sKp HK.out⟩
end Go.Proofs.YtginmioklkcgbaaGreatDoor.QFnLines

/- What the Go functions of this law compute, each as a Lean function, and that each call comes to that answer; written by a program of this session. No condition. -/
import Derived.Test.YtginmioklkcgbaaDoorQFnExactRopeTextx0
import Derived.Test.YtginmioklkcgbaaDoorQFnExactRopeTextx1
import Derived.Test.YtginmioklkcgbaaDoorQFnExactRopeTextx2
import Derived.Test.YtginmioklkcgbaaDoorQFnExactRopeTextx3
namespace Go.Proofs.YtginmioklkcgbaaDoor.QFnExactRopeText
open Go.RowKit Go.Proofs.YtginmioklkcgbaaDoorW.PrintWords Go.Proofs.YtginmioklkcgbaaDoorW.PrintLast Go.Proofs.YtginmioklkcgbaaDoorW.PrintMore
attribute [local go_sem] max2_int min2_int max_two min_two max_three min_three max_four min_four   -- for this text's walks alone
set_option linter.unusedVariables false
set_option linter.unusedSimpArgs false

/-! ### impl_RopeText: function 31 -/
def impl_RopeText.f (k : Nat) (a0_0 : ByteArray) (a0_1 : Int) (a0_2 : Int) (a0_3 : Int) : Option (ByteArray) := (impl_validRope.f k a0_0 a0_1 a0_2 a0_3).bind fun t159 => (if t159 = true then (if a0_0.size + 6 ≤ 9223372036854775807 then ((impl_Decimal.f a0_1).bind fun t160 => (if (a0_0 ++ (⟨#[32, 115, 105, 122, 101, 32]⟩ : ByteArray)).size + t160.size ≤ 9223372036854775807 then (if ((a0_0 ++ (⟨#[32, 115, 105, 122, 101, 32]⟩ : ByteArray)) ++ t160).size + 10 ≤ 9223372036854775807 then ((impl_Decimal.f a0_2).bind fun t161 => (if (((a0_0 ++ (⟨#[32, 115, 105, 122, 101, 32]⟩ : ByteArray)) ++ t160) ++ (⟨#[32, 115, 116, 114, 101, 110, 103, 116, 104, 32]⟩ : ByteArray)).size + t161.size ≤ 9223372036854775807 then (if ((((a0_0 ++ (⟨#[32, 115, 105, 122, 101, 32]⟩ : ByteArray)) ++ t160) ++ (⟨#[32, 115, 116, 114, 101, 110, 103, 116, 104, 32]⟩ : ByteArray)) ++ t161).size + 8 ≤ 9223372036854775807 then ((impl_Decimal.f a0_3).bind fun t162 => (if (((((a0_0 ++ (⟨#[32, 115, 105, 122, 101, 32]⟩ : ByteArray)) ++ t160) ++ (⟨#[32, 115, 116, 114, 101, 110, 103, 116, 104, 32]⟩ : ByteArray)) ++ t161) ++ (⟨#[32, 119, 101, 105, 103, 104, 116, 32]⟩ : ByteArray)).size + t162.size ≤ 9223372036854775807 then (some ((((((a0_0 ++ (⟨#[32, 115, 105, 122, 101, 32]⟩ : ByteArray)) ++ t160) ++ (⟨#[32, 115, 116, 114, 101, 110, 103, 116, 104, 32]⟩ : ByteArray)) ++ t161) ++ (⟨#[32, 119, 101, 105, 103, 104, 116, 32]⟩ : ByteArray)) ++ t162)) else (none))) else (none)) else (none))) else (none)) else (none))) else (none)) else (some (⟨#[]⟩ : ByteArray)))
theorem impl_RopeText.mono : ∀ a0 a1 a2 a3 k, LeO (impl_RopeText.f k a0 a1 a2 a3) (impl_RopeText.f (k + 1) a0 a1 a2 a3) := by
 intro a0 a1 a2 a3 k
 unfold impl_RopeText.f
 repeat' first
   | (with_reducible exact impl_validRope.mono _ _ _ _ _)
   | (with_reducible exact LeO.refl _)
   | (with_reducible exact LeO.none _)
   | (with_reducible refine LeO.ite ?_ ?_)
   | (with_reducible refine LeO.bind ?_ (fun _ => ?_))
   | exact impl_validRope.mono _ _ _ _ _
   | exact LeO.none _
   | refine LeO.ite ?_ ?_
   | refine LeO.bind ?_ (fun _ => ?_)
def impl_RopeText.T3 : Bool × List (List Nat × List Nat) := (true, [([], []), ([0], [0]), ([1], [1]), ([], []), ([3], [3]), ([4], [4]), ([2, 5], [2, 5]), ([6], [6]), ([], []), ([8], [8]), ([9, 5], [9]), ([7, 10], [7, 10]), ([11], [11]), ([], []), ([13], [13]), ([14, 10], [14]), ([12, 15], [12, 15]), ([16, 15, 0, 1, 2, 3, 4, 5, 6, 7, 8, 9, 10, 11, 12, 13, 14, 15, 16], [16])])
def impl_RopeText.B3 : List Nat := [0, 1, 3, 0, 8, 24, 63, 127, 0, 256, 824, 2047, 4095, 0, 8192, 26424, 65535, 131071]
theorem impl_RopeText.tab3 : rtab .any (opsOf Tryd.f31 3) = impl_RopeText.T3 := by kernel_rfl
theorem impl_RopeText.bits3 : waitsOk impl_RopeText.T3.2 impl_RopeText.B3 = true := by kernel_rfl
set_option maxHeartbeats 8000000 in
set_option maxRecDepth 100000 in
theorem impl_RopeText.calls (k : Nat) (a0_0 : ByteArray) (a0_1 : Int) (a0_2 : Int) (a0_3 : Int) (r : ByteArray) (w : World) (hT : Gnd.Tab w) (h : impl_RopeText.f k a0_0 a0_1 a0_2 a0_3 = some r) :
  Calls Tryd.prog 31 #[.agg #[.string a0_0, .int .i64 a0_1, .int .i64 a0_2, .int .i64 a0_3]] w fun e w' => e = .returned (.string r) ∧ Below w.heap.size w w' := by
 have hu45 := Tryd.underlying45
 have HB := aS (Below.refl w.heap.size w)
 have H : ((impl_validRope.f k a0_0 a0_1 a0_2 a0_3).bind fun t159 => (if t159 = true then (if a0_0.size + 6 ≤ 9223372036854775807 then ((impl_Decimal.f a0_1).bind fun t160 => (if (a0_0 ++ (⟨#[32, 115, 105, 122, 101, 32]⟩ : ByteArray)).size + t160.size ≤ 9223372036854775807 then (if ((a0_0 ++ (⟨#[32, 115, 105, 122, 101, 32]⟩ : ByteArray)) ++ t160).size + 10 ≤ 9223372036854775807 then ((impl_Decimal.f a0_2).bind fun t161 => (if (((a0_0 ++ (⟨#[32, 115, 105, 122, 101, 32]⟩ : ByteArray)) ++ t160) ++ (⟨#[32, 115, 116, 114, 101, 110, 103, 116, 104, 32]⟩ : ByteArray)).size + t161.size ≤ 9223372036854775807 then (if ((((a0_0 ++ (⟨#[32, 115, 105, 122, 101, 32]⟩ : ByteArray)) ++ t160) ++ (⟨#[32, 115, 116, 114, 101, 110, 103, 116, 104, 32]⟩ : ByteArray)) ++ t161).size + 8 ≤ 9223372036854775807 then ((impl_Decimal.f a0_3).bind fun t162 => (if (((((a0_0 ++ (⟨#[32, 115, 105, 122, 101, 32]⟩ : ByteArray)) ++ t160) ++ (⟨#[32, 115, 116, 114, 101, 110, 103, 116, 104, 32]⟩ : ByteArray)) ++ t161) ++ (⟨#[32, 119, 101, 105, 103, 104, 116, 32]⟩ : ByteArray)).size + t162.size ≤ 9223372036854775807 then (some ((((((a0_0 ++ (⟨#[32, 115, 105, 122, 101, 32]⟩ : ByteArray)) ++ t160) ++ (⟨#[32, 115, 116, 114, 101, 110, 103, 116, 104, 32]⟩ : ByteArray)) ++ t161) ++ (⟨#[32, 119, 101, 105, 103, 104, 116, 32]⟩ : ByteArray)) ++ t162)) else (none))) else (none)) else (none))) else (none)) else (none))) else (none)) else (some (⟨#[]⟩ : ByteArray)))) = some r := h
 clear h
 replace H := Option.bind_eq_some_iff.mp H
 obtain ⟨t159, A20, H⟩ := H
 replace H : (if t159 = true then (if a0_0.size + 6 ≤ 9223372036854775807 then ((impl_Decimal.f a0_1).bind fun t160 => (if (a0_0 ++ (⟨#[32, 115, 105, 122, 101, 32]⟩ : ByteArray)).size + t160.size ≤ 9223372036854775807 then (if ((a0_0 ++ (⟨#[32, 115, 105, 122, 101, 32]⟩ : ByteArray)) ++ t160).size + 10 ≤ 9223372036854775807 then ((impl_Decimal.f a0_2).bind fun t161 => (if (((a0_0 ++ (⟨#[32, 115, 105, 122, 101, 32]⟩ : ByteArray)) ++ t160) ++ (⟨#[32, 115, 116, 114, 101, 110, 103, 116, 104, 32]⟩ : ByteArray)).size + t161.size ≤ 9223372036854775807 then (if ((((a0_0 ++ (⟨#[32, 115, 105, 122, 101, 32]⟩ : ByteArray)) ++ t160) ++ (⟨#[32, 115, 116, 114, 101, 110, 103, 116, 104, 32]⟩ : ByteArray)) ++ t161).size + 8 ≤ 9223372036854775807 then ((impl_Decimal.f a0_3).bind fun t162 => (if (((((a0_0 ++ (⟨#[32, 115, 105, 122, 101, 32]⟩ : ByteArray)) ++ t160) ++ (⟨#[32, 115, 116, 114, 101, 110, 103, 116, 104, 32]⟩ : ByteArray)) ++ t161) ++ (⟨#[32, 119, 101, 105, 103, 104, 116, 32]⟩ : ByteArray)).size + t162.size ≤ 9223372036854775807 then (some ((((((a0_0 ++ (⟨#[32, 115, 105, 122, 101, 32]⟩ : ByteArray)) ++ t160) ++ (⟨#[32, 115, 116, 114, 101, 110, 103, 116, 104, 32]⟩ : ByteArray)) ++ t161) ++ (⟨#[32, 119, 101, 105, 103, 104, 116, 32]⟩ : ByteArray)) ++ t162)) else (none))) else (none)) else (none))) else (none)) else (none))) else (none)) else (some (⟨#[]⟩ : ByteArray))) = some r := H
 have A2 := aS A20
 clear A20
 by_cases c3 : t159 = true
 ·
  subst c3
  have H1 : (if a0_0.size + 6 ≤ 9223372036854775807 then ((impl_Decimal.f a0_1).bind fun t160 => (if (a0_0 ++ (⟨#[32, 115, 105, 122, 101, 32]⟩ : ByteArray)).size + t160.size ≤ 9223372036854775807 then (if ((a0_0 ++ (⟨#[32, 115, 105, 122, 101, 32]⟩ : ByteArray)) ++ t160).size + 10 ≤ 9223372036854775807 then ((impl_Decimal.f a0_2).bind fun t161 => (if (((a0_0 ++ (⟨#[32, 115, 105, 122, 101, 32]⟩ : ByteArray)) ++ t160) ++ (⟨#[32, 115, 116, 114, 101, 110, 103, 116, 104, 32]⟩ : ByteArray)).size + t161.size ≤ 9223372036854775807 then (if ((((a0_0 ++ (⟨#[32, 115, 105, 122, 101, 32]⟩ : ByteArray)) ++ t160) ++ (⟨#[32, 115, 116, 114, 101, 110, 103, 116, 104, 32]⟩ : ByteArray)) ++ t161).size + 8 ≤ 9223372036854775807 then ((impl_Decimal.f a0_3).bind fun t162 => (if (((((a0_0 ++ (⟨#[32, 115, 105, 122, 101, 32]⟩ : ByteArray)) ++ t160) ++ (⟨#[32, 115, 116, 114, 101, 110, 103, 116, 104, 32]⟩ : ByteArray)) ++ t161) ++ (⟨#[32, 119, 101, 105, 103, 104, 116, 32]⟩ : ByteArray)).size + t162.size ≤ 9223372036854775807 then (some ((((((a0_0 ++ (⟨#[32, 115, 105, 122, 101, 32]⟩ : ByteArray)) ++ t160) ++ (⟨#[32, 115, 116, 114, 101, 110, 103, 116, 104, 32]⟩ : ByteArray)) ++ t161) ++ (⟨#[32, 119, 101, 105, 103, 104, 116, 32]⟩ : ByteArray)) ++ t162)) else (none))) else (none)) else (none))) else (none)) else (none))) else (none)) = some r := by rw [if_pos rfl] at H; exact H
  clear H
  have H := H1
  clear H1
  by_cases c4 : a0_0.size + 6 ≤ 9223372036854775807
  ·
   rw [if_pos c4] at H
   have c4b0 := eq_true c4
   have c4b1 : decide (a0_0.size + 6 ≤ 9223372036854775807) = true := decide_eq_true c4
   try have c4b2 : (9223372036854775807 < a0_0.size + 6) = False := eq_false (Nat.not_lt.2 c4)
   replace H := Option.bind_eq_some_iff.mp H
   obtain ⟨t160, A50, H⟩ := H
   replace H : (if (a0_0 ++ (⟨#[32, 115, 105, 122, 101, 32]⟩ : ByteArray)).size + t160.size ≤ 9223372036854775807 then (if ((a0_0 ++ (⟨#[32, 115, 105, 122, 101, 32]⟩ : ByteArray)) ++ t160).size + 10 ≤ 9223372036854775807 then ((impl_Decimal.f a0_2).bind fun t161 => (if (((a0_0 ++ (⟨#[32, 115, 105, 122, 101, 32]⟩ : ByteArray)) ++ t160) ++ (⟨#[32, 115, 116, 114, 101, 110, 103, 116, 104, 32]⟩ : ByteArray)).size + t161.size ≤ 9223372036854775807 then (if ((((a0_0 ++ (⟨#[32, 115, 105, 122, 101, 32]⟩ : ByteArray)) ++ t160) ++ (⟨#[32, 115, 116, 114, 101, 110, 103, 116, 104, 32]⟩ : ByteArray)) ++ t161).size + 8 ≤ 9223372036854775807 then ((impl_Decimal.f a0_3).bind fun t162 => (if (((((a0_0 ++ (⟨#[32, 115, 105, 122, 101, 32]⟩ : ByteArray)) ++ t160) ++ (⟨#[32, 115, 116, 114, 101, 110, 103, 116, 104, 32]⟩ : ByteArray)) ++ t161) ++ (⟨#[32, 119, 101, 105, 103, 104, 116, 32]⟩ : ByteArray)).size + t162.size ≤ 9223372036854775807 then (some ((((((a0_0 ++ (⟨#[32, 115, 105, 122, 101, 32]⟩ : ByteArray)) ++ t160) ++ (⟨#[32, 115, 116, 114, 101, 110, 103, 116, 104, 32]⟩ : ByteArray)) ++ t161) ++ (⟨#[32, 119, 101, 105, 103, 104, 116, 32]⟩ : ByteArray)) ++ t162)) else (none))) else (none)) else (none))) else (none)) else (none)) = some r := H
   have A5 := aS A50
   clear A50
   by_cases c6 : (a0_0 ++ (⟨#[32, 115, 105, 122, 101, 32]⟩ : ByteArray)).size + t160.size ≤ 9223372036854775807
   ·
    rw [if_pos c6] at H
    have c6b0 := eq_true c6
    have c6b1 : decide ((a0_0 ++ (⟨#[32, 115, 105, 122, 101, 32]⟩ : ByteArray)).size + t160.size ≤ 9223372036854775807) = true := decide_eq_true c6
    try have c6b3 : (9223372036854775807 < a0_0.size + 6 + t160.size) = False := eq_false (by have h_ := c6; simp only [ByteArray.size_append, show ByteArray.size (⟨#[32, 115, 105, 122, 101, 32]⟩ : ByteArray) = 6 from rfl] at h_; omega)
    try have c6b2 : (9223372036854775807 < (a0_0 ++ (⟨#[32, 115, 105, 122, 101, 32]⟩ : ByteArray)).size + t160.size) = False := eq_false (Nat.not_lt.2 c6)
    by_cases c7 : ((a0_0 ++ (⟨#[32, 115, 105, 122, 101, 32]⟩ : ByteArray)) ++ t160).size + 10 ≤ 9223372036854775807
    ·
     rw [if_pos c7] at H
     have c7b0 := eq_true c7
     have c7b1 : decide (((a0_0 ++ (⟨#[32, 115, 105, 122, 101, 32]⟩ : ByteArray)) ++ t160).size + 10 ≤ 9223372036854775807) = true := decide_eq_true c7
     try have c7b3 : (9223372036854775807 < a0_0.size + 6 + t160.size + 10) = False := eq_false (by have h_ := c7; simp only [ByteArray.size_append, show ByteArray.size (⟨#[32, 115, 105, 122, 101, 32]⟩ : ByteArray) = 6 from rfl] at h_; omega)
     try have c7b2 : (9223372036854775807 < ((a0_0 ++ (⟨#[32, 115, 105, 122, 101, 32]⟩ : ByteArray)) ++ t160).size + 10) = False := eq_false (Nat.not_lt.2 c7)
     replace H := Option.bind_eq_some_iff.mp H
     obtain ⟨t161, A80, H⟩ := H
     replace H : (if (((a0_0 ++ (⟨#[32, 115, 105, 122, 101, 32]⟩ : ByteArray)) ++ t160) ++ (⟨#[32, 115, 116, 114, 101, 110, 103, 116, 104, 32]⟩ : ByteArray)).size + t161.size ≤ 9223372036854775807 then (if ((((a0_0 ++ (⟨#[32, 115, 105, 122, 101, 32]⟩ : ByteArray)) ++ t160) ++ (⟨#[32, 115, 116, 114, 101, 110, 103, 116, 104, 32]⟩ : ByteArray)) ++ t161).size + 8 ≤ 9223372036854775807 then ((impl_Decimal.f a0_3).bind fun t162 => (if (((((a0_0 ++ (⟨#[32, 115, 105, 122, 101, 32]⟩ : ByteArray)) ++ t160) ++ (⟨#[32, 115, 116, 114, 101, 110, 103, 116, 104, 32]⟩ : ByteArray)) ++ t161) ++ (⟨#[32, 119, 101, 105, 103, 104, 116, 32]⟩ : ByteArray)).size + t162.size ≤ 9223372036854775807 then (some ((((((a0_0 ++ (⟨#[32, 115, 105, 122, 101, 32]⟩ : ByteArray)) ++ t160) ++ (⟨#[32, 115, 116, 114, 101, 110, 103, 116, 104, 32]⟩ : ByteArray)) ++ t161) ++ (⟨#[32, 119, 101, 105, 103, 104, 116, 32]⟩ : ByteArray)) ++ t162)) else (none))) else (none)) else (none)) = some r := H
     have A8 := aS A80
     clear A80
     by_cases c9 : (((a0_0 ++ (⟨#[32, 115, 105, 122, 101, 32]⟩ : ByteArray)) ++ t160) ++ (⟨#[32, 115, 116, 114, 101, 110, 103, 116, 104, 32]⟩ : ByteArray)).size + t161.size ≤ 9223372036854775807
     ·
      rw [if_pos c9] at H
      have c9b0 := eq_true c9
      have c9b1 : decide ((((a0_0 ++ (⟨#[32, 115, 105, 122, 101, 32]⟩ : ByteArray)) ++ t160) ++ (⟨#[32, 115, 116, 114, 101, 110, 103, 116, 104, 32]⟩ : ByteArray)).size + t161.size ≤ 9223372036854775807) = true := decide_eq_true c9
      try have c9b3 : (9223372036854775807 < a0_0.size + 6 + t160.size + 10 + t161.size) = False := eq_false (by have h_ := c9; simp only [ByteArray.size_append, show ByteArray.size (⟨#[32, 115, 105, 122, 101, 32]⟩ : ByteArray) = 6 from rfl, show ByteArray.size (⟨#[32, 115, 116, 114, 101, 110, 103, 116, 104, 32]⟩ : ByteArray) = 10 from rfl] at h_; omega)
      try have c9b2 : (9223372036854775807 < (((a0_0 ++ (⟨#[32, 115, 105, 122, 101, 32]⟩ : ByteArray)) ++ t160) ++ (⟨#[32, 115, 116, 114, 101, 110, 103, 116, 104, 32]⟩ : ByteArray)).size + t161.size) = False := eq_false (Nat.not_lt.2 c9)
      by_cases c10 : ((((a0_0 ++ (⟨#[32, 115, 105, 122, 101, 32]⟩ : ByteArray)) ++ t160) ++ (⟨#[32, 115, 116, 114, 101, 110, 103, 116, 104, 32]⟩ : ByteArray)) ++ t161).size + 8 ≤ 9223372036854775807
      ·
       rw [if_pos c10] at H
       have c10b0 := eq_true c10
       have c10b1 : decide (((((a0_0 ++ (⟨#[32, 115, 105, 122, 101, 32]⟩ : ByteArray)) ++ t160) ++ (⟨#[32, 115, 116, 114, 101, 110, 103, 116, 104, 32]⟩ : ByteArray)) ++ t161).size + 8 ≤ 9223372036854775807) = true := decide_eq_true c10
       try have c10b3 : (9223372036854775807 < a0_0.size + 6 + t160.size + 10 + t161.size + 8) = False := eq_false (by have h_ := c10; simp only [ByteArray.size_append, show ByteArray.size (⟨#[32, 115, 105, 122, 101, 32]⟩ : ByteArray) = 6 from rfl, show ByteArray.size (⟨#[32, 115, 116, 114, 101, 110, 103, 116, 104, 32]⟩ : ByteArray) = 10 from rfl] at h_; omega)
       try have c10b2 : (9223372036854775807 < ((((a0_0 ++ (⟨#[32, 115, 105, 122, 101, 32]⟩ : ByteArray)) ++ t160) ++ (⟨#[32, 115, 116, 114, 101, 110, 103, 116, 104, 32]⟩ : ByteArray)) ++ t161).size + 8) = False := eq_false (Nat.not_lt.2 c10)
       replace H := Option.bind_eq_some_iff.mp H
       obtain ⟨t162, A110, H⟩ := H
       replace H : (if (((((a0_0 ++ (⟨#[32, 115, 105, 122, 101, 32]⟩ : ByteArray)) ++ t160) ++ (⟨#[32, 115, 116, 114, 101, 110, 103, 116, 104, 32]⟩ : ByteArray)) ++ t161) ++ (⟨#[32, 119, 101, 105, 103, 104, 116, 32]⟩ : ByteArray)).size + t162.size ≤ 9223372036854775807 then (some ((((((a0_0 ++ (⟨#[32, 115, 105, 122, 101, 32]⟩ : ByteArray)) ++ t160) ++ (⟨#[32, 115, 116, 114, 101, 110, 103, 116, 104, 32]⟩ : ByteArray)) ++ t161) ++ (⟨#[32, 119, 101, 105, 103, 104, 116, 32]⟩ : ByteArray)) ++ t162)) else (none)) = some r := H
       have A11 := aS A110
       clear A110
       by_cases c12 : (((((a0_0 ++ (⟨#[32, 115, 105, 122, 101, 32]⟩ : ByteArray)) ++ t160) ++ (⟨#[32, 115, 116, 114, 101, 110, 103, 116, 104, 32]⟩ : ByteArray)) ++ t161) ++ (⟨#[32, 119, 101, 105, 103, 104, 116, 32]⟩ : ByteArray)).size + t162.size ≤ 9223372036854775807
       ·
        rw [if_pos c12] at H
        have c12b0 := eq_true c12
        have c12b1 : decide ((((((a0_0 ++ (⟨#[32, 115, 105, 122, 101, 32]⟩ : ByteArray)) ++ t160) ++ (⟨#[32, 115, 116, 114, 101, 110, 103, 116, 104, 32]⟩ : ByteArray)) ++ t161) ++ (⟨#[32, 119, 101, 105, 103, 104, 116, 32]⟩ : ByteArray)).size + t162.size ≤ 9223372036854775807) = true := decide_eq_true c12
        try have c12b3 : (9223372036854775807 < a0_0.size + 6 + t160.size + 10 + t161.size + 8 + t162.size) = False := eq_false (by have h_ := c12; simp only [ByteArray.size_append, show ByteArray.size (⟨#[32, 115, 105, 122, 101, 32]⟩ : ByteArray) = 6 from rfl, show ByteArray.size (⟨#[32, 115, 116, 114, 101, 110, 103, 116, 104, 32]⟩ : ByteArray) = 10 from rfl, show ByteArray.size (⟨#[32, 119, 101, 105, 103, 104, 116, 32]⟩ : ByteArray) = 8 from rfl] at h_; omega)
        try have c12b2 : (9223372036854775807 < (((((a0_0 ++ (⟨#[32, 115, 105, 122, 101, 32]⟩ : ByteArray)) ++ t160) ++ (⟨#[32, 115, 116, 114, 101, 110, 103, 116, 104, 32]⟩ : ByteArray)) ++ t161) ++ (⟨#[32, 119, 101, 105, 103, 104, 116, 32]⟩ : ByteArray)).size + t162.size) = False := eq_false (Nat.not_lt.2 c12)
        obtain rfl := Option.some.inj H
        go_enter Tryd.func31, Tryd.ntmps31
        try go_wp2_with (first | ((with_reducible refine gate_dst (N := 1) rfl ?_); refine box_event ?hg (N := 1) ?hd (cs := #[.string a0_0, .int .i64 a0_1, .int .i64 a0_2, .int .i64 a0_3]) (t := 45) ?hr ?_; (case hd => rfl); (case hg => rfl); (case hr => first | (go_simp; done) | (go_simp; rfl)); intro gb158 hg w13 hbox hb; have n0_ := aS (below_step (sW HB.out) hb); have n1_ := aS (hbox); have n2_ := aS ((by rw [hg]; exact (below_size (sW HB.out)) : w.heap.size ≤ gb158)); have n3_ := aS ((by rw [hg]; exact (below_size (sW HB.out)) : w.heap.size ≤ gb158)); clear HB; have HB := n0_; have BK158 := n1_; have GW158 := n2_; have GE158 := n3_; clear n0_ n1_ n2_ n3_; clear hb hbox hg; have hcz14_0 : w13.cell? ⟨gb158, 0, none⟩ = some (.string a0_0) := (blk_cell BK158.out 0).trans rfl; have hcz14_1 : w13.cell? ⟨gb158, 1, none⟩ = some (.int .i64 a0_1) := (blk_cell BK158.out 1).trans rfl; have hcz14_2 : w13.cell? ⟨gb158, 2, none⟩ = some (.int .i64 a0_2) := (blk_cell BK158.out 2).trans rfl; have hcz14_3 : w13.cell? ⟨gb158, 3, none⟩ = some (.int .i64 a0_3) := (blk_cell BK158.out 3).trans rfl; have hfz14_0 := blk_frozen BK158.out 0; have hfz14_1 := blk_frozen BK158.out 1; have hfz14_2 := blk_frozen BK158.out 2; have hfz14_3 := blk_frozen BK158.out 3) | ((with_reducible refine gate_callee (f := 66) rfl ?_); refine goesL_ (some 4) rfl rfl Tryd.func66 (by kernel_rfl) rfl #[.agg #[.string a0_0, .int .i64 a0_1, .int .i64 a0_2, .int .i64 a0_3]] rfl sG ?_; (with_reducible refine (impl_validRope.calls k a0_0 a0_1 a0_2 a0_3 true _ A2.out).mono ?_); rintro e w15 ⟨rfl, hb⟩; refine ⟨_, rfl, ?_⟩; have n0_ := aS (blk_below (g := gb158) (o := .cells #[.string a0_0, .int .i64 a0_1, .int .i64 a0_2, .int .i64 a0_3] 45 (0, 0)) (sB BK158.out) hb); have n1_ := aS (below_step (sW HB.out) hb); clear BK158 HB; have BK158 := n0_; have HB := n1_; clear n0_ n1_; (try clear hb); (try clear hb2); (try clear hk); (try clear hi)))
        have n0_ := aS (blk_drew BK158.out)
        have n1_ := aS (below_drew1 HB.out)
        clear BK158 HB
        have BK158 := n0_; have HB := n1_
        clear n0_ n1_
        refine start_ (n := 18) (S := fun w' => w'.cell? ⟨gb158, 0, none⟩ = some (.string a0_0) ∧ w'.cell? ⟨gb158, 1, none⟩ = some (.int .i64 a0_1) ∧ w'.cell? ⟨gb158, 2, none⟩ = some (.int .i64 a0_2) ∧ w'.cell? ⟨gb158, 3, none⟩ = some (.int .i64 a0_3)) (ds := []) #[false, false, false, false, false, false, false, false, false, false, false, false, false, false, false, false, false, false] (by kernel_rfl) rfl rfl ⟨(blk_cell BK158.out 0).trans rfl, (blk_cell BK158.out 1).trans rfl, (blk_cell BK158.out 2).trans rfl, (blk_cell BK158.out 3).trans rfl⟩ (fun hHeld => ?_); refine with_tabW impl_RopeText.tab3 impl_RopeText.bits3 (fun HT_ HW_ => ?_)
        generalize w15.drew = w16 at BK158 HB hHeld ⊢
        refine pure_ (i := 0) (N := some 6) (v := ?_) (a' := ?_) #[true, false, false, false, false, false, false, false, false, false, false, false, false, false, false, false, false, false] rfl rfl (any_of HT_.out (by kernel_rfl)) (fun _ _ _ h => h) (Or.inl ⟨by rfl, ?_⟩) ?_ ?_
        rotate_left
        ·
         intro w'
         go_simp
         with_reducible rfl
        rotate_left
        ·
         exact sP
        refine pure_ (i := 3) (N := some 9) (v := ?_) (a' := ?_) #[true, false, false, true, false, false, false, false, false, false, false, false, false, false, false, false, false, false] rfl rfl (any_of HT_.out (by kernel_rfl)) (fun _ _ _ h => h) (Or.inl ⟨by rfl, ?_⟩) ?_ ?_
        rotate_left
        ·
         intro w'
         go_simp
         with_reducible rfl
        rotate_left
        ·
         exact sP
        refine pure_ (i := 8) (N := some 14) (v := ?_) (a' := ?_) #[true, false, false, true, false, false, false, false, true, false, false, false, false, false, false, false, false, false] rfl rfl (any_of HT_.out (by kernel_rfl)) (fun _ _ _ h => h) (Or.inl ⟨by rfl, ?_⟩) ?_ ?_
        rotate_left
        ·
         intro w'
         go_simp
         with_reducible rfl
        rotate_left
        ·
         exact sP
        refine pure_ (i := 13) (N := some 19) (v := ?_) (a' := ?_) #[true, false, false, true, false, false, false, false, true, false, false, false, false, true, false, false, false, false] rfl rfl (any_of HT_.out (by kernel_rfl)) (fun _ _ _ h => h) (Or.inl ⟨by rfl, ?_⟩) ?_ ?_
        rotate_left
        ·
         intro w'
         go_simp
         with_reducible rfl
        rotate_left
        ·
         exact sP
        refine take_ (i := 1) (N := some 7) (v := ?_) (a' := ?_) #[true, true, false, true, false, false, false, false, true, false, false, false, false, true, false, false, false, false] rfl rfl (take_ofW HT_.out HW_.out (by kernel_rfl)) (fun _ _ _ h => h) (Or.inl ⟨by rfl, ?_⟩) hHeld ?_ ?_
        rotate_left
        ·
         rintro w' ⟨s0, s1, s2, s3⟩
         go_simp
         with_reducible rfl
        rotate_left
        ·
         exact sP
        refine pure_ (i := 2) (N := some 8) (v := ?_) (a' := ?_) #[true, true, true, true, false, false, false, false, true, false, false, false, false, true, false, false, false, false] rfl rfl (any_of HT_.out (by kernel_rfl)) (fun _ _ _ h => h) (Or.inl ⟨by rfl, ?_⟩) ?_ ?_
        rotate_left
        ·
         intro w'
         go_simp
         with_reducible rfl
        rotate_left
        ·
         exact sP
        refine take_ (i := 4) (N := some 10) (v := ?_) (a' := ?_) #[true, true, true, true, true, false, false, false, true, false, false, false, false, true, false, false, false, false] rfl rfl (take_ofW HT_.out HW_.out (by kernel_rfl)) (fun _ _ _ h => h) (Or.inl ⟨by rfl, ?_⟩) hHeld ?_ ?_
        rotate_left
        ·
         rintro w' ⟨s0, s1, s2, s3⟩
         go_simp
         with_reducible rfl
        rotate_left
        ·
         exact sP
        refine take_ (i := 9) (N := some 15) (v := ?_) (a' := ?_) #[true, true, true, true, true, false, false, false, true, true, false, false, false, true, false, false, false, false] rfl rfl (take_ofW HT_.out HW_.out (by kernel_rfl)) (fun _ _ _ h => h) (Or.inl ⟨by rfl, ?_⟩) hHeld ?_ ?_
        rotate_left
        ·
         rintro w' ⟨s0, s1, s2, s3⟩
         go_simp
         with_reducible rfl
        rotate_left
        ·
         exact sP
        refine take_ (i := 14) (N := some 20) (v := ?_) (a' := ?_) #[true, true, true, true, true, false, false, false, true, true, false, false, false, true, true, false, false, false] rfl rfl (take_ofW HT_.out HW_.out (by kernel_rfl)) (fun _ _ _ h => h) (Or.inl ⟨by rfl, ?_⟩) hHeld ?_ ?_
        rotate_left
        ·
         rintro w' ⟨s0, s1, s2, s3⟩
         go_simp
         with_reducible rfl
        rotate_left
        ·
         exact sP
        refine one_ (i := 5) (N := some 11) #[true, true, true, true, true, true, false, false, true, true, false, false, false, true, true, false, false, false] rfl rfl (one_of HT_.out (by kernel_rfl)) (by decide) (fun K hK => ?_)
        refine goes_ Tryd.func20 (by kernel_rfl) rfl #[.int .i64 a0_1] (by rfl) rfl rfl sG ?_
        with_reducible refine (impl_Decimal.calls a0_1 t160 _ ?side1 A5.out).mono ?_
        (case side1 => exact Gnd.Tab.on hT (sW HB.out))
        rintro e w17 ⟨rfl, hb⟩
        refine ⟨_, rfl, ?_⟩
        have n0_ := aS (blk_below (g := gb158) (o := .cells #[.string a0_0, .int .i64 a0_1, .int .i64 a0_2, .int .i64 a0_3] 45 (0, 0)) (sB BK158.out) hb)
        have n1_ := aS (below_step (sW HB.out) hb)
        clear BK158 HB
        have BK158 := n0_; have HB := n1_
        clear n0_ n1_
        (try clear hb); (try clear hb2); (try clear hk); (try clear hi)
        refine hK.out _ _ ⟨(blk_cell BK158.out 0).trans rfl, (blk_cell BK158.out 1).trans rfl, (blk_cell BK158.out 2).trans rfl, (blk_cell BK158.out 3).trans rfl⟩ (fun hHeld => ?_)
        clear hK K
        refine norm_ (a' := ?_) ?_ ?_
        rotate_left
        ·
         show Act.put _ (some 11) _ = _
         exact sP
        refine pure_ (i := 6) (N := some 12) (v := ?_) (a' := ?_) #[true, true, true, true, true, true, true, false, true, true, false, false, false, true, true, false, false, false] rfl rfl (any_of HT_.out (by kernel_rfl)) (fun _ _ _ h => h) (Or.inl ⟨by rfl, ?_⟩) ?_ ?_
        rotate_left
        ·
         intro w'
         go_simp
         with_reducible rfl
        rotate_left
        ·
         exact sP
        refine pure_ (i := 7) (N := some 13) (v := ?_) (a' := ?_) #[true, true, true, true, true, true, true, true, true, true, false, false, false, true, true, false, false, false] rfl rfl (any_of HT_.out (by kernel_rfl)) (fun _ _ _ h => h) (Or.inl ⟨by rfl, ?_⟩) ?_ ?_
        rotate_left
        ·
         intro w'
         go_simp
         with_reducible rfl
        rotate_left
        ·
         exact sP
        refine one_ (i := 10) (N := some 16) #[true, true, true, true, true, true, true, true, true, true, true, false, false, true, true, false, false, false] rfl rfl (one_of HT_.out (by kernel_rfl)) (by decide) (fun K hK => ?_)
        refine goes_ Tryd.func20 (by kernel_rfl) rfl #[.int .i64 a0_2] (by rfl) rfl rfl sG ?_
        with_reducible refine (impl_Decimal.calls a0_2 t161 _ ?side1 A8.out).mono ?_
        (case side1 => exact Gnd.Tab.on hT (sW HB.out))
        rintro e w18 ⟨rfl, hb⟩
        refine ⟨_, rfl, ?_⟩
        have n0_ := aS (blk_below (g := gb158) (o := .cells #[.string a0_0, .int .i64 a0_1, .int .i64 a0_2, .int .i64 a0_3] 45 (0, 0)) (sB BK158.out) hb)
        have n1_ := aS (below_step (sW HB.out) hb)
        clear BK158 HB
        have BK158 := n0_; have HB := n1_
        clear n0_ n1_
        (try clear hb); (try clear hb2); (try clear hk); (try clear hi)
        refine hK.out _ _ ⟨(blk_cell BK158.out 0).trans rfl, (blk_cell BK158.out 1).trans rfl, (blk_cell BK158.out 2).trans rfl, (blk_cell BK158.out 3).trans rfl⟩ (fun hHeld => ?_)
        clear hK K
        refine norm_ (a' := ?_) ?_ ?_
        rotate_left
        ·
         show Act.put _ (some 16) _ = _
         exact sP
        refine pure_ (i := 11) (N := some 17) (v := ?_) (a' := ?_) #[true, true, true, true, true, true, true, true, true, true, true, true, false, true, true, false, false, false] rfl rfl (any_of HT_.out (by kernel_rfl)) (fun _ _ _ h => h) (Or.inl ⟨by rfl, ?_⟩) ?_ ?_
        rotate_left
        ·
         intro w'
         go_simp
         with_reducible rfl
        rotate_left
        ·
         exact sP
        refine pure_ (i := 12) (N := some 18) (v := ?_) (a' := ?_) #[true, true, true, true, true, true, true, true, true, true, true, true, true, true, true, false, false, false] rfl rfl (any_of HT_.out (by kernel_rfl)) (fun _ _ _ h => h) (Or.inl ⟨by rfl, ?_⟩) ?_ ?_
        rotate_left
        ·
         intro w'
         go_simp
         with_reducible rfl
        rotate_left
        ·
         exact sP
        refine one_ (i := 15) (N := some 21) #[true, true, true, true, true, true, true, true, true, true, true, true, true, true, true, true, false, false] rfl rfl (one_of HT_.out (by kernel_rfl)) (by decide) (fun K hK => ?_)
        refine goes_ Tryd.func20 (by kernel_rfl) rfl #[.int .i64 a0_3] (by rfl) rfl rfl sG ?_
        with_reducible refine (impl_Decimal.calls a0_3 t162 _ ?side1 A11.out).mono ?_
        (case side1 => exact Gnd.Tab.on hT (sW HB.out))
        rintro e w19 ⟨rfl, hb⟩
        refine ⟨_, rfl, ?_⟩
        have n0_ := aS (blk_below (g := gb158) (o := .cells #[.string a0_0, .int .i64 a0_1, .int .i64 a0_2, .int .i64 a0_3] 45 (0, 0)) (sB BK158.out) hb)
        have n1_ := aS (below_step (sW HB.out) hb)
        clear BK158 HB
        have BK158 := n0_; have HB := n1_
        clear n0_ n1_
        (try clear hb); (try clear hb2); (try clear hk); (try clear hi)
        refine hK.out _ _ ⟨(blk_cell BK158.out 0).trans rfl, (blk_cell BK158.out 1).trans rfl, (blk_cell BK158.out 2).trans rfl, (blk_cell BK158.out 3).trans rfl⟩ (fun hHeld => ?_)
        clear hK K
        refine norm_ (a' := ?_) ?_ ?_
        rotate_left
        ·
         show Act.put _ (some 21) _ = _
         exact sP
        refine pure_ (i := 16) (N := some 22) (v := ?_) (a' := ?_) #[true, true, true, true, true, true, true, true, true, true, true, true, true, true, true, true, true, false] rfl rfl (any_of HT_.out (by kernel_rfl)) (fun _ _ _ h => h) (Or.inl ⟨by rfl, ?_⟩) ?_ ?_
        rotate_left
        ·
         intro w'
         go_simp
         with_reducible rfl
        rotate_left
        ·
         exact sP
        refine pure_ (i := 17) (N := some 2) (v := ?_) (a' := ?_) #[true, true, true, true, true, true, true, true, true, true, true, true, true, true, true, true, true, true] rfl rfl (any_of HT_.out (by kernel_rfl)) (fun _ _ _ h => h) (Or.inl ⟨by rfl, ?_⟩) ?_ ?_
        rotate_left
        ·
         intro w'
         go_simp
         with_reducible rfl
        rotate_left
        ·
         exact sP
        refine done_ (done_of HT_.out (by kernel_rfl)) ?_
        try go_wp2
        go_ret
        exact ⟨by first | rfl | (simp [errW_none, errW_some, i64_w]; done) | (simp [errW_none, errW_some] <;> rfl) | (simp [*, errW_none, errW_some] <;> rfl), by repeat (first | (with_reducible first | exact HB.out | apply below_alloc | apply pw_below_drewN | apply below_drew1) | exact HB.out)⟩
       ·
        rw [if_neg c12] at H
        exact absurd H (by simp)
      ·
       rw [if_neg c10] at H
       exact absurd H (by simp)
     ·
      rw [if_neg c9] at H
      exact absurd H (by simp)
    ·
     rw [if_neg c7] at H
     exact absurd H (by simp)
   ·
    rw [if_neg c6] at H
    exact absurd H (by simp)
  ·
   rw [if_neg c4] at H
   exact absurd H (by simp)
 ·
  replace c3 := Bool.eq_false_iff.mpr c3
  subst c3
  have H1 : (some (⟨#[]⟩ : ByteArray)) = some r := by rw [if_neg (show ¬ (false = true) by decide)] at H; exact H
  clear H
  have H := H1
  clear H1
  obtain rfl := Option.some.inj H
  go_enter Tryd.func31, Tryd.ntmps31
  go_wp2_with (first | ((with_reducible refine gate_dst (N := 1) rfl ?_); refine box_event ?hg (N := 1) ?hd (cs := #[.string a0_0, .int .i64 a0_1, .int .i64 a0_2, .int .i64 a0_3]) (t := 45) ?hr ?_; (case hd => rfl); (case hg => rfl); (case hr => first | (go_simp; done) | (go_simp; rfl)); intro gb158 hg w20 hbox hb; have n0_ := aS (below_step (sW HB.out) hb); have n1_ := aS (hbox); have n2_ := aS ((by rw [hg]; exact (below_size (sW HB.out)) : w.heap.size ≤ gb158)); have n3_ := aS ((by rw [hg]; exact (below_size (sW HB.out)) : w.heap.size ≤ gb158)); clear HB; have HB := n0_; have BK158 := n1_; have GW158 := n2_; have GE158 := n3_; clear n0_ n1_ n2_ n3_; clear hb hbox hg; have hcz21_0 : w20.cell? ⟨gb158, 0, none⟩ = some (.string a0_0) := (blk_cell BK158.out 0).trans rfl; have hcz21_1 : w20.cell? ⟨gb158, 1, none⟩ = some (.int .i64 a0_1) := (blk_cell BK158.out 1).trans rfl; have hcz21_2 : w20.cell? ⟨gb158, 2, none⟩ = some (.int .i64 a0_2) := (blk_cell BK158.out 2).trans rfl; have hcz21_3 : w20.cell? ⟨gb158, 3, none⟩ = some (.int .i64 a0_3) := (blk_cell BK158.out 3).trans rfl; have hfz21_0 := blk_frozen BK158.out 0; have hfz21_1 := blk_frozen BK158.out 1; have hfz21_2 := blk_frozen BK158.out 2; have hfz21_3 := blk_frozen BK158.out 3) | ((with_reducible refine gate_callee (f := 66) rfl ?_); refine goesL_ (some 4) rfl rfl Tryd.func66 (by kernel_rfl) rfl #[.agg #[.string a0_0, .int .i64 a0_1, .int .i64 a0_2, .int .i64 a0_3]] rfl sG ?_; (with_reducible refine (impl_validRope.calls k a0_0 a0_1 a0_2 a0_3 false _ A2.out).mono ?_); rintro e w22 ⟨rfl, hb⟩; refine ⟨_, rfl, ?_⟩; have n0_ := aS (blk_below (g := gb158) (o := .cells #[.string a0_0, .int .i64 a0_1, .int .i64 a0_2, .int .i64 a0_3] 45 (0, 0)) (sB BK158.out) hb); have n1_ := aS (below_step (sW HB.out) hb); clear BK158 HB; have BK158 := n0_; have HB := n1_; clear n0_ n1_; (try clear hb); (try clear hb2); (try clear hk); (try clear hi)))
  go_ret
  exact ⟨by first | rfl | (simp [errW_none, errW_some, i64_w]; done) | (simp [errW_none, errW_some] <;> rfl) | (simp [*, errW_none, errW_some] <;> rfl), by repeat (first | (with_reducible first | exact HB.out | apply below_alloc | apply pw_below_drewN | apply below_drew1) | exact HB.out)⟩

/-! ### laws_FnExactRopeText: function 8 -/
def laws_FnExactRopeText.f (k : Nat) (a0_0 : ByteArray) (a0_1 : Int) (a0_2 : Int) (a0_3 : Int) : Option (Bool) := (laws_szRope.f a0_0 a0_1 a0_2 a0_3 1048576).bind fun t164 => (if t164 < 0 then (some true) else ((laws_toRope.f a0_0 a0_1 a0_2 a0_3).bind fun bt165 => ((spec_RopeText.f k bt165.1 bt165.2.1 bt165.2.2.1 bt165.2.2.2).bind fun t169 => ((laws_toRope.f a0_0 a0_1 a0_2 a0_3).bind fun bt170 => ((impl_RopeText.f k bt170.1 bt170.2.1 bt170.2.2.1 bt170.2.2.2).bind fun t174 => (if t174.toList = t169.toList then (some true) else (some false)))))))
theorem laws_FnExactRopeText.mono : ∀ a0 a1 a2 a3 k, LeO (laws_FnExactRopeText.f k a0 a1 a2 a3) (laws_FnExactRopeText.f (k + 1) a0 a1 a2 a3) := by
 intro a0 a1 a2 a3 k
 unfold laws_FnExactRopeText.f
 repeat' first
   | (with_reducible exact impl_RopeText.mono _ _ _ _ _)
   | (with_reducible exact spec_RopeText.mono _ _ _ _ _)
   | (with_reducible exact LeO.refl _)
   | (with_reducible exact LeO.none _)
   | (with_reducible refine LeO.ite ?_ ?_)
   | (with_reducible refine LeO.bind ?_ (fun _ => ?_))
   | exact impl_RopeText.mono _ _ _ _ _
   | exact spec_RopeText.mono _ _ _ _ _
   | exact LeO.none _
   | refine LeO.ite ?_ ?_
   | refine LeO.bind ?_ (fun _ => ?_)
set_option maxHeartbeats 8000000 in
set_option maxRecDepth 100000 in
theorem laws_FnExactRopeText.calls (k : Nat) (a0_0 : ByteArray) (a0_1 : Int) (a0_2 : Int) (a0_3 : Int) (r : Bool) (w : World) (hT : Gnd.Tab w) (h : laws_FnExactRopeText.f k a0_0 a0_1 a0_2 a0_3 = some r) :
  Calls Tryd.prog 8 #[.agg #[.string a0_0, .int .i64 a0_1, .int .i64 a0_2, .int .i64 a0_3]] w fun e w' => e = .returned (.bool r) ∧ Below w.heap.size w w' := by
 have hu42 := Tryd.underlying42
 have HB := aS (Below.refl w.heap.size w)
 have H : ((laws_szRope.f a0_0 a0_1 a0_2 a0_3 1048576).bind fun t164 => (if t164 < 0 then (some true) else ((laws_toRope.f a0_0 a0_1 a0_2 a0_3).bind fun bt165 => ((spec_RopeText.f k bt165.1 bt165.2.1 bt165.2.2.1 bt165.2.2.2).bind fun t169 => ((laws_toRope.f a0_0 a0_1 a0_2 a0_3).bind fun bt170 => ((impl_RopeText.f k bt170.1 bt170.2.1 bt170.2.2.1 bt170.2.2.2).bind fun t174 => (if t174.toList = t169.toList then (some true) else (some false)))))))) = some r := h
 clear h
 replace H := Option.bind_eq_some_iff.mp H
 obtain ⟨t164, A20, H⟩ := H
 replace H : (if t164 < 0 then (some true) else ((laws_toRope.f a0_0 a0_1 a0_2 a0_3).bind fun bt165 => ((spec_RopeText.f k bt165.1 bt165.2.1 bt165.2.2.1 bt165.2.2.2).bind fun t169 => ((laws_toRope.f a0_0 a0_1 a0_2 a0_3).bind fun bt170 => ((impl_RopeText.f k bt170.1 bt170.2.1 bt170.2.2.1 bt170.2.2.2).bind fun t174 => (if t174.toList = t169.toList then (some true) else (some false))))))) = some r := H
 have A2 := aS A20
 clear A20
 have HC3 := aS H
 clear H
 go_enter Tryd.func8, Tryd.ntmps8
 go_upto_if 10 with (first | ((with_reducible refine gate_dst (N := 1) rfl ?_); refine box_event ?hg (N := 1) ?hd (cs := #[.string a0_0, .int .i64 a0_1, .int .i64 a0_2, .int .i64 a0_3]) (t := 42) ?hr ?_; (case hd => rfl); (case hg => rfl); (case hr => first | (go_simp; done) | (go_simp; rfl)); intro gb163 hg w4 hbox hb; have n0_ := aS (below_step (sW HB.out) hb); have n1_ := aS (hbox); have n2_ := aS ((by rw [hg]; exact (below_size (sW HB.out)) : w.heap.size ≤ gb163)); have n3_ := aS ((by rw [hg]; exact (below_size (sW HB.out)) : w.heap.size ≤ gb163)); clear HB; have HB := n0_; have BK163 := n1_; have GW163 := n2_; have GE163 := n3_; clear n0_ n1_ n2_ n3_; clear hb hbox hg; have hcz5_0 : w4.cell? ⟨gb163, 0, none⟩ = some (.string a0_0) := (blk_cell BK163.out 0).trans rfl; have hcz5_1 : w4.cell? ⟨gb163, 1, none⟩ = some (.int .i64 a0_1) := (blk_cell BK163.out 1).trans rfl; have hcz5_2 : w4.cell? ⟨gb163, 2, none⟩ = some (.int .i64 a0_2) := (blk_cell BK163.out 2).trans rfl; have hcz5_3 : w4.cell? ⟨gb163, 3, none⟩ = some (.int .i64 a0_3) := (blk_cell BK163.out 3).trans rfl; have hfz5_0 := blk_frozen BK163.out 0; have hfz5_1 := blk_frozen BK163.out 1; have hfz5_2 := blk_frozen BK163.out 2; have hfz5_3 := blk_frozen BK163.out 3) | ((with_reducible refine gate_callee (f := 28) rfl ?_); refine goesL_ (some 8) rfl rfl Tryd.func28 (by kernel_rfl) rfl #[.agg #[.string a0_0, .int .i64 a0_1, .int .i64 a0_2, .int .i64 a0_3], .int .i64 1048576] rfl sG ?_; (with_reducible refine (laws_szRope.calls a0_0 a0_1 a0_2 a0_3 1048576 t164 _ A2.out).mono ?_); rintro e w6 ⟨rfl, hb⟩; refine ⟨_, rfl, ?_⟩; have n0_ := aS (blk_below (g := gb163) (o := .cells #[.string a0_0, .int .i64 a0_1, .int .i64 a0_2, .int .i64 a0_3] 42 (0, 0)) (sB BK163.out) hb); have n1_ := aS (below_step (sW HB.out) hb); clear BK163 HB; have BK163 := n0_; have HB := n1_; clear n0_ n1_; (try clear hb); (try clear hb2); (try clear hk); (try clear hi)))
 (try simp only [Act.put, List.setIfInBounds_toArray, List.set_cons_zero, List.set_cons_succ])
 have H := HC3.out
 clear HC3
 by_cases c7 : t164 < 0
 ·
  rw [if_pos c7] at H
  have c7b0 : decide (t164 < 0) = true := decide_eq_true c7
  clear c7
  (first | rw [c7b0] | (simp only [i64_w, i32_w]; rw [c7b0]) | (rw [c7b2]; simp only [Bool.not_false, Bool.not_true]) | skip)
  obtain rfl := Option.some.inj H
  go_wp2
  go_ret
  exact ⟨by first | rfl | (simp [errW_none, errW_some, i64_w]; done) | (simp [errW_none, errW_some] <;> rfl) | (simp [*, errW_none, errW_some] <;> rfl), by repeat (first | (with_reducible first | exact HB.out | apply below_alloc | apply pw_below_drewN | apply below_drew1) | exact HB.out)⟩
 ·
  rw [if_neg c7] at H
  have c7b0 : decide (t164 < 0) = false := decide_eq_false c7
  clear c7
  (first | rw [c7b0] | (simp only [i64_w, i32_w]; rw [c7b0]) | (rw [c7b2]; simp only [Bool.not_false, Bool.not_true]) | skip)
  replace H := Option.bind_eq_some_iff.mp H
  obtain ⟨⟨t165, t166, t167, t168⟩, A80, H⟩ := H
  replace H : ((spec_RopeText.f k t165 t166 t167 t168).bind fun t169 => ((laws_toRope.f a0_0 a0_1 a0_2 a0_3).bind fun bt170 => ((impl_RopeText.f k bt170.1 bt170.2.1 bt170.2.2.1 bt170.2.2.2).bind fun t174 => (if t174.toList = t169.toList then (some true) else (some false))))) = some r := H
  have A8 := aS A80
  clear A80
  replace H := Option.bind_eq_some_iff.mp H
  obtain ⟨t169, A90, H⟩ := H
  replace H : ((laws_toRope.f a0_0 a0_1 a0_2 a0_3).bind fun bt170 => ((impl_RopeText.f k bt170.1 bt170.2.1 bt170.2.2.1 bt170.2.2.2).bind fun t174 => (if t174.toList = t169.toList then (some true) else (some false)))) = some r := H
  have A9 := aS A90
  clear A90
  replace H := Option.bind_eq_some_iff.mp H
  obtain ⟨⟨t170, t171, t172, t173⟩, A100, H⟩ := H
  replace H : ((impl_RopeText.f k t170 t171 t172 t173).bind fun t174 => (if t174.toList = t169.toList then (some true) else (some false))) = some r := H
  have A10 := aS A100
  clear A100
  replace H := Option.bind_eq_some_iff.mp H
  obtain ⟨t174, A110, H⟩ := H
  replace H : (if t174.toList = t169.toList then (some true) else (some false)) = some r := H
  have A11 := aS A110
  clear A110
  have HC12 := aS H
  clear H
  have hcz13_0 : w6.cell? ⟨gb163, 0, none⟩ = some (.string a0_0) := (blk_cell BK163.out 0).trans rfl
  have hcz13_1 : w6.cell? ⟨gb163, 1, none⟩ = some (.int .i64 a0_1) := (blk_cell BK163.out 1).trans rfl
  have hcz13_2 : w6.cell? ⟨gb163, 2, none⟩ = some (.int .i64 a0_2) := (blk_cell BK163.out 2).trans rfl
  have hcz13_3 : w6.cell? ⟨gb163, 3, none⟩ = some (.int .i64 a0_3) := (blk_cell BK163.out 3).trans rfl
  have hfz13_0 := blk_frozen BK163.out 0
  have hfz13_1 := blk_frozen BK163.out 1
  have hfz13_2 := blk_frozen BK163.out 2
  have hfz13_3 := blk_frozen BK163.out 3
  go_upto_if 19 with (first | ((with_reducible refine gate_callee (f := 30) rfl ?_); refine goesL_ (some 12) rfl rfl Tryd.func30 (by kernel_rfl) rfl #[.agg #[.string a0_0, .int .i64 a0_1, .int .i64 a0_2, .int .i64 a0_3]] rfl sG ?_; (with_reducible refine (laws_toRope.calls a0_0 a0_1 a0_2 a0_3 t165 t166 t167 t168 _ A8.out).mono ?_); rintro e w14 ⟨rfl, hb⟩; refine ⟨_, rfl, ?_⟩; have n0_ := aS (blk_below (g := gb163) (o := .cells #[.string a0_0, .int .i64 a0_1, .int .i64 a0_2, .int .i64 a0_3] 42 (0, 0)) (sB BK163.out) hb); have n1_ := aS (below_step (sW HB.out) hb); clear BK163 HB; have BK163 := n0_; have HB := n1_; clear n0_ n1_; (try clear hb); (try clear hb2); (try clear hk); (try clear hi)) | ((with_reducible refine gate_callee (f := 29) rfl ?_); refine goesL_ (some 13) rfl rfl Tryd.func29 (by kernel_rfl) rfl #[.agg #[.string t165, .int .i64 t166, .int .i64 t167, .int .i64 t168]] rfl sG ?_; (with_reducible refine (spec_RopeText.calls k t165 t166 t167 t168 t169 _ A9.out).mono ?_); rintro e w15 ⟨rfl, hb⟩; refine ⟨_, rfl, ?_⟩; have n0_ := aS (blk_below (g := gb163) (o := .cells #[.string a0_0, .int .i64 a0_1, .int .i64 a0_2, .int .i64 a0_3] 42 (0, 0)) (sB BK163.out) hb); have n1_ := aS (below_step (sW HB.out) hb); clear BK163 HB; have BK163 := n0_; have HB := n1_; clear n0_ n1_; (try clear hb); (try clear hb2); (try clear hk); (try clear hi); have hcz16_0 : w15.cell? ⟨gb163, 0, none⟩ = some (.string a0_0) := (blk_cell BK163.out 0).trans rfl; have hcz16_1 : w15.cell? ⟨gb163, 1, none⟩ = some (.int .i64 a0_1) := (blk_cell BK163.out 1).trans rfl; have hcz16_2 : w15.cell? ⟨gb163, 2, none⟩ = some (.int .i64 a0_2) := (blk_cell BK163.out 2).trans rfl; have hcz16_3 : w15.cell? ⟨gb163, 3, none⟩ = some (.int .i64 a0_3) := (blk_cell BK163.out 3).trans rfl; have hfz16_0 := blk_frozen BK163.out 0; have hfz16_1 := blk_frozen BK163.out 1; have hfz16_2 := blk_frozen BK163.out 2; have hfz16_3 := blk_frozen BK163.out 3) | ((with_reducible refine gate_callee (f := 30) rfl ?_); refine goesL_ (some 15) rfl rfl Tryd.func30 (by kernel_rfl) rfl #[.agg #[.string a0_0, .int .i64 a0_1, .int .i64 a0_2, .int .i64 a0_3]] rfl sG ?_; (with_reducible refine (laws_toRope.calls a0_0 a0_1 a0_2 a0_3 t170 t171 t172 t173 _ A10.out).mono ?_); rintro e w17 ⟨rfl, hb⟩; refine ⟨_, rfl, ?_⟩; have n0_ := aS (blk_below (g := gb163) (o := .cells #[.string a0_0, .int .i64 a0_1, .int .i64 a0_2, .int .i64 a0_3] 42 (0, 0)) (sB BK163.out) hb); have n1_ := aS (below_step (sW HB.out) hb); clear BK163 HB; have BK163 := n0_; have HB := n1_; clear n0_ n1_; (try clear hb); (try clear hb2); (try clear hk); (try clear hi)) | ((with_reducible refine gate_callee (f := 31) rfl ?_); refine goesL_ (some 16) rfl rfl Tryd.func31 (by kernel_rfl) rfl #[.agg #[.string t170, .int .i64 t171, .int .i64 t172, .int .i64 t173]] rfl sG ?_; (with_reducible refine (impl_RopeText.calls k t170 t171 t172 t173 t174 _ ?side1 A11.out).mono ?_); (case side1 => exact Gnd.Tab.on hT (sW HB.out)); rintro e w18 ⟨rfl, hb⟩; refine ⟨_, rfl, ?_⟩; have n0_ := aS (blk_below (g := gb163) (o := .cells #[.string a0_0, .int .i64 a0_1, .int .i64 a0_2, .int .i64 a0_3] 42 (0, 0)) (sB BK163.out) hb); have n1_ := aS (below_step (sW HB.out) hb); clear BK163 HB; have BK163 := n0_; have HB := n1_; clear n0_ n1_; (try clear hb); (try clear hb2); (try clear hk); (try clear hi)))
  (try simp only [Act.put, List.setIfInBounds_toArray, List.set_cons_zero, List.set_cons_succ])
  have H := HC12.out
  clear HC12
  by_cases c19 : t174.toList = t169.toList
  ·
   rw [if_pos c19] at H
   have c19b0 : (t174.toList == t169.toList) = true := beq_iff_eq.mpr c19
   have c19b1 : (t174.toList != t169.toList) = false := bne_eq_false_iff_eq.mpr c19
   clear c19
   (first | rw [c19b0] | (simp only [i64_w, i32_w]; rw [c19b0]) | (rw [c19b2]; simp only [Bool.not_false, Bool.not_true]) | skip)
   obtain rfl := Option.some.inj H
   go_wp2
   go_ret
   exact ⟨by first | rfl | (simp [errW_none, errW_some, i64_w]; done) | (simp [errW_none, errW_some] <;> rfl) | (simp [*, errW_none, errW_some] <;> rfl), by repeat (first | (with_reducible first | exact HB.out | apply below_alloc | apply pw_below_drewN | apply below_drew1) | exact HB.out)⟩
  ·
   rw [if_neg c19] at H
   have c19b0 : (t174.toList == t169.toList) = false := beq_eq_false_iff_ne.mpr c19
   have c19b1 : (t174.toList != t169.toList) = true := bne_iff_ne.mpr c19
   (first | rw [c19b0] | (simp only [i64_w, i32_w]; rw [c19b0]) | (rw [c19b2]; simp only [Bool.not_false, Bool.not_true]) | skip)
   obtain rfl := Option.some.inj H
   go_wp2
   go_ret
   exact ⟨by first | rfl | (simp [errW_none, errW_some, i64_w]; done) | (simp [errW_none, errW_some] <;> rfl) | (simp [*, errW_none, errW_some] <;> rfl), by repeat (first | (with_reducible first | exact HB.out | apply below_alloc | apply pw_below_drewN | apply below_drew1) | exact HB.out)⟩

/-- THE ONE PURE STATEMENT of laws_FnExactRopeText. -/
def laws_FnExactRopeText.Pure : Prop := ∀ (a0_0 : ByteArray) (a0_1 : Int) (a0_2 : Int) (a0_3 : Int), (a0_0.size ≤ 140737488351232) → ((Lit.int .i64 a0_1).wf = true) → ((Lit.int .i64 a0_2).wf = true) → ((Lit.int .i64 a0_3).wf = true) → ∃ k, laws_FnExactRopeText.f k a0_0 a0_1 a0_2 a0_3 = some true
theorem laws_FnExactRopeText.walk : True := trivial

end Go.Proofs.YtginmioklkcgbaaDoor.QFnExactRopeText

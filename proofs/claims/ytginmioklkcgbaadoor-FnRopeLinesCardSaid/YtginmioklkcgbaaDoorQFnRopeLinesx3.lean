/- What the Go functions of this law compute, each as a Lean function, and that each call comes to that answer; written by a program of this session. No condition. -/
import Derived.Test.YtginmioklkcgbaaDoorQFnRopeLinesx0
import Derived.Test.YtginmioklkcgbaaDoorQFnRopeLinesx2
namespace Go.Proofs.YtginmioklkcgbaaDoor.QFnRopeLines
open Go.RowKit Go.Proofs.YtginmioklkcgbaaDoorW.PrintWords Go.Proofs.YtginmioklkcgbaaDoorW.PrintLast Go.Proofs.YtginmioklkcgbaaDoorW.PrintMore
attribute [local go_sem] max2_int min2_int max_two min_two max_three min_three max_four min_four   -- for this text's walks alone
set_option linter.unusedVariables false
set_option linter.unusedSimpArgs false

/-! ### impl_RopeText: function 31 -/
def impl_RopeText.f (k : Nat) (a0_0 : ByteArray) (a0_1 : Int) (a0_2 : Int) (a0_3 : Int) : Option (ByteArray) := (impl_validRope.f k a0_0 a0_1 a0_2 a0_3).bind fun t108 => (if t108 = true then (if a0_0.size + 6 ≤ 9223372036854775807 then ((impl_Decimal.f a0_1).bind fun t109 => (if (a0_0 ++ (⟨#[32, 115, 105, 122, 101, 32]⟩ : ByteArray)).size + t109.size ≤ 9223372036854775807 then (if ((a0_0 ++ (⟨#[32, 115, 105, 122, 101, 32]⟩ : ByteArray)) ++ t109).size + 10 ≤ 9223372036854775807 then ((impl_Decimal.f a0_2).bind fun t110 => (if (((a0_0 ++ (⟨#[32, 115, 105, 122, 101, 32]⟩ : ByteArray)) ++ t109) ++ (⟨#[32, 115, 116, 114, 101, 110, 103, 116, 104, 32]⟩ : ByteArray)).size + t110.size ≤ 9223372036854775807 then (if ((((a0_0 ++ (⟨#[32, 115, 105, 122, 101, 32]⟩ : ByteArray)) ++ t109) ++ (⟨#[32, 115, 116, 114, 101, 110, 103, 116, 104, 32]⟩ : ByteArray)) ++ t110).size + 8 ≤ 9223372036854775807 then ((impl_Decimal.f a0_3).bind fun t111 => (if (((((a0_0 ++ (⟨#[32, 115, 105, 122, 101, 32]⟩ : ByteArray)) ++ t109) ++ (⟨#[32, 115, 116, 114, 101, 110, 103, 116, 104, 32]⟩ : ByteArray)) ++ t110) ++ (⟨#[32, 119, 101, 105, 103, 104, 116, 32]⟩ : ByteArray)).size + t111.size ≤ 9223372036854775807 then (some ((((((a0_0 ++ (⟨#[32, 115, 105, 122, 101, 32]⟩ : ByteArray)) ++ t109) ++ (⟨#[32, 115, 116, 114, 101, 110, 103, 116, 104, 32]⟩ : ByteArray)) ++ t110) ++ (⟨#[32, 119, 101, 105, 103, 104, 116, 32]⟩ : ByteArray)) ++ t111)) else (none))) else (none)) else (none))) else (none)) else (none))) else (none)) else (some (⟨#[]⟩ : ByteArray)))
theorem impl_RopeText.mono : ∀ a0 a1 a2 a3 k, LeO (impl_RopeText.f k a0 a1 a2 a3) (impl_RopeText.f (k + 1) a0 a1 a2 a3) := by
 intro a0 a1 a2 a3 k
 unfold impl_RopeText.f
 repeat' first
   | (with_reducible exact impl_validRope.mono _ _ _ _ _)
   | (with_reducible exact LeO.refl _)
   | (with_reducible exact LeO.none _)
   | (with_reducible refine LeO.ite ?_ ?_)
   | (with_reducible refine LeO.bind ?_ (fun _ => ?_))
   | exact impl_validRope.mono _ _ _ _ _
   | exact LeO.none _
   | refine LeO.ite ?_ ?_
   | refine LeO.bind ?_ (fun _ => ?_)
def impl_RopeText.T3 : Bool × List (List Nat × List Nat) := (true, [([], []), ([0], [0]), ([1], [1]), ([], []), ([3], [3]), ([4], [4]), ([2, 5], [2, 5]), ([6], [6]), ([], []), ([8], [8]), ([9, 5], [9]), ([7, 10], [7, 10]), ([11], [11]), ([], []), ([13], [13]), ([14, 10], [14]), ([12, 15], [12, 15]), ([16, 15, 0, 1, 2, 3, 4, 5, 6, 7, 8, 9, 10, 11, 12, 13, 14, 15, 16], [16])])
def impl_RopeText.B3 : List Nat := [0, 1, 3, 0, 8, 24, 63, 127, 0, 256, 824, 2047, 4095, 0, 8192, 26424, 65535, 131071]
theorem impl_RopeText.tab3 : rtab .any (opsOf Tryd.f31 3) = impl_RopeText.T3 := by kernel_rfl
theorem impl_RopeText.bits3 : waitsOk impl_RopeText.T3.2 impl_RopeText.B3 = true := by kernel_rfl
set_option maxHeartbeats 8000000 in
set_option maxRecDepth 100000 in
theorem impl_RopeText.calls (k : Nat) (a0_0 : ByteArray) (a0_1 : Int) (a0_2 : Int) (a0_3 : Int) (r : ByteArray) (w : World) (hT : Gnd.Tab w) (h : impl_RopeText.f k a0_0 a0_1 a0_2 a0_3 = some r) :
  Calls Tryd.prog 31 #[.agg #[.string a0_0, .int .i64 a0_1, .int .i64 a0_2, .int .i64 a0_3]] w fun e w' => e = .returned (.string r) ∧ Below w.heap.size w w' := by
 have hu45 := Tryd.underlying45
 have HB := aS (Below.refl w.heap.size w)
 have H : ((impl_validRope.f k a0_0 a0_1 a0_2 a0_3).bind fun t108 => (if t108 = true then (if a0_0.size + 6 ≤ 9223372036854775807 then ((impl_Decimal.f a0_1).bind fun t109 => (if (a0_0 ++ (⟨#[32, 115, 105, 122, 101, 32]⟩ : ByteArray)).size + t109.size ≤ 9223372036854775807 then (if ((a0_0 ++ (⟨#[32, 115, 105, 122, 101, 32]⟩ : ByteArray)) ++ t109).size + 10 ≤ 9223372036854775807 then ((impl_Decimal.f a0_2).bind fun t110 => (if (((a0_0 ++ (⟨#[32, 115, 105, 122, 101, 32]⟩ : ByteArray)) ++ t109) ++ (⟨#[32, 115, 116, 114, 101, 110, 103, 116, 104, 32]⟩ : ByteArray)).size + t110.size ≤ 9223372036854775807 then (if ((((a0_0 ++ (⟨#[32, 115, 105, 122, 101, 32]⟩ : ByteArray)) ++ t109) ++ (⟨#[32, 115, 116, 114, 101, 110, 103, 116, 104, 32]⟩ : ByteArray)) ++ t110).size + 8 ≤ 9223372036854775807 then ((impl_Decimal.f a0_3).bind fun t111 => (if (((((a0_0 ++ (⟨#[32, 115, 105, 122, 101, 32]⟩ : ByteArray)) ++ t109) ++ (⟨#[32, 115, 116, 114, 101, 110, 103, 116, 104, 32]⟩ : ByteArray)) ++ t110) ++ (⟨#[32, 119, 101, 105, 103, 104, 116, 32]⟩ : ByteArray)).size + t111.size ≤ 9223372036854775807 then (some ((((((a0_0 ++ (⟨#[32, 115, 105, 122, 101, 32]⟩ : ByteArray)) ++ t109) ++ (⟨#[32, 115, 116, 114, 101, 110, 103, 116, 104, 32]⟩ : ByteArray)) ++ t110) ++ (⟨#[32, 119, 101, 105, 103, 104, 116, 32]⟩ : ByteArray)) ++ t111)) else (none))) else (none)) else (none))) else (none)) else (none))) else (none)) else (some (⟨#[]⟩ : ByteArray)))) = some r := h
 clear h
 replace H := Option.bind_eq_some_iff.mp H
 obtain ⟨t108, A20, H⟩ := H
 replace H : (if t108 = true then (if a0_0.size + 6 ≤ 9223372036854775807 then ((impl_Decimal.f a0_1).bind fun t109 => (if (a0_0 ++ (⟨#[32, 115, 105, 122, 101, 32]⟩ : ByteArray)).size + t109.size ≤ 9223372036854775807 then (if ((a0_0 ++ (⟨#[32, 115, 105, 122, 101, 32]⟩ : ByteArray)) ++ t109).size + 10 ≤ 9223372036854775807 then ((impl_Decimal.f a0_2).bind fun t110 => (if (((a0_0 ++ (⟨#[32, 115, 105, 122, 101, 32]⟩ : ByteArray)) ++ t109) ++ (⟨#[32, 115, 116, 114, 101, 110, 103, 116, 104, 32]⟩ : ByteArray)).size + t110.size ≤ 9223372036854775807 then (if ((((a0_0 ++ (⟨#[32, 115, 105, 122, 101, 32]⟩ : ByteArray)) ++ t109) ++ (⟨#[32, 115, 116, 114, 101, 110, 103, 116, 104, 32]⟩ : ByteArray)) ++ t110).size + 8 ≤ 9223372036854775807 then ((impl_Decimal.f a0_3).bind fun t111 => (if (((((a0_0 ++ (⟨#[32, 115, 105, 122, 101, 32]⟩ : ByteArray)) ++ t109) ++ (⟨#[32, 115, 116, 114, 101, 110, 103, 116, 104, 32]⟩ : ByteArray)) ++ t110) ++ (⟨#[32, 119, 101, 105, 103, 104, 116, 32]⟩ : ByteArray)).size + t111.size ≤ 9223372036854775807 then (some ((((((a0_0 ++ (⟨#[32, 115, 105, 122, 101, 32]⟩ : ByteArray)) ++ t109) ++ (⟨#[32, 115, 116, 114, 101, 110, 103, 116, 104, 32]⟩ : ByteArray)) ++ t110) ++ (⟨#[32, 119, 101, 105, 103, 104, 116, 32]⟩ : ByteArray)) ++ t111)) else (none))) else (none)) else (none))) else (none)) else (none))) else (none)) else (some (⟨#[]⟩ : ByteArray))) = some r := H
 have A2 := aS A20
 clear A20
 by_cases c3 : t108 = true
 ·
  subst c3
  have H1 : (if a0_0.size + 6 ≤ 9223372036854775807 then ((impl_Decimal.f a0_1).bind fun t109 => (if (a0_0 ++ (⟨#[32, 115, 105, 122, 101, 32]⟩ : ByteArray)).size + t109.size ≤ 9223372036854775807 then (if ((a0_0 ++ (⟨#[32, 115, 105, 122, 101, 32]⟩ : ByteArray)) ++ t109).size + 10 ≤ 9223372036854775807 then ((impl_Decimal.f a0_2).bind fun t110 => (if (((a0_0 ++ (⟨#[32, 115, 105, 122, 101, 32]⟩ : ByteArray)) ++ t109) ++ (⟨#[32, 115, 116, 114, 101, 110, 103, 116, 104, 32]⟩ : ByteArray)).size + t110.size ≤ 9223372036854775807 then (if ((((a0_0 ++ (⟨#[32, 115, 105, 122, 101, 32]⟩ : ByteArray)) ++ t109) ++ (⟨#[32, 115, 116, 114, 101, 110, 103, 116, 104, 32]⟩ : ByteArray)) ++ t110).size + 8 ≤ 9223372036854775807 then ((impl_Decimal.f a0_3).bind fun t111 => (if (((((a0_0 ++ (⟨#[32, 115, 105, 122, 101, 32]⟩ : ByteArray)) ++ t109) ++ (⟨#[32, 115, 116, 114, 101, 110, 103, 116, 104, 32]⟩ : ByteArray)) ++ t110) ++ (⟨#[32, 119, 101, 105, 103, 104, 116, 32]⟩ : ByteArray)).size + t111.size ≤ 9223372036854775807 then (some ((((((a0_0 ++ (⟨#[32, 115, 105, 122, 101, 32]⟩ : ByteArray)) ++ t109) ++ (⟨#[32, 115, 116, 114, 101, 110, 103, 116, 104, 32]⟩ : ByteArray)) ++ t110) ++ (⟨#[32, 119, 101, 105, 103, 104, 116, 32]⟩ : ByteArray)) ++ t111)) else (none))) else (none)) else (none))) else (none)) else (none))) else (none)) = some r := by rw [if_pos rfl] at H; exact H
  clear H
  have H := H1
  clear H1
  by_cases c4 : a0_0.size + 6 ≤ 9223372036854775807
  ·
   rw [if_pos c4] at H
   have c4b0 := eq_true c4
   have c4b1 : decide (a0_0.size + 6 ≤ 9223372036854775807) = true := decide_eq_true c4
   try have c4b2 : (9223372036854775807 < a0_0.size + 6) = False := eq_false (Nat.not_lt.2 c4)
   replace H := Option.bind_eq_some_iff.mp H
   obtain ⟨t109, A50, H⟩ := H
   replace H : (if (a0_0 ++ (⟨#[32, 115, 105, 122, 101, 32]⟩ : ByteArray)).size + t109.size ≤ 9223372036854775807 then (if ((a0_0 ++ (⟨#[32, 115, 105, 122, 101, 32]⟩ : ByteArray)) ++ t109).size + 10 ≤ 9223372036854775807 then ((impl_Decimal.f a0_2).bind fun t110 => (if (((a0_0 ++ (⟨#[32, 115, 105, 122, 101, 32]⟩ : ByteArray)) ++ t109) ++ (⟨#[32, 115, 116, 114, 101, 110, 103, 116, 104, 32]⟩ : ByteArray)).size + t110.size ≤ 9223372036854775807 then (if ((((a0_0 ++ (⟨#[32, 115, 105, 122, 101, 32]⟩ : ByteArray)) ++ t109) ++ (⟨#[32, 115, 116, 114, 101, 110, 103, 116, 104, 32]⟩ : ByteArray)) ++ t110).size + 8 ≤ 9223372036854775807 then ((impl_Decimal.f a0_3).bind fun t111 => (if (((((a0_0 ++ (⟨#[32, 115, 105, 122, 101, 32]⟩ : ByteArray)) ++ t109) ++ (⟨#[32, 115, 116, 114, 101, 110, 103, 116, 104, 32]⟩ : ByteArray)) ++ t110) ++ (⟨#[32, 119, 101, 105, 103, 104, 116, 32]⟩ : ByteArray)).size + t111.size ≤ 9223372036854775807 then (some ((((((a0_0 ++ (⟨#[32, 115, 105, 122, 101, 32]⟩ : ByteArray)) ++ t109) ++ (⟨#[32, 115, 116, 114, 101, 110, 103, 116, 104, 32]⟩ : ByteArray)) ++ t110) ++ (⟨#[32, 119, 101, 105, 103, 104, 116, 32]⟩ : ByteArray)) ++ t111)) else (none))) else (none)) else (none))) else (none)) else (none)) = some r := H
   have A5 := aS A50
   clear A50
   by_cases c6 : (a0_0 ++ (⟨#[32, 115, 105, 122, 101, 32]⟩ : ByteArray)).size + t109.size ≤ 9223372036854775807
   ·
    rw [if_pos c6] at H
    have c6b0 := eq_true c6
    have c6b1 : decide ((a0_0 ++ (⟨#[32, 115, 105, 122, 101, 32]⟩ : ByteArray)).size + t109.size ≤ 9223372036854775807) = true := decide_eq_true c6
    try have c6b3 : (9223372036854775807 < a0_0.size + 6 + t109.size) = False := eq_false (by have h_ := c6; simp only [ByteArray.size_append, show ByteArray.size (⟨#[32, 115, 105, 122, 101, 32]⟩ : ByteArray) = 6 from rfl] at h_; omega)
    try have c6b2 : (9223372036854775807 < (a0_0 ++ (⟨#[32, 115, 105, 122, 101, 32]⟩ : ByteArray)).size + t109.size) = False := eq_false (Nat.not_lt.2 c6)
    by_cases c7 : ((a0_0 ++ (⟨#[32, 115, 105, 122, 101, 32]⟩ : ByteArray)) ++ t109).size + 10 ≤ 9223372036854775807
    ·
     rw [if_pos c7] at H
     have c7b0 := eq_true c7
     have c7b1 : decide (((a0_0 ++ (⟨#[32, 115, 105, 122, 101, 32]⟩ : ByteArray)) ++ t109).size + 10 ≤ 9223372036854775807) = true := decide_eq_true c7
     try have c7b3 : (9223372036854775807 < a0_0.size + 6 + t109.size + 10) = False := eq_false (by have h_ := c7; simp only [ByteArray.size_append, show ByteArray.size (⟨#[32, 115, 105, 122, 101, 32]⟩ : ByteArray) = 6 from rfl] at h_; omega)
     try have c7b2 : (9223372036854775807 < ((a0_0 ++ (⟨#[32, 115, 105, 122, 101, 32]⟩ : ByteArray)) ++ t109).size + 10) = False := eq_false (Nat.not_lt.2 c7)
     replace H := Option.bind_eq_some_iff.mp H
     obtain ⟨t110, A80, H⟩ := H
     replace H : (if (((a0_0 ++ (⟨#[32, 115, 105, 122, 101, 32]⟩ : ByteArray)) ++ t109) ++ (⟨#[32, 115, 116, 114, 101, 110, 103, 116, 104, 32]⟩ : ByteArray)).size + t110.size ≤ 9223372036854775807 then (if ((((a0_0 ++ (⟨#[32, 115, 105, 122, 101, 32]⟩ : ByteArray)) ++ t109) ++ (⟨#[32, 115, 116, 114, 101, 110, 103, 116, 104, 32]⟩ : ByteArray)) ++ t110).size + 8 ≤ 9223372036854775807 then ((impl_Decimal.f a0_3).bind fun t111 => (if (((((a0_0 ++ (⟨#[32, 115, 105, 122, 101, 32]⟩ : ByteArray)) ++ t109) ++ (⟨#[32, 115, 116, 114, 101, 110, 103, 116, 104, 32]⟩ : ByteArray)) ++ t110) ++ (⟨#[32, 119, 101, 105, 103, 104, 116, 32]⟩ : ByteArray)).size + t111.size ≤ 9223372036854775807 then (some ((((((a0_0 ++ (⟨#[32, 115, 105, 122, 101, 32]⟩ : ByteArray)) ++ t109) ++ (⟨#[32, 115, 116, 114, 101, 110, 103, 116, 104, 32]⟩ : ByteArray)) ++ t110) ++ (⟨#[32, 119, 101, 105, 103, 104, 116, 32]⟩ : ByteArray)) ++ t111)) else (none))) else (none)) else (none)) = some r := H
     have A8 := aS A80
     clear A80
     by_cases c9 : (((a0_0 ++ (⟨#[32, 115, 105, 122, 101, 32]⟩ : ByteArray)) ++ t109) ++ (⟨#[32, 115, 116, 114, 101, 110, 103, 116, 104, 32]⟩ : ByteArray)).size + t110.size ≤ 9223372036854775807
     ·
      rw [if_pos c9] at H
      have c9b0 := eq_true c9
      have c9b1 : decide ((((a0_0 ++ (⟨#[32, 115, 105, 122, 101, 32]⟩ : ByteArray)) ++ t109) ++ (⟨#[32, 115, 116, 114, 101, 110, 103, 116, 104, 32]⟩ : ByteArray)).size + t110.size ≤ 9223372036854775807) = true := decide_eq_true c9
      try have c9b3 : (9223372036854775807 < a0_0.size + 6 + t109.size + 10 + t110.size) = False := eq_false (by have h_ := c9; simp only [ByteArray.size_append, show ByteArray.size (⟨#[32, 115, 105, 122, 101, 32]⟩ : ByteArray) = 6 from rfl, show ByteArray.size (⟨#[32, 115, 116, 114, 101, 110, 103, 116, 104, 32]⟩ : ByteArray) = 10 from rfl] at h_; omega)
      try have c9b2 : (9223372036854775807 < (((a0_0 ++ (⟨#[32, 115, 105, 122, 101, 32]⟩ : ByteArray)) ++ t109) ++ (⟨#[32, 115, 116, 114, 101, 110, 103, 116, 104, 32]⟩ : ByteArray)).size + t110.size) = False := eq_false (Nat.not_lt.2 c9)
      by_cases c10 : ((((a0_0 ++ (⟨#[32, 115, 105, 122, 101, 32]⟩ : ByteArray)) ++ t109) ++ (⟨#[32, 115, 116, 114, 101, 110, 103, 116, 104, 32]⟩ : ByteArray)) ++ t110).size + 8 ≤ 9223372036854775807
      ·
       rw [if_pos c10] at H
       have c10b0 := eq_true c10
       have c10b1 : decide (((((a0_0 ++ (⟨#[32, 115, 105, 122, 101, 32]⟩ : ByteArray)) ++ t109) ++ (⟨#[32, 115, 116, 114, 101, 110, 103, 116, 104, 32]⟩ : ByteArray)) ++ t110).size + 8 ≤ 9223372036854775807) = true := decide_eq_true c10
       try have c10b3 : (9223372036854775807 < a0_0.size + 6 + t109.size + 10 + t110.size + 8) = False := eq_false (by have h_ := c10; simp only [ByteArray.size_append, show ByteArray.size (⟨#[32, 115, 105, 122, 101, 32]⟩ : ByteArray) = 6 from rfl, show ByteArray.size (⟨#[32, 115, 116, 114, 101, 110, 103, 116, 104, 32]⟩ : ByteArray) = 10 from rfl] at h_; omega)
       try have c10b2 : (9223372036854775807 < ((((a0_0 ++ (⟨#[32, 115, 105, 122, 101, 32]⟩ : ByteArray)) ++ t109) ++ (⟨#[32, 115, 116, 114, 101, 110, 103, 116, 104, 32]⟩ : ByteArray)) ++ t110).size + 8) = False := eq_false (Nat.not_lt.2 c10)
       replace H := Option.bind_eq_some_iff.mp H
       obtain ⟨t111, A110, H⟩ := H
       replace H : (if (((((a0_0 ++ (⟨#[32, 115, 105, 122, 101, 32]⟩ : ByteArray)) ++ t109) ++ (⟨#[32, 115, 116, 114, 101, 110, 103, 116, 104, 32]⟩ : ByteArray)) ++ t110) ++ (⟨#[32, 119, 101, 105, 103, 104, 116, 32]⟩ : ByteArray)).size + t111.size ≤ 9223372036854775807 then (some ((((((a0_0 ++ (⟨#[32, 115, 105, 122, 101, 32]⟩ : ByteArray)) ++ t109) ++ (⟨#[32, 115, 116, 114, 101, 110, 103, 116, 104, 32]⟩ : ByteArray)) ++ t110) ++ (⟨#[32, 119, 101, 105, 103, 104, 116, 32]⟩ : ByteArray)) ++ t111)) else (none)) = some r := H
       have A11 := aS A110
       clear A110
       by_cases c12 : (((((a0_0 ++ (⟨#[32, 115, 105, 122, 101, 32]⟩ : ByteArray)) ++ t109) ++ (⟨#[32, 115, 116, 114, 101, 110, 103, 116, 104, 32]⟩ : ByteArray)) ++ t110) ++ (⟨#[32, 119, 101, 105, 103, 104, 116, 32]⟩ : ByteArray)).size + t111.size ≤ 9223372036854775807
       ·
        rw [if_pos c12] at H
        have c12b0 := eq_true c12
        have c12b1 : decide ((((((a0_0 ++ (⟨#[32, 115, 105, 122, 101, 32]⟩ : ByteArray)) ++ t109) ++ (⟨#[32, 115, 116, 114, 101, 110, 103, 116, 104, 32]⟩ : ByteArray)) ++ t110) ++ (⟨#[32, 119, 101, 105, 103, 104, 116, 32]⟩ : ByteArray)).size + t111.size ≤ 9223372036854775807) = true := decide_eq_true c12
        try have c12b3 : (9223372036854775807 < a0_0.size + 6 + t109.size + 10 + t110.size + 8 + t111.size) = False := eq_false (by have h_ := c12; simp only [ByteArray.size_append, show ByteArray.size (⟨#[32, 115, 105, 122, 101, 32]⟩ : ByteArray) = 6 from rfl, show ByteArray.size (⟨#[32, 115, 116, 114, 101, 110, 103, 116, 104, 32]⟩ : ByteArray) = 10 from rfl, show ByteArray.size (⟨#[32, 119, 101, 105, 103, 104, 116, 32]⟩ : ByteArray) = 8 from rfl] at h_; omega)
        try have c12b2 : (9223372036854775807 < (((((a0_0 ++ (⟨#[32, 115, 105, 122, 101, 32]⟩ : ByteArray)) ++ t109) ++ (⟨#[32, 115, 116, 114, 101, 110, 103, 116, 104, 32]⟩ : ByteArray)) ++ t110) ++ (⟨#[32, 119, 101, 105, 103, 104, 116, 32]⟩ : ByteArray)).size + t111.size) = False := eq_false (Nat.not_lt.2 c12)
        obtain rfl := Option.some.inj H
        go_enter Tryd.func31, Tryd.ntmps31
        try go_wp2_with (first | ((with_reducible refine gate_dst (N := 1) rfl ?_); refine box_event ?hg (N := 1) ?hd (cs := #[.string a0_0, .int .i64 a0_1, .int .i64 a0_2, .int .i64 a0_3]) (t := 45) ?hr ?_; (case hd => rfl); (case hg => rfl); (case hr => first | (go_simp; done) | (go_simp; rfl)); intro gb107 hg w13 hbox hb; have n0_ := aS (below_step (sW HB.out) hb); have n1_ := aS (hbox); have n2_ := aS ((by rw [hg]; exact (below_size (sW HB.out)) : w.heap.size ≤ gb107)); have n3_ := aS ((by rw [hg]; exact (below_size (sW HB.out)) : w.heap.size ≤ gb107)); clear HB; have HB := n0_; have BK107 := n1_; have GW107 := n2_; have GE107 := n3_; clear n0_ n1_ n2_ n3_; clear hb hbox hg; have hcz14_0 : w13.cell? ⟨gb107, 0, none⟩ = some (.string a0_0) := (blk_cell BK107.out 0).trans rfl; have hcz14_1 : w13.cell? ⟨gb107, 1, none⟩ = some (.int .i64 a0_1) := (blk_cell BK107.out 1).trans rfl; have hcz14_2 : w13.cell? ⟨gb107, 2, none⟩ = some (.int .i64 a0_2) := (blk_cell BK107.out 2).trans rfl; have hcz14_3 : w13.cell? ⟨gb107, 3, none⟩ = some (.int .i64 a0_3) := (blk_cell BK107.out 3).trans rfl; have hfz14_0 := blk_frozen BK107.out 0; have hfz14_1 := blk_frozen BK107.out 1; have hfz14_2 := blk_frozen BK107.out 2; have hfz14_3 := blk_frozen BK107.out 3) | ((with_reducible refine gate_callee (f := 66) rfl ?_); refine goesL_ (some 4) rfl rfl Tryd.func66 (by kernel_rfl) rfl #[.agg #[.string a0_0, .int .i64 a0_1, .int .i64 a0_2, .int .i64 a0_3]] rfl sG ?_; (with_reducible refine (impl_validRope.calls k a0_0 a0_1 a0_2 a0_3 true _ A2.out).mono ?_); rintro e w15 ⟨rfl, hb⟩; refine ⟨_, rfl, ?_⟩; have n0_ := aS (blk_below (g := gb107) (o := .cells #[.string a0_0, .int .i64 a0_1, .int .i64 a0_2, .int .i64 a0_3] 45 (0, 0)) (sB BK107.out) hb); have n1_ := aS (below_step (sW HB.out) hb); clear BK107 HB; have BK107 := n0_; have HB := n1_; clear n0_ n1_; (try clear hb); (try clear hb2); (try clear hk); (try clear hi)))
        have n0_ := aS (blk_drew BK107.out)
        have n1_ := aS (below_drew1 HB.out)
        clear BK107 HB
        have BK107 := n0_; have HB := n1_
        clear n0_ n1_
        refine start_ (n := 18) (S := fun w' => w'.cell? ⟨gb107, 0, none⟩ = some (.string a0_0) ∧ w'.cell? ⟨gb107, 1, none⟩ = some (.int .i64 a0_1) ∧ w'.cell? ⟨gb107, 2, none⟩ = some (.int .i64 a0_2) ∧ w'.cell? ⟨gb107, 3, none⟩ = some (.int .i64 a0_3)) (ds := []) #[false, false, false, false, false, false, false, false, false, false, false, false, false, false, false, false, false, false] (by kernel_rfl) rfl rfl ⟨(blk_cell BK107.out 0).trans rfl, (blk_cell BK107.out 1).trans rfl, (blk_cell BK107.out 2).trans rfl, (blk_cell BK107.out 3).trans rfl⟩ (fun hHeld => ?_); refine with_tabW impl_RopeText.tab3 impl_RopeText.bits3 (fun HT_ HW_ => ?_)
        generalize w15.drew = w16 at BK107 HB hHeld ⊢
        refine pure_ (i := 0) (N := some 6) (v := ?_) (a' := ?_) #[true, false, false, false, false, false, false, false, false, false, false, false, false, false, false, false, false, false] rfl rfl (any_of HT_.out (by kernel_rfl)) (fun _ _ _ h => h) (Or.inl ⟨by rfl, ?_⟩) ?_ ?_
        rotate_left
        ·
         intro w'
         go_simp
         with_reducible rfl
        rotate_left
        ·
         exact sP
        refine pure_ (i := 3) (N := some 9) (v := ?_) (a' := ?_) #[true, false, false, true, false, false, false, false, false, false, false, false, false, false, false, false, false, false] rfl rfl (any_of HT_.out (by kernel_rfl)) (fun _ _ _ h => h) (Or.inl ⟨by rfl, ?_⟩) ?_ ?_
        rotate_left
        ·
         intro w'
         go_simp
         with_reducible rfl
        rotate_left
        ·
         exact sP
        refine pure_ (i := 8) (N := some 14) (v := ?_) (a' := ?_) #[true, false, false, true, false, false, false, false, true, false, false, false, false, false, false, false, false, false] rfl rfl (any_of HT_.out (by kernel_rfl)) (fun _ _ _ h => h) (Or.inl ⟨by rfl, ?_⟩) ?_ ?_
        rotate_left
        ·
         intro w'
         go_simp
         with_reducible rfl
        rotate_left
        ·
         exact sP
        refine pure_ (i := 13) (N := some 19) (v := ?_) (a' := ?_) #[true, false, false, true, false, false, false, false, true, false, false, false, false, true, false, false, false, false] rfl rfl (any_of HT_.out (by kernel_rfl)) (fun _ _ _ h => h) (Or.inl ⟨by rfl, ?_⟩) ?_ ?_
        rotate_left
        ·
         intro w'
         go_simp
         with_reducible rfl
        rotate_left
        ·
         exact sP
        refine take_ (i := 1) (N := some 7) (v := ?_) (a' := ?_) #[true, true, false, true, false, false, false, false, true, false, false, false, false, true, false, false, false, false] rfl rfl (take_ofW HT_.out HW_.out (by kernel_rfl)) (fun _ _ _ h => h) (Or.inl ⟨by rfl, ?_⟩) hHeld ?_ ?_
        rotate_left
        ·
         rintro w' ⟨s0, s1, s2, s3⟩
         go_simp
         with_reducible rfl
        rotate_left
        ·
         exact sP
        refine pure_ (i := 2) (N := some 8) (v := ?_) (a' := ?_) #[true, true, true, true, false, false, false, false, true, false, false, false, false, true, false, false, false, false] rfl rfl (any_of HT_.out (by kernel_rfl)) (fun _ _ _ h => h) (Or.inl ⟨by rfl, ?_⟩) ?_ ?_
        rotate_left
        ·
         intro w'
         go_simp
         with_reducible rfl
        rotate_left
        ·
         exact sP
        refine take_ (i := 4) (N := some 10) (v := ?_) (a' := ?_) #[true, true, true, true, true, false, false, false, true, false, false, false, false, true, false, false, false, false] rfl rfl (take_ofW HT_.out HW_.out (by kernel_rfl)) (fun _ _ _ h => h) (Or.inl ⟨by rfl, ?_⟩) hHeld ?_ ?_
        rotate_left
        ·
         rintro w' ⟨s0, s1, s2, s3⟩
         go_simp
         with_reducible rfl
        rotate_left
        ·
         exact sP
        refine take_ (i := 9) (N := some 15) (v := ?_) (a' := ?_) #[true, true, true, true, true, false, false, false, true, true, false, false, false, true, false, false, false, false] rfl rfl (take_ofW HT_.out HW_.out (by kernel_rfl)) (fun _ _ _ h => h) (Or.inl ⟨by rfl, ?_⟩) hHeld ?_ ?_
        rotate_left
        ·
         rintro w' ⟨s0, s1, s2, s3⟩
         go_simp
         with_reducible rfl
        rotate_left
        ·
         exact sP
        refine take_ (i := 14) (N := some 20) (v := ?_) (a' := ?_) #[true, true, true, true, true, false, false, false, true, true, false, false, false, true, true, false, false, false] rfl rfl (take_ofW HT_.out HW_.out (by kernel_rfl)) (fun _ _ _ h => h) (Or.inl ⟨by rfl, ?_⟩) hHeld ?_ ?_
        rotate_left
        ·
         rintro w' ⟨s0, s1, s2, s3⟩
         go_simp
         with_reducible rfl
        rotate_left
        ·
         exact sP
        refine one_ (i := 5) (N := some 11) #[true, true, true, true, true, true, false, false, true, true, false, false, false, true, true, false, false, false] rfl rfl (one_of HT_.out (by kernel_rfl)) (by decide) (fun K hK => ?_)
        refine goes_ Tryd.func20 (by kernel_rfl) rfl #[.int .i64 a0_1] (by rfl) rfl rfl sG ?_
        with_reducible refine (impl_Decimal.calls a0_1 t109 _ ?side1 A5.out).mono ?_
        (case side1 => exact Gnd.Tab.on hT (sW HB.out))
        rintro e w17 ⟨rfl, hb⟩
        refine ⟨_, rfl, ?_⟩
        have n0_ := aS (blk_below (g := gb107) (o := .cells #[.string a0_0, .int .i64 a0_1, .int .i64 a0_2, .int .i64 a0_3] 45 (0, 0)) (sB BK107.out) hb)
        have n1_ := aS (below_step (sW HB.out) hb)
        clear BK107 HB
        have BK107 := n0_; have HB := n1_
        clear n0_ n1_
        (try clear hb); (try clear hb2); (try clear hk); (try clear hi)
        refine hK.out _ _ ⟨(blk_cell BK107.out 0).trans rfl, (blk_cell BK107.out 1).trans rfl, (blk_cell BK107.out 2).trans rfl, (blk_cell BK107.out 3).trans rfl⟩ (fun hHeld => ?_)
        clear hK K
        refine norm_ (a' := ?_) ?_ ?_
        rotate_left
        ·
         show Act.put _ (some 11) _ = _
         exact sP
        refine pure_ (i := 6) (N := some 12) (v := ?_) (a' := ?_) #[true, true, true, true, true, true, true, false, true, true, false, false, false, true, true, false, false, false] rfl rfl (any_of HT_.out (by kernel_rfl)) (fun _ _ _ h => h) (Or.inl ⟨by rfl, ?_⟩) ?_ ?_
        rotate_left
        ·
         intro w'
         go_simp
         with_reducible rfl
        rotate_left
        ·
         exact sP
        refine pure_ (i := 7) (N := some 13) (v := ?_) (a' := ?_) #[true, true, true, true, true, true, true, true, true, true, false, false, false, true, true, false, false, false] rfl rfl (any_of HT_.out (by kernel_rfl)) (fun _ _ _ h => h) (Or.inl ⟨by rfl, ?_⟩) ?_ ?_
        rotate_left
        ·
         intro w'
         go_simp
         with_reducible rfl
        rotate_left
        ·
         exact sP
        refine one_ (i := 10) (N := some 16) #[true, true, true, true, true, true, true, true, true, true, true, false, false, true, true, false, false, false] rfl rfl (one_of HT_.out (by kernel_rfl)) (by decide) (fun K hK => ?_)
        refine goes_ Tryd.func20 (by kernel_rfl) rfl #[.int .i64 a0_2] (by rfl) rfl rfl sG ?_
        with_reducible refine (impl_Decimal.calls a0_2 t110 _ ?side1 A8.out).mono ?_
        (case side1 => exact Gnd.Tab.on hT (sW HB.out))
        rintro e w18 ⟨rfl, hb⟩
        refine ⟨_, rfl, ?_⟩
        have n0_ := aS (blk_below (g := gb107) (o := .cells #[.string a0_0, .int .i64 a0_1, .int .i64 a0_2, .int .i64 a0_3] 45 (0, 0)) (sB BK107.out) hb)
        have n1_ := aS (below_step (sW HB.out) hb)
        clear BK107 HB
        have BK107 := n0_; have HB := n1_
        clear n0_ n1_
        (try clear hb); (try clear hb2); (try clear hk); (try clear hi)
        refine hK.out _ _ ⟨(blk_cell BK107.out 0).trans rfl, (blk_cell BK107.out 1).trans rfl, (blk_cell BK107.out 2).trans rfl, (blk_cell BK107.out 3).trans rfl⟩ (fun hHeld => ?_)
        clear hK K
        refine norm_ (a' := ?_) ?_ ?_
        rotate_left
        ·
         show Act.put _ (some 16) _ = _
         exact sP
        refine pure_ (i := 11) (N := some 17) (v := ?_) (a' := ?_) #[true, true, true, true, true, true, true, true, true, true, true, true, false, true, true, false, false, false] rfl rfl (any_of HT_.out (by kernel_rfl)) (fun _ _ _ h => h) (Or.inl ⟨by rfl, ?_⟩) ?_ ?_
        rotate_left
        ·
         intro w'
         go_simp
         with_reducible rfl
        rotate_left
        ·
         exact sP
        refine pure_ (i := 12) (N := some 18) (v := ?_) (a' := ?_) #[true, true, true, true, true, true, true, true, true, true, true, true, true, true, true, false, false, false] rfl rfl (any_of HT_.out (by kernel_rfl)) (fun _ _ _ h => h) (Or.inl ⟨by rfl, ?_⟩) ?_ ?_
        rotate_left
        ·
         intro w'
         go_simp
         with_reducible rfl
        rotate_left
        ·
         exact sP
        refine one_ (i := 15) (N := some 21) #[true, true, true, true, true, true, true, true, true, true, true, true, true, true, true, true, false, false] rfl rfl (one_of HT_.out (by kernel_rfl)) (by decide) (fun K hK => ?_)
        refine goes_ Tryd.func20 (by kernel_rfl) rfl #[.int .i64 a0_3] (by rfl) rfl rfl sG ?_
        with_reducible refine (impl_Decimal.calls a0_3 t111 _ ?side1 A11.out).mono ?_
        (case side1 => exact Gnd.Tab.on hT (sW HB.out))
        rintro e w19 ⟨rfl, hb⟩
        refine ⟨_, rfl, ?_⟩
        have n0_ := aS (blk_below (g := gb107) (o := .cells #[.string a0_0, .int .i64 a0_1, .int .i64 a0_2, .int .i64 a0_3] 45 (0, 0)) (sB BK107.out) hb)
        have n1_ := aS (below_step (sW HB.out) hb)
        clear BK107 HB
        have BK107 := n0_; have HB := n1_
        clear n0_ n1_
        (try clear hb); (try clear hb2); (try clear hk); (try clear hi)
        refine hK.out _ _ ⟨(blk_cell BK107.out 0).trans rfl, (blk_cell BK107.out 1).trans rfl, (blk_cell BK107.out 2).trans rfl, (blk_cell BK107.out 3).trans rfl⟩ (fun hHeld => ?_)
        clear hK K
        refine norm_ (a' := ?_) ?_ ?_
        rotate_left
        ·
         show Act.put _ (some 21) _ = _
         exact sP
        refine pure_ (i := 16) (N := some 22) (v := ?_) (a' := ?_) #[true, true, true, true, true, true, true, true, true, true, true, true, true, true, true, true, true, false] rfl rfl (any_of HT_.out (by kernel_rfl)) (fun _ _ _ h => h) (Or.inl ⟨by rfl, ?_⟩) ?_ ?_
        rotate_left
        ·
         intro w'
         go_simp
         with_reducible rfl
        rotate_left
        ·
         exact sP
        refine pure_ (i := 17) (N := some 2) (v := ?_) (a' := ?_) #[true, true, true, true, true, true, true, true, true, true, true, true, true, true, true, true, true, true] rfl rfl (any_of HT_.out (by kernel_rfl)) (fun _ _ _ h => h) (Or.inl ⟨by rfl, ?_⟩) ?_ ?_
        rotate_left
        ·
         intro w'
         go_simp
         with_reducible rfl
        rotate_left
        ·
         exact sP
        refine done_ (done_of HT_.out (by kernel_rfl)) ?_
        try go_wp2
        go_ret
        exact ⟨by first | rfl | (simp [errW_none, errW_some, i64_w]; done) | (simp [errW_none, errW_some] <;> rfl) | (simp [*, errW_none, errW_some] <;> rfl), by repeat (first | (with_reducible first | exact HB.out | apply below_alloc | apply pw_below_drewN | apply below_drew1) | exact HB.out)⟩
       ·
        rw [if_neg c12] at H
        exact absurd H (by simp)
      ·
       rw [if_neg c10] at H
       exact absurd H (by simp)
     ·
      rw [if_neg c9] at H
      exact absurd H (by simp)
    ·
     rw [if_neg c7] at H
     exact absurd H (by simp)
   ·
    rw [if_neg c6] at H
    exact absurd H (by simp)
  ·
   rw [if_neg c4] at H
   exact absurd H (by simp)
 ·
  replace c3 := Bool.eq_false_iff.mpr c3
  subst c3
  have H1 : (some (⟨#[]⟩ : ByteArray)) = some r := by rw [if_neg (show ¬ (false = true) by decide)] at H; exact H
  clear H
  have H := H1
  clear H1
  obtain rfl := Option.some.inj H
  go_enter Tryd.func31, Tryd.ntmps31
  go_wp2_with (first | ((with_reducible refine gate_dst (N := 1) rfl ?_); refine box_event ?hg (N := 1) ?hd (cs := #[.string a0_0, .int .i64 a0_1, .int .i64 a0_2, .int .i64 a0_3]) (t := 45) ?hr ?_; (case hd => rfl); (case hg => rfl); (case hr => first | (go_simp; done) | (go_simp; rfl)); intro gb107 hg w20 hbox hb; have n0_ := aS (below_step (sW HB.out) hb); have n1_ := aS (hbox); have n2_ := aS ((by rw [hg]; exact (below_size (sW HB.out)) : w.heap.size ≤ gb107)); have n3_ := aS ((by rw [hg]; exact (below_size (sW HB.out)) : w.heap.size ≤ gb107)); clear HB; have HB := n0_; have BK107 := n1_; have GW107 := n2_; have GE107 := n3_; clear n0_ n1_ n2_ n3_; clear hb hbox hg; have hcz21_0 : w20.cell? ⟨gb107, 0, none⟩ = some (.string a0_0) := (blk_cell BK107.out 0).trans rfl; have hcz21_1 : w20.cell? ⟨gb107, 1, none⟩ = some (.int .i64 a0_1) := (blk_cell BK107.out 1).trans rfl; have hcz21_2 : w20.cell? ⟨gb107, 2, none⟩ = some (.int .i64 a0_2) := (blk_cell BK107.out 2).trans rfl; have hcz21_3 : w20.cell? ⟨gb107, 3, none⟩ = some (.int .i64 a0_3) := (blk_cell BK107.out 3).trans rfl; have hfz21_0 := blk_frozen BK107.out 0; have hfz21_1 := blk_frozen BK107.out 1; have hfz21_2 := blk_frozen BK107.out 2; have hfz21_3 := blk_frozen BK107.out 3) | ((with_reducible refine gate_callee (f := 66) rfl ?_); refine goesL_ (some 4) rfl rfl Tryd.func66 (by kernel_rfl) rfl #[.agg #[.string a0_0, .int .i64 a0_1, .int .i64 a0_2, .int .i64 a0_3]] rfl sG ?_; (with_reducible refine (impl_validRope.calls k a0_0 a0_1 a0_2 a0_3 false _ A2.out).mono ?_); rintro e w22 ⟨rfl, hb⟩; refine ⟨_, rfl, ?_⟩; have n0_ := aS (blk_below (g := gb107) (o := .cells #[.string a0_0, .int .i64 a0_1, .int .i64 a0_2, .int .i64 a0_3] 45 (0, 0)) (sB BK107.out) hb); have n1_ := aS (below_step (sW HB.out) hb); clear BK107 HB; have BK107 := n0_; have HB := n1_; clear n0_ n1_; (try clear hb); (try clear hb2); (try clear hk); (try clear hi)))
  go_ret
  exact ⟨by first | rfl | (simp [errW_none, errW_some, i64_w]; done) | (simp [errW_none, errW_some] <;> rfl) | (simp [*, errW_none, errW_some] <;> rfl), by repeat (first | (with_reducible first | exact HB.out | apply below_alloc | apply pw_below_drewN | apply below_drew1) | exact HB.out)⟩

/-! ### strings_Split: function 58 -/
def strings_Split.f (a0 a1 : ByteArray) : Option (List ByteArray) := if a0.size < 4294967281 ∧ 1 ≤ a1.size then (some (Lib.splitB a1 0 (Lib.countB a0 a1) a0)) else (none)
theorem strings_Split.calls (a0 a1 : ByteArray) (r : List ByteArray) (w : World) (hM : Gnd.Max w) (h : strings_Split.f a0 a1 = some r) :
    Calls Tryd.prog 58 #[.string a0, .string a1] w fun e w' => ∃ v0_ : Value, e = .returned (v0_) ∧ Kd.R Kd.string 9 w' w.heap.size (fun _ => True) v0_ r ∧ Below w.heap.size w w' := by
  unfold strings_Split.f at h
  split at h
  · rename_i hc
    obtain rfl := Option.some.inj h
    exact Gnd.split a0 a1 w hM hc.1 hc.2
  · cases h

/-! ### strings_TrimPrefix: function 62 -/
def strings_TrimPrefix.f (a0 a1 : ByteArray) : Option (ByteArray) := some ⟨(Lib.trimPrefix a0.data.toList a1.data.toList).toArray⟩
theorem strings_TrimPrefix.calls (a0 a1 r : ByteArray) (w : World) (h : strings_TrimPrefix.f a0 a1 = some r) :
    Calls Tryd.prog 62 #[.string a0, .string a1] w fun e w' => e = .returned (.string r) ∧ Drawn0 w w' := by
  obtain rfl := Option.some.inj h
  exact (Gnd.trimPrefix a0 a1 w).mono fun e w' ⟨he, hw⟩ => ⟨he, hw ▸ Drawn0.refl _⟩

/-! ### impl_ReadDecimal: function 22 -/
mutual
def impl_ReadDecimal.j0 : Nat → ByteArray → ByteArray → Bool → Option (Int × Bool)
 | 0, _, _, _ => none
 | k + 1, x0, x4, x16 => if x16 = true then (some (0, false)) else (impl_ReadDecimal.l0 k x0 x4 0 0)
def impl_ReadDecimal.l0 : Nat → ByteArray → ByteArray → Int → Int → Option (Int × Bool)
 | 0, _, _, _, _ => none
 | k + 1, x0, x4, x5, x6 => if x6 < (x4.size : Int) then (if 0 ≤ x6 then (if (bt x4 x6) < 48 then (some (0, false)) else (if (bt x4 x6) > 57 then (some (0, false)) else (impl_ReadDecimal.l0 k x0 x4 (wrap64 ((wrap64 (10 * x5)) + (((bt x4 x6) - 48) % 256))) (wrap64 (x6 + 1))))) else (none)) else (if (x4.size : Int) < (x0.size : Int) then ((impl_Decimal.f (wrap64 (-x5))).bind fun t113 => (if t113.toList = x0.toList then (some (wrap64 (-x5), true)) else (some (0, false)))) else ((impl_Decimal.f x5).bind fun t114 => (if t114.toList = x0.toList then (some (x5, true)) else (some (0, false)))))
end
def impl_ReadDecimal.f (k : Nat) (a0 : ByteArray) : Option (Int × Bool) := (strings_TrimPrefix.f a0 (⟨#[45]⟩ : ByteArray)).bind fun t112 => (if (t112.size : Int) < 1 then (impl_ReadDecimal.j0 k a0 t112 true) else (impl_ReadDecimal.j0 k a0 t112 (decide ((t112.size : Int) > 18))))
theorem impl_ReadDecimal.mono_l : ∀ k, (∀ y0 y1 y2, LeO (impl_ReadDecimal.j0 k y0 y1 y2) (impl_ReadDecimal.j0 (k + 1) y0 y1 y2)) ∧ (∀ y0 y1 y2 y3, LeO (impl_ReadDecimal.l0 k y0 y1 y2 y3) (impl_ReadDecimal.l0 (k + 1) y0 y1 y2 y3))
 | 0 => ⟨fun _ _ _ r h => by simp [impl_ReadDecimal.j0] at h, fun _ _ _ _ r h => by simp [impl_ReadDecimal.l0] at h⟩
 | k + 1 => by
  obtain ⟨ih0, ih1⟩ := impl_ReadDecimal.mono_l k
  refine ⟨?_, ?_⟩
  ·
   intro y0 y1 y2
   unfold impl_ReadDecimal.j0
   repeat' first
   | (with_reducible exact ih0 _ _ _)
   | (with_reducible exact ih1 _ _ _ _)
   | (with_reducible exact LeO.refl _)
   | (with_reducible exact LeO.none _)
   | (with_reducible refine LeO.ite ?_ ?_)
   | (with_reducible refine LeO.bind ?_ (fun _ => ?_))
   | exact ih0 _ _ _
   | exact ih1 _ _ _ _
   | exact LeO.none _
   | refine LeO.ite ?_ ?_
   | refine LeO.bind ?_ (fun _ => ?_)
  ·
   intro y0 y1 y2 y3
   unfold impl_ReadDecimal.l0
   repeat' first
   | (with_reducible exact ih0 _ _ _)
   | (with_reducible exact ih1 _ _ _ _)
   | (with_reducible exact LeO.refl _)
   | (with_reducible exact LeO.none _)
   | (with_reducible refine LeO.ite ?_ ?_)
   | (with_reducible refine LeO.bind ?_ (fun _ => ?_))
   | exact ih0 _ _ _
   | exact ih1 _ _ _ _
   | exact LeO.none _
   | refine LeO.ite ?_ ?_
   | refine LeO.bind ?_ (fun _ => ?_)
theorem impl_ReadDecimal.mono : ∀ a0 k, LeO (impl_ReadDecimal.f k a0) (impl_ReadDecimal.f (k + 1) a0) := by
 intro a0 k
 obtain ⟨ih0, ih1⟩ := impl_ReadDecimal.mono_l k
 unfold impl_ReadDecimal.f
 repeat' first
   | (with_reducible exact ih0 _ _ _)
   | (with_reducible exact ih1 _ _ _ _)
   | (with_reducible exact LeO.refl _)
   | (with_reducible exact LeO.none _)
   | (with_reducible refine LeO.ite ?_ ?_)
   | (with_reducible refine LeO.bind ?_ (fun _ => ?_))
   | exact ih0 _ _ _
   | exact ih1 _ _ _ _
   | exact LeO.none _
   | refine LeO.ite ?_ ?_
   | refine LeO.bind ?_ (fun _ => ?_)
set_option maxHeartbeats 8000000 in
set_option maxRecDepth 100000 in
theorem impl_ReadDecimal.calls (k : Nat) (a0 : ByteArray) (r1 : Int) (r2 : Bool) (w : World) (hT : Gnd.Tab w) (h : impl_ReadDecimal.f k a0 = some (r1, r2)) :
  Calls Tryd.prog 22 #[.string a0] w fun e w' => e = .returned (.tuple #[.int .i64 r1, .bool r2]) ∧ Below w.heap.size w w' := by
 have HB := aS (Below.refl w.heap.size w)
 have H : ((strings_TrimPrefix.f a0 (⟨#[45]⟩ : ByteArray)).bind fun t112 => (if (t112.size : Int) < 1 then (impl_ReadDecimal.j0 k a0 t112 true) else (impl_ReadDecimal.j0 k a0 t112 (decide ((t112.size : Int) > 18))))) = some (r1, r2) := h
 clear h
 replace H := Option.bind_eq_some_iff.mp H
 obtain ⟨t112, A20, H⟩ := H
 replace H : (if (t112.size : Int) < 1 then (impl_ReadDecimal.j0 k a0 t112 true) else (impl_ReadDecimal.j0 k a0 t112 (decide ((t112.size : Int) > 18)))) = some (r1, r2) := H
 have A2 := aS A20
 clear A20
 have HC3 := aS H
 clear H
 go_enter Tryd.func22, Tryd.ntmps22
 go_upto_region 2 with (first | ((with_reducible refine gate_callee (f := 62) rfl ?_); refine goesL_ (some 8) rfl rfl Tryd.func62 (by kernel_rfl) rfl #[.string a0, .string (⟨#[45]⟩ : ByteArray)] rfl sG ?_; (with_reducible refine (strings_TrimPrefix.calls a0 (⟨#[45]⟩ : ByteArray) t112 _ A2.out).mono ?_); rintro e w' ⟨rfl, ⟨nd, rfl⟩⟩; refine ⟨_, rfl, ?_⟩))
 (try simp only [Act.put, List.setIfInBounds_toArray, List.set_cons_zero, List.set_cons_succ])
 go_cut [16] (fun v16 wc => ∃ (kq : Nat) (x16_2 : Bool), v16 = .bool x16_2 ∧ Aside0 (impl_ReadDecimal.j0 kq a0 t112 x16_2 = some (r1, r2)) ∧ Aside0 (kq ≤ k) ∧ Aside0 (Below w.heap.size w wc))
 case first =>
  have H := HC3.out
  clear HC3
  by_cases c4 : (t112.size : Int) < 1
  ·
   rw [if_pos c4] at H
   have c4b0 : decide ((t112.size : Int) < 1) = true := decide_eq_true c4
   have c4b1 : decide (t112.size < 1) = true := decide_eq_true (by omega)
   clear c4
   (first | rw [c4b0] | (simp only [i64_w, i32_w]; rw [c4b0]) | (rw [c4b2]; simp only [Bool.not_false, Bool.not_true]) | skip)
   have H' := aS H
   clear H
   go_wp2
   go_meet
   case rel => exact ⟨_, (true), (by first | rfl | (simp; done) | (simp [*]; done) | (simp only [i64_w]; done) | (simp [i64_w]; done)), H', ⟨by first | omega | exact Nat.le_refl _⟩, ⟨by repeat (first | (with_reducible first | exact HB.out | apply below_alloc | apply pw_below_drewN | apply below_drew1) | exact HB.out)⟩⟩
  ·
   rw [if_neg c4] at H
   have c4b0 : decide ((t112.size : Int) < 1) = false := decide_eq_false c4
   have c4b1 : decide (t112.size < 1) = false := decide_eq_false (by omega)
   clear c4
   (first | rw [c4b0] | (simp only [i64_w, i32_w]; rw [c4b0]) | (rw [c4b2]; simp only [Bool.not_false, Bool.not_true]) | skip)
   have H' := aS H
   clear H
   go_wp2
   go_meet
   case rel => exact ⟨_, (decide ((t112.size : Int) > 18)), (by first | rfl | (simp; done) | (simp [*]; done) | (simp only [i64_w]; done) | (simp [i64_w]; done)), H', ⟨by first | omega | exact Nat.le_refl _⟩, ⟨by repeat (first | (with_reducible first | exact HB.out | apply below_alloc | apply pw_below_drewN | apply below_drew1) | exact HB.out)⟩⟩
 case rest =>
  clear HC3
  (try clear c2); (try clear p2); (try clear c4); (try clear c4b0); (try clear c4b1); (try clear c4b2)
  obtain ⟨kq, x16_2, rfl, HA, HJ2, HB⟩ := hcut
  cases kq with
  | zero => exact absurd HA.out (by simp [impl_ReadDecimal.j0])
  | succ kj2 =>
   have H := HA.out
   clear HA
   simp only [impl_ReadDecimal.j0] at H
   by_cases c5 : x16_2 = true
   ·
    subst c5
    have H1 : (some (0, false)) = some (r1, r2) := by rw [if_pos rfl] at H; exact H
    clear H
    have H := H1
    clear H1
    simp only [Option.some.injEq, Prod.mk.injEq] at H
    obtain ⟨rfl, rfl⟩ := H
    go_wp2
    go_ret2
    exact ⟨by first | rfl | (simp [errW_none, errW_some, i64_w]; done) | (simp [errW_none, errW_some] <;> rfl) | (simp [*, errW_none, errW_some] <;> rfl), by repeat (first | (with_reducible first | exact HB.out | apply below_alloc | apply pw_below_drewN | apply below_drew1) | exact HB.out)⟩
   ·
    replace c5 := Bool.eq_false_iff.mpr c5
    subst c5
    have H1 : (impl_ReadDecimal.l0 kj2 a0 t112 0 0) = some (r1, r2) := by rw [if_neg (show ¬ (false = true) by decide)] at H; exact H
    clear H
    have H := H1
    clear H1
    have H' := aS H
    clear H
    go_wp2
    go_loopg [5, 6] kj2 (fun kq v5 v6 w' => ∃ (x5_2 : Int) (x6_2 : Int), v5 = .int .i64 x5_2 ∧ v6 = .int .i64 x6_2 ∧ Aside0 (impl_ReadDecimal.l0 kq a0 t112 x5_2 x6_2 = some (r1, r2)) ∧ Aside0 (kq ≤ kj2) ∧ Aside0 (Below w.heap.size w w'))
    case atStart => exact ⟨(0), (0), (by first | rfl | (simp; done) | (simp [*]; done) | (simp only [i64_w]; done) | (simp [i64_w]; done)), (by first | rfl | (simp; done) | (simp [*]; done) | (simp only [i64_w]; done) | (simp [i64_w]; done)), H', ⟨Nat.le_refl _⟩, ⟨by repeat (first | (with_reducible first | exact HB.out | apply below_alloc | apply pw_below_drewN | apply below_drew1) | exact HB.out)⟩⟩
    case round =>
     clear H'
     (try clear c2); (try clear p2); (try clear c4); (try clear c4b0); (try clear c4b1); (try clear c4b2); (try clear c5); (try clear p2)
     obtain ⟨x5_2, x6_2, rfl, rfl, HA, HK2, HB⟩ := hrel
     cases gk with
     | zero => exact absurd HA.out (by simp [impl_ReadDecimal.l0])
     | succ k2 =>
      have H := HA.out
      clear HA
      simp only [impl_ReadDecimal.l0] at H
      by_cases c6 : x6_2 < (t112.size : Int)
      ·
       rw [if_pos c6] at H
       have c6b0 : decide (x6_2 < (t112.size : Int)) = true := decide_eq_true c6
       clear c6
       by_cases c7 : 0 ≤ x6_2
       ·
        rw [if_pos c7] at H
        have c7b0 : decide (0 ≤ x6_2) = true := decide_eq_true c7
        clear c7
        by_cases c9 : (bt t112 x6_2) < 48
        ·
         rw [if_pos c9] at H
         have c9b0 : decide ((bt t112 x6_2) < 48) = true := decide_eq_true c9
         clear c9
         simp only [Option.some.injEq, Prod.mk.injEq] at H
         obtain ⟨rfl, rfl⟩ := H
         have p8 : 0 ≤ (x6_2 : Int) := of_decide_eq_true (by first | (with_reducible assumption) | assumption)
         have q8 : x6_2 < (t112.size : Int) := of_decide_eq_true (by first | (with_reducible assumption) | assumption)
         have hx8 := bt_at t112 x6_2
         replace p8 := eq_true p8
         replace q8 := eq_true q8
         go_wp2
         go_ret2
         exact ⟨by first | rfl | (simp [errW_none, errW_some, i64_w]; done) | (simp [errW_none, errW_some] <;> rfl) | (simp [*, errW_none, errW_some] <;> rfl), by repeat (first | (with_reducible first | exact HB.out | apply below_alloc | apply pw_below_drewN | apply below_drew1) | exact HB.out)⟩
        ·
         rw [if_neg c9] at H
         have c9b0 : decide ((bt t112 x6_2) < 48) = false := decide_eq_false c9
         clear c9
         by_cases c11 : (bt t112 x6_2) > 57
         ·
          rw [if_pos c11] at H
          have c11b0 : decide (57 < (bt t112 x6_2)) = true := decide_eq_true c11
          clear c11
          simp only [Option.some.injEq, Prod.mk.injEq] at H
          obtain ⟨rfl, rfl⟩ := H
          have p8 : 0 ≤ (x6_2 : Int) := of_decide_eq_true (by first | (with_reducible assumption) | assumption)
          have q8 : x6_2 < (t112.size : Int) := of_decide_eq_true (by first | (with_reducible assumption) | assumption)
          have hx8 := bt_at t112 x6_2
          replace p8 := eq_true p8
          replace q8 := eq_true q8
          have p10 : 0 ≤ (x6_2 : Int) := of_decide_eq_true (by first | (with_reducible assumption) | assumption)
          have q10 : x6_2 < (t112.size : Int) := of_decide_eq_true (by first | (with_reducible assumption) | assumption)
          have hx10 := bt_at t112 x6_2
          replace p10 := eq_true p10
          replace q10 := eq_true q10
          go_wp2
          go_ret2
          exact ⟨by first | rfl | (simp [errW_none, errW_some, i64_w]; done) | (simp [errW_none, errW_some] <;> rfl) | (simp [*, errW_none, errW_some] <;> rfl), by repeat (first | (with_reducible first | exact HB.out | apply below_alloc | apply pw_below_drewN | apply below_drew1) | exact HB.out)⟩
         ·
          rw [if_neg c11] at H
          have c11b0 : decide (57 < (bt t112 x6_2)) = false := decide_eq_false c11
          clear c11
          have H' := aS H
          clear H
          have p8 : 0 ≤ (x6_2 : Int) := of_decide_eq_true (by first | (with_reducible assumption) | assumption)
          have q8 : x6_2 < (t112.size : Int) := of_decide_eq_true (by first | (with_reducible assumption) | assumption)
          have hx8 := bt_at t112 x6_2
          replace p8 := eq_true p8
          replace q8 := eq_true q8
          have p10 : 0 ≤ (x6_2 : Int) := of_decide_eq_true (by first | (with_reducible assumption) | assumption)
          have q10 : x6_2 < (t112.size : Int) := of_decide_eq_true (by first | (with_reducible assumption) | assumption)
          have hx10 := bt_at t112 x6_2
          replace p10 := eq_true p10
          replace q10 := eq_true q10
          have p12 : 0 ≤ (x6_2 : Int) := of_decide_eq_true (by first | (with_reducible assumption) | assumption)
          have q12 : x6_2 < (t112.size : Int) := of_decide_eq_true (by first | (with_reducible assumption) | assumption)
          have hx12 := bt_at t112 x6_2
          replace p12 := eq_true p12
          replace q12 := eq_true q12
          go_wp2
          go_roundg k2
          case measure => have := HJ2.out; have := HK2.out; omega
          case rel => exact ⟨(wrap64 ((wrap64 (10 * x5_2)) + (((bt t112 x6_2) - 48) % 256))), (wrap64 (x6_2 + 1)), (by first | rfl | (simp; done) | (simp [*]; done) | (simp only [i64_w]; done) | (simp [i64_w]; done)), (by first | rfl | (simp; done) | (simp [*]; done) | (simp only [i64_w]; done) | (simp [i64_w]; done)), H', ⟨by have := HJ2.out; have := HK2.out; omega⟩, ⟨by repeat (first | (with_reducible first | exact HB.out | apply below_alloc | apply pw_below_drewN | apply below_drew1) | exact HB.out)⟩⟩
       ·
        rw [if_neg c7] at H
        exact absurd H (by simp)
      ·
       rw [if_neg c6] at H
       have c6b0 : decide (x6_2 < (t112.size : Int)) = false := decide_eq_false c6
       clear c6
       by_cases c13 : (t112.size : Int) < (a0.size : Int)
       ·
        rw [if_pos c13] at H
        have c13b0 : decide ((t112.size : Int) < (a0.size : Int)) = true := decide_eq_true c13
        have c13b1 : decide (t112.size < a0.size) = true := decide_eq_true (Int.ofNat_lt.mp c13)
        clear c13
        replace H := Option.bind_eq_some_iff.mp H
        obtain ⟨t113, A140, H⟩ := H
        replace H : (if t113.toList = a0.toList then (some (wrap64 (-x5_2), true)) else (some (0, false))) = some (r1, r2) := H
        have A14 := aS A140
        clear A140
        by_cases c15 : t113.toList = a0.toList
        ·
         rw [if_pos c15] at H
         have c15b0 : (t113.toList == a0.toList) = true := beq_iff_eq.mpr c15
         have c15b1 : (t113.toList != a0.toList) = false := bne_eq_false_iff_eq.mpr c15
         clear c15
         simp only [Option.some.injEq, Prod.mk.injEq] at H
         obtain ⟨rfl, rfl⟩ := H
         go_wp2_with (first | ((with_reducible refine gate_callee (f := 20) rfl ?_); refine goesL_ (some 49) rfl rfl Tryd.func20 (by kernel_rfl) rfl #[.int .i64 (wrap64 (-x5_2))] rfl sG ?_; (with_reducible refine (impl_Decimal.calls (wrap64 (-x5_2)) t113 _ ?side1 A14.out).mono ?_); (case side1 => exact Gnd.Tab.on hT (sW HB.out)); rintro e w16 ⟨rfl, hb⟩; refine ⟨_, rfl, ?_⟩; have n0_ := aS (below_step (sW HB.out) hb); clear HB; have HB := n0_; clear n0_; (try clear hb); (try clear hb2); (try clear hk); (try clear hi)))
         go_ret2
         exact ⟨by first | rfl | (simp [errW_none, errW_some, i64_w]; done) | (simp [errW_none, errW_some] <;> rfl) | (simp [*, errW_none, errW_some] <;> rfl), by repeat (first | (with_reducible first | exact HB.out | apply below_alloc | apply pw_below_drewN | apply below_drew1) | exact HB.out)⟩
        ·
         rw [if_neg c15] at H
         have c15b0 : (t113.toList == a0.toList) = false := beq_eq_false_iff_ne.mpr c15
         have c15b1 : (t113.toList != a0.toList) = true := bne_iff_ne.mpr c15
         simp only [Option.some.injEq, Prod.mk.injEq] at H
         obtain ⟨rfl, rfl⟩ := H
         go_wp2_with (first | ((with_reducible refine gate_callee (f := 20) rfl ?_); refine goesL_ (some 49) rfl rfl Tryd.func20 (by kernel_rfl) rfl #[.int .i64 (wrap64 (-x5_2))] rfl sG ?_; (with_reducible refine (impl_Decimal.calls (wrap64 (-x5_2)) t113 _ ?side1 A14.out).mono ?_); (case side1 => exact Gnd.Tab.on hT (sW HB.out)); rintro e w17 ⟨rfl, hb⟩; refine ⟨_, rfl, ?_⟩; have n0_ := aS (below_step (sW HB.out) hb); clear HB; have HB := n0_; clear n0_; (try clear hb); (try clear hb2); (try clear hk); (try clear hi)))
         go_ret2
         exact ⟨by first | rfl | (simp [errW_none, errW_some, i64_w]; done) | (simp [errW_none, errW_some] <;> rfl) | (simp [*, errW_none, errW_some] <;> rfl), by repeat (first | (with_reducible first | exact HB.out | apply below_alloc | apply pw_below_drewN | apply below_drew1) | exact HB.out)⟩
       ·
        rw [if_neg c13] at H
        have c13b0 : decide ((t112.size : Int) < (a0.size : Int)) = false := decide_eq_false c13
        have c13b1 : decide (t112.size < a0.size) = false := decide_eq_false (fun h => c13 (Int.ofNat_lt.mpr h))
        clear c13
        replace H := Option.bind_eq_some_iff.mp H
        obtain ⟨t114, A180, H⟩ := H
        replace H : (if t114.toList = a0.toList then (some (x5_2, true)) else (some (0, false))) = some (r1, r2) := H
        have A18 := aS A180
        clear A180
        by_cases c19 : t114.toList = a0.toList
        ·
         rw [if_pos c19] at H
         have c19b0 : (t114.toList == a0.toList) = true := beq_iff_eq.mpr c19
         have c19b1 : (t114.toList != a0.toList) = false := bne_eq_false_iff_eq.mpr c19
         clear c19
         simp only [Option.some.injEq, Prod.mk.injEq] at H
         obtain ⟨rfl, rfl⟩ := H
         go_wp2_with (first | ((with_reducible refine gate_callee (f := 20) rfl ?_); refine goesL_ (some 49) rfl rfl Tryd.func20 (by kernel_rfl) rfl #[.int .i64 x5_2] rfl sG ?_; (with_reducible refine (impl_Decimal.calls x5_2 t114 _ ?side1 A18.out).mono ?_); (case side1 => exact Gnd.Tab.on hT (sW HB.out)); rintro e w20 ⟨rfl, hb⟩; refine ⟨_, rfl, ?_⟩; have n0_ := aS (below_step (sW HB.out) hb); clear HB; have HB := n0_; clear n0_; (try clear hb); (try clear hb2); (try clear hk); (try clear hi)))
         go_ret2
         exact ⟨by first | rfl | (simp [errW_none, errW_some, i64_w]; done) | (simp [errW_none, errW_some] <;> rfl) | (simp [*, errW_none, errW_some] <;> rfl), by repeat (first | (with_reducible first | exact HB.out | apply below_alloc | apply pw_below_drewN | apply below_drew1) | exact HB.out)⟩
        ·
         rw [if_neg c19] at H
         have c19b0 : (t114.toList == a0.toList) = false := beq_eq_false_iff_ne.mpr c19
         have c19b1 : (t114.toList != a0.toList) = true := bne_iff_ne.mpr c19
         simp only [Option.some.injEq, Prod.mk.injEq] at H
         obtain ⟨rfl, rfl⟩ := H
         go_wp2_with (first | ((with_reducible refine gate_callee (f := 20) rfl ?_); refine goesL_ (some 49) rfl rfl Tryd.func20 (by kernel_rfl) rfl #[.int .i64 x5_2] rfl sG ?_; (with_reducible refine (impl_Decimal.calls x5_2 t114 _ ?side1 A18.out).mono ?_); (case side1 => exact Gnd.Tab.on hT (sW HB.out)); rintro e w21 ⟨rfl, hb⟩; refine ⟨_, rfl, ?_⟩; have n0_ := aS (below_step (sW HB.out) hb); clear HB; have HB := n0_; clear n0_; (try clear hb); (try clear hb2); (try clear hk); (try clear hi)))
         go_ret2
         exact ⟨by first | rfl | (simp [errW_none, errW_some, i64_w]; done) | (simp [errW_none, errW_some] <;> rfl) | (simp [*, errW_none, errW_some] <;> rfl), by repeat (first | (with_reducible first | exact HB.out | apply below_alloc | apply pw_below_drewN | apply below_drew1) | exact HB.out)⟩

end Go.Proofs.YtginmioklkcgbaaDoor.QFnRopeLines

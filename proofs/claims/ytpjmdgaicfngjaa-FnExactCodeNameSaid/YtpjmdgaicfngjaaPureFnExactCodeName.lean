/- The pure statement of FnExactCodeName: numbers and lists alone. No condition. -/
import Derived.Test.YtpjmdgaicfngjaaQFnExactCodeNamex1
import Derived.Test.YtpjmdgaicfngjaaAid
namespace Go.Proofs.Ytpjmdgaicfngjaa.Pure
open Go.RowKit Go.Proofs.Ytpjmdgaicfngjaa.QFnExactCodeName Go.Proofs.YtpjmdgaicfngjaaW.PrintWords Go.Proofs.YtpjmdgaicfngjaaW.PrintLast Go.Proofs.YtpjmdgaicfngjaaW.PrintMore Go.Proofs.Ytpjmdgaicfngjaa.Aid
set_option linter.unusedVariables false
set_option linter.unusedSimpArgs false

theorem spec_l00In_eq (a b c : Int) : spec_l00In.f a b c = some (decide (b ≤ a ∧ a ≤ c)) := by
  unfold spec_l00In.f
  by_cases h : a ≥ b
  · rw [if_pos h]; congr 1; simp; omega
  · rw [if_neg h]; congr 1; simp; omega

theorem FnExactCodeName : laws_FnExactCodeName.Pure := by
  intro a0 hw
  simp only [laws_FnExactCodeName.f, spec_CodeName.f, impl_CodeName.f, spec_l00In_eq, Option.bind_some, List.length_cons, List.length_nil]
  by_cases h0 : a0 < 0
  · have h1 : ¬ (0 ≤ a0) := by omega
    simp [h0, h1]
  · by_cases h2 : a0 ≥ 11
    · have e : wrap64 (((0 + 1 + 1 + 1 + 1 + 1 + 1 + 1 + 1 + 1 + 1 + 1 : Nat) : Int) - 1) = 10 := by decide +kernel
      have h3 : ¬ (0 ≤ a0 ∧ a0 ≤ 10) := by omega
      have h4 : a0 ≥ ((0 + 1 + 1 + 1 + 1 + 1 + 1 + 1 + 1 + 1 + 1 + 1 : Nat) : Int) := by omega
      simp only [e, h3, h4, h0, decide_false, Bool.false_eq_true, if_false, if_true, Option.bind_some]
    · have e : wrap64 (((0 + 1 + 1 + 1 + 1 + 1 + 1 + 1 + 1 + 1 + 1 + 1 : Nat) : Int) - 1) = 10 := by decide +kernel
      have h3 : (0 ≤ a0 ∧ a0 ≤ 10) := by omega
      have h4 : ¬ a0 ≥ ((0 + 1 + 1 + 1 + 1 + 1 + 1 + 1 + 1 + 1 + 1 + 1 : Nat) : Int) := by omega
      have h5 : a0 < ((0 + 1 + 1 + 1 + 1 + 1 + 1 + 1 + 1 + 1 + 1 + 1 : Nat) : Int) := by omega
      have h6 : 0 ≤ a0 := by omega
      simp only [e, h3, h4, h5, h0, h6, decide_true, if_false, if_true, Option.bind_some, and_self]

end Go.Proofs.Ytpjmdgaicfngjaa.Pure

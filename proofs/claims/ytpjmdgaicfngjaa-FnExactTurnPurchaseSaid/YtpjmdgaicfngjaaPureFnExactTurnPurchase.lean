/- The pure statement of FnExactTurnPurchase: numbers and lists alone. No condition. -/
import Derived.Test.YtpjmdgaicfngjaaQFnExactTurnPurchasex1
import Derived.Test.YtpjmdgaicfngjaaAid
namespace Go.Proofs.Ytpjmdgaicfngjaa.Pure
open Go.RowKit Go.Proofs.Ytpjmdgaicfngjaa.QFnExactTurnPurchase Go.Proofs.YtpjmdgaicfngjaaW.PrintWords Go.Proofs.YtpjmdgaicfngjaaW.PrintLast Go.Proofs.YtpjmdgaicfngjaaW.PrintMore Go.Proofs.Ytpjmdgaicfngjaa.Aid
set_option linter.unusedVariables false
set_option linter.unusedSimpArgs false

theorem spec_l00In_eq (a b c : Int) : spec_l00In.f a b c = some (decide (b ≤ a ∧ a ≤ c)) := by
  unfold spec_l00In.f
  by_cases h : a ≥ b
  · rw [if_pos h]; congr 1; simp; omega
  · rw [if_neg h]; congr 1; simp; omega

theorem spec_l05One_ev (f m : Int) (a : Bool) : Ev (fun k => spec_l05One.f k f m a) (purchB f m a, f, m, a) := by
  simp only [spec_l05One.f, spec_l00In_eq, Option.bind_some]
  unfold purchB
  by_cases h1 : 0 ≤ f ∧ f ≤ 4
  · by_cases h2 : 0 ≤ m ∧ m ≤ 4
    · have e1 : wrap64 (f + m) = f + m := w64 (by omega) (by omega)
      have e2 : wrap64 (m - f) = m - f := w64 (by omega) (by omega)
      have e3 : wrap64 (f - m) = f - m := w64 (by omega) (by omega)
      simp only [h1, h2, decide_true, if_true, Bool.true_and, and_self]
      refine ev_succ ?_
      simp only [spec_l05One.j0, spec_l00In_eq, e1, e2, e3, Option.bind_some, decide_eq_true_eq]
      by_cases h3 : f + m < 1
      · simp only [h3, if_true, show ¬ 1 ≤ f + m by omega, decide_false, Bool.false_and]; exact ev_now _
      · simp only [h3, if_false, show 1 ≤ f + m by omega, decide_true, Bool.true_and]
        cases a <;> exact ev_now _
    · simp only [h1, h2, decide_true, decide_false, if_true, Bool.true_and, Bool.false_and, and_self, Bool.false_eq_true, if_false]
      refine ev_succ ?_
      simp only [spec_l05One.j0, if_true]; exact ev_now _
  · simp only [h1, decide_false, Bool.false_and, Bool.false_eq_true, if_false]
    refine ev_succ ?_
    simp only [spec_l05One.j0, if_true]; exact ev_now _

theorem impl_within_eq (a b c : Int) : impl_within.f a b c = some (decide (b ≤ a ∧ a ≤ c)) := by
  unfold impl_within.f
  by_cases h : a ≥ b
  · rw [if_pos h]; congr 1; simp; omega
  · rw [if_neg h]; congr 1; simp; omega

theorem impl_ValidPurchase_ev (f m : Int) (a : Bool) : Ev (fun k => impl_ValidPurchase.f k f m a) (purchB f m a) := by
  simp only [impl_ValidPurchase.f, impl_within_eq, Option.bind_some]
  unfold purchB
  by_cases h1 : 0 ≤ f ∧ f ≤ 4
  · by_cases h2 : 0 ≤ m ∧ m ≤ 4
    · have e1 : wrap64 (f + m) = f + m := w64 (by omega) (by omega)
      have e2 : wrap64 (m - f) = m - f := w64 (by omega) (by omega)
      have e3 : wrap64 (f - m) = f - m := w64 (by omega) (by omega)
      simp only [h1, h2, decide_true, if_true, Bool.true_and, and_self]
      refine ev_succ ?_
      simp only [impl_ValidPurchase.j0, impl_within_eq, e1, e2, e3, Option.bind_some, beq_iff_eq]
      by_cases h3 : f + m = 0
      · simp only [h3, if_true, show ¬ (1 : Int) ≤ 0 by omega, decide_false, Bool.false_and]; exact ev_now _
      · simp only [h3, if_false, show 1 ≤ f + m by omega, decide_true, Bool.true_and]
        cases a <;> exact ev_now _
    · simp only [h1, h2, decide_true, decide_false, if_true, Bool.true_and, Bool.false_and, and_self, Bool.false_eq_true, if_false]
      refine ev_succ ?_
      simp only [impl_ValidPurchase.j0, if_true]; exact ev_now _
  · simp only [h1, decide_false, Bool.false_and, Bool.false_eq_true, if_false]
    refine ev_succ ?_
    simp only [impl_ValidPurchase.j0, if_true]; exact ev_now _

theorem FnExactTurnPurchase : laws_FnExactTurnPurchase.Pure := by
  intro f m a hf hm
  refine Ev.rounds ?_
  simp only [laws_FnExactTurnPurchase.f, laws_toPurchase.f, spec_TurnPurchase.f, impl_TurnPurchase.f, Option.bind_some]
  cases hp : purchB f m a
  · refine Ev.bind (a := (0, 0, false, 1)) (Ev.bind (spec_l05One_ev f m a) ?_) (Ev.bind (a := (0, 0, false, 1)) (Ev.bind (impl_ValidPurchase_ev f m a) ?_) ?_)
    · simp only [hp, Bool.false_eq_true, if_false]; exact ev_now _
    · simp only [hp, Bool.false_eq_true, if_false]; exact ev_now _
    · simp [laws_eqPurchase.f]; exact ev_now _
  · refine Ev.bind (a := (m, f, !a, 0)) (Ev.bind (spec_l05One_ev f m a) ?_) (Ev.bind (a := (m, f, !a, 0)) (Ev.bind (impl_ValidPurchase_ev f m a) ?_) ?_)
    · simp only [hp, if_true]; exact ev_now _
    · simp only [hp, if_true]; exact ev_now _
    · simp [laws_eqPurchase.f]; exact ev_now _

end Go.Proofs.Ytpjmdgaicfngjaa.Pure

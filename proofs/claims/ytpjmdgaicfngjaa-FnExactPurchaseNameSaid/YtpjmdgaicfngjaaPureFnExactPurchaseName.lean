/- The pure statement of FnExactPurchaseName: numbers and lists alone. No condition. -/
import Derived.Test.YtpjmdgaicfngjaaQFnExactPurchaseNamex2
import Derived.Test.YtpjmdgaicfngjaaAid
namespace Go.Proofs.Ytpjmdgaicfngjaa.Pure
open Go.RowKit Go.Proofs.Ytpjmdgaicfngjaa.QFnExactPurchaseName Go.Proofs.YtpjmdgaicfngjaaW.PrintWords Go.Proofs.YtpjmdgaicfngjaaW.PrintLast Go.Proofs.YtpjmdgaicfngjaaW.PrintMore Go.Proofs.Ytpjmdgaicfngjaa.Aid
set_option linter.unusedVariables false
set_option linter.unusedSimpArgs false

theorem spec_l00In_eq (a b c : Int) : spec_l00In.f a b c = some (decide (b ≤ a ∧ a ≤ c)) := by
  unfold spec_l00In.f
  by_cases h : a ≥ b
  · rw [if_pos h]; congr 1; simp; omega
  · rw [if_neg h]; congr 1; simp; omega

theorem spec_l05One_ev (f m : Int) (a : Bool) : Ev (fun k => spec_l05One.f k f m a) (purchB f m a, f, m, a) := by
  simp only [spec_l05One.f, spec_l00In_eq, Option.bind_some]
  unfold purchB
  by_cases h1 : 0 ≤ f ∧ f ≤ 4
  · by_cases h2 : 0 ≤ m ∧ m ≤ 4
    · have e1 : wrap64 (f + m) = f + m := w64 (by omega) (by omega)
      have e2 : wrap64 (m - f) = m - f := w64 (by omega) (by omega)
      have e3 : wrap64 (f - m) = f - m := w64 (by omega) (by omega)
      simp only [h1, h2, decide_true, if_true, Bool.true_and, and_self]
      refine ev_succ ?_
      simp only [spec_l05One.j0, spec_l00In_eq, e1, e2, e3, Option.bind_some, decide_eq_true_eq]
      by_cases h3 : f + m < 1
      · simp only [h3, if_true, show ¬ 1 ≤ f + m by omega, decide_false, Bool.false_and]; exact ev_now _
      · simp only [h3, if_false, show 1 ≤ f + m by omega, decide_true, Bool.true_and]
        cases a <;> exact ev_now _
    · simp only [h1, h2, decide_true, decide_false, if_true, Bool.true_and, Bool.false_and, and_self, Bool.false_eq_true, if_false]
      refine ev_succ ?_
      simp only [spec_l05One.j0, if_true]; exact ev_now _
  · simp only [h1, decide_false, Bool.false_and, Bool.false_eq_true, if_false]
    refine ev_succ ?_
    simp only [spec_l05One.j0, if_true]; exact ev_now _

theorem impl_within_eq (a b c : Int) : impl_within.f a b c = some (decide (b ≤ a ∧ a ≤ c)) := by
  unfold impl_within.f
  by_cases h : a ≥ b
  · rw [if_pos h]; congr 1; simp; omega
  · rw [if_neg h]; congr 1; simp; omega

theorem impl_ValidPurchase_ev (f m : Int) (a : Bool) : Ev (fun k => impl_ValidPurchase.f k f m a) (purchB f m a) := by
  simp only [impl_ValidPurchase.f, impl_within_eq, Option.bind_some]
  unfold purchB
  by_cases h1 : 0 ≤ f ∧ f ≤ 4
  · by_cases h2 : 0 ≤ m ∧ m ≤ 4
    · have e1 : wrap64 (f + m) = f + m := w64 (by omega) (by omega)
      have e2 : wrap64 (m - f) = m - f := w64 (by omega) (by omega)
      have e3 : wrap64 (f - m) = f - m := w64 (by omega) (by omega)
      simp only [h1, h2, decide_true, if_true, Bool.true_and, and_self]
      refine ev_succ ?_
      simp only [impl_ValidPurchase.j0, impl_within_eq, e1, e2, e3, Option.bind_some, beq_iff_eq]
      by_cases h3 : f + m = 0
      · simp only [h3, if_true, show ¬ (1 : Int) ≤ 0 by omega, decide_false, Bool.false_and]; exact ev_now _
      · simp only [h3, if_false, show 1 ≤ f + m by omega, decide_true, Bool.true_and]
        cases a <;> exact ev_now _
    · simp only [h1, h2, decide_true, decide_false, if_true, Bool.true_and, Bool.false_and, and_self, Bool.false_eq_true, if_false]
      refine ev_succ ?_
      simp only [impl_ValidPurchase.j0, if_true]; exact ev_now _
  · simp only [h1, decide_false, Bool.false_and, Bool.false_eq_true, if_false]
    refine ev_succ ?_
    simp only [impl_ValidPurchase.j0, if_true]; exact ev_now _

def pnames : List ByteArray := [(⟨#[119, 104, 105, 112]⟩ : ByteArray), (⟨#[103, 117, 110]⟩ : ByteArray), (⟨#[108, 117, 102, 102]⟩ : ByteArray), (⟨#[116, 119, 111, 102, 111, 108, 100]⟩ : ByteArray), (⟨#[103, 121, 110]⟩ : ByteArray), (⟨#[116, 104, 114, 101, 101, 102, 111, 108, 100]⟩ : ByteArray), (⟨#[119, 97, 116, 99, 104]⟩ : ByteArray), (⟨#[102, 111, 117, 114, 102, 111, 108, 100]⟩ : ByteArray)]
theorem pnames_size (i : Int) : (rdOf ByteArray.empty pnames i).size ≤ 9 := by
  have h : ∀ x ∈ pnames, x.size ≤ 9 := by decide
  unfold rdOf
  rw [List.getD_eq_getElem?_getD]
  cases e : pnames[i.toNat]? with
  | none => decide
  | some x => exact h x (List.mem_of_getElem? e)
theorem PurchaseName_ev (f m : Int) (a : Bool) : ∃ r, Ev (fun k => spec_PurchaseName.f k f m a) r ∧ Ev (fun k => impl_PurchaseName.f k f m a) r := by
  simp only [spec_PurchaseName.f, impl_PurchaseName.f]
  cases hp : purchB f m a
  · refine ⟨(⟨#[]⟩ : ByteArray), Ev.bind (spec_l05One_ev f m a) ?_, Ev.bind (impl_ValidPurchase_ev f m a) ?_⟩ <;> (simp only [hp, Bool.false_eq_true, if_false]; exact ev_now _)
  · have hv := hp
    unfold purchB at hv
    simp only [Bool.and_eq_true, decide_eq_true_eq] at hv
    have e1 : wrap64 (f + m) = f + m := w64 (by omega) (by omega)
    have e2 : wrap64 (f + m - 1) = f + m - 1 := w64 (by omega) (by omega)
    have e3 : (pnames.length : Int) = 8 := rfl
    have e4 := pnames_size (f + m - 1)
    have e5 : (0 : Int) ≤ f + m - 1 := by omega
    have e6 : f + m - 1 < 8 := by
      obtain ⟨h1, h2, h3, h4⟩ := hv
      cases a <;> simp at h4 <;> omega
    have e7 : (rdOf ByteArray.empty pnames (f + m - 1)).size + 7 ≤ 9223372036854775807 := by omega
    cases a with
    | false =>
      refine ⟨rdOf ByteArray.empty pnames (f + m - 1), Ev.bind (spec_l05One_ev f m false) ?_, Ev.bind (impl_ValidPurchase_ev f m false) ?_⟩
      · simp only [hp, if_true]
        refine Ev.bind (a := pnames) (ev_now _) ?_
        simp only [e1, e2, e3, e5, e6, if_true, Bool.false_eq_true, if_false]
        exact ev_now _
      · simp only [hp, if_true]
        refine Ev.bind (a := pnames) (ev_now _) ?_
        simp only [e1, e2, e3, e5, e6, if_true, Bool.false_eq_true, if_false]
        refine ev_succ ?_
        simp only [impl_PurchaseName.j0, Bool.false_eq_true, if_false]
        exact ev_now _
    | true =>
      simp only [if_true, decide_eq_true_eq] at hv
      by_cases f0 : f = 0
      · have s1 : f + m = 1 := by omega
        refine ⟨(⟨#[114, 117, 110, 110, 101, 114]⟩ : ByteArray), Ev.bind (spec_l05One_ev f m true) ?_, Ev.bind (impl_ValidPurchase_ev f m true) ?_⟩
        · simp only [hp, if_true]
          refine Ev.bind (a := pnames) (ev_now _) ?_
          simp only [e1, e2, e3, e5, e6, if_true]
          simp only [f0, if_true]
          exact ev_now _
        · simp only [hp, if_true]
          refine Ev.bind (a := pnames) (ev_now _) ?_
          simp only [e1, e2, e3, e5, e6, if_true]
          simp only [s1, beq_self_eq_true]
          refine ev_succ ?_
          simp only [impl_PurchaseName.j0, if_true]
          exact ev_now _
      · have s1 : ¬ f + m = 1 := by omega
        refine ⟨rdOf ByteArray.empty pnames (f + m - 1) ++ (⟨#[45, 116, 117, 114, 110, 101, 100]⟩ : ByteArray), Ev.bind (spec_l05One_ev f m true) ?_, Ev.bind (impl_ValidPurchase_ev f m true) ?_⟩
        · simp only [hp, if_true]
          refine Ev.bind (a := pnames) (ev_now _) ?_
          simp only [e1, e2, e3, e5, e6, e7, if_true, f0, if_false]
          exact ev_now _
        · simp only [hp, if_true]
          refine Ev.bind (a := pnames) (ev_now _) ?_
          have s2 : (f + m == 1) = false := by simp [s1]
          simp only [e1, e2, e3, e5, e6, if_true, s2]
          refine ev_succ ?_
          simp only [impl_PurchaseName.j0, if_true, e7, Bool.false_eq_true, if_false]
          exact ev_now _
theorem FnExactPurchaseName : laws_FnExactPurchaseName.Pure := by
  intro f m a hf hm
  refine Ev.rounds ?_
  simp only [laws_FnExactPurchaseName.f, laws_toPurchase.f, Option.bind_some]
  obtain ⟨r, k1, k2⟩ := PurchaseName_ev f m a
  refine Ev.bind k1 (Ev.bind k2 ?_)
  simp only [if_true]
  exact ev_now _

end Go.Proofs.Ytpjmdgaicfngjaa.Pure

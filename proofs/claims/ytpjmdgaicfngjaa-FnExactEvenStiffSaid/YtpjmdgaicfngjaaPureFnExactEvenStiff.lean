/- The pure statement of FnExactEvenStiff: numbers and lists alone. No condition. -/
import Derived.Test.YtpjmdgaicfngjaaQFnExactEvenStiffx1
import Derived.Test.YtpjmdgaicfngjaaAid
namespace Go.Proofs.Ytpjmdgaicfngjaa.Pure
open Go.RowKit Go.Proofs.Ytpjmdgaicfngjaa.QFnExactEvenStiff Go.Proofs.YtpjmdgaicfngjaaW.PrintWords Go.Proofs.YtpjmdgaicfngjaaW.PrintLast Go.Proofs.YtpjmdgaicfngjaaW.PrintMore Go.Proofs.Ytpjmdgaicfngjaa.Aid
set_option linter.unusedVariables false
set_option linter.unusedSimpArgs false

theorem spec_l00In_eq (a b c : Int) : spec_l00In.f a b c = some (decide (b ≤ a ∧ a ≤ c)) := by
  unfold spec_l00In.f
  by_cases h : a ≥ b
  · rw [if_pos h]; congr 1; simp; omega
  · rw [if_neg h]; congr 1; simp; omega

theorem impl_within_eq (a b c : Int) : impl_within.f a b c = some (decide (b ≤ a ∧ a ≤ c)) := by
  unfold impl_within.f
  by_cases h : a ≥ b
  · rw [if_pos h]; congr 1; simp; omega
  · rw [if_neg h]; congr 1; simp; omega

theorem spec_l00Max_eq (a b : Int) : spec_l00Max.f a b = some (if a > b then a else b) := by
  unfold spec_l00Max.f; split <;> rfl
/-- Nothing up to 1000 is enough. -/
theorem EvenStiff_no (L F A : Int) (hL : 1 ≤ L ∧ L ≤ 60) (hF : 0 ≤ F ∧ F ≤ 10000) (hA : 1 ≤ A ∧ A ≤ 10000) (d : Nat) : ∀ n : Int, 1 ≤ n → n + d = 1001 → (∀ m, 1 ≤ m → m ≤ 1000 → m * (A - L) < F * L ∧ 0 < F * L) →
    Ev (fun k => spec_EvenStiff.l0 k L F A n) (0, 3) := by
  induction d with
  | zero =>
    intro n h1 h2 h3
    refine ev_succ ?_
    simp only [spec_EvenStiff.l0, show ¬ n ≤ 1000 by omega, if_false]; exact ev_now _
  | succ d ih =>
    intro n h1 h2 h3
    have hm := h3 n h1 (by omega)
    have b1 : n * (A - L) ≤ 1000 * 10000 := by
      by_cases hd : 0 ≤ A - L
      · exact Int.mul_le_mul (by omega) (by omega) hd (by omega)
      · have := Int.mul_nonpos_of_nonneg_of_nonpos (a := n) (b := A - L) (by omega) (by omega); omega
    have b2 : -(1000 * 60) ≤ n * (A - L) := by
      have := Int.mul_le_mul (a := n) (b := L - A) (c := 1000) (d := 60) (by omega) (by omega)
      by_cases hd : 0 ≤ L - A
      · have := this hd (by omega); have e : n * (L - A) = - (n * (A - L)) := by rw [← Int.mul_neg]; congr 1; omega
        omega
      · have := Int.mul_nonneg (a := n) (b := A - L) (by omega) (by omega); omega
    have b3 : 0 ≤ F * L := Int.mul_nonneg hF.1 (by omega)
    have b4 : F * L ≤ 10000 * 60 := Int.mul_le_mul hF.2 hL.2 (by omega) (by omega)
    refine ev_succ ?_
    simp only [spec_EvenStiff.l0, spec_l00Max_eq, Option.bind_some, show n ≤ 1000 by omega, if_true, w64 (n := A - L) (by omega) (by omega), w64 (n := n * (A - L)) (by omega) (by omega), w64 (n := F * L) (by omega) (by omega), w64 (n := n + 1) (by omega) (by omega)]
    have e : ¬ ((if (0 : Int) > n * (A - L) then (0 : Int) else n * (A - L)) ≥ F * L) := by split <;> omega
    simp only [e, if_false]
    exact ih (n + 1) (by omega) (by omega) h3
/-- t is the first that is enough. -/
theorem EvenStiff_yes (L F A t : Int) (hL : 1 ≤ L ∧ L ≤ 60) (hF : 0 ≤ F ∧ F ≤ 10000) (hA : 1 ≤ A ∧ A ≤ 10000) (ht : 1 ≤ t ∧ t ≤ 1000) (hy : F * L ≤ 0 ∨ F * L ≤ t * (A - L)) (hn : ∀ m, 1 ≤ m → m < t → m * (A - L) < F * L ∧ 0 < F * L) (d : Nat) : ∀ n : Int, 1 ≤ n → n + d = t →
    Ev (fun k => spec_EvenStiff.l0 k L F A n) (t, 0) := by
  have b1 : ∀ n, 1 ≤ n → n ≤ 1000 → n * (A - L) ≤ 1000 * 10000 := by
    intro n h1 h2
    by_cases hd : 0 ≤ A - L
    · exact Int.mul_le_mul (by omega) (by omega) hd (by omega)
    · have := Int.mul_nonpos_of_nonneg_of_nonpos (a := n) (b := A - L) (by omega) (by omega); omega
  have b2 : ∀ n, 1 ≤ n → n ≤ 1000 → -(1000 * 60) ≤ n * (A - L) := by
    intro n h1 h2
    by_cases hd : 0 ≤ L - A
    · have := Int.mul_le_mul (a := n) (b := L - A) (c := 1000) (d := 60) (by omega) (by omega) hd (by omega); have e : n * (L - A) = - (n * (A - L)) := by rw [← Int.mul_neg]; congr 1; omega
      omega
    · have := Int.mul_nonneg (a := n) (b := A - L) (by omega) (by omega); omega
  have b3 : 0 ≤ F * L := Int.mul_nonneg hF.1 (by omega)
  have b4 : F * L ≤ 10000 * 60 := Int.mul_le_mul hF.2 hL.2 (by omega) (by omega)
  induction d with
  | zero =>
    intro n h1 h2
    obtain rfl : n = t := by omega
    have b1 := b1 n h1 (by omega)
    have b2 := b2 n h1 (by omega)
    refine ev_succ ?_
    simp only [spec_EvenStiff.l0, spec_l00Max_eq, Option.bind_some, show n ≤ 1000 by omega, if_true, w64 (n := A - L) (by omega) (by omega), w64 (n := n * (A - L)) (by omega) (by omega), w64 (n := F * L) (by omega) (by omega), w64 (n := n + 1) (by omega) (by omega)]
    have e : ((if (0 : Int) > n * (A - L) then (0 : Int) else n * (A - L)) ≥ F * L) := by split <;> omega
    simp only [e, if_true]
    exact ev_now _
  | succ d ih =>
    intro n h1 h2
    have hm := hn n h1 (by omega)
    have b1 := b1 n h1 (by omega)
    have b2 := b2 n h1 (by omega)
    refine ev_succ ?_
    simp only [spec_EvenStiff.l0, spec_l00Max_eq, Option.bind_some, show n ≤ 1000 by omega, if_true, w64 (n := A - L) (by omega) (by omega), w64 (n := n * (A - L)) (by omega) (by omega), w64 (n := F * L) (by omega) (by omega), w64 (n := n + 1) (by omega) (by omega)]
    have e : ¬ ((if (0 : Int) > n * (A - L) then (0 : Int) else n * (A - L)) ≥ F * L) := by split <;> omega
    simp only [e, if_false]
    exact ih (n + 1) (by omega) (by omega)
theorem EvenStiff_ev (L F A : Int) : ∃ r, Ev (fun k => spec_EvenStiff.f k L F A) r ∧ Ev (fun k => impl_EvenStiff.f k L F A) r := by
  simp only [spec_EvenStiff.f, impl_EvenStiff.f, spec_l04Pull.f, spec_l00In_eq, impl_within_eq, Option.bind_some]
  by_cases hL : 1 ≤ L ∧ L ≤ 60
  · by_cases hF : 0 ≤ F ∧ F ≤ 10000
    · by_cases hA : 1 ≤ A ∧ A ≤ 10000
      · have b3 : 0 ≤ F * L := Int.mul_nonneg hF.1 (by omega)
        have b4 : F * L ≤ 10000 * 60 := Int.mul_le_mul hF.2 hL.2 (by omega) (by omega)
        simp only [hL, hF, hA, decide_true, if_true, Bool.not_true, and_self]
        by_cases f0 : F > 0
        · have pos : 0 < F * L := Int.mul_pos f0 (by omega)
          by_cases a0 : A ≤ L
          · refine ⟨(0, 3), ev_succ ?_, ev_succ ?_⟩
            · simp only [spec_EvenStiff.j0, Bool.false_eq_true, if_false]
              refine EvenStiff_no L F A hL hF hA 1000 1 (by omega) (by omega) (fun m h1 h2 => ⟨?_, pos⟩)
              have := Int.mul_nonpos_of_nonneg_of_nonpos (a := m) (b := A - L) (by omega) (by omega)
              omega
            · simp only [impl_EvenStiff.j0, Bool.false_eq_true, if_false, f0, a0, if_true]; exact ev_now _
          · have hd : 0 < A - L := by omega
            let q := (F * L + (A - L) - 1) / (A - L)
            have q1 : (A - L) * q ≤ F * L + (A - L) - 1 := Int.mul_ediv_self_le (by omega)
            have q2 : F * L + (A - L) - 1 < (A - L) * q + (A - L) := Int.lt_mul_ediv_self_add hd
            have qv : q = (F * L + (A - L) - 1) / (A - L) := rfl
            have q0 : 1 ≤ q := by
              rw [qv, Int.le_ediv_iff_mul_le hd]; omega
            have qb : q ≤ 610000 := by
              rw [qv]
              have := Int.ediv_le_self (a := F * L + (A - L) - 1) (A - L) (by omega)
              omega
            have below : ∀ m, 1 ≤ m → m < q → m * (A - L) < F * L ∧ 0 < F * L := by
              intro m h1 h2
              have := Int.mul_le_mul_of_nonneg_right (a := m) (b := q - 1) (c := A - L) (by omega) (by omega)
              have e : (q - 1) * (A - L) = (A - L) * q - (A - L) := by rw [Int.sub_mul, Int.one_mul, Int.mul_comm]
              exact ⟨by omega, pos⟩
            have eq_ : wrap64 (Int.tdiv (wrap64 ((wrap64 ((wrap64 (F * L)) + (wrap64 (A - L)))) - 1)) (wrap64 (A - L))) = q := by
              rw [w64 (n := F * L) (by omega) (by omega), w64 (n := A - L) (by omega) (by omega), w64 (n := F * L + (A - L)) (by omega) (by omega), w64 (n := F * L + (A - L) - 1) (by omega) (by omega), Int.tdiv_eq_ediv_of_nonneg (by omega)]
              exact w64 (by omega) (by omega)
            have nz : ¬ wrap64 (A - L) = 0 := by rw [w64 (n := A - L) (by omega) (by omega)]; omega
            by_cases big : q > 1000
            · refine ⟨(0, 3), ev_succ ?_, ev_succ ?_⟩
              · simp only [spec_EvenStiff.j0, Bool.false_eq_true, if_false]
                exact EvenStiff_no L F A hL hF hA 1000 1 (by omega) (by omega) (fun m h1 h2 => below m h1 (by omega))
              · simp only [impl_EvenStiff.j0, impl_ceilDiv.f, Bool.false_eq_true, if_false, f0, a0, if_true, nz, eq_, Option.bind_some, big]; exact ev_now _
            · refine ⟨(q, 0), ev_succ ?_, ev_succ ?_⟩
              · simp only [spec_EvenStiff.j0, Bool.false_eq_true, if_false]
                refine EvenStiff_yes L F A q hL hF hA ⟨q0, by omega⟩ (.inr ?_) below (q - 1).toNat 1 (by omega) (by omega)
                have := Int.mul_comm q (A - L); omega
              · simp only [impl_EvenStiff.j0, impl_ceilDiv.f, Bool.false_eq_true, if_false, f0, a0, if_true, nz, eq_, Option.bind_some, big]; exact ev_now _
        · have z : F * L = 0 := by
            have : F = 0 := by omega
            rw [this, Int.zero_mul]
          refine ⟨(1, 0), ev_succ ?_, ev_succ ?_⟩
          · simp only [spec_EvenStiff.j0, Bool.false_eq_true, if_false]
            exact EvenStiff_yes L F A 1 hL hF hA ⟨by omega, by omega⟩ (.inl (by omega)) (fun m h1 h2 => by omega) 0 1 (by omega) (by omega)
          · simp only [impl_EvenStiff.j0, Bool.false_eq_true, if_false, f0, show ¬ (1 : Int) > 1000 by decide]; exact ev_now _
      · refine ⟨(0, 2), ?_, ?_⟩
        · simp only [hL, hF, hA, decide_true, decide_false, if_true, Bool.not_false, and_self]
          refine ev_succ ?_
          simp only [spec_EvenStiff.j0, if_true]; exact ev_now _
        · simp only [hL, hF, hA, decide_true, decide_false, if_true, Bool.not_false, and_self]
          refine ev_succ ?_
          simp only [impl_EvenStiff.j0, if_true]; exact ev_now _
    · refine ⟨(0, 2), ?_, ?_⟩
      · simp only [hL, hF, decide_true, decide_false, if_true, and_self, Bool.false_eq_true, if_false]
        refine ev_succ ?_
        simp only [spec_EvenStiff.j0, if_true]; exact ev_now _
      · simp only [hL, hF, decide_true, decide_false, if_true, and_self, Bool.false_eq_true, if_false]
        refine ev_succ ?_
        simp only [impl_EvenStiff.j0, if_true]; exact ev_now _
  · refine ⟨(0, 2), ?_, ?_⟩
    · simp only [hL, decide_false, Bool.false_eq_true, if_false]
      refine ev_succ ?_
      simp only [spec_EvenStiff.j0, if_true]; exact ev_now _
    · simp only [hL, decide_false, Bool.false_eq_true, if_false]
      refine ev_succ ?_
      simp only [impl_EvenStiff.j0, if_true]; exact ev_now _
theorem FnExactEvenStiff : laws_FnExactEvenStiff.Pure := by
  intro L F A _ _ _
  refine Ev.rounds ?_
  simp only [laws_FnExactEvenStiff.f]
  obtain ⟨r, k1, k2⟩ := EvenStiff_ev L F A
  refine Ev.bind k1 (Ev.bind k2 ?_)
  simp only [if_true]
  exact ev_now _

end Go.Proofs.Ytpjmdgaicfngjaa.Pure

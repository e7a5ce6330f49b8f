/- The pure statement of FnExactLengthForWeight: numbers and lists alone. No condition. -/
import Derived.Test.YtaigofkmcalmfaaQFnExactLengthForWeightx3
import Derived.Test.YtaigofkmcalmfaaAid
namespace Go.Proofs.Ytaigofkmcalmfaa.Pure
open Go.RowKit Go.Proofs.Ytaigofkmcalmfaa.QFnExactLengthForWeight Go.Proofs.YtaigofkmcalmfaaW.PrintWords Go.Proofs.YtaigofkmcalmfaaW.PrintLast Go.Proofs.YtaigofkmcalmfaaW.PrintMore Go.Proofs.Ytaigofkmcalmfaa.Aid
set_option linter.unusedVariables false
set_option linter.unusedSimpArgs false

theorem spec_l01Small_eq (c : Int) : spec_l01Small.f c = some (decide (97 ≤ c ∧ c ≤ 122)) := by
  unfold spec_l01Small.f
  by_cases h : c ≥ 97
  · rw [if_pos h]; congr 1; simp; omega
  · rw [if_neg h]; congr 1; simp; omega
theorem spec_l01Digit_eq (c : Int) : spec_l01Digit.f c = some (decide (48 ≤ c ∧ c ≤ 57)) := by
  unfold spec_l01Digit.f
  by_cases h : c ≥ 48
  · rw [if_pos h]; congr 1; simp; omega
  · rw [if_neg h]; congr 1; simp; omega
theorem spec_IsName_loop (s : ByteArray) (hs : s.size ≤ 12) : Ev (fun k => spec_IsName.l0 k s 0) ((List.range s.size).all fun i => nameCh (bt s i)) := by
  refine ev_to (ev_all (len := s.size) (g := fun k i => spec_IsName.l0 k s i) (fun i => nameCh (bt s i)) true ?_ ?_ ?_) (by simp)
  · intro n hn hp r hr
    refine ev_succ ?_
    simp only [spec_IsName.l0, spec_l01Small_eq, spec_l01Digit_eq, Option.bind_some]
    simp only [Int.ofNat_lt.2 hn, if_true, show (0 : Int) ≤ (n : Int) from Int.natCast_nonneg n, wnext hn (by omega : s.size ≤ 9223372036854775807)]
    unfold nameCh at hp
    by_cases c1 : 97 ≤ bt s n ∧ bt s n ≤ 122
    · simpa [c1] using hr
    · by_cases c2 : 48 ≤ bt s n ∧ bt s n ≤ 57
      · simpa [c1, c2] using hr
      · by_cases c3 : bt s n = 45
        · simpa [c3] using hr
        · simp [c1, c2, c3] at hp
  · intro n hn hp
    refine ev_succ ?_
    simp only [spec_IsName.l0, spec_l01Small_eq, spec_l01Digit_eq, Option.bind_some]
    unfold nameCh at hp
    simp only [Bool.or_eq_false_iff, decide_eq_false_iff_not] at hp
    simp only [hp.1.1, hp.1.2, hp.2, Int.ofNat_lt.2 hn, show (0 : Int) ≤ (n : Int) from Int.natCast_nonneg n, if_true, if_false, decide_false, Bool.false_eq_true]
    exact ev_now _
  · refine ev_succ ?_
    simp only [spec_IsName.l0, Int.lt_irrefl, if_false]
    exact ev_now _
theorem toList_nil_iff (s : ByteArray) : s.toList = ([] : List UInt8) ↔ s.size = 0 := by
  rw [← List.length_eq_zero_iff, ByteArray.toList_eq, Array.length_toList]
  exact Iff.rfl
theorem spec_IsName_ev (s : ByteArray) : Ev (fun k => spec_IsName.f k s) (isNameB s) := by
  unfold spec_IsName.f isNameB
  by_cases h0 : s.size = 0
  · simp only [(toList_nil_iff s).2 h0, if_true, h0]
    refine ev_succ ?_
    simp only [spec_IsName.j0, if_true]
    exact ev_now _
  · have h0' : ¬ s.toList = ([] : List UInt8) := fun h => h0 ((toList_nil_iff s).1 h)
    simp only [h0', if_false]
    by_cases h1 : s.size ≤ 12
    · have e1 : ¬ ((s.size : Int) > 12) := by omega
      have e2 : (0 : Int) < (s.size : Int) := by omega
      simp only [e1, e2, if_true, if_false, spec_l01Small_eq, Option.bind_some]
      refine ev_succ ?_
      simp only [spec_IsName.j0]
      by_cases h2 : 97 ≤ bt s 0 ∧ bt s 0 ≤ 122
      · simp only [h2, decide_true, Bool.not_true, Bool.false_eq_true, if_false, and_self]
        refine ev_to (spec_IsName_loop s h1) ?_
        simp [show 1 ≤ s.size by omega, h1]
      · simp only [h2, decide_false, Bool.not_false, if_true]
        exact ev_to (ev_now _) (by simp)
    · have e1 : ((s.size : Int) > 12) := by omega
      simp only [e1, if_true]
      refine ev_succ ?_
      simp only [spec_IsName.j0, if_true]
      exact ev_to (ev_now _) (by simp [h1])
theorem impl_IsName_loop (s : ByteArray) (hs : s.size ≤ 12) : Ev (fun k => impl_IsName.l0 k s 0) ((List.range s.size).all fun i => nameCh (bt s i)) := by
  refine ev_to (ev_all (len := s.size) (g := fun k i => impl_IsName.l0 k s i) (fun i => nameCh (bt s i)) true ?_ ?_ ?_) (by simp)
  · intro n hn hp r hr
    refine ev_succ ?_
    simp only [impl_IsName.l0]
    unfold nameCh at hp
    simp only [Bool.or_eq_true, decide_eq_true_eq] at hp
    have e0 : (n : Int) < (s.size : Int) := by omega
    simp only [e0, show (0 : Int) ≤ (n : Int) from Int.natCast_nonneg n, if_true, wnext hn (by omega : s.size ≤ 9223372036854775807)]
    by_cases d1 : bt s n < 97 <;> by_cases d2 : bt s n > 122 <;> by_cases d3 : bt s n < 48 <;> by_cases d4 : bt s n > 57 <;> by_cases d5 : bt s n = 45 <;>
      first | (exfalso; omega) | (simp only [d1, d2, d3, d4, d5, if_true, if_false]; exact hr)
  · intro n hn hp
    refine ev_succ ?_
    simp only [impl_IsName.l0]
    unfold nameCh at hp
    simp only [Bool.or_eq_false_iff, decide_eq_false_iff_not] at hp
    have e0 : (n : Int) < (s.size : Int) := by omega
    simp only [e0, show (0 : Int) ≤ (n : Int) from Int.natCast_nonneg n, if_true]
    by_cases d1 : bt s n < 97 <;> by_cases d2 : bt s n > 122 <;> by_cases d3 : bt s n < 48 <;> by_cases d4 : bt s n > 57 <;> by_cases d5 : bt s n = 45 <;>
      first | (exfalso; omega) | (simp only [d1, d2, d3, d4, d5, if_true, if_false]; exact ev_now _)
  · refine ev_succ ?_
    simp only [impl_IsName.l0, Int.lt_irrefl, if_false]
    exact ev_now _
theorem impl_IsName_ev (s : ByteArray) : Ev (fun k => impl_IsName.f k s) (isNameB s) := by
  unfold impl_IsName.f isNameB
  by_cases h0 : s.size = 0
  · simp only [h0]
    refine ev_succ ?_
    simp only [impl_IsName.j0, if_true]
    exact ev_now _
  · have e3 : ¬ ((s.size : Int) < 1) := by omega
    simp only [e3, if_false]
    by_cases h1 : s.size ≤ 12
    · have e1 : ¬ ((s.size : Int) > 12) := by omega
      have e2 : (0 : Int) < (s.size : Int) := by omega
      simp only [e1, e2, if_true, if_false]
      by_cases h2 : bt s 0 < 97
      · simp only [h2, if_true]
        refine ev_succ ?_
        simp only [impl_IsName.j0, if_true]
        exact ev_to (ev_now _) (by simp; omega)
      · simp only [h2, if_false]
        refine ev_succ ?_
        simp only [impl_IsName.j0]
        by_cases h3 : bt s 0 > 122
        · simp only [h3, decide_true, if_true]
          exact ev_to (ev_now _) (by simp; omega)
        · simp only [h3, decide_false, Bool.false_eq_true, if_false]
          refine ev_to (impl_IsName_loop s h1) ?_
          simp [show 1 ≤ s.size by omega, h1, show 97 ≤ bt s 0 by omega, show bt s 0 ≤ 122 by omega]
    · have e1 : ((s.size : Int) > 12) := by omega
      simp only [e1, if_true]
      refine ev_succ ?_
      simp only [impl_IsName.j0, if_true]
      exact ev_to (ev_now _) (by simp [h1])

theorem spec_l00In_eq (a b c : Int) : spec_l00In.f a b c = some (decide (b ≤ a ∧ a ≤ c)) := by
  unfold spec_l00In.f
  by_cases h : a ≥ b
  · rw [if_pos h]; congr 1; simp; omega
  · rw [if_neg h]; congr 1; simp; omega

theorem impl_within_eq (a b c : Int) : impl_within.f a b c = some (decide (b ≤ a ∧ a ≤ c)) := by
  unfold impl_within.f
  by_cases h : a ≥ b
  · rw [if_pos h]; congr 1; simp; omega
  · rw [if_neg h]; congr 1; simp; omega

theorem spec_l02One_ev (s : ByteArray) (a b c : Int) : Ev (fun k => spec_l02One.f k s a b c) (ropeB s a b c, s, a, b, c) := by
  simp only [spec_l02One.f, spec_l00In_eq, Option.bind_some]
  refine Ev.bind (spec_IsName_ev s) ?_
  unfold ropeB
  cases isNameB s
  · exact ev_now _
  · by_cases h1 : 1 ≤ a ∧ a ≤ 1000
    · by_cases h2 : 1 ≤ b ∧ b ≤ 1000000
      · simp only [h1, h2, decide_true, if_true, Bool.true_and, and_self]; exact ev_now _
      · simp only [h1, h2, decide_true, decide_false, if_true, Bool.true_and, Bool.false_and, and_self, Bool.false_eq_true, if_false]; exact ev_now _
    · simp only [h1, decide_false, if_true, Bool.true_and, Bool.false_and, Bool.false_eq_true, if_false]; exact ev_now _
theorem impl_validRope_ev (s : ByteArray) (a b c : Int) : Ev (fun k => impl_validRope.f k s a b c) (ropeB s a b c) := by
  simp only [impl_validRope.f, impl_within_eq, Option.bind_some]
  refine Ev.bind (impl_IsName_ev s) ?_
  unfold ropeB
  cases isNameB s
  · exact ev_now _
  · by_cases h1 : 1 ≤ a ∧ a ≤ 1000
    · by_cases h2 : 1 ≤ b ∧ b ≤ 1000000
      · simp only [h1, h2, decide_true, if_true, Bool.true_and, and_self]; exact ev_now _
      · simp only [h1, h2, decide_true, decide_false, if_true, Bool.true_and, Bool.false_and, and_self, Bool.false_eq_true, if_false]; exact ev_now _
    · simp only [h1, decide_false, if_true, Bool.true_and, Bool.false_and, Bool.false_eq_true, if_false]; exact ev_now _

theorem LengthForWeight_ev (s : ByteArray) (a b c g : Int) : ∃ r, Ev (fun k => spec_LengthForWeight.f k s a b c g) r ∧ Ev (fun k => impl_LengthForWeight.f k s a b c g) r := by
  simp only [spec_LengthForWeight.f, impl_LengthForWeight.f, spec_l02Line.f, spec_l00In_eq, impl_within_eq, Option.bind_some]
  cases hp : ropeB s a b c
  · refine ⟨(0, 1), Ev.bind (spec_l02One_ev s a b c) ?_, Ev.bind (impl_validRope_ev s a b c) ?_⟩ <;> (simp only [hp, Bool.false_eq_true, if_false]; exact ev_now _)
  · have hc0 : ¬ c = 0 := by
      unfold ropeB at hp
      simp only [Bool.and_eq_true, decide_eq_true_eq] at hp
      omega
    by_cases h1 : 0 ≤ g ∧ g ≤ 1000000
    · have e1 : spec_l00Min.f 1000000 (wrap64 (Int.tdiv (wrap64 (10000 * g)) c)) = some (mn 1000000 (wrap64 (Int.tdiv (wrap64 (g * 10000)) c))) := by
        rw [Int.mul_comm 10000 g]
        unfold spec_l00Min.f mn
        split <;> split <;> first | rfl | (congr 1; omega)
      refine ⟨(mn 1000000 (wrap64 (Int.tdiv (wrap64 (g * 10000)) c)), 0), Ev.bind (spec_l02One_ev s a b c) ?_, Ev.bind (impl_validRope_ev s a b c) ?_⟩ <;> (simp only [hp, h1, hc0, e1, decide_true, if_true, if_false, and_self, Option.bind_some]; exact ev_now _)
    · refine ⟨(0, 2), Ev.bind (spec_l02One_ev s a b c) ?_, Ev.bind (impl_validRope_ev s a b c) ?_⟩ <;> (simp only [hp, h1, decide_true, decide_false, if_true, if_false, and_self, Bool.false_eq_true, Option.bind_some]; exact ev_now _)
theorem FnExactLengthForWeight : laws_FnExactLengthForWeight.Pure := by
  intro s a b c g hs ha hb hc hg
  refine Ev.rounds ?_
  simp only [laws_FnExactLengthForWeight.f, laws_szRope.f]
  by_cases h : wrap64 (1048576 - (s.size : Int)) < 0
  · simp only [h, if_true, Option.bind_some, show (-1 : Int) < 0 by decide]; exact ev_now _
  · simp only [h, if_false, Option.bind_some, laws_toRope.f]
    obtain ⟨r, k1, k2⟩ := LengthForWeight_ev s a b c g
    refine Ev.bind k1 (Ev.bind k2 ?_)
    simp only [if_true]
    exact ev_now _

end Go.Proofs.Ytaigofkmcalmfaa.Pure

/- The pure statement of FnExactAddRope: numbers and lists alone. No condition. -/
import Derived.Test.YtaigofkmcalmfaaQFnExactAddRopex8
import Derived.Test.YtaigofkmcalmfaaAid
namespace Go.Proofs.Ytaigofkmcalmfaa.Pure
open Go.RowKit Go.Proofs.Ytaigofkmcalmfaa.QFnExactAddRope Go.Proofs.YtaigofkmcalmfaaW.PrintWords Go.Proofs.YtaigofkmcalmfaaW.PrintLast Go.Proofs.YtaigofkmcalmfaaW.PrintMore Go.Proofs.Ytaigofkmcalmfaa.Aid
set_option linter.unusedVariables false
set_option linter.unusedSimpArgs false

theorem spec_l01Small_eq (c : Int) : spec_l01Small.f c = some (decide (97 ≤ c ∧ c ≤ 122)) := by
  unfold spec_l01Small.f
  by_cases h : c ≥ 97
  · rw [if_pos h]; congr 1; simp; omega
  · rw [if_neg h]; congr 1; simp; omega
theorem spec_l01Digit_eq (c : Int) : spec_l01Digit.f c = some (decide (48 ≤ c ∧ c ≤ 57)) := by
  unfold spec_l01Digit.f
  by_cases h : c ≥ 48
  · rw [if_pos h]; congr 1; simp; omega
  · rw [if_neg h]; congr 1; simp; omega
theorem spec_IsName_loop (s : ByteArray) (hs : s.size ≤ 12) : Ev (fun k => spec_IsName.l0 k s 0) ((List.range s.size).all fun i => nameCh (bt s i)) := by
  refine ev_to (ev_all (len := s.size) (g := fun k i => spec_IsName.l0 k s i) (fun i => nameCh (bt s i)) true ?_ ?_ ?_) (by simp)
  · intro n hn hp r hr
    refine ev_succ ?_
    simp only [spec_IsName.l0, spec_l01Small_eq, spec_l01Digit_eq, Option.bind_some]
    simp only [Int.ofNat_lt.2 hn, if_true, show (0 : Int) ≤ (n : Int) from Int.natCast_nonneg n, wnext hn (by omega : s.size ≤ 9223372036854775807)]
    unfold nameCh at hp
    by_cases c1 : 97 ≤ bt s n ∧ bt s n ≤ 122
    · simpa [c1] using hr
    · by_cases c2 : 48 ≤ bt s n ∧ bt s n ≤ 57
      · simpa [c1, c2] using hr
      · by_cases c3 : bt s n = 45
        · simpa [c3] using hr
        · simp [c1, c2, c3] at hp
  · intro n hn hp
    refine ev_succ ?_
    simp only [spec_IsName.l0, spec_l01Small_eq, spec_l01Digit_eq, Option.bind_some]
    unfold nameCh at hp
    simp only [Bool.or_eq_false_iff, decide_eq_false_iff_not] at hp
    simp only [hp.1.1, hp.1.2, hp.2, Int.ofNat_lt.2 hn, show (0 : Int) ≤ (n : Int) from Int.natCast_nonneg n, if_true, if_false, decide_false, Bool.false_eq_true]
    exact ev_now _
  · refine ev_succ ?_
    simp only [spec_IsName.l0, Int.lt_irrefl, if_false]
    exact ev_now _
theorem toList_nil_iff (s : ByteArray) : s.toList = ([] : List UInt8) ↔ s.size = 0 := by
  rw [← List.length_eq_zero_iff, ByteArray.toList_eq, Array.length_toList]
  exact Iff.rfl
theorem spec_IsName_ev (s : ByteArray) : Ev (fun k => spec_IsName.f k s) (isNameB s) := by
  unfold spec_IsName.f isNameB
  by_cases h0 : s.size = 0
  · simp only [(toList_nil_iff s).2 h0, if_true, h0]
    refine ev_succ ?_
    simp only [spec_IsName.j0, if_true]
    exact ev_now _
  · have h0' : ¬ s.toList = ([] : List UInt8) := fun h => h0 ((toList_nil_iff s).1 h)
    simp only [h0', if_false]
    by_cases h1 : s.size ≤ 12
    · have e1 : ¬ ((s.size : Int) > 12) := by omega
      have e2 : (0 : Int) < (s.size : Int) := by omega
      simp only [e1, e2, if_true, if_false, spec_l01Small_eq, Option.bind_some]
      refine ev_succ ?_
      simp only [spec_IsName.j0]
      by_cases h2 : 97 ≤ bt s 0 ∧ bt s 0 ≤ 122
      · simp only [h2, decide_true, Bool.not_true, Bool.false_eq_true, if_false, and_self]
        refine ev_to (spec_IsName_loop s h1) ?_
        simp [show 1 ≤ s.size by omega, h1]
      · simp only [h2, decide_false, Bool.not_false, if_true]
        exact ev_to (ev_now _) (by simp)
    · have e1 : ((s.size : Int) > 12) := by omega
      simp only [e1, if_true]
      refine ev_succ ?_
      simp only [spec_IsName.j0, if_true]
      exact ev_to (ev_now _) (by simp [h1])
theorem impl_IsName_loop (s : ByteArray) (hs : s.size ≤ 12) : Ev (fun k => impl_IsName.l0 k s 0) ((List.range s.size).all fun i => nameCh (bt s i)) := by
  refine ev_to (ev_all (len := s.size) (g := fun k i => impl_IsName.l0 k s i) (fun i => nameCh (bt s i)) true ?_ ?_ ?_) (by simp)
  · intro n hn hp r hr
    refine ev_succ ?_
    simp only [impl_IsName.l0]
    unfold nameCh at hp
    simp only [Bool.or_eq_true, decide_eq_true_eq] at hp
    have e0 : (n : Int) < (s.size : Int) := by omega
    simp only [e0, show (0 : Int) ≤ (n : Int) from Int.natCast_nonneg n, if_true, wnext hn (by omega : s.size ≤ 9223372036854775807)]
    by_cases d1 : bt s n < 97 <;> by_cases d2 : bt s n > 122 <;> by_cases d3 : bt s n < 48 <;> by_cases d4 : bt s n > 57 <;> by_cases d5 : bt s n = 45 <;>
      first | (exfalso; omega) | (simp only [d1, d2, d3, d4, d5, if_true, if_false]; exact hr)
  · intro n hn hp
    refine ev_succ ?_
    simp only [impl_IsName.l0]
    unfold nameCh at hp
    simp only [Bool.or_eq_false_iff, decide_eq_false_iff_not] at hp
    have e0 : (n : Int) < (s.size : Int) := by omega
    simp only [e0, show (0 : Int) ≤ (n : Int) from Int.natCast_nonneg n, if_true]
    by_cases d1 : bt s n < 97 <;> by_cases d2 : bt s n > 122 <;> by_cases d3 : bt s n < 48 <;> by_cases d4 : bt s n > 57 <;> by_cases d5 : bt s n = 45 <;>
      first | (exfalso; omega) | (simp only [d1, d2, d3, d4, d5, if_true, if_false]; exact ev_now _)
  · refine ev_succ ?_
    simp only [impl_IsName.l0, Int.lt_irrefl, if_false]
    exact ev_now _
theorem impl_IsName_ev (s : ByteArray) : Ev (fun k => impl_IsName.f k s) (isNameB s) := by
  unfold impl_IsName.f isNameB
  by_cases h0 : s.size = 0
  · simp only [h0]
    refine ev_succ ?_
    simp only [impl_IsName.j0, if_true]
    exact ev_now _
  · have e3 : ¬ ((s.size : Int) < 1) := by omega
    simp only [e3, if_false]
    by_cases h1 : s.size ≤ 12
    · have e1 : ¬ ((s.size : Int) > 12) := by omega
      have e2 : (0 : Int) < (s.size : Int) := by omega
      simp only [e1, e2, if_true, if_false]
      by_cases h2 : bt s 0 < 97
      · simp only [h2, if_true]
        refine ev_succ ?_
        simp only [impl_IsName.j0, if_true]
        exact ev_to (ev_now _) (by simp; omega)
      · simp only [h2, if_false]
        refine ev_succ ?_
        simp only [impl_IsName.j0]
        by_cases h3 : bt s 0 > 122
        · simp only [h3, decide_true, if_true]
          exact ev_to (ev_now _) (by simp; omega)
        · simp only [h3, decide_false, Bool.false_eq_true, if_false]
          refine ev_to (impl_IsName_loop s h1) ?_
          simp [show 1 ≤ s.size by omega, h1, show 97 ≤ bt s 0 by omega, show bt s 0 ≤ 122 by omega]
    · have e1 : ((s.size : Int) > 12) := by omega
      simp only [e1, if_true]
      refine ev_succ ?_
      simp only [impl_IsName.j0, if_true]
      exact ev_to (ev_now _) (by simp [h1])

theorem spec_l00In_eq (a b c : Int) : spec_l00In.f a b c = some (decide (b ≤ a ∧ a ≤ c)) := by
  unfold spec_l00In.f
  by_cases h : a ≥ b
  · rw [if_pos h]; congr 1; simp; omega
  · rw [if_neg h]; congr 1; simp; omega

theorem impl_within_eq (a b c : Int) : impl_within.f a b c = some (decide (b ≤ a ∧ a ≤ c)) := by
  unfold impl_within.f
  by_cases h : a ≥ b
  · rw [if_pos h]; congr 1; simp; omega
  · rw [if_neg h]; congr 1; simp; omega

theorem spec_l02One_ev (s : ByteArray) (a b c : Int) : Ev (fun k => spec_l02One.f k s a b c) (ropeB s a b c, s, a, b, c) := by
  simp only [spec_l02One.f, spec_l00In_eq, Option.bind_some]
  refine Ev.bind (spec_IsName_ev s) ?_
  unfold ropeB
  cases isNameB s
  · exact ev_now _
  · by_cases h1 : 1 ≤ a ∧ a ≤ 1000
    · by_cases h2 : 1 ≤ b ∧ b ≤ 1000000
      · simp only [h1, h2, decide_true, if_true, Bool.true_and, and_self]; exact ev_now _
      · simp only [h1, h2, decide_true, decide_false, if_true, Bool.true_and, Bool.false_and, and_self, Bool.false_eq_true, if_false]; exact ev_now _
    · simp only [h1, decide_false, if_true, Bool.true_and, Bool.false_and, Bool.false_eq_true, if_false]; exact ev_now _
theorem impl_validRope_ev (s : ByteArray) (a b c : Int) : Ev (fun k => impl_validRope.f k s a b c) (ropeB s a b c) := by
  simp only [impl_validRope.f, impl_within_eq, Option.bind_some]
  refine Ev.bind (impl_IsName_ev s) ?_
  unfold ropeB
  cases isNameB s
  · exact ev_now _
  · by_cases h1 : 1 ≤ a ∧ a ≤ 1000
    · by_cases h2 : 1 ≤ b ∧ b ≤ 1000000
      · simp only [h1, h2, decide_true, if_true, Bool.true_and, and_self]; exact ev_now _
      · simp only [h1, h2, decide_true, decide_false, if_true, Bool.true_and, Bool.false_and, and_self, Bool.false_eq_true, if_false]; exact ev_now _
    · simp only [h1, decide_false, if_true, Bool.true_and, Bool.false_and, Bool.false_eq_true, if_false]; exact ev_now _

def rB (x : S27) : Bool := ropeB x.f0 x.f1 x.f2 x.f3
theorem spec_l02OneAt_ev (x : S27) : Ev (fun k => spec_l02OneAt.f k [x]) (rB x) := by
  have e0 : rd_T27 [x] 0 = x := rfl
  have l0 : (0 : Int) < (([x] : List S27).length : Int) := by simp
  simp only [spec_l02OneAt.f, spec_l00In_eq, Option.bind_some, e0, l0, if_true]
  refine Ev.bind (spec_IsName_ev _) ?_
  unfold rB ropeB
  cases isNameB x.f0
  · exact ev_now _
  · by_cases h1 : 1 ≤ x.f1 ∧ x.f1 ≤ 1000
    · by_cases h2 : 1 ≤ x.f2 ∧ x.f2 ≤ 1000000
      · simp only [h1, h2, decide_true, if_true, Bool.true_and, and_self]; exact ev_now _
      · simp only [h1, h2, decide_true, decide_false, if_true, Bool.true_and, Bool.false_and, and_self, Bool.false_eq_true, if_false]; exact ev_now _
    · simp only [h1, decide_false, if_true, Bool.true_and, Bool.false_and, Bool.false_eq_true, if_false]; exact ev_now _

def findW (xs : List S27) (s : ByteArray) : Int := match (List.range xs.length).find? (fun n => decide ((xs.getD n z27).f0.toList = s.toList)) with | some n => (n : Int) | none => -1
theorem findW_range (xs : List S27) (s : ByteArray) : -1 ≤ findW xs s ∧ findW xs s < xs.length := by
  unfold findW
  cases h : (List.range xs.length).find? (fun n => decide ((xs.getD n z27).f0.toList = s.toList)) with
  | none => simp only; omega
  | some n => have := List.mem_range.1 (List.mem_of_find?_eq_some h); simp only; omega
theorem spec_l02Find_ev (xs : List S27) (s : ByteArray) (h : xs.length ≤ 1048576) : Ev (fun k => spec_l02Find.f k xs s) (findW xs s) := by
  simp only [spec_l02Find.f]
  refine ev_find (len := xs.length) (g := fun k i => spec_l02Find.l0 k xs s i) (fun n => decide ((xs.getD n z27).f0.toList = s.toList)) (fun n => (n : Int)) (-1) ?_ ?_ ?_
  · intro n hn hp r hr
    refine ev_succ ?_
    simp only [decide_eq_false_iff_not] at hp
    simp only [spec_l02Find.l0, Int.ofNat_lt.2 hn, show (0 : Int) ≤ (n : Int) from Int.natCast_nonneg _, if_true, rd_T27, Int.toNat_natCast, hp, if_false, wnext hn (by omega : xs.length ≤ 9223372036854775807)]
    exact hr
  · intro n hn hp
    refine ev_succ ?_
    simp only [decide_eq_true_eq] at hp
    simp only [spec_l02Find.l0, Int.ofNat_lt.2 hn, show (0 : Int) ≤ (n : Int) from Int.natCast_nonneg _, if_true, rd_T27, Int.toNat_natCast, hp]
    exact ev_now _
  · refine ev_succ ?_
    simp only [spec_l02Find.l0, Int.lt_irrefl, if_false]
    exact ev_now _
theorem impl_ropeNamed_ev (xs : List S27) (s : ByteArray) (h : xs.length ≤ 1048576) : Ev (fun k => impl_ropeNamed.f k xs s) (findW xs s) := by
  simp only [impl_ropeNamed.f]
  refine ev_find (len := xs.length) (g := fun k i => impl_ropeNamed.l0 k s xs (xs.length : Int) i) (fun n => decide ((xs.getD n z27).f0.toList = s.toList)) (fun n => (n : Int)) (-1) ?_ ?_ ?_
  · intro n hn hp r hr
    refine ev_succ ?_
    simp only [decide_eq_false_iff_not] at hp
    simp only [impl_ropeNamed.l0, Int.ofNat_lt.2 hn, show (0 : Int) ≤ (n : Int) from Int.natCast_nonneg _, if_true, rd_T27, Int.toNat_natCast, hp, if_false, wnext hn (by omega : xs.length ≤ 9223372036854775807)]
    exact hr
  · intro n hn hp
    refine ev_succ ?_
    simp only [decide_eq_true_eq] at hp
    simp only [impl_ropeNamed.l0, Int.ofNat_lt.2 hn, show (0 : Int) ≤ (n : Int) from Int.natCast_nonneg _, if_true, rd_T27, Int.toNat_natCast, hp]
    exact ev_now _
  · refine ev_succ ?_
    simp only [impl_ropeNamed.l0, Int.lt_irrefl, if_false]
    exact ev_now _
def ropesP (xs : List S27) (n : Nat) : Bool := rB (xs.getD n z27) && decide (findW (xs.take n) (xs.getD n z27).f0 < 0)
def ropesB (xs : List S27) : Bool := (List.range xs.length).all (ropesP xs) && decide (xs.length ≤ 30)
theorem spec_l02Ok_ev (xs : List S27) (h : xs.length ≤ 1048576) : Ev (fun k => spec_l02Ok.f k xs) (ropesB xs) := by
  simp only [spec_l02Ok.f]
  refine ev_all (len := xs.length) (g := fun k i => spec_l02Ok.l0 k xs i) (ropesP xs) (decide (xs.length ≤ 30)) ?_ ?_ ?_
  · intro n hn hp r hr
    unfold ropesP at hp
    simp only [Bool.and_eq_true, decide_eq_true_eq] at hp
    refine ev_succ ?_
    simp only [spec_l02Ok.l0, Int.ofNat_lt.2 hn, show (0 : Int) ≤ (n : Int) from Int.natCast_nonneg _, if_true, rd_T27, Int.toNat_natCast, show (n : Int) ≤ (xs.length : Int) by omega, wnext hn (by omega : xs.length ≤ 9223372036854775807)]
    refine Ev.bind (spec_l02OneAt_ev _) ?_
    simp only [hp.1, if_true]
    refine Ev.bind (spec_l02Find_ev _ _ (by simp; omega)) ?_
    simp only [show ¬ findW (xs.take n) (xs.getD n z27).f0 ≥ 0 by omega, if_false]
    exact hr
  · intro n hn hp
    unfold ropesP at hp
    refine ev_succ ?_
    simp only [spec_l02Ok.l0, Int.ofNat_lt.2 hn, show (0 : Int) ≤ (n : Int) from Int.natCast_nonneg _, if_true, rd_T27, Int.toNat_natCast, show (n : Int) ≤ (xs.length : Int) by omega]
    refine Ev.bind (spec_l02OneAt_ev _) ?_
    cases h1 : rB (xs.getD n z27)
    · simp only [Bool.false_eq_true, if_false]; exact ev_now _
    · simp only [h1, Bool.true_and, decide_eq_false_iff_not] at hp
      simp only [if_true]
      refine Ev.bind (spec_l02Find_ev _ _ (by simp; omega)) ?_
      simp only [show findW (xs.take n) (xs.getD n z27).f0 ≥ 0 by omega, if_true]
      exact ev_now _
  · refine ev_succ ?_
    simp only [spec_l02Ok.l0, Int.lt_irrefl, if_false]
    exact ev_to (ev_now _) (by congr 1; simp; omega)
theorem impl_ValidRopes_ev (xs : List S27) (h : xs.length ≤ 1048576) : Ev (fun k => impl_ValidRopes.f k xs) (ropesB xs) := by
  simp only [impl_ValidRopes.f]
  by_cases hb : (xs.length : Int) > 30
  · simp only [hb, if_true]
    exact ev_to (ev_now _) (by unfold ropesB; rw [show decide (xs.length ≤ 30) = false by simp; omega, Bool.and_false])
  simp only [hb, if_false]
  refine ev_to (ev_all (len := xs.length) (g := fun k i => impl_ValidRopes.l0 k xs xs (xs.length : Int) i) (ropesP xs) true ?_ ?_ ?_) (by unfold ropesB; rw [show decide (xs.length ≤ 30) = true by simp; omega])
  · intro n hn hp r hr
    unfold ropesP at hp
    simp only [Bool.and_eq_true, decide_eq_true_eq] at hp
    refine ev_succ ?_
    simp only [impl_ValidRopes.l0, Int.ofNat_lt.2 hn, show (0 : Int) ≤ (n : Int) from Int.natCast_nonneg _, if_true, rd_T27, Int.toNat_natCast, show (n : Int) ≤ (xs.length : Int) by omega, wnext hn (by omega : xs.length ≤ 9223372036854775807)]
    refine Ev.bind (impl_validRope_ev _ _ _ _) ?_
    rw [show ropeB _ _ _ _ = true from hp.1]
    simp only [if_true]
    refine Ev.bind (impl_ropeNamed_ev _ _ (by simp; omega)) ?_
    simp only [show ¬ findW (xs.take n) (xs.getD n z27).f0 ≥ 0 by omega, if_false]
    exact hr
  · intro n hn hp
    unfold ropesP at hp
    refine ev_succ ?_
    simp only [impl_ValidRopes.l0, Int.ofNat_lt.2 hn, show (0 : Int) ≤ (n : Int) from Int.natCast_nonneg _, if_true, rd_T27, Int.toNat_natCast, show (n : Int) ≤ (xs.length : Int) by omega]
    refine Ev.bind (impl_validRope_ev _ _ _ _) ?_
    cases h1 : rB (xs.getD n z27)
    · rw [show ropeB _ _ _ _ = false from h1]; simp only [Bool.false_eq_true, if_false]; exact ev_now _
    · rw [show ropeB _ _ _ _ = true from h1]
      simp only [h1, Bool.true_and, decide_eq_false_iff_not] at hp
      simp only [if_true]
      refine Ev.bind (impl_ropeNamed_ev _ _ (by simp; omega)) ?_
      simp only [show findW (xs.take n) (xs.getD n z27).f0 ≥ 0 by omega, if_true]
      exact ev_now _
  · refine ev_succ ?_
    simp only [impl_ValidRopes.l0, Int.lt_irrefl, if_false]
    exact ev_now _

theorem laws_szRopeS_ev (xs : List S23) (hl : xs.length ≤ 9223372036854775807) (hs : ∀ x ∈ xs, x.f0.size ≤ 140737488351232) (m : Int := 1048576) (hm0 : 0 ≤ m := by omega) (hm : m ≤ 1048576 := by omega) :
    ∃ r, Ev (fun k => laws_szRopeS.f k xs m) r ∧ (r < 0 ∨ (0 ≤ r ∧ r ≤ 1048576 ∧ xs.length ≤ 1048576)) := by
  simp only [laws_szRopeS.f]
  by_cases h : wrap64 (m - (xs.length : Int)) < 0
  · simp only [h, if_true]; exact ⟨-1, ev_now _, .inl (by decide)⟩
  have hl' : xs.length ≤ 1048576 := by unfold wrap64 at h; omega
  have hl2 : (xs.length : Int) ≤ m := by unfold wrap64 at h; omega
  simp only [h, if_false]
  rw [w64 (by omega) (by omega)]
  refine ev_loop (len := xs.length) (g := fun k s i => laws_szRopeS.l0 k xs s i) (fun n s => 0 ≤ s ∧ s ≤ 1048576) (fun r => r < 0 ∨ (0 ≤ r ∧ r ≤ 1048576 ∧ xs.length ≤ 1048576)) ?_ ?_ _ (by omega)
  · intro n s hn ⟨h1, h2⟩
    have hsz : (xs.getD n z23).f0.size ≤ 140737488351232 := by rw [getD_lt xs _ hn]; exact hs _ (List.getElem_mem hn)
    by_cases c : wrap64 (s - ((xs.getD n z23).f0.size : Int)) < 0
    · refine .inl ⟨-1, ev_succ ?_, .inl (by decide)⟩
      simp only [laws_szRopeS.l0, laws_szRope.f, Int.ofNat_lt.2 hn, show (0 : Int) ≤ (n : Int) from Int.natCast_nonneg _, if_true, rd_T23, Int.toNat_natCast, c, Option.bind_some, show (-1 : Int) < 0 by decide]
      exact ev_now _
    · refine .inr ⟨wrap64 (s - ((xs.getD n z23).f0.size : Int)), ?_, fun r hr => ev_succ ?_⟩
      · rw [w64 (by omega) (by omega)] at *; omega
      · simp only [laws_szRopeS.l0, laws_szRope.f, Int.ofNat_lt.2 hn, show (0 : Int) ≤ (n : Int) from Int.natCast_nonneg _, if_true, rd_T23, Int.toNat_natCast, c, if_false, Option.bind_some, wnext hn (by omega : xs.length ≤ 9223372036854775807)]
        exact hr
  · intro s ⟨h1, h2⟩
    refine ⟨s, ev_succ ?_, .inr ⟨h1, h2, hl'⟩⟩
    simp only [laws_szRopeS.l0, Int.lt_irrefl, if_false]
    exact ev_now _

def conv_Rope (x : S23) : S27 := ⟨x.f0, x.f1, x.f2, x.f3⟩
theorem laws_toRopeS_ev (xs : List S23) (h : xs.length ≤ 1048576) : Ev (fun k => laws_toRopeS.f k xs) (xs.map conv_Rope) := by
  simp only [laws_toRopeS.f, Int.toNat_natCast, show (0 : Int) ≤ (xs.length : Int) from Int.natCast_nonneg _, if_true]
  rw [if_pos_ev (by omega)]
  have e : List.replicate xs.length z27 = (xs.take 0).map conv_Rope ++ List.replicate (xs.length - 0) z27 := by simp
  have e2 : xs.map conv_Rope = (xs.take xs.length).map conv_Rope ++ List.replicate (xs.length - xs.length) z27 := by simp
  rw [e, e2]
  refine ev_fold (len := xs.length) (g := fun k s i => laws_toRopeS.l0 k xs s i) (fun n s => s.set n (conv_Rope (xs.getD n z23))) (fun n => (xs.take n).map conv_Rope ++ List.replicate (xs.length - n) z27) _ ?_ ?_ ?_
  · intro n hn; exact (fill_step xs conv_Rope _ _ hn).symm
  · intro n hn r hr
    refine ev_succ ?_
    have l1 : (n : Int) < (((xs.take n).map conv_Rope ++ List.replicate (xs.length - n) z27).length : Int) := by simp; omega
    simp only [laws_toRopeS.l0, laws_toRope.f, Option.bind_some, Int.ofNat_lt.2 hn, show (0 : Int) ≤ (n : Int) from Int.natCast_nonneg _, if_true, l1, wnext hn (by omega : xs.length ≤ 9223372036854775807), rd_T23, Int.toNat_natCast]
    exact hr
  · refine ev_succ ?_
    simp only [laws_toRopeS.l0, Int.lt_irrefl, if_false]
    exact ev_now _

theorem laws_eqRopeS_self (xs : List S27) (h : xs.length ≤ 9223372036854775807) : Ev (fun k => laws_eqRopeS.f k xs xs) true := by
  simp only [laws_eqRopeS.f, if_true]
  refine ev_to (ev_all (len := xs.length) (g := fun k i => laws_eqRopeS.l0 k xs xs i) (fun _ => true) true ?_ (fun n hn hp => by simp at hp) ?_) (by simp)
  · intro n hn hp r hr
    refine ev_succ ?_
    simp only [laws_eqRopeS.l0, laws_eqRope.f, Option.bind_some, Int.ofNat_lt.2 hn, show (0 : Int) ≤ (n : Int) from Int.natCast_nonneg _, if_true, bne_self_eq_false, Bool.false_eq_true, if_false, wnext hn h]
    exact hr
  · refine ev_succ ?_
    simp only [laws_eqRopeS.l0, Int.lt_irrefl, if_false]
    exact ev_now _

theorem markText_l0 (n : Nat) : ∀ (a : Int) (s : ByteArray), a < 10 ^ n → s.size + n + 1 ≤ 9223372036854775807 → a ≤ 9223372036854775807 → ∃ r, Ev (fun k => laws_markText.l0 k a s) r := by
  induction n with
  | zero =>
    intro a s h1 h2 h3
    refine ⟨(⟨#[109]⟩ : ByteArray) ++ s, ev_succ ?_⟩
    simp only [laws_markText.l0, show ¬ a > 0 by simp at h1; omega, if_false, show 1 + s.size ≤ 9223372036854775807 by omega, if_true]
    exact ev_now _
  | succ n ih =>
    intro a s h1 h2 h3
    by_cases c : a > 0
    · have ht : Int.tdiv a 10 < 10 ^ n := by rw [Int.tdiv_eq_ediv_of_nonneg (by omega), Int.pow_succ] at *; omega
      have hb : 0 ≤ Int.tdiv a 10 ∧ Int.tdiv a 10 ≤ a := by rw [Int.tdiv_eq_ediv_of_nonneg (by omega)]; omega
      have hz : ∀ x, (strOfNums [x]).size = 1 := fun _ => rfl
      have hs : (strOfNums [wrap64 (48 + Int.tmod a 10) % 256] ++ s).size = 1 + s.size := by rw [ByteArray.size_append, hz]
      obtain ⟨r, hr⟩ := ih (Int.tdiv a 10) (strOfNums [wrap64 (48 + Int.tmod a 10) % 256] ++ s) ht (by omega) (by omega)
      refine ⟨r, ev_succ ?_⟩
      simp only [laws_markText.l0, c, if_true, Option.bind_some, hz, show 1 + s.size ≤ 9223372036854775807 by omega, w64 (show -9223372036854775808 ≤ Int.tdiv a 10 by omega) (show Int.tdiv a 10 ≤ 9223372036854775807 by omega)]
      exact hr
    · refine ⟨(⟨#[109]⟩ : ByteArray) ++ s, ev_succ ?_⟩
      simp only [laws_markText.l0, c, if_false, show 1 + s.size ≤ 9223372036854775807 by omega, if_true]
      exact ev_now _
theorem markText_ex (a : Int) : ∃ r, a ≤ 9223372036854775807 → Ev (fun k => laws_markText.f k a) r := by
  by_cases h : a ≤ 9223372036854775807
  · by_cases c : a ≤ 0
    · exact ⟨_, fun _ => by simp only [laws_markText.f, c, if_true]; exact ev_now _⟩
    · obtain ⟨r, hr⟩ := markText_l0 19 a ⟨#[]⟩ (by omega) (by simp [ByteArray.size]) h
      exact ⟨r, fun _ => by simp only [laws_markText.f, c, if_false]; exact hr⟩
  · exact ⟨⟨#[]⟩, fun q => absurd q h⟩
noncomputable def mkT (a : Int) : ByteArray := Classical.choose (markText_ex a)
theorem laws_markText_ev (a : Int) (h : a ≤ 9223372036854775807) : Ev (fun k => laws_markText.f k a) (mkT a) := Classical.choose_spec (markText_ex a) h

noncomputable def mkERope (m : Int) : S27 := ⟨mkT (m), m + 1, m + 1 + 1, m + 1 + 1 + 1⟩
def MarkedRope (xs : List S27) (n : Nat) : Prop := ∀ i, i < n → xs.getD i z27 = mkERope (1 + 4 * (i : Int))
theorem laws_markRopeS_ev (xs : List S27) (h : xs.length ≤ 2097152) : ∃ r, Ev (fun k => laws_markRopeS.f k xs 1) r ∧ r.1 = 1 + 4 * (xs.length : Int) ∧ r.2.length = xs.length ∧ MarkedRope r.2 xs.length := by
  simp only [laws_markRopeS.f]
  refine ev_loop (len := xs.length) (g := fun k (s : List S27 × Int) i => laws_markRopeS.l0 k s.1 s.2 i) (fun n s => s.1.length = xs.length ∧ s.2 = 1 + 4 * (n : Int) ∧ MarkedRope s.1 n) (fun r => r.1 = 1 + 4 * (xs.length : Int) ∧ r.2.length = xs.length ∧ MarkedRope r.2 xs.length) ?_ ?_ (xs, 1) ⟨rfl, by simp, fun i hi => absurd hi (by omega)⟩
  · rintro n ⟨l, q⟩ hn ⟨h1, h2, h3⟩
    simp only at h1 h2 h3
    subst h2
    have e0 : wrap64 ((1 + 4 * (n : Int)) + 1) = (1 + 4 * (n : Int)) + 1 := w64 (by omega) (by omega)
    have e1 : wrap64 ((1 + 4 * (n : Int)) + 1 + 1) = (1 + 4 * (n : Int)) + 1 + 1 := w64 (by omega) (by omega)
    have e2 : wrap64 ((1 + 4 * (n : Int)) + 1 + 1 + 1) = (1 + 4 * (n : Int)) + 1 + 1 + 1 := w64 (by omega) (by omega)
    have e3 : wrap64 ((1 + 4 * (n : Int)) + 1 + 1 + 1 + 1) = (1 + 4 * (n : Int)) + 1 + 1 + 1 + 1 := w64 (by omega) (by omega)
    have h0 : n < l.length := by omega
    have l1 : (n : Int) < (l.length : Int) := by omega
    refine .inr ⟨(l.set n (mkERope (1 + 4 * (n : Int))), 1 + 4 * ((n + 1 : Nat) : Int)), ⟨by simp [h1], rfl, ?cell⟩, fun r hr => ?go⟩
    case go =>
      refine ev_succ ?_
      have ee : 1 + 4 * ((n + 1 : Nat) : Int) = 1 + 4 * (n : Int) + 1 + 1 + 1 + 1 := by omega
      rw [ee] at hr
      simp only [laws_markRopeS.l0, l1, if_true, show (0 : Int) ≤ (n : Int) from Int.natCast_nonneg _]
      refine Ev.bind (laws_markText_ev _ (by omega)) ?_
      simp only [if_true, lset_self h0, List.set_set, List.length_set, l1, Option.bind_some, Int.toNat_natCast, rd_T27, e0, e1, e2, e3, wnext hn (by omega : xs.length ≤ 9223372036854775807), show (0 : Int) ≤ (n : Int) from Int.natCast_nonneg _]
      exact hr
    case cell =>
      intro i hi
      by_cases hin : i = n
      · subst hin; exact lset_self h0
      · show (l.set n _).getD i _ = _
        rw [lset_ne (by omega)]; exact h3 i (by omega)
  · rintro ⟨l, q⟩ ⟨h1, h2, h3⟩
    simp only at h1 h2 h3
    subst h2
    refine ⟨(1 + 4 * (xs.length : Int), l), ev_succ ?_, rfl, h1, h3⟩
    simp only [laws_markRopeS.l0, h1, Int.lt_irrefl, if_false]
    exact ev_now _
theorem laws_heldRopeS_ev (xs : List S27) (h : xs.length ≤ 2097152) (hm : MarkedRope xs xs.length) : Ev (fun k => laws_heldRopeS.f k xs 1) (1 + 4 * (xs.length : Int)) := by
  simp only [laws_heldRopeS.f]
  have := ev_fold (len := xs.length) (g := fun k (s : Int) i => laws_heldRopeS.l0 k xs s i) (fun _ s => s + 4) (fun n => 1 + 4 * (n : Int)) (1 + 4 * (xs.length : Int))
    (fun n hn => by omega)
    (fun n hn r hr => by
      refine ev_succ ?_
      have e0 : wrap64 ((1 + 4 * (n : Int)) + 1) = (1 + 4 * (n : Int)) + 1 := w64 (by omega) (by omega)
      have e1 : wrap64 ((1 + 4 * (n : Int)) + 1 + 1) = (1 + 4 * (n : Int)) + 1 + 1 := w64 (by omega) (by omega)
      have e2 : wrap64 ((1 + 4 * (n : Int)) + 1 + 1 + 1) = (1 + 4 * (n : Int)) + 1 + 1 + 1 := w64 (by omega) (by omega)
      have e3 : wrap64 ((1 + 4 * (n : Int)) + 1 + 1 + 1 + 1) = (1 + 4 * (n : Int)) + 1 + 1 + 1 + 1 := w64 (by omega) (by omega)
      have l1 : (n : Int) < (xs.length : Int) := by omega
      have ee : 1 + 4 * (n : Int) + 4 = 1 + 4 * (n : Int) + 1 + 1 + 1 + 1 := by omega
      rw [ee] at hr
      have cell := hm n hn
      simp only [laws_heldRopeS.l0, l1, show (0 : Int) ≤ (n : Int) from Int.natCast_nonneg _, if_true, rd_T27, Int.toNat_natCast, cell, mkERope]
      refine Ev.bind (laws_markText_ev _ (by omega)) ?_
      simp only [if_true, e0, e1, e2, e3, bne_self_eq_false, Bool.false_eq_true, if_false, wnext hn (by omega : xs.length ≤ 9223372036854775807)]
      exact hr)
    (by
      refine ev_succ ?_
      simp only [laws_heldRopeS.l0, Int.lt_irrefl, if_false]
      exact ev_now _)
  simpa using this

def addV (xs : List S27) (s : ByteArray) (a b c : Int) : List S27 × Int :=
  if ropesB xs = true then (if ropeB s a b c = true then (if findW xs s ≥ 0 then ([], 4) else (if (xs.length : Int) ≥ 30 then ([], 5) else (xs ++ [⟨s, a, b, c⟩], 0))) else ([], 2)) else ([], 1)
theorem addV_len (xs : List S27) (s : ByteArray) (a b c : Int) : (addV xs s a b c).1.length ≤ 31 := by
  unfold addV
  repeat' split
  all_goals simp
  all_goals omega
theorem spec_AddRope_ev (xs : List S27) (h : xs.length ≤ 1048576) (s : ByteArray) (a b c : Int) : Ev (fun k => spec_AddRope.f k xs s a b c) (addV xs s a b c) := by
  simp only [spec_AddRope.f]
  refine Ev.bind (spec_l02Ok_ev xs h) ?_
  unfold addV
  by_cases h1 : ropesB xs = true
  · simp only [h1, if_true]
    refine Ev.bind (spec_l02One_ev s a b c) ?_
    by_cases h2 : ropeB s a b c = true
    · simp only [h2, if_true]
      refine Ev.bind (spec_l02Find_ev xs s h) ?_
      by_cases h3 : findW xs s ≥ 0
      · simp only [h3, if_true]; exact ev_now _
      · simp only [h3, if_false]
        by_cases h4 : (xs.length : Int) ≥ 30
        · simp only [h4, if_true]; exact ev_now _
        · simp only [h4, if_false, Option.bind_some, List.length_nil, List.nil_append, show 0 + xs.length < 3518437208883 by omega, show xs.length < 3518437208883 by omega, if_true]; exact ev_now _
    · simp only [h2]; exact ev_now _
  · simp only [h1]; exact ev_now _
theorem impl_AddRope_ev (xs : List S27) (h : xs.length ≤ 1048576) (s : ByteArray) (a b c : Int) : Ev (fun k => impl_AddRope.f k xs s a b c) (addV xs s a b c) := by
  simp only [impl_AddRope.f]
  refine Ev.bind (impl_ValidRopes_ev xs h) ?_
  unfold addV
  by_cases h1 : ropesB xs = true
  · have hb : xs.length ≤ 30 := by unfold ropesB at h1; simp at h1; omega
    simp only [h1, if_true]
    refine Ev.bind (impl_validRope_ev s a b c) ?_
    by_cases h2 : ropeB s a b c = true
    · simp only [h2, if_true]
      refine Ev.bind (impl_ropeNamed_ev xs s h) ?_
      by_cases h3 : findW xs s ≥ 0
      · simp only [h3, if_true]; exact ev_now _
      · simp only [h3, if_false]
        by_cases h4 : (xs.length : Int) ≥ 30
        · simp only [h4, show (xs.length : Int) = 30 by omega, if_true]; exact ev_now _
        · simp only [h4, show ¬ (xs.length : Int) = 30 by omega, if_false, Option.bind_some, List.length_nil, List.nil_append, List.length_singleton, show 0 + xs.length < 3518437208883 by omega, show xs.length + 1 < 3518437208883 by omega, if_true]; exact ev_now _
    · simp only [h2]; exact ev_now _
  · simp only [h1]; exact ev_now _
theorem FnExactAddRope : laws_FnExactAddRope.Pure := by
  intro xs s a b c hx hs ha hb hc
  refine Ev.rounds ?_
  simp only [laws_FnExactAddRope.f]
  obtain ⟨left, s1, s2⟩ := laws_szRopeS_ev xs (by have := hx.2.1; rw [maxLen_eq] at this; omega) (fun x h => (hx.2.2 x h).1)
  refine Ev.bind s1 ?_
  by_cases h : left < 0
  · simp only [h, if_true]; exact ev_now _
  have hl : xs.length ≤ 1048576 := by omega
  have hm : (xs.map conv_Rope).length ≤ 1048576 := by simpa using hl
  simp only [h, if_false, laws_szRope.f, laws_toRope.f, Option.bind_some]
  by_cases h' : wrap64 (left - (s.size : Int)) < 0
  · simp only [h', if_true, Option.bind_some, show (-1 : Int) < 0 by decide]; exact ev_now _
  simp only [h', if_false, Option.bind_some]
  have k1 := spec_AddRope_ev _ hm s a b c
  have k2 := impl_AddRope_ev _ hm s a b c
  have kl := addV_len (xs.map conv_Rope) s a b c
  generalize addV (xs.map conv_Rope) s a b c = r at k1 k2 kl
  obtain ⟨⟨cnt, ml⟩, m1, m2, m3, m4⟩ := laws_markRopeS_ev (xs.map conv_Rope) (by omega)
  obtain ⟨⟨cnt', ml'⟩, n1, n2, n3, n4⟩ := laws_markRopeS_ev r.1 (by omega)
  have hh := laws_heldRopeS_ev ml' (by simp only at n3; omega) (by simp only at n3 n4; rw [n3]; exact n4)
  simp only at m2 n2 n3
  rw [n3, ← n2] at hh
  refine Ev.bind (laws_toRopeS_ev xs hl) (Ev.bind k1 (Ev.bind (laws_toRopeS_ev xs hl) (Ev.bind k2 (Ev.bind (laws_eqRopeS_self _ (by omega)) ?_))))
  simp only [if_true, bne_self_eq_false]
  refine ev_succ ?_
  simp only [laws_FnExactAddRope.j0, Bool.false_eq_true, if_false]
  refine Ev.bind (laws_toRopeS_ev xs hl) (Ev.bind (laws_eqRopeS_self _ (by omega)) ?_)
  simp only [if_true]
  refine Ev.bind m1 ?_
  simp only [show ¬ cnt < 0 by omega, if_false]
  refine Ev.bind (laws_eqRopeS_self _ (by omega)) ?_
  simp only [if_true, bne_self_eq_false]
  refine ev_succ ?_
  simp only [laws_FnExactAddRope.j1, Bool.false_eq_true, if_false, laws_toRope.f, Option.bind_some]
  refine Ev.bind n1 (Ev.bind hh ?_)
  simp only [show ¬ cnt' < 0 by omega, if_false, if_true]
  refine Ev.bind (laws_toRopeS_ev xs hl) (Ev.bind k2 (Ev.bind (laws_eqRopeS_self _ (by omega)) ?_))
  simp only [if_true, bne_self_eq_false]
  refine ev_succ ?_
  simp only [laws_FnExactAddRope.j2, Bool.false_eq_true, if_false]
  refine Ev.bind hh ?_
  simp only [show ¬ cnt' < 0 by omega, if_false, if_true]
  exact ev_now _

end Go.Proofs.Ytaigofkmcalmfaa.Pure

/- The pure statement of FnExactBeatenRopes: numbers and lists alone. No condition. -/
import Derived.Test.YtaigofkmcalmfaaQFnExactBeatenRopesx9
import Derived.Test.YtaigofkmcalmfaaAid
namespace Go.Proofs.Ytaigofkmcalmfaa.Pure
open Go.RowKit Go.Proofs.Ytaigofkmcalmfaa.QFnExactBeatenRopes Go.Proofs.YtaigofkmcalmfaaW.PrintWords Go.Proofs.YtaigofkmcalmfaaW.PrintLast Go.Proofs.YtaigofkmcalmfaaW.PrintMore Go.Proofs.Ytaigofkmcalmfaa.Aid
set_option linter.unusedVariables false
set_option linter.unusedSimpArgs false

theorem spec_l01Small_eq (c : Int) : spec_l01Small.f c = some (decide (97 ≤ c ∧ c ≤ 122)) := by
  unfold spec_l01Small.f
  by_cases h : c ≥ 97
  · rw [if_pos h]; congr 1; simp; omega
  · rw [if_neg h]; congr 1; simp; omega
theorem spec_l01Digit_eq (c : Int) : spec_l01Digit.f c = some (decide (48 ≤ c ∧ c ≤ 57)) := by
  unfold spec_l01Digit.f
  by_cases h : c ≥ 48
  · rw [if_pos h]; congr 1; simp; omega
  · rw [if_neg h]; congr 1; simp; omega
theorem spec_IsName_loop (s : ByteArray) (hs : s.size ≤ 12) : Ev (fun k => spec_IsName.l0 k s 0) ((List.range s.size).all fun i => nameCh (bt s i)) := by
  refine ev_to (ev_all (len := s.size) (g := fun k i => spec_IsName.l0 k s i) (fun i => nameCh (bt s i)) true ?_ ?_ ?_) (by simp)
  · intro n hn hp r hr
    refine ev_succ ?_
    simp only [spec_IsName.l0, spec_l01Small_eq, spec_l01Digit_eq, Option.bind_some]
    simp only [Int.ofNat_lt.2 hn, if_true, show (0 : Int) ≤ (n : Int) from Int.natCast_nonneg n, wnext hn (by omega : s.size ≤ 9223372036854775807)]
    unfold nameCh at hp
    by_cases c1 : 97 ≤ bt s n ∧ bt s n ≤ 122
    · simpa [c1] using hr
    · by_cases c2 : 48 ≤ bt s n ∧ bt s n ≤ 57
      · simpa [c1, c2] using hr
      · by_cases c3 : bt s n = 45
        · simpa [c3] using hr
        · simp [c1, c2, c3] at hp
  · intro n hn hp
    refine ev_succ ?_
    simp only [spec_IsName.l0, spec_l01Small_eq, spec_l01Digit_eq, Option.bind_some]
    unfold nameCh at hp
    simp only [Bool.or_eq_false_iff, decide_eq_false_iff_not] at hp
    simp only [hp.1.1, hp.1.2, hp.2, Int.ofNat_lt.2 hn, show (0 : Int) ≤ (n : Int) from Int.natCast_nonneg n, if_true, if_false, decide_false, Bool.false_eq_true]
    exact ev_now _
  · refine ev_succ ?_
    simp only [spec_IsName.l0, Int.lt_irrefl, if_false]
    exact ev_now _
theorem toList_nil_iff (s : ByteArray) : s.toList = ([] : List UInt8) ↔ s.size = 0 := by
  rw [← List.length_eq_zero_iff, ByteArray.toList_eq, Array.length_toList]
  exact Iff.rfl
theorem spec_IsName_ev (s : ByteArray) : Ev (fun k => spec_IsName.f k s) (isNameB s) := by
  unfold spec_IsName.f isNameB
  by_cases h0 : s.size = 0
  · simp only [(toList_nil_iff s).2 h0, if_true, h0]
    refine ev_succ ?_
    simp only [spec_IsName.j0, if_true]
    exact ev_now _
  · have h0' : ¬ s.toList = ([] : List UInt8) := fun h => h0 ((toList_nil_iff s).1 h)
    simp only [h0', if_false]
    by_cases h1 : s.size ≤ 12
    · have e1 : ¬ ((s.size : Int) > 12) := by omega
      have e2 : (0 : Int) < (s.size : Int) := by omega
      simp only [e1, e2, if_true, if_false, spec_l01Small_eq, Option.bind_some]
      refine ev_succ ?_
      simp only [spec_IsName.j0]
      by_cases h2 : 97 ≤ bt s 0 ∧ bt s 0 ≤ 122
      · simp only [h2, decide_true, Bool.not_true, Bool.false_eq_true, if_false, and_self]
        refine ev_to (spec_IsName_loop s h1) ?_
        simp [show 1 ≤ s.size by omega, h1]
      · simp only [h2, decide_false, Bool.not_false, if_true]
        exact ev_to (ev_now _) (by simp)
    · have e1 : ((s.size : Int) > 12) := by omega
      simp only [e1, if_true]
      refine ev_succ ?_
      simp only [spec_IsName.j0, if_true]
      exact ev_to (ev_now _) (by simp [h1])
theorem impl_IsName_loop (s : ByteArray) (hs : s.size ≤ 12) : Ev (fun k => impl_IsName.l0 k s 0) ((List.range s.size).all fun i => nameCh (bt s i)) := by
  refine ev_to (ev_all (len := s.size) (g := fun k i => impl_IsName.l0 k s i) (fun i => nameCh (bt s i)) true ?_ ?_ ?_) (by simp)
  · intro n hn hp r hr
    refine ev_succ ?_
    simp only [impl_IsName.l0]
    unfold nameCh at hp
    simp only [Bool.or_eq_true, decide_eq_true_eq] at hp
    have e0 : (n : Int) < (s.size : Int) := by omega
    simp only [e0, show (0 : Int) ≤ (n : Int) from Int.natCast_nonneg n, if_true, wnext hn (by omega : s.size ≤ 9223372036854775807)]
    by_cases d1 : bt s n < 97 <;> by_cases d2 : bt s n > 122 <;> by_cases d3 : bt s n < 48 <;> by_cases d4 : bt s n > 57 <;> by_cases d5 : bt s n = 45 <;>
      first | (exfalso; omega) | (simp only [d1, d2, d3, d4, d5, if_true, if_false]; exact hr)
  · intro n hn hp
    refine ev_succ ?_
    simp only [impl_IsName.l0]
    unfold nameCh at hp
    simp only [Bool.or_eq_false_iff, decide_eq_false_iff_not] at hp
    have e0 : (n : Int) < (s.size : Int) := by omega
    simp only [e0, show (0 : Int) ≤ (n : Int) from Int.natCast_nonneg n, if_true]
    by_cases d1 : bt s n < 97 <;> by_cases d2 : bt s n > 122 <;> by_cases d3 : bt s n < 48 <;> by_cases d4 : bt s n > 57 <;> by_cases d5 : bt s n = 45 <;>
      first | (exfalso; omega) | (simp only [d1, d2, d3, d4, d5, if_true, if_false]; exact ev_now _)
  · refine ev_succ ?_
    simp only [impl_IsName.l0, Int.lt_irrefl, if_false]
    exact ev_now _
theorem impl_IsName_ev (s : ByteArray) : Ev (fun k => impl_IsName.f k s) (isNameB s) := by
  unfold impl_IsName.f isNameB
  by_cases h0 : s.size = 0
  · simp only [h0]
    refine ev_succ ?_
    simp only [impl_IsName.j0, if_true]
    exact ev_now _
  · have e3 : ¬ ((s.size : Int) < 1) := by omega
    simp only [e3, if_false]
    by_cases h1 : s.size ≤ 12
    · have e1 : ¬ ((s.size : Int) > 12) := by omega
      have e2 : (0 : Int) < (s.size : Int) := by omega
      simp only [e1, e2, if_true, if_false]
      by_cases h2 : bt s 0 < 97
      · simp only [h2, if_true]
        refine ev_succ ?_
        simp only [impl_IsName.j0, if_true]
        exact ev_to (ev_now _) (by simp; omega)
      · simp only [h2, if_false]
        refine ev_succ ?_
        simp only [impl_IsName.j0]
        by_cases h3 : bt s 0 > 122
        · simp only [h3, decide_true, if_true]
          exact ev_to (ev_now _) (by simp; omega)
        · simp only [h3, decide_false, Bool.false_eq_true, if_false]
          refine ev_to (impl_IsName_loop s h1) ?_
          simp [show 1 ≤ s.size by omega, h1, show 97 ≤ bt s 0 by omega, show bt s 0 ≤ 122 by omega]
    · have e1 : ((s.size : Int) > 12) := by omega
      simp only [e1, if_true]
      refine ev_succ ?_
      simp only [impl_IsName.j0, if_true]
      exact ev_to (ev_now _) (by simp [h1])

theorem spec_l00In_eq (a b c : Int) : spec_l00In.f a b c = some (decide (b ≤ a ∧ a ≤ c)) := by
  unfold spec_l00In.f
  by_cases h : a ≥ b
  · rw [if_pos h]; congr 1; simp; omega
  · rw [if_neg h]; congr 1; simp; omega

theorem impl_within_eq (a b c : Int) : impl_within.f a b c = some (decide (b ≤ a ∧ a ≤ c)) := by
  unfold impl_within.f
  by_cases h : a ≥ b
  · rw [if_pos h]; congr 1; simp; omega
  · rw [if_neg h]; congr 1; simp; omega

theorem spec_l02One_ev (s : ByteArray) (a b c : Int) : Ev (fun k => spec_l02One.f k s a b c) (ropeB s a b c, s, a, b, c) := by
  simp only [spec_l02One.f, spec_l00In_eq, Option.bind_some]
  refine Ev.bind (spec_IsName_ev s) ?_
  unfold ropeB
  cases isNameB s
  · exact ev_now _
  · by_cases h1 : 1 ≤ a ∧ a ≤ 1000
    · by_cases h2 : 1 ≤ b ∧ b ≤ 1000000
      · simp only [h1, h2, decide_true, if_true, Bool.true_and, and_self]; exact ev_now _
      · simp only [h1, h2, decide_true, decide_false, if_true, Bool.true_and, Bool.false_and, and_self, Bool.false_eq_true, if_false]; exact ev_now _
    · simp only [h1, decide_false, if_true, Bool.true_and, Bool.false_and, Bool.false_eq_true, if_false]; exact ev_now _
theorem impl_validRope_ev (s : ByteArray) (a b c : Int) : Ev (fun k => impl_validRope.f k s a b c) (ropeB s a b c) := by
  simp only [impl_validRope.f, impl_within_eq, Option.bind_some]
  refine Ev.bind (impl_IsName_ev s) ?_
  unfold ropeB
  cases isNameB s
  · exact ev_now _
  · by_cases h1 : 1 ≤ a ∧ a ≤ 1000
    · by_cases h2 : 1 ≤ b ∧ b ≤ 1000000
      · simp only [h1, h2, decide_true, if_true, Bool.true_and, and_self]; exact ev_now _
      · simp only [h1, h2, decide_true, decide_false, if_true, Bool.true_and, Bool.false_and, and_self, Bool.false_eq_true, if_false]; exact ev_now _
    · simp only [h1, decide_false, if_true, Bool.true_and, Bool.false_and, Bool.false_eq_true, if_false]; exact ev_now _

def rB (x : S27) : Bool := ropeB x.f0 x.f1 x.f2 x.f3
theorem spec_l02OneAt_ev (x : S27) : Ev (fun k => spec_l02OneAt.f k [x]) (rB x) := by
  have e0 : rd_T27 [x] 0 = x := rfl
  have l0 : (0 : Int) < (([x] : List S27).length : Int) := by simp
  simp only [spec_l02OneAt.f, spec_l00In_eq, Option.bind_some, e0, l0, if_true]
  refine Ev.bind (spec_IsName_ev _) ?_
  unfold rB ropeB
  cases isNameB x.f0
  · exact ev_now _
  · by_cases h1 : 1 ≤ x.f1 ∧ x.f1 ≤ 1000
    · by_cases h2 : 1 ≤ x.f2 ∧ x.f2 ≤ 1000000
      · simp only [h1, h2, decide_true, if_true, Bool.true_and, and_self]; exact ev_now _
      · simp only [h1, h2, decide_true, decide_false, if_true, Bool.true_and, Bool.false_and, and_self, Bool.false_eq_true, if_false]; exact ev_now _
    · simp only [h1, decide_false, if_true, Bool.true_and, Bool.false_and, Bool.false_eq_true, if_false]; exact ev_now _

def findW (xs : List S27) (s : ByteArray) : Int := match (List.range xs.length).find? (fun n => decide ((xs.getD n z27).f0.toList = s.toList)) with | some n => (n : Int) | none => -1
theorem findW_range (xs : List S27) (s : ByteArray) : -1 ≤ findW xs s ∧ findW xs s < xs.length := by
  unfold findW
  cases h : (List.range xs.length).find? (fun n => decide ((xs.getD n z27).f0.toList = s.toList)) with
  | none => simp only; omega
  | some n => have := List.mem_range.1 (List.mem_of_find?_eq_some h); simp only; omega
theorem spec_l02Find_ev (xs : List S27) (s : ByteArray) (h : xs.length ≤ 1048576) : Ev (fun k => spec_l02Find.f k xs s) (findW xs s) := by
  simp only [spec_l02Find.f]
  refine ev_find (len := xs.length) (g := fun k i => spec_l02Find.l0 k xs s i) (fun n => decide ((xs.getD n z27).f0.toList = s.toList)) (fun n => (n : Int)) (-1) ?_ ?_ ?_
  · intro n hn hp r hr
    refine ev_succ ?_
    simp only [decide_eq_false_iff_not] at hp
    simp only [spec_l02Find.l0, Int.ofNat_lt.2 hn, show (0 : Int) ≤ (n : Int) from Int.natCast_nonneg _, if_true, rd_T27, Int.toNat_natCast, hp, if_false, wnext hn (by omega : xs.length ≤ 9223372036854775807)]
    exact hr
  · intro n hn hp
    refine ev_succ ?_
    simp only [decide_eq_true_eq] at hp
    simp only [spec_l02Find.l0, Int.ofNat_lt.2 hn, show (0 : Int) ≤ (n : Int) from Int.natCast_nonneg _, if_true, rd_T27, Int.toNat_natCast, hp]
    exact ev_now _
  · refine ev_succ ?_
    simp only [spec_l02Find.l0, Int.lt_irrefl, if_false]
    exact ev_now _
theorem impl_ropeNamed_ev (xs : List S27) (s : ByteArray) (h : xs.length ≤ 1048576) : Ev (fun k => impl_ropeNamed.f k xs s) (findW xs s) := by
  simp only [impl_ropeNamed.f]
  refine ev_find (len := xs.length) (g := fun k i => impl_ropeNamed.l0 k s xs (xs.length : Int) i) (fun n => decide ((xs.getD n z27).f0.toList = s.toList)) (fun n => (n : Int)) (-1) ?_ ?_ ?_
  · intro n hn hp r hr
    refine ev_succ ?_
    simp only [decide_eq_false_iff_not] at hp
    simp only [impl_ropeNamed.l0, Int.ofNat_lt.2 hn, show (0 : Int) ≤ (n : Int) from Int.natCast_nonneg _, if_true, rd_T27, Int.toNat_natCast, hp, if_false, wnext hn (by omega : xs.length ≤ 9223372036854775807)]
    exact hr
  · intro n hn hp
    refine ev_succ ?_
    simp only [decide_eq_true_eq] at hp
    simp only [impl_ropeNamed.l0, Int.ofNat_lt.2 hn, show (0 : Int) ≤ (n : Int) from Int.natCast_nonneg _, if_true, rd_T27, Int.toNat_natCast, hp]
    exact ev_now _
  · refine ev_succ ?_
    simp only [impl_ropeNamed.l0, Int.lt_irrefl, if_false]
    exact ev_now _
def ropesP (xs : List S27) (n : Nat) : Bool := rB (xs.getD n z27) && decide (findW (xs.take n) (xs.getD n z27).f0 < 0)
def ropesB (xs : List S27) : Bool := (List.range xs.length).all (ropesP xs) && decide (xs.length ≤ 30)
theorem spec_l02Ok_ev (xs : List S27) (h : xs.length ≤ 1048576) : Ev (fun k => spec_l02Ok.f k xs) (ropesB xs) := by
  simp only [spec_l02Ok.f]
  refine ev_all (len := xs.length) (g := fun k i => spec_l02Ok.l0 k xs i) (ropesP xs) (decide (xs.length ≤ 30)) ?_ ?_ ?_
  · intro n hn hp r hr
    unfold ropesP at hp
    simp only [Bool.and_eq_true, decide_eq_true_eq] at hp
    refine ev_succ ?_
    simp only [spec_l02Ok.l0, Int.ofNat_lt.2 hn, show (0 : Int) ≤ (n : Int) from Int.natCast_nonneg _, if_true, rd_T27, Int.toNat_natCast, show (n : Int) ≤ (xs.length : Int) by omega, wnext hn (by omega : xs.length ≤ 9223372036854775807)]
    refine Ev.bind (spec_l02OneAt_ev _) ?_
    simp only [hp.1, if_true]
    refine Ev.bind (spec_l02Find_ev _ _ (by simp; omega)) ?_
    simp only [show ¬ findW (xs.take n) (xs.getD n z27).f0 ≥ 0 by omega, if_false]
    exact hr
  · intro n hn hp
    unfold ropesP at hp
    refine ev_succ ?_
    simp only [spec_l02Ok.l0, Int.ofNat_lt.2 hn, show (0 : Int) ≤ (n : Int) from Int.natCast_nonneg _, if_true, rd_T27, Int.toNat_natCast, show (n : Int) ≤ (xs.length : Int) by omega]
    refine Ev.bind (spec_l02OneAt_ev _) ?_
    cases h1 : rB (xs.getD n z27)
    · simp only [Bool.false_eq_true, if_false]; exact ev_now _
    · simp only [h1, Bool.true_and, decide_eq_false_iff_not] at hp
      simp only [if_true]
      refine Ev.bind (spec_l02Find_ev _ _ (by simp; omega)) ?_
      simp only [show findW (xs.take n) (xs.getD n z27).f0 ≥ 0 by omega, if_true]
      exact ev_now _
  · refine ev_succ ?_
    simp only [spec_l02Ok.l0, Int.lt_irrefl, if_false]
    exact ev_to (ev_now _) (by congr 1; simp; omega)
theorem impl_ValidRopes_ev (xs : List S27) (h : xs.length ≤ 1048576) : Ev (fun k => impl_ValidRopes.f k xs) (ropesB xs) := by
  simp only [impl_ValidRopes.f]
  by_cases hb : (xs.length : Int) > 30
  · simp only [hb, if_true]
    exact ev_to (ev_now _) (by unfold ropesB; rw [show decide (xs.length ≤ 30) = false by simp; omega, Bool.and_false])
  simp only [hb, if_false]
  refine ev_to (ev_all (len := xs.length) (g := fun k i => impl_ValidRopes.l0 k xs xs (xs.length : Int) i) (ropesP xs) true ?_ ?_ ?_) (by unfold ropesB; rw [show decide (xs.length ≤ 30) = true by simp; omega])
  · intro n hn hp r hr
    unfold ropesP at hp
    simp only [Bool.and_eq_true, decide_eq_true_eq] at hp
    refine ev_succ ?_
    simp only [impl_ValidRopes.l0, Int.ofNat_lt.2 hn, show (0 : Int) ≤ (n : Int) from Int.natCast_nonneg _, if_true, rd_T27, Int.toNat_natCast, show (n : Int) ≤ (xs.length : Int) by omega, wnext hn (by omega : xs.length ≤ 9223372036854775807)]
    refine Ev.bind (impl_validRope_ev _ _ _ _) ?_
    rw [show ropeB _ _ _ _ = true from hp.1]
    simp only [if_true]
    refine Ev.bind (impl_ropeNamed_ev _ _ (by simp; omega)) ?_
    simp only [show ¬ findW (xs.take n) (xs.getD n z27).f0 ≥ 0 by omega, if_false]
    exact hr
  · intro n hn hp
    unfold ropesP at hp
    refine ev_succ ?_
    simp only [impl_ValidRopes.l0, Int.ofNat_lt.2 hn, show (0 : Int) ≤ (n : Int) from Int.natCast_nonneg _, if_true, rd_T27, Int.toNat_natCast, show (n : Int) ≤ (xs.length : Int) by omega]
    refine Ev.bind (impl_validRope_ev _ _ _ _) ?_
    cases h1 : rB (xs.getD n z27)
    · rw [show ropeB _ _ _ _ = false from h1]; simp only [Bool.false_eq_true, if_false]; exact ev_now _
    · rw [show ropeB _ _ _ _ = true from h1]
      simp only [h1, Bool.true_and, decide_eq_false_iff_not] at hp
      simp only [if_true]
      refine Ev.bind (impl_ropeNamed_ev _ _ (by simp; omega)) ?_
      simp only [show findW (xs.take n) (xs.getD n z27).f0 ≥ 0 by omega, if_true]
      exact ev_now _
  · refine ev_succ ?_
    simp only [impl_ValidRopes.l0, Int.lt_irrefl, if_false]
    exact ev_now _

theorem laws_szRopeS_ev (xs : List S23) (hl : xs.length ≤ 9223372036854775807) (hs : ∀ x ∈ xs, x.f0.size ≤ 140737488351232) (m : Int := 1048576) (hm0 : 0 ≤ m := by omega) (hm : m ≤ 1048576 := by omega) :
    ∃ r, Ev (fun k => laws_szRopeS.f k xs m) r ∧ (r < 0 ∨ (0 ≤ r ∧ r ≤ 1048576 ∧ xs.length ≤ 1048576)) := by
  simp only [laws_szRopeS.f]
  by_cases h : wrap64 (m - (xs.length : Int)) < 0
  · simp only [h, if_true]; exact ⟨-1, ev_now _, .inl (by decide)⟩
  have hl' : xs.length ≤ 1048576 := by unfold wrap64 at h; omega
  have hl2 : (xs.length : Int) ≤ m := by unfold wrap64 at h; omega
  simp only [h, if_false]
  rw [w64 (by omega) (by omega)]
  refine ev_loop (len := xs.length) (g := fun k s i => laws_szRopeS.l0 k xs s i) (fun n s => 0 ≤ s ∧ s ≤ 1048576) (fun r => r < 0 ∨ (0 ≤ r ∧ r ≤ 1048576 ∧ xs.length ≤ 1048576)) ?_ ?_ _ (by omega)
  · intro n s hn ⟨h1, h2⟩
    have hsz : (xs.getD n z23).f0.size ≤ 140737488351232 := by rw [getD_lt xs _ hn]; exact hs _ (List.getElem_mem hn)
    by_cases c : wrap64 (s - ((xs.getD n z23).f0.size : Int)) < 0
    · refine .inl ⟨-1, ev_succ ?_, .inl (by decide)⟩
      simp only [laws_szRopeS.l0, laws_szRope.f, Int.ofNat_lt.2 hn, show (0 : Int) ≤ (n : Int) from Int.natCast_nonneg _, if_true, rd_T23, Int.toNat_natCast, c, Option.bind_some, show (-1 : Int) < 0 by decide]
      exact ev_now _
    · refine .inr ⟨wrap64 (s - ((xs.getD n z23).f0.size : Int)), ?_, fun r hr => ev_succ ?_⟩
      · rw [w64 (by omega) (by omega)] at *; omega
      · simp only [laws_szRopeS.l0, laws_szRope.f, Int.ofNat_lt.2 hn, show (0 : Int) ≤ (n : Int) from Int.natCast_nonneg _, if_true, rd_T23, Int.toNat_natCast, c, if_false, Option.bind_some, wnext hn (by omega : xs.length ≤ 9223372036854775807)]
        exact hr
  · intro s ⟨h1, h2⟩
    refine ⟨s, ev_succ ?_, .inr ⟨h1, h2, hl'⟩⟩
    simp only [laws_szRopeS.l0, Int.lt_irrefl, if_false]
    exact ev_now _

def conv_Rope (x : S23) : S27 := ⟨x.f0, x.f1, x.f2, x.f3⟩
theorem laws_toRopeS_ev (xs : List S23) (h : xs.length ≤ 1048576) : Ev (fun k => laws_toRopeS.f k xs) (xs.map conv_Rope) := by
  simp only [laws_toRopeS.f, Int.toNat_natCast, show (0 : Int) ≤ (xs.length : Int) from Int.natCast_nonneg _, if_true]
  rw [if_pos_ev (by omega)]
  have e : List.replicate xs.length z27 = (xs.take 0).map conv_Rope ++ List.replicate (xs.length - 0) z27 := by simp
  have e2 : xs.map conv_Rope = (xs.take xs.length).map conv_Rope ++ List.replicate (xs.length - xs.length) z27 := by simp
  rw [e, e2]
  refine ev_fold (len := xs.length) (g := fun k s i => laws_toRopeS.l0 k xs s i) (fun n s => s.set n (conv_Rope (xs.getD n z23))) (fun n => (xs.take n).map conv_Rope ++ List.replicate (xs.length - n) z27) _ ?_ ?_ ?_
  · intro n hn; exact (fill_step xs conv_Rope _ _ hn).symm
  · intro n hn r hr
    refine ev_succ ?_
    have l1 : (n : Int) < (((xs.take n).map conv_Rope ++ List.replicate (xs.length - n) z27).length : Int) := by simp; omega
    simp only [laws_toRopeS.l0, laws_toRope.f, Option.bind_some, Int.ofNat_lt.2 hn, show (0 : Int) ≤ (n : Int) from Int.natCast_nonneg _, if_true, l1, wnext hn (by omega : xs.length ≤ 9223372036854775807), rd_T23, Int.toNat_natCast]
    exact hr
  · refine ev_succ ?_
    simp only [laws_toRopeS.l0, Int.lt_irrefl, if_false]
    exact ev_now _

theorem laws_eqRopeS_self (xs : List S27) (h : xs.length ≤ 9223372036854775807) : Ev (fun k => laws_eqRopeS.f k xs xs) true := by
  simp only [laws_eqRopeS.f, if_true]
  refine ev_to (ev_all (len := xs.length) (g := fun k i => laws_eqRopeS.l0 k xs xs i) (fun _ => true) true ?_ (fun n hn hp => by simp at hp) ?_) (by simp)
  · intro n hn hp r hr
    refine ev_succ ?_
    simp only [laws_eqRopeS.l0, laws_eqRope.f, Option.bind_some, Int.ofNat_lt.2 hn, show (0 : Int) ≤ (n : Int) from Int.natCast_nonneg _, if_true, bne_self_eq_false, Bool.false_eq_true, if_false, wnext hn h]
    exact hr
  · refine ev_succ ?_
    simp only [laws_eqRopeS.l0, Int.lt_irrefl, if_false]
    exact ev_now _

theorem markText_l0 (n : Nat) : ∀ (a : Int) (s : ByteArray), a < 10 ^ n → s.size + n + 1 ≤ 9223372036854775807 → a ≤ 9223372036854775807 → ∃ r, Ev (fun k => laws_markText.l0 k a s) r := by
  induction n with
  | zero =>
    intro a s h1 h2 h3
    refine ⟨(⟨#[109]⟩ : ByteArray) ++ s, ev_succ ?_⟩
    simp only [laws_markText.l0, show ¬ a > 0 by simp at h1; omega, if_false, show 1 + s.size ≤ 9223372036854775807 by omega, if_true]
    exact ev_now _
  | succ n ih =>
    intro a s h1 h2 h3
    by_cases c : a > 0
    · have ht : Int.tdiv a 10 < 10 ^ n := by rw [Int.tdiv_eq_ediv_of_nonneg (by omega), Int.pow_succ] at *; omega
      have hb : 0 ≤ Int.tdiv a 10 ∧ Int.tdiv a 10 ≤ a := by rw [Int.tdiv_eq_ediv_of_nonneg (by omega)]; omega
      have hz : ∀ x, (strOfNums [x]).size = 1 := fun _ => rfl
      have hs : (strOfNums [wrap64 (48 + Int.tmod a 10) % 256] ++ s).size = 1 + s.size := by rw [ByteArray.size_append, hz]
      obtain ⟨r, hr⟩ := ih (Int.tdiv a 10) (strOfNums [wrap64 (48 + Int.tmod a 10) % 256] ++ s) ht (by omega) (by omega)
      refine ⟨r, ev_succ ?_⟩
      simp only [laws_markText.l0, c, if_true, Option.bind_some, hz, show 1 + s.size ≤ 9223372036854775807 by omega, w64 (show -9223372036854775808 ≤ Int.tdiv a 10 by omega) (show Int.tdiv a 10 ≤ 9223372036854775807 by omega)]
      exact hr
    · refine ⟨(⟨#[109]⟩ : ByteArray) ++ s, ev_succ ?_⟩
      simp only [laws_markText.l0, c, if_false, show 1 + s.size ≤ 9223372036854775807 by omega, if_true]
      exact ev_now _
theorem markText_ex (a : Int) : ∃ r, a ≤ 9223372036854775807 → Ev (fun k => laws_markText.f k a) r := by
  by_cases h : a ≤ 9223372036854775807
  · by_cases c : a ≤ 0
    · exact ⟨_, fun _ => by simp only [laws_markText.f, c, if_true]; exact ev_now _⟩
    · obtain ⟨r, hr⟩ := markText_l0 19 a ⟨#[]⟩ (by omega) (by simp [ByteArray.size]) h
      exact ⟨r, fun _ => by simp only [laws_markText.f, c, if_false]; exact hr⟩
  · exact ⟨⟨#[]⟩, fun q => absurd q h⟩
noncomputable def mkT (a : Int) : ByteArray := Classical.choose (markText_ex a)
theorem laws_markText_ev (a : Int) (h : a ≤ 9223372036854775807) : Ev (fun k => laws_markText.f k a) (mkT a) := Classical.choose_spec (markText_ex a) h

noncomputable def mkERope (m : Int) : S27 := ⟨mkT (m), m + 1, m + 1 + 1, m + 1 + 1 + 1⟩
def MarkedRope (xs : List S27) (n : Nat) : Prop := ∀ i, i < n → xs.getD i z27 = mkERope (1 + 4 * (i : Int))
theorem laws_markRopeS_ev (xs : List S27) (h : xs.length ≤ 2097152) : ∃ r, Ev (fun k => laws_markRopeS.f k xs 1) r ∧ r.1 = 1 + 4 * (xs.length : Int) ∧ r.2.length = xs.length ∧ MarkedRope r.2 xs.length := by
  simp only [laws_markRopeS.f]
  refine ev_loop (len := xs.length) (g := fun k (s : List S27 × Int) i => laws_markRopeS.l0 k s.1 s.2 i) (fun n s => s.1.length = xs.length ∧ s.2 = 1 + 4 * (n : Int) ∧ MarkedRope s.1 n) (fun r => r.1 = 1 + 4 * (xs.length : Int) ∧ r.2.length = xs.length ∧ MarkedRope r.2 xs.length) ?_ ?_ (xs, 1) ⟨rfl, by simp, fun i hi => absurd hi (by omega)⟩
  · rintro n ⟨l, q⟩ hn ⟨h1, h2, h3⟩
    simp only at h1 h2 h3
    subst h2
    have e0 : wrap64 ((1 + 4 * (n : Int)) + 1) = (1 + 4 * (n : Int)) + 1 := w64 (by omega) (by omega)
    have e1 : wrap64 ((1 + 4 * (n : Int)) + 1 + 1) = (1 + 4 * (n : Int)) + 1 + 1 := w64 (by omega) (by omega)
    have e2 : wrap64 ((1 + 4 * (n : Int)) + 1 + 1 + 1) = (1 + 4 * (n : Int)) + 1 + 1 + 1 := w64 (by omega) (by omega)
    have e3 : wrap64 ((1 + 4 * (n : Int)) + 1 + 1 + 1 + 1) = (1 + 4 * (n : Int)) + 1 + 1 + 1 + 1 := w64 (by omega) (by omega)
    have h0 : n < l.length := by omega
    have l1 : (n : Int) < (l.length : Int) := by omega
    refine .inr ⟨(l.set n (mkERope (1 + 4 * (n : Int))), 1 + 4 * ((n + 1 : Nat) : Int)), ⟨by simp [h1], rfl, ?cell⟩, fun r hr => ?go⟩
    case go =>
      refine ev_succ ?_
      have ee : 1 + 4 * ((n + 1 : Nat) : Int) = 1 + 4 * (n : Int) + 1 + 1 + 1 + 1 := by omega
      rw [ee] at hr
      simp only [laws_markRopeS.l0, l1, if_true, show (0 : Int) ≤ (n : Int) from Int.natCast_nonneg _]
      refine Ev.bind (laws_markText_ev _ (by omega)) ?_
      simp only [if_true, lset_self h0, List.set_set, List.length_set, l1, Option.bind_some, Int.toNat_natCast, rd_T27, e0, e1, e2, e3, wnext hn (by omega : xs.length ≤ 9223372036854775807), show (0 : Int) ≤ (n : Int) from Int.natCast_nonneg _]
      exact hr
    case cell =>
      intro i hi
      by_cases hin : i = n
      · subst hin; exact lset_self h0
      · show (l.set n _).getD i _ = _
        rw [lset_ne (by omega)]; exact h3 i (by omega)
  · rintro ⟨l, q⟩ ⟨h1, h2, h3⟩
    simp only at h1 h2 h3
    subst h2
    refine ⟨(1 + 4 * (xs.length : Int), l), ev_succ ?_, rfl, h1, h3⟩
    simp only [laws_markRopeS.l0, h1, Int.lt_irrefl, if_false]
    exact ev_now _

theorem laws_markInt64S_ev (xs : List Int) (h : xs.length ≤ 1048576) : Ev (fun k => laws_markInt64S.f k xs 1) (1 + (xs.length : Int), upI 1 xs.length) := by
  simp only [laws_markInt64S.f]
  have := ev_fold (len := xs.length) (g := fun k (s : List Int × Int) i => laws_markInt64S.l0 k s.1 s.2 i) (fun n s => (s.1.set n s.2, s.2 + 1)) (fun n => (upI 1 n ++ xs.drop n, 1 + (n : Int))) (1 + (xs.length : Int), upI 1 xs.length)
    (fun n hn => by
      rw [Prod.mk.injEq]
      exact ⟨(fill_up xs 1 hn).symm, by omega⟩)
    (fun n hn r hr => by
      refine ev_succ ?_
      have l1 : (n : Int) < ((upI 1 n ++ xs.drop n).length : Int) := by simp [upI_length]; omega
      have e1 : wrap64 (1 + (n : Int) + 1) = 1 + (n : Int) + 1 := w64 (by omega) (by omega)
      simp only [laws_markInt64S.l0, l1, show (0 : Int) ≤ (n : Int) from Int.natCast_nonneg _, if_true, e1, Int.toNat_natCast, wnext hn (by omega : xs.length ≤ 9223372036854775807)]
      exact hr)
    (by
      refine ev_succ ?_
      have l1 : ¬ ((xs.length : Int) < ((upI 1 xs.length ++ xs.drop xs.length).length : Int)) := by simp [upI_length]
      simp only [laws_markInt64S.l0, l1, if_false]
      exact ev_to (ev_now _) (by simp))
  simpa [upI] using this
theorem laws_heldInt64S_ev (n : Nat) (h : n ≤ 1048576) : Ev (fun k => laws_heldInt64S.f k (upI 1 n) 1) (1 + (n : Int)) := by
  simp only [laws_heldInt64S.f]
  have := ev_fold (len := n) (g := fun k (s : Int) i => laws_heldInt64S.l0 k (upI 1 n) s i) (fun _ s => s + 1) (fun i => 1 + (i : Int)) (1 + (n : Int))
    (fun i hi => by omega)
    (fun i hi r hr => by
      refine ev_succ ?_
      have l1 : (i : Int) < ((upI 1 n).length : Int) := by rw [upI_length]; omega
      have e1 : wrap64 (1 + (i : Int) + 1) = 1 + (i : Int) + 1 := w64 (by omega) (by omega)
      have e2 : rd (upI 1 n) (i : Int) = 1 + (i : Int) := by unfold rd; rw [Int.toNat_natCast]; exact upI_get 1 hi
      simp only [laws_heldInt64S.l0, l1, show (0 : Int) ≤ (i : Int) from Int.natCast_nonneg _, if_true, e1, e2, wnext hi (by omega : n ≤ 9223372036854775807)]
      exact hr)
    (by
      refine ev_succ ?_
      have l1 : ¬ ((n : Int) < ((upI 1 n).length : Int)) := by simp [upI_length]
      simp only [laws_heldInt64S.l0, l1, if_false]
      exact ev_now _)
  simpa using this

theorem laws_eqInt64S_self (xs : List Int) (h : xs.length ≤ 9223372036854775807) : Ev (fun k => laws_eqInt64S.f k xs xs) true := by
  simp only [laws_eqInt64S.f, if_true]
  refine ev_to (ev_all (len := xs.length) (g := fun k i => laws_eqInt64S.l0 k xs xs i) (fun _ => true) true ?_ (fun n hn hp => by simp at hp) ?_) (by simp)
  · intro n hn hp r hr
    refine ev_succ ?_
    simp only [laws_eqInt64S.l0, Int.ofNat_lt.2 hn, show (0 : Int) ≤ (n : Int) from Int.natCast_nonneg _, if_true, wnext hn h]
    exact hr
  · refine ev_succ ?_
    simp only [laws_eqInt64S.l0, Int.lt_irrefl, if_false]
    exact ev_now _

def beatB (a1 a2 a3 b1 b2 b3 : Int) : Bool := decide (b2 ≤ a2) && (decide (a3 ≤ b3) && (decide (a1 ≤ b1) && !(decide (a2 = b2) && (decide (a3 = b3) && decide (a1 = b1)))))
def beatR (x y : S27) : Bool := beatB x.f1 x.f2 x.f3 y.f1 y.f2 y.f3
theorem beat_ite {α : Type} (a1 a2 a3 b1 b2 b3 : Int) (A B : α) :
    (if a2 = b2 then (if a3 = b3 then (if a2 ≥ b2 then (if a3 ≤ b3 then (if a1 ≤ b1 then (if a1 = b1 then B else A) else B) else B) else B)
      else (if a2 ≥ b2 then (if a3 ≤ b3 then (if a1 ≤ b1 then A else B) else B) else B))
     else (if a2 ≥ b2 then (if a3 ≤ b3 then (if a1 ≤ b1 then A else B) else B) else B)) = if beatB a1 a2 a3 b1 b2 b3 = true then A else B := by
  unfold beatB
  by_cases h1 : a2 = b2 <;> by_cases h2 : a3 = b3 <;> by_cases h3 : b2 ≤ a2 <;> by_cases h4 : a3 ≤ b3 <;> by_cases h5 : a1 ≤ b1 <;> by_cases h6 : a1 = b1 <;> simp [h1, h2, h3, h4, h5, h6]
theorem spec_l02BeatsAt_eq (x y : S27) : spec_l02BeatsAt.f [x] [y] = some (beatR x y) := by
  have e0 : ∀ z : S27, rd_T27 [z] 0 = z := fun _ => rfl
  have l0 : ∀ z : S27, (0 : Int) < (([z] : List S27).length : Int) := fun _ => by simp
  simp only [spec_l02BeatsAt.f, e0, l0, if_true]
  unfold beatR beatB
  by_cases h3 : x.f2 < y.f2
  · simp only [h3, if_true, show ¬ y.f2 ≤ x.f2 by omega, decide_false, Bool.false_and]
  by_cases h4 : x.f3 > y.f3
  · simp only [h3, h4, if_true, if_false, show ¬ x.f3 ≤ y.f3 by omega, decide_false, Bool.false_and, Bool.and_false]
  by_cases h5 : x.f1 > y.f1
  · simp only [h3, h4, h5, if_true, if_false, show ¬ x.f1 ≤ y.f1 by omega, decide_false, Bool.false_and, Bool.and_false]
  simp only [h3, h4, h5, if_false, show y.f2 ≤ x.f2 by omega, show x.f3 ≤ y.f3 by omega, show x.f1 ≤ y.f1 by omega, decide_true, Bool.true_and]
  by_cases h1 : x.f2 = y.f2 <;> by_cases h2 : x.f3 = y.f3 <;> by_cases h6 : x.f1 = y.f1 <;> simp [h1, h2, h6]
def beatenP (xs : List S27) (n : Nat) : Bool := (List.range xs.length).any fun j => beatR (xs.getD j z27) (xs.getD n z27)
def beatenUp (xs : List S27) (n : Nat) : List Int := ((List.range n).filter (beatenP xs)).map fun (i : Nat) => (i : Int)
theorem beatenUp_succ (xs : List S27) (n : Nat) : beatenUp xs (n + 1) = if beatenP xs n = true then beatenUp xs n ++ [(n : Int)] else beatenUp xs n := by
  unfold beatenUp
  rw [List.range_succ, List.filter_append, List.map_append]
  cases h : beatenP xs n <;> simp [h]
theorem beatenUp_len (xs : List S27) (n : Nat) : (beatenUp xs n).length ≤ n := by
  unfold beatenUp
  rw [List.length_map]
  exact Nat.le_trans (List.length_filter_le _ _) (by simp)
theorem spec_beaten_round (xs : List S27) (h : xs.length ≤ 1048576) (s : List Int) (hs : s.length ≤ 1048576) (n : Nat) (hn : n < xs.length) (r : List Int × Int)
    (hr : Ev (fun k => spec_BeatenRopes.l0 k xs (if beatenP xs n = true then s ++ [(n : Int)] else s) ((n + 1 : Nat) : Int)) r) : Ev (fun k => spec_BeatenRopes.l1 k xs s (n : Int) false 0) r := by
  refine ev_fold (len := xs.length) (g := fun k b j => spec_BeatenRopes.l1 k xs s (n : Int) b j) (fun j b => b || beatR (xs.getD j z27) (xs.getD n z27)) (fun j => (List.range j).any fun i => beatR (xs.getD i z27) (xs.getD n z27)) r ?_ ?_ ?_
  · intro j hj
    rw [List.range_succ, List.any_append]; simp
  · intro j hj r' hr'
    refine ev_succ ?_
    cases hb : (List.range j).any fun i => beatR (xs.getD i z27) (xs.getD n z27)
    · rw [hb] at hr'
      simp only [spec_BeatenRopes.l1, Int.ofNat_lt.2 hj, Int.ofNat_lt.2 hn, show (0 : Int) ≤ (j : Int) from Int.natCast_nonneg _, show (0 : Int) ≤ (n : Int) from Int.natCast_nonneg _, if_true, Bool.false_eq_true, if_false, spec_l02BeatsAt_eq, Option.bind_some, rd_T27, Int.toNat_natCast, wnext hj (by omega : xs.length ≤ 9223372036854775807)]
      exact hr'
    · rw [hb] at hr'
      simp only [spec_BeatenRopes.l1, Int.ofNat_lt.2 hj, if_true, wnext hj (by omega : xs.length ≤ 9223372036854775807)]
      exact hr'
  · refine ev_succ ?_
    have e : ((List.range xs.length).any fun i => beatR (xs.getD i z27) (xs.getD n z27)) = beatenP xs n := rfl
    rw [e]
    cases hb : beatenP xs n
    · rw [hb] at hr
      simp only [spec_BeatenRopes.l1, Int.lt_irrefl, if_false, Bool.false_eq_true, wnext hn (by omega : xs.length ≤ 9223372036854775807)] at hr ⊢
      exact hr
    · rw [hb] at hr
      simp only [spec_BeatenRopes.l1, Int.lt_irrefl, if_false, if_true, show s.length < 17592186044416 by omega, wnext hn (by omega : xs.length ≤ 9223372036854775807)] at hr ⊢
      exact hr
theorem impl_beaten_round (xs : List S27) (h : xs.length ≤ 1048576) (s : List Int) (hs : s.length ≤ 1048576) (n : Nat) (hn : n < xs.length) (r : List Int × Int)
    (hr : Ev (fun k => impl_BeatenRopes.l0 k xs (if beatenP xs n = true then s ++ [(n : Int)] else s) xs (xs.length : Int) ((n + 1 : Nat) : Int)) r) :
    Ev (fun k => impl_BeatenRopes.l1 k xs s (n : Int) xs (xs.length : Int) (n : Int) xs (xs.length : Int) 0 (xs.getD n z27).f0 (xs.getD n z27).f1 (xs.getD n z27).f2 (xs.getD n z27).f3) r := by
  have hP : beatenP xs n = (List.range xs.length).any fun i => beatR (xs.getD i z27) (xs.getD n z27) := rfl
  suffices key : ∃ r', Ev (fun k => impl_BeatenRopes.l1 k xs s (n : Int) xs (xs.length : Int) (n : Int) xs (xs.length : Int) 0 (xs.getD n z27).f0 (xs.getD n z27).f1 (xs.getD n z27).f2 (xs.getD n z27).f3) r' ∧ r' = r by obtain ⟨r', hr', e⟩ := key; exact e ▸ hr'
  refine ev_loop (len := xs.length) (g := fun k (_ : Unit) j => impl_BeatenRopes.l1 k xs s (n : Int) xs (xs.length : Int) (n : Int) xs (xs.length : Int) j (xs.getD n z27).f0 (xs.getD n z27).f1 (xs.getD n z27).f2 (xs.getD n z27).f3)
    (fun j _ => ((List.range j).any fun i => beatR (xs.getD i z27) (xs.getD n z27)) = false) (fun r' => r' = r) ?_ ?_ () rfl
  · intro j _ hj hi
    cases hb : beatR (xs.getD j z27) (xs.getD n z27) with
    | false =>
      refine .inr ⟨(), by rw [List.range_succ, List.any_append, hi, List.any_cons, List.any_nil, hb]; rfl, fun r' hr' => ev_succ ?_⟩
      have hp' : beatB (xs.getD j z27).f1 (xs.getD j z27).f2 (xs.getD j z27).f3 (xs.getD n z27).f1 (xs.getD n z27).f2 (xs.getD n z27).f3 = false := hb
      simp only [impl_BeatenRopes.l1, Int.ofNat_lt.2 hj, show (0 : Int) ≤ (j : Int) from Int.natCast_nonneg _, if_true, rd_T27, Int.toNat_natCast, wnext hj (by omega : xs.length ≤ 9223372036854775807), beat_ite, hp', Bool.false_eq_true, if_false]
      exact hr'
    | true =>
      refine .inl ⟨r, ev_succ ?_, rfl⟩
      have hp' : beatB (xs.getD j z27).f1 (xs.getD j z27).f2 (xs.getD j z27).f3 (xs.getD n z27).f1 (xs.getD n z27).f2 (xs.getD n z27).f3 = true := hb
      have : beatenP xs n = true := by rw [hP, List.any_eq_true]; exact ⟨j, List.mem_range.2 hj, hb⟩
      rw [this] at hr
      simp only [if_true] at hr
      simp only [impl_BeatenRopes.l1, Int.ofNat_lt.2 hj, show (0 : Int) ≤ (j : Int) from Int.natCast_nonneg _, if_true, rd_T27, Int.toNat_natCast, beat_ite, hp', show s.length < 17592186044416 by omega, wnext hn (by omega : xs.length ≤ 9223372036854775807)]
      exact hr
  · intro _ hi
    rw [← hP] at hi
    rw [hi] at hr
    simp only [Bool.false_eq_true, if_false] at hr
    refine ⟨r, ev_succ ?_, rfl⟩
    simp only [impl_BeatenRopes.l1, Int.lt_irrefl, if_false, wnext hn (by omega : xs.length ≤ 9223372036854775807)]
    exact hr
def beatenV (xs : List S27) : List Int × Int := if ropesB xs = true then (beatenUp xs xs.length, 0) else ([], 1)
theorem spec_BeatenRopes_ev (xs : List S27) (h : xs.length ≤ 1048576) : Ev (fun k => spec_BeatenRopes.f k xs) (beatenV xs) := by
  simp only [spec_BeatenRopes.f]
  refine Ev.bind (spec_l02Ok_ev xs h) ?_
  unfold beatenV
  by_cases h1 : ropesB xs = true
  · simp only [h1, if_true]
    refine ev_fold (len := xs.length) (g := fun k s i => spec_BeatenRopes.l0 k xs s i) (fun n s => if beatenP xs n = true then s ++ [(n : Int)] else s) (fun n => beatenUp xs n) _ (fun n hn => beatenUp_succ xs n) ?_ ?_
    · intro n hn r hr
      refine ev_succ ?_
      simp only [spec_BeatenRopes.l0, Int.ofNat_lt.2 hn, if_true]
      exact spec_beaten_round xs h _ (by have := beatenUp_len xs n; omega) n hn r hr
    · refine ev_succ ?_
      simp only [spec_BeatenRopes.l0, Int.lt_irrefl, if_false]
      exact ev_now _
  · simp only [h1]; exact ev_now _
theorem impl_BeatenRopes_ev (xs : List S27) (h : xs.length ≤ 1048576) : Ev (fun k => impl_BeatenRopes.f k xs) (beatenV xs) := by
  simp only [impl_BeatenRopes.f]
  refine Ev.bind (impl_ValidRopes_ev xs h) ?_
  unfold beatenV
  by_cases h1 : ropesB xs = true
  · simp only [h1, if_true]
    refine ev_fold (len := xs.length) (g := fun k s i => impl_BeatenRopes.l0 k xs s xs (xs.length : Int) i) (fun n s => if beatenP xs n = true then s ++ [(n : Int)] else s) (fun n => beatenUp xs n) _ (fun n hn => beatenUp_succ xs n) ?_ ?_
    · intro n hn r hr
      refine ev_succ ?_
      simp only [impl_BeatenRopes.l0, Int.ofNat_lt.2 hn, show (0 : Int) ≤ (n : Int) from Int.natCast_nonneg _, if_true, rd_T27, Int.toNat_natCast]
      exact impl_beaten_round xs h _ (by have := beatenUp_len xs n; omega) n hn r hr
    · refine ev_succ ?_
      simp only [impl_BeatenRopes.l0, Int.lt_irrefl, if_false]
      exact ev_now _
  · simp only [h1]; exact ev_now _
theorem beatenV_len (xs : List S27) (h : xs.length ≤ 1048576) : (beatenV xs).1.length ≤ 1048576 := by
  unfold beatenV
  split
  · have := beatenUp_len xs xs.length; simp only; omega
  · simp
theorem FnExactBeatenRopes : laws_FnExactBeatenRopes.Pure := by
  intro xs hx
  refine Ev.rounds ?_
  simp only [laws_FnExactBeatenRopes.f]
  obtain ⟨left, s1, s2⟩ := laws_szRopeS_ev xs (by have := hx.2.1; rw [maxLen_eq] at this; omega) (fun x h => (hx.2.2 x h).1)
  refine Ev.bind s1 ?_
  by_cases h : left < 0
  · simp only [h, if_true]; exact ev_now _
  have hl : xs.length ≤ 1048576 := by omega
  have hm : (xs.map conv_Rope).length ≤ 1048576 := by simpa using hl
  simp only [h, if_false]
  have k1 := spec_BeatenRopes_ev _ hm
  have k2 := impl_BeatenRopes_ev _ hm
  have kl := beatenV_len _ hm
  generalize beatenV (xs.map conv_Rope) = r at k1 k2 kl
  obtain ⟨⟨cnt, ml⟩, m1, m2, m3, m4⟩ := laws_markRopeS_ev (xs.map conv_Rope) (by omega)
  have n1 := laws_markInt64S_ev r.1 kl
  have hh := laws_heldInt64S_ev r.1.length kl
  simp only at m2
  refine Ev.bind (laws_toRopeS_ev xs hl) (Ev.bind k1 (Ev.bind (laws_toRopeS_ev xs hl) (Ev.bind k2 (Ev.bind (laws_eqInt64S_self _ (by omega)) ?_))))
  simp only [if_true, bne_self_eq_false]
  refine ev_succ ?_
  simp only [laws_FnExactBeatenRopes.j0, Bool.false_eq_true, if_false]
  refine Ev.bind (laws_toRopeS_ev xs hl) (Ev.bind (laws_eqRopeS_self _ (by omega)) ?_)
  simp only [if_true]
  refine Ev.bind m1 ?_
  simp only [show ¬ cnt < 0 by omega, if_false]
  refine Ev.bind (laws_eqInt64S_self _ (by omega)) ?_
  simp only [if_true, bne_self_eq_false]
  refine ev_succ ?_
  simp only [laws_FnExactBeatenRopes.j1, Bool.false_eq_true, if_false]
  refine Ev.bind n1 (Ev.bind hh ?_)
  simp only [show ¬ (1 + (r.1.length : Int)) < 0 by omega, if_false, if_true]
  refine Ev.bind (laws_toRopeS_ev xs hl) (Ev.bind k2 (Ev.bind (laws_eqInt64S_self _ (by omega)) ?_))
  simp only [if_true, bne_self_eq_false]
  refine ev_succ ?_
  simp only [laws_FnExactBeatenRopes.j2, Bool.false_eq_true, if_false]
  refine Ev.bind hh ?_
  simp only [show ¬ (1 + (r.1.length : Int)) < 0 by omega, if_false, if_true]
  exact ev_now _

end Go.Proofs.Ytaigofkmcalmfaa.Pure

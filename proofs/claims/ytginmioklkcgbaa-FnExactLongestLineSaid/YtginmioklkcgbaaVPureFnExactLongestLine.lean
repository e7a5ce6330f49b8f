/- The pure statement of FnExactLongestLine: numbers and lists alone. No condition. -/
import Derived.Test.YtginmioklkcgbaaVQFnExactLongestLinex14
import Derived.Test.YtginmioklkcgbaaVAid
namespace Go.Proofs.Ytginmioklkcgbaa.Pure
open Go.RowKit Go.Proofs.Ytginmioklkcgbaa.QFnExactLongestLine Go.Proofs.YtginmioklkcgbaaW.PrintWords Go.Proofs.YtginmioklkcgbaaW.PrintLast Go.Proofs.YtginmioklkcgbaaW.PrintMore Go.Proofs.Ytginmioklkcgbaa.Aid
set_option linter.unusedVariables false
set_option linter.unusedSimpArgs false

theorem spec_l01Small_eq (c : Int) : spec_l01Small.f c = some (decide (97 ≤ c ∧ c ≤ 122)) := by
  unfold spec_l01Small.f
  by_cases h : c ≥ 97
  · rw [if_pos h]; congr 1; simp; omega
  · rw [if_neg h]; congr 1; simp; omega
theorem spec_l01Digit_eq (c : Int) : spec_l01Digit.f c = some (decide (48 ≤ c ∧ c ≤ 57)) := by
  unfold spec_l01Digit.f
  by_cases h : c ≥ 48
  · rw [if_pos h]; congr 1; simp; omega
  · rw [if_neg h]; congr 1; simp; omega
theorem spec_IsName_loop (s : ByteArray) (hs : s.size ≤ 12) : Ev (fun k => spec_IsName.l0 k s 0) ((List.range s.size).all fun i => nameCh (bt s i)) := by
  refine ev_to (ev_all (len := s.size) (g := fun k i => spec_IsName.l0 k s i) (fun i => nameCh (bt s i)) true ?_ ?_ ?_) (by simp)
  · intro n hn hp r hr
    refine ev_succ ?_
    simp only [spec_IsName.l0, spec_l01Small_eq, spec_l01Digit_eq, Option.bind_some]
    simp only [Int.ofNat_lt.2 hn, if_true, show (0 : Int) ≤ (n : Int) from Int.natCast_nonneg n, wnext hn (by omega : s.size ≤ 9223372036854775807)]
    unfold nameCh at hp
    by_cases c1 : 97 ≤ bt s n ∧ bt s n ≤ 122
    · simpa [c1] using hr
    · by_cases c2 : 48 ≤ bt s n ∧ bt s n ≤ 57
      · simpa [c1, c2] using hr
      · by_cases c3 : bt s n = 45
        · simpa [c3] using hr
        · simp [c1, c2, c3] at hp
  · intro n hn hp
    refine ev_succ ?_
    simp only [spec_IsName.l0, spec_l01Small_eq, spec_l01Digit_eq, Option.bind_some]
    unfold nameCh at hp
    simp only [Bool.or_eq_false_iff, decide_eq_false_iff_not] at hp
    simp only [hp.1.1, hp.1.2, hp.2, Int.ofNat_lt.2 hn, show (0 : Int) ≤ (n : Int) from Int.natCast_nonneg n, if_true, if_false, decide_false, Bool.false_eq_true]
    exact ev_now _
  · refine ev_succ ?_
    simp only [spec_IsName.l0, Int.lt_irrefl, if_false]
    exact ev_now _
theorem toList_nil_iff (s : ByteArray) : s.toList = ([] : List UInt8) ↔ s.size = 0 := by
  rw [← List.length_eq_zero_iff, ByteArray.toList_eq, Array.length_toList]
  exact Iff.rfl
theorem spec_IsName_ev (s : ByteArray) : Ev (fun k => spec_IsName.f k s) (isNameB s) := by
  unfold spec_IsName.f isNameB
  by_cases h0 : s.size = 0
  · simp only [(toList_nil_iff s).2 h0, if_true, h0]
    refine ev_succ ?_
    simp only [spec_IsName.j0, if_true]
    exact ev_now _
  · have h0' : ¬ s.toList = ([] : List UInt8) := fun h => h0 ((toList_nil_iff s).1 h)
    simp only [h0', if_false]
    by_cases h1 : s.size ≤ 12
    · have e1 : ¬ ((s.size : Int) > 12) := by omega
      have e2 : (0 : Int) < (s.size : Int) := by omega
      simp only [e1, e2, if_true, if_false, spec_l01Small_eq, Option.bind_some]
      refine ev_succ ?_
      simp only [spec_IsName.j0]
      by_cases h2 : 97 ≤ bt s 0 ∧ bt s 0 ≤ 122
      · simp only [h2, decide_true, Bool.not_true, Bool.false_eq_true, if_false, and_self]
        refine ev_to (spec_IsName_loop s h1) ?_
        simp [show 1 ≤ s.size by omega, h1]
      · simp only [h2, decide_false, Bool.not_false, if_true]
        exact ev_to (ev_now _) (by simp)
    · have e1 : ((s.size : Int) > 12) := by omega
      simp only [e1, if_true]
      refine ev_succ ?_
      simp only [spec_IsName.j0, if_true]
      exact ev_to (ev_now _) (by simp [h1])
theorem impl_IsName_loop (s : ByteArray) (hs : s.size ≤ 12) : Ev (fun k => impl_IsName.l0 k s 0) ((List.range s.size).all fun i => nameCh (bt s i)) := by
  refine ev_to (ev_all (len := s.size) (g := fun k i => impl_IsName.l0 k s i) (fun i => nameCh (bt s i)) true ?_ ?_ ?_) (by simp)
  · intro n hn hp r hr
    refine ev_succ ?_
    simp only [impl_IsName.l0]
    unfold nameCh at hp
    simp only [Bool.or_eq_true, decide_eq_true_eq] at hp
    have e0 : (n : Int) < (s.size : Int) := by omega
    simp only [e0, show (0 : Int) ≤ (n : Int) from Int.natCast_nonneg n, if_true, wnext hn (by omega : s.size ≤ 9223372036854775807)]
    by_cases d1 : bt s n < 97 <;> by_cases d2 : bt s n > 122 <;> by_cases d3 : bt s n < 48 <;> by_cases d4 : bt s n > 57 <;> by_cases d5 : bt s n = 45 <;>
      first | (exfalso; omega) | (simp only [d1, d2, d3, d4, d5, if_true, if_false]; exact hr)
  · intro n hn hp
    refine ev_succ ?_
    simp only [impl_IsName.l0]
    unfold nameCh at hp
    simp only [Bool.or_eq_false_iff, decide_eq_false_iff_not] at hp
    have e0 : (n : Int) < (s.size : Int) := by omega
    simp only [e0, show (0 : Int) ≤ (n : Int) from Int.natCast_nonneg n, if_true]
    by_cases d1 : bt s n < 97 <;> by_cases d2 : bt s n > 122 <;> by_cases d3 : bt s n < 48 <;> by_cases d4 : bt s n > 57 <;> by_cases d5 : bt s n = 45 <;>
      first | (exfalso; omega) | (simp only [d1, d2, d3, d4, d5, if_true, if_false]; exact ev_now _)
  · refine ev_succ ?_
    simp only [impl_IsName.l0, Int.lt_irrefl, if_false]
    exact ev_now _
theorem impl_IsName_ev (s : ByteArray) : Ev (fun k => impl_IsName.f k s) (isNameB s) := by
  unfold impl_IsName.f isNameB
  by_cases h0 : s.size = 0
  · simp only [h0]
    refine ev_succ ?_
    simp only [impl_IsName.j0, if_true]
    exact ev_now _
  · have e3 : ¬ ((s.size : Int) < 1) := by omega
    simp only [e3, if_false]
    by_cases h1 : s.size ≤ 12
    · have e1 : ¬ ((s.size : Int) > 12) := by omega
      have e2 : (0 : Int) < (s.size : Int) := by omega
      simp only [e1, e2, if_true, if_false]
      by_cases h2 : bt s 0 < 97
      · simp only [h2, if_true]
        refine ev_succ ?_
        simp only [impl_IsName.j0, if_true]
        exact ev_to (ev_now _) (by simp; omega)
      · simp only [h2, if_false]
        refine ev_succ ?_
        simp only [impl_IsName.j0]
        by_cases h3 : bt s 0 > 122
        · simp only [h3, decide_true, if_true]
          exact ev_to (ev_now _) (by simp; omega)
        · simp only [h3, decide_false, Bool.false_eq_true, if_false]
          refine ev_to (impl_IsName_loop s h1) ?_
          simp [show 1 ≤ s.size by omega, h1, show 97 ≤ bt s 0 by omega, show bt s 0 ≤ 122 by omega]
    · have e1 : ((s.size : Int) > 12) := by omega
      simp only [e1, if_true]
      refine ev_succ ?_
      simp only [impl_IsName.j0, if_true]
      exact ev_to (ev_now _) (by simp [h1])

theorem spec_l00In_eq (a b c : Int) : spec_l00In.f a b c = some (decide (b ≤ a ∧ a ≤ c)) := by
  unfold spec_l00In.f
  by_cases h : a ≥ b
  · rw [if_pos h]; congr 1; simp; omega
  · rw [if_neg h]; congr 1; simp; omega

theorem impl_within_eq (a b c : Int) : impl_within.f a b c = some (decide (b ≤ a ∧ a ≤ c)) := by
  unfold impl_within.f
  by_cases h : a ≥ b
  · rw [if_pos h]; congr 1; simp; omega
  · rw [if_neg h]; congr 1; simp; omega

def joinB (s : ByteArray) (a b : Int) : Bool := isNameB s && (decide (1 ≤ a ∧ a ≤ 1000) && decide (0 ≤ b ∧ b ≤ 1000))
def jB (x : S61) : Bool := joinB x.f0 x.f1 x.f2
theorem spec_l03OneAt_ev (x : S61) : Ev (fun k => spec_l03OneAt.f k [x]) (jB x) := by
  have e0 : rd_T61 [x] 0 = x := rfl
  have l0 : (0 : Int) < (([x] : List S61).length : Int) := by simp
  simp only [spec_l03OneAt.f, spec_l00In_eq, Option.bind_some, e0, l0, if_true]
  refine Ev.bind (spec_IsName_ev _) ?_
  unfold jB joinB
  cases isNameB x.f0
  · exact ev_now _
  · by_cases h1 : 1 ≤ x.f1 ∧ x.f1 ≤ 1000
    · simp only [h1, decide_true, if_true, Bool.true_and, and_self]; exact ev_now _
    · simp only [h1, decide_false, if_true, Bool.true_and, Bool.false_and, Bool.false_eq_true, if_false]; exact ev_now _
theorem impl_validJoin_ev (s : ByteArray) (a b : Int) : Ev (fun k => impl_validJoin.f k s a b) (joinB s a b) := by
  simp only [impl_validJoin.f, impl_within_eq, Option.bind_some]
  refine Ev.bind (impl_IsName_ev s) ?_
  unfold joinB
  cases isNameB s
  · exact ev_now _
  · by_cases h1 : 1 ≤ a ∧ a ≤ 1000
    · simp only [h1, decide_true, if_true, Bool.true_and, and_self]; exact ev_now _
    · simp only [h1, decide_false, if_true, Bool.true_and, Bool.false_and, Bool.false_eq_true, if_false]; exact ev_now _

def sameN (xs : List S61) (n j : Nat) : Bool := decide ((xs.getD j z61).f0.toList = (xs.getD n z61).f0.toList)
def joinsP (xs : List S61) (n : Nat) : Bool := jB (xs.getD n z61) && !((List.range n).any (sameN xs n))
def joinsB (xs : List S61) : Bool := (List.range xs.length).all (joinsP xs) && decide (xs.length ≤ 20)
theorem spec_l03Ok_l1 (xs : List S61) (h : xs.length ≤ 1048576) (n : Nat) (hn : n < xs.length) (r : Bool)
    (hr : (List.range n).any (sameN xs n) = false → Ev (fun k => spec_l03Ok.l0 k xs ((n + 1 : Nat) : Int)) r) (hf : (List.range n).any (sameN xs n) = true → r = false) : Ev (fun k => spec_l03Ok.l1 k xs (n : Int) 0) r := by
  suffices key : ∃ r', Ev (fun k => spec_l03Ok.l1 k xs (n : Int) 0) r' ∧ r' = r by obtain ⟨r', hr', e⟩ := key; exact e ▸ hr'
  refine ev_loop (len := n) (g := fun k (_ : Unit) j => spec_l03Ok.l1 k xs (n : Int) j) (fun j _ => (List.range j).any (sameN xs n) = false) (fun r' => r' = r) ?_ ?_ () rfl
  · intro j _ hj hi
    cases hb : sameN xs n j with
    | false =>
      refine .inr ⟨(), by rw [List.range_succ, List.any_append, hi, List.any_cons, List.any_nil, hb]; rfl, fun r' hr' => ev_succ ?_⟩
      simp only [sameN, decide_eq_false_iff_not] at hb
      simp only [spec_l03Ok.l1, Int.ofNat_lt.2 hj, Int.ofNat_lt.2 hn, Int.ofNat_lt.2 (Nat.lt_trans hj hn), show (0 : Int) ≤ (j : Int) from Int.natCast_nonneg _, show (0 : Int) ≤ (n : Int) from Int.natCast_nonneg _, if_true, rd_T61, Int.toNat_natCast, hb, if_false, wnext hj (by omega : n ≤ 9223372036854775807)]
      exact hr'
    | true =>
      have ht : (List.range n).any (sameN xs n) = true := by rw [List.any_eq_true]; exact ⟨j, List.mem_range.2 hj, hb⟩
      refine .inl ⟨r, ev_succ ?_, rfl⟩
      rw [hf ht]
      simp only [sameN, decide_eq_true_eq] at hb
      simp only [spec_l03Ok.l1, Int.ofNat_lt.2 hj, Int.ofNat_lt.2 hn, Int.ofNat_lt.2 (Nat.lt_trans hj hn), show (0 : Int) ≤ (j : Int) from Int.natCast_nonneg _, show (0 : Int) ≤ (n : Int) from Int.natCast_nonneg _, if_true, rd_T61, Int.toNat_natCast, hb]
      exact ev_now _
  · intro _ hi
    refine ⟨r, ev_succ ?_, rfl⟩
    simp only [spec_l03Ok.l1, Int.lt_irrefl, if_false, wnext hn (by omega : xs.length ≤ 9223372036854775807)]
    exact hr hi
theorem spec_l03Ok_ev (xs : List S61) (h : xs.length ≤ 1048576) : Ev (fun k => spec_l03Ok.f k xs) (joinsB xs) := by
  simp only [spec_l03Ok.f]
  refine ev_all (len := xs.length) (g := fun k i => spec_l03Ok.l0 k xs i) (joinsP xs) (decide (xs.length ≤ 20)) ?_ ?_ ?_
  · intro n hn hp r hr
    unfold joinsP at hp
    simp only [Bool.and_eq_true, Bool.not_eq_true'] at hp
    refine ev_succ ?_
    simp only [spec_l03Ok.l0, Int.ofNat_lt.2 hn, show (0 : Int) ≤ (n : Int) from Int.natCast_nonneg _, if_true, rd_T61, Int.toNat_natCast]
    refine Ev.bind (spec_l03OneAt_ev _) ?_
    simp only [hp.1, if_true]
    exact spec_l03Ok_l1 xs h n hn r (fun _ => hr) (fun ht => by rw [hp.2] at ht; cases ht)
  · intro n hn hp
    unfold joinsP at hp
    refine ev_succ ?_
    simp only [spec_l03Ok.l0, Int.ofNat_lt.2 hn, show (0 : Int) ≤ (n : Int) from Int.natCast_nonneg _, if_true, rd_T61, Int.toNat_natCast]
    refine Ev.bind (spec_l03OneAt_ev _) ?_
    cases h1 : jB (xs.getD n z61)
    · simp only [Bool.false_eq_true, if_false]; exact ev_now _
    · simp only [h1, Bool.true_and, Bool.not_eq_false'] at hp
      simp only [if_true]
      exact spec_l03Ok_l1 xs h n hn false (fun ht => by rw [hp] at ht; cases ht) (fun _ => rfl)
  · refine ev_succ ?_
    simp only [spec_l03Ok.l0, Int.lt_irrefl, if_false]
    exact ev_to (ev_now _) (by congr 1; simp; omega)
theorem impl_contains_ev (xs : List S61) (h : xs.length ≤ 1048576) (y : S61) : Ev (fun k => impl_Join_89.f k xs [y]) ((List.range xs.length).any fun j => decide ((xs.getD j z61).f0.toList = y.f0.toList)) := by
  have e0 : rd_T61 [y] 0 = y := rfl
  have l0 : (0 : Int) < (([y] : List S61).length : Int) := by simp
  simp only [impl_Join_89.f, impl_Join_113.f]
  refine Ev.bind (ev_find (len := xs.length) (g := fun k i => impl_Join_113.l0 k xs [y] (xs.length : Int) i) (fun j => decide ((xs.getD j z61).f0.toList = y.f0.toList)) (fun n => (n : Int)) (-1) ?_ ?_ ?_) (ev_to (ev_now _) ?_)
  · intro n hn hp r hr
    refine ev_succ ?_
    simp only [decide_eq_false_iff_not] at hp
    simp only [impl_Join_113.l0, impl_ValidJoins_1.f, e0, l0, Option.bind_some, Int.ofNat_lt.2 hn, show (0 : Int) ≤ (n : Int) from Int.natCast_nonneg _, if_true, rd_T61, Int.toNat_natCast, wnext hn (by omega : xs.length ≤ 9223372036854775807)]
    rw [show ((xs.getD n z61).f0.toList == (([y] : List S61).getD (0 : Int).toNat z61).f0.toList) = false from by rw [beq_eq_false_iff_ne]; exact hp]
    simp only [Bool.false_eq_true, if_false]
    exact hr
  · intro n hn hp
    refine ev_succ ?_
    simp only [decide_eq_true_eq] at hp
    simp only [impl_Join_113.l0, impl_ValidJoins_1.f, e0, l0, Option.bind_some, Int.ofNat_lt.2 hn, show (0 : Int) ≤ (n : Int) from Int.natCast_nonneg _, if_true, rd_T61, Int.toNat_natCast]
    rw [show ((xs.getD n z61).f0.toList == (([y] : List S61).getD (0 : Int).toNat z61).f0.toList) = true from by rw [beq_iff_eq]; exact hp]
    simp only [if_true]
    exact ev_now _
  · refine ev_succ ?_
    simp only [impl_Join_113.l0, Int.lt_irrefl, if_false]
    exact ev_now _
  · cases hf : (List.range xs.length).find? (fun j => decide ((xs.getD j z61).f0.toList = y.f0.toList)) with
    | none =>
      rw [List.find?_eq_none] at hf
      simp only
      symm
      rw [show decide ((-1 : Int) ≥ 0) = false from rfl, List.any_eq_false]
      exact hf
    | some n =>
      simp only
      symm
      rw [show decide ((n : Int) ≥ 0) = true by simp, List.any_eq_true]
      exact ⟨n, List.mem_of_find?_eq_some hf, by have h2 := List.find?_some hf; exact h2⟩
theorem impl_ValidJoins_ev (xs : List S61) (h : xs.length ≤ 1048576) : Ev (fun k => impl_ValidJoins.f k xs) (joinsB xs) := by
  simp only [impl_ValidJoins.f]
  by_cases hb : (xs.length : Int) > 20
  · simp only [hb, if_true]
    exact ev_to (ev_now _) (by unfold joinsB; rw [show decide (xs.length ≤ 20) = false by simp; omega, Bool.and_false])
  simp only [hb, if_false]
  have anyE : ∀ n, n < xs.length → ((List.range (xs.take n).length).any fun j => decide (((xs.take n).getD j z61).f0.toList = (xs.getD n z61).f0.toList)) = (List.range n).any (sameN xs n) := by
    intro n hn
    rw [List.length_take, Nat.min_eq_left (by omega), Bool.eq_iff_iff, List.any_eq_true, List.any_eq_true]
    have e : ∀ j, j < n → (xs.take n).getD j z61 = xs.getD j z61 := fun j hj => by simp [List.getD_eq_getElem?_getD, List.getElem?_take, hj]
    constructor <;> (rintro ⟨j, hj, hp⟩; refine ⟨j, hj, ?_⟩; have := e j (List.mem_range.1 hj); simp only [sameN] at *; first | (rw [this] at hp; exact hp) | (rw [this]; exact hp))
  refine ev_to (ev_all (len := xs.length) (g := fun k i => impl_ValidJoins.l0 k xs xs (xs.length : Int) i) (joinsP xs) true ?_ ?_ ?_) (by unfold joinsB; rw [show decide (xs.length ≤ 20) = true by simp; omega])
  · intro n hn hp r hr
    unfold joinsP at hp
    simp only [Bool.and_eq_true, Bool.not_eq_true'] at hp
    refine ev_succ ?_
    simp only [impl_ValidJoins.l0, Int.ofNat_lt.2 hn, show (0 : Int) ≤ (n : Int) from Int.natCast_nonneg _, if_true, rd_T61, Int.toNat_natCast, show (n : Int) ≤ (xs.length : Int) by omega, wnext hn (by omega : xs.length ≤ 9223372036854775807)]
    refine Ev.bind (impl_validJoin_ev _ _ _) ?_
    rw [show joinB _ _ _ = true from hp.1]
    simp only [if_true]
    refine Ev.bind (impl_contains_ev _ (by simp; omega) _) ?_
    rw [anyE n hn, hp.2]
    simp only [Bool.false_eq_true, if_false]
    exact hr
  · intro n hn hp
    unfold joinsP at hp
    refine ev_succ ?_
    simp only [impl_ValidJoins.l0, Int.ofNat_lt.2 hn, show (0 : Int) ≤ (n : Int) from Int.natCast_nonneg _, if_true, rd_T61, Int.toNat_natCast, show (n : Int) ≤ (xs.length : Int) by omega]
    refine Ev.bind (impl_validJoin_ev _ _ _) ?_
    cases h1 : jB (xs.getD n z61)
    · rw [show joinB _ _ _ = false from h1]; simp only [Bool.false_eq_true, if_false]; exact ev_now _
    · rw [show joinB _ _ _ = true from h1]
      simp only [h1, Bool.true_and, Bool.not_eq_false'] at hp
      simp only [if_true]
      refine Ev.bind (impl_contains_ev _ (by simp; omega) _) ?_
      rw [anyE n hn, hp]
      simp only [if_true]
      exact ev_now _
  · refine ev_succ ?_
    simp only [impl_ValidJoins.l0, Int.lt_irrefl, if_false]
    exact ev_now _

def pieceB (a b : Int) : Bool := decide (1 ≤ a ∧ a ≤ 1000000) && decide (1 ≤ b ∧ b ≤ 100000)
theorem spec_l03Piece_eq (a b : Int) : spec_l03Piece.f a b = some (pieceB a b) := by
  simp only [spec_l03Piece.f, spec_l00In_eq, Option.bind_some]
  unfold pieceB
  by_cases h1 : 1 ≤ a ∧ a ≤ 1000000
  · simp only [h1, decide_true, if_true, Bool.true_and, and_self]
  · simp only [h1, decide_false, Bool.false_and, Bool.false_eq_true, if_false]
theorem impl_validPiece_eq (a b : Int) : impl_validPiece.f a b = some (pieceB a b) := by
  simp only [impl_validPiece.f, impl_within_eq, Option.bind_some]
  unfold pieceB
  by_cases h1 : 1 ≤ a ∧ a ≤ 1000000
  · simp only [h1, decide_true, if_true, Bool.true_and, and_self]
  · simp only [h1, decide_false, Bool.false_and, Bool.false_eq_true, if_false]

theorem min_eq (a b : Int) : spec_l00Min.f a b = some (mn a b) := by
  unfold spec_l00Min.f mn
  by_cases h : a < b
  · rw [if_pos h, if_neg (by omega)]
  · rw [if_neg h]
    by_cases h2 : b < a
    · rw [if_pos h2]
    · rw [if_neg h2]; congr 1; omega
theorem spec_l03JoinedAt_eq (x : S61) (a b c d : Int) : spec_l03JoinedAt.f [x] a b c d = some (wrap64 (mn a c * x.f1)) := by
  have e0 : rd_T61 [x] 0 = x := rfl
  have l0 : (0 : Int) < (([x] : List S61).length : Int) := by simp
  simp only [spec_l03JoinedAt.f, e0, l0, if_true, min_eq, Option.bind_some, Int.mul_comm]
def bestStep (xs : List S61) (m need : Int) (n : Nat) (b : Int) : Int :=
  if wrap64 (m * (xs.getD n z61).f1) ≥ wrap64 (1000 * need) then (if b < 0 then (n : Int) else if (xs.getD n z61).f2 < (xs.getD b.toNat z61).f2 then (n : Int) else b) else b
def bestS (xs : List S61) (m need : Int) : Nat → Int
  | 0 => -1
  | n + 1 => bestStep xs m need n (bestS xs m need n)
theorem bestS_lt (xs : List S61) (m need : Int) (n : Nat) : bestS xs m need n < (n : Int) := by
  induction n with
  | zero => show (-1 : Int) < 0; decide
  | succ n ih =>
    show bestStep xs m need n (bestS xs m need n) < _
    unfold bestStep
    repeat' split
    all_goals omega
def bestV (xs : List S61) (m need : Int) : Int × Int := if bestS xs m need xs.length < 0 then (0, 3) else (bestS xs m need xs.length, 0)
theorem spec_best_loop (xs : List S61) (h : xs.length ≤ 1048576) (need a b c d : Int) : Ev (fun k => spec_BestJoin.l0 k xs need (-1) 0 a b c d) (bestV xs (mn a c) need) := by
  refine ev_fold (len := xs.length) (g := fun k s i => spec_BestJoin.l0 k xs need s i a b c d) (bestStep xs (mn a c) need) (bestS xs (mn a c) need) _ (fun n hn => rfl) ?_ ?_
  · intro n hn r hr
    have hb := bestS_lt xs (mn a c) need n
    refine ev_succ ?_
    unfold bestStep at hr
    generalize bestS xs (mn a c) need n = s at hb hr ⊢
    simp only [spec_BestJoin.l0, spec_l03JoinedAt_eq, Option.bind_some, Int.ofNat_lt.2 hn, show (0 : Int) ≤ (n : Int) from Int.natCast_nonneg _, if_true, rd_T61, Int.toNat_natCast, wnext hn (by omega : xs.length ≤ 9223372036854775807)]
    by_cases h1 : wrap64 (mn a c * (xs.getD n z61).f1) ≥ wrap64 (1000 * need)
    · simp only [h1, if_true] at hr
      simp only [show ¬ wrap64 (mn a c * (xs.getD n z61).f1) < wrap64 (1000 * need) by omega, if_false]
      by_cases h2 : s < 0
      · simp only [h2, if_true] at hr ⊢; exact hr
      · simp only [h2, if_false] at hr
        simp only [h2, if_false, show 0 ≤ s by omega, show s < (xs.length : Int) by omega, if_true]
        by_cases h3 : (xs.getD n z61).f2 < (xs.getD s.toNat z61).f2
        · simp only [h3, if_true] at hr ⊢; exact hr
        · simp only [h3, if_false] at hr ⊢; exact hr
    · simp only [h1, if_false] at hr
      simp only [show wrap64 (mn a c * (xs.getD n z61).f1) < wrap64 (1000 * need) by omega, if_true]
      exact hr
  · refine ev_succ ?_
    unfold bestV
    by_cases h2 : bestS xs (mn a c) need xs.length < 0
    · simp only [spec_BestJoin.l0, Int.lt_irrefl, if_false, h2, if_true]; exact ev_now _
    · simp only [spec_BestJoin.l0, Int.lt_irrefl, if_false, h2]; exact ev_now _
theorem impl_best_loop (xs : List S61) (h : xs.length ≤ 1048576) (need a b c d : Int) : Ev (fun k => impl_bestJoin.f k xs a b c d need) (bestS xs (mn a c) need xs.length) := by
  simp only [impl_bestJoin.f]
  refine ev_fold (len := xs.length) (g := fun k s i => impl_bestJoin.l0 k xs need s xs (xs.length : Int) i a b c d) (bestStep xs (mn a c) need) (bestS xs (mn a c) need) _ (fun n hn => rfl) ?_ ?_
  · intro n hn r hr
    have hb := bestS_lt xs (mn a c) need n
    refine ev_succ ?_
    unfold bestStep at hr
    generalize bestS xs (mn a c) need n = s at hb hr ⊢
    simp only [impl_bestJoin.l0, Int.ofNat_lt.2 hn, show (0 : Int) ≤ (n : Int) from Int.natCast_nonneg _, if_true, rd_T61, Int.toNat_natCast, wnext hn (by omega : xs.length ≤ 9223372036854775807)]
    by_cases h1 : wrap64 (mn a c * (xs.getD n z61).f1) ≥ wrap64 (1000 * need)
    · simp only [h1, if_true] at hr ⊢
      by_cases h2 : s < 0
      · simp only [h2, if_true] at hr ⊢; exact hr
      · simp only [h2, if_false] at hr
        simp only [h2, if_false, show 0 ≤ s by omega, show s < (xs.length : Int) by omega, if_true]
        by_cases h3 : (xs.getD n z61).f2 < (xs.getD s.toNat z61).f2
        · simp only [h3, if_true] at hr ⊢; exact hr
        · simp only [h3, if_false] at hr ⊢; exact hr
    · simp only [h1, if_false] at hr ⊢
      exact hr
  · refine ev_succ ?_
    simp only [impl_bestJoin.l0, Int.lt_irrefl, if_false]; exact ev_now _
theorem spec_BestJoin_ok (xs : List S61) (h : xs.length ≤ 1048576) (hb : joinsB xs = true) (a b c d need : Int) (hp : pieceB a b = true) (hq : pieceB c d = true) (hn : 0 ≤ need ∧ need ≤ 1000000) : Ev (fun k => spec_BestJoin.f k xs a b c d need) (bestV xs (mn a c) need) := by
  simp only [spec_BestJoin.f, spec_l03Piece_eq, Option.bind_some]
  refine Ev.bind (spec_l03Ok_ev xs h) ?_
  simp only [hb, hp, hq, if_true, Bool.not_true]
  refine ev_succ ?_
  simp only [spec_BestJoin.j0, Bool.false_eq_true, if_false, spec_l03Need.f, spec_l00In_eq, Option.bind_some, hn, and_self, decide_true, if_true]
  exact spec_best_loop xs h need a b c d

/-! ### pieces, the stronger (then the longer) first -/
def bfP (x y : S45) : Bool := decide (y.f0 < x.f0 ∨ (y.f0 = x.f0 ∧ y.f1 < x.f1))
def posP (out : List S45) (x : S45) : Nat → Nat
  | 0 => 0
  | k + 1 => if bfP x (out.getD k z45) = true then posP out x k else k + 1
theorem posP_le (out : List S45) (x : S45) : ∀ k, posP out x k ≤ k
  | 0 => Nat.le_refl _
  | k + 1 => by
    unfold posP
    split
    · have := posP_le out x k; omega
    · exact Nat.le_refl _
def insP (out : List S45) (x : S45) : List S45 := (out.take (posP out x out.length) ++ [x]) ++ out.drop (posP out x out.length)
theorem insP_length (out : List S45) (x : S45) : (insP out x).length = out.length + 1 := by
  have := posP_le out x out.length
  unfold insP
  simp only [List.length_append, List.length_take, List.length_singleton, List.length_drop]
  omega
theorem insP_mem {out : List S45} {x y : S45} (h : y ∈ insP out x) : y = x ∨ y ∈ out := by
  unfold insP at h
  rcases List.mem_append.1 h with h | h
  · rcases List.mem_append.1 h with h | h
    · exact .inr (List.mem_of_mem_take h)
    · exact .inl (by simpa using h)
  · exact .inr (List.mem_of_mem_drop h)
theorem foldP_length (xs : List S45) : ∀ out : List S45, (xs.foldl insP out).length = out.length + xs.length := by
  induction xs with
  | nil => intro out; rfl
  | cons x xs ih => intro out; rw [List.foldl_cons, ih, insP_length, List.length_cons]; omega
theorem foldP_mem {y : S45} (xs : List S45) : ∀ out : List S45, y ∈ xs.foldl insP out → y ∈ xs ∨ y ∈ out := by
  induction xs with
  | nil => intro out h; exact .inr h
  | cons x xs ih =>
    intro out h
    rcases ih _ h with h | h
    · exact .inl (List.mem_cons_of_mem _ h)
    · rcases insP_mem h with rfl | h
      · exact .inl List.mem_cons_self
      · exact .inr h
def sortP (xs : List S45) (n : Nat) : List S45 := (xs.take n).foldl insP []
theorem sortP_length (xs : List S45) {n : Nat} (h : n ≤ xs.length) : (sortP xs n).length = n := by
  unfold sortP; rw [foldP_length, List.length_take, List.length_nil]; omega
theorem cmpP (x y : S45) : ∃ r, Ev (fun k => impl_LongestLine_1.f k x.f0 x.f1 y.f0 y.f1) r ∧ (r < 0 ↔ bfP x y = true) := by
  have c : ∀ a b : Int, cmp_Compare_int64.f a b = some (if a < b then -1 else if a > b then 1 else 0) := by
    intro a b
    simp only [cmp_Compare_int64.f, cmp_isNaN_int64.f, Option.bind_some, bne_self_eq_false, Bool.false_eq_true, if_false]
    by_cases h : a < b
    · simp only [h, if_true]
    · by_cases h2 : a > b
      · simp only [h, h2, if_true, if_false]
      · simp only [h, h2, if_false]
  have o : ∀ a b : Int, Ev (fun k => cmp_Or_int.f k [a, b]) (if a = 0 then b else a) := by
    intro a b
    simp only [cmp_Or_int.f]
    refine ev_succ ?_
    simp only [cmp_Or_int.l0, List.length_cons, List.length_nil, rd, show ((0 : Int)).toNat = 0 from rfl, List.getD_cons_zero, show (0 : Int) < ((0 + 1 + 1 : Nat) : Int) by omega, show (0 : Int) ≤ 0 by omega, if_true]
    by_cases h : a = 0
    · simp only [h, if_true]
      rw [show wrap64 (0 + 1) = 1 by unfold wrap64; omega]
      refine ev_succ ?_
      simp only [cmp_Or_int.l0, List.length_cons, List.length_nil, rd, show ((1 : Int)).toNat = 1 from rfl, List.getD_cons_succ, List.getD_cons_zero, show (1 : Int) < ((0 + 1 + 1 : Nat) : Int) by omega, show (0 : Int) ≤ 1 by omega, if_true]
      by_cases h2 : b = 0
      · simp only [h2, if_true]
        rw [show wrap64 (1 + 1) = 2 by unfold wrap64; omega]
        refine ev_succ ?_
        simp only [cmp_Or_int.l0, List.length_cons, List.length_nil, show ¬ (2 : Int) < ((0 + 1 + 1 : Nat) : Int) by omega, if_false]
        exact ev_now _
      · simp only [h2, if_false]; exact ev_now _
    · simp only [h, if_false]; exact ev_now _
  simp only [impl_LongestLine_1.f, c, Option.bind_some]
  refine ⟨_, Ev.bind (o _ _) (ev_now _), ?_⟩
  unfold bfP
  rw [decide_eq_true_eq]
  by_cases a1 : y.f0 < x.f0
  · simp [a1]
  · by_cases a2 : y.f0 > x.f0
    · simp [a1, a2]; omega
    · have a3 : y.f0 = x.f0 := by omega
      by_cases b1 : y.f1 < x.f1
      · simp [a3, b1]
      · by_cases b2 : y.f1 > x.f1 <;> simp [a3, b1, b2]
theorem swapP_at {α : Type} (z : α) (A B : List α) (y x : α) : (A ++ y :: x :: B).getD (A.length + 1) z = x ∧ (A ++ y :: x :: B).getD A.length z = y ∧ ((A ++ y :: x :: B).set (A.length + 1) y).set A.length x = A ++ x :: y :: B := by
  refine ⟨by simp [List.getD_eq_getElem?_getD], by simp [List.getD_eq_getElem?_getD], ?_⟩
  rw [List.set_append_right _ _ (by omega), List.set_append_right _ _ (by omega)]
  simp
theorem impl_insertP_loop (s B : List S45) (x : S45) (i : Int) (b : Int) (hl : s.length + 1 + B.length ≤ 1048576) {r : List S45}
    (hr : Ev (fun k => impl_LinePiece_114.l0 k (insP s x ++ B) 0 b (wrap64 (i + 1))) r) : ∀ m, m ≤ s.length → posP s x m = posP s x s.length →
    Ev (fun k => impl_LinePiece_114.l1 k ((s.take m ++ x :: s.drop m) ++ B) 0 b i (m : Int)) r := by
  have fin : ∀ m : Nat, m ≤ s.length → m = posP s x s.length → Ev (fun k => impl_LinePiece_114.l0 k ((s.take m ++ x :: s.drop m) ++ B) 0 b (wrap64 (i + 1))) r := by
    intro m hm he
    have : insP s x = s.take m ++ x :: s.drop m := by unfold insP; rw [← he]; simp
    rw [← this]; exact hr
  intro m
  induction m with
  | zero =>
    intro hm he
    refine ev_succ ?_
    simp only [impl_LinePiece_114.l1, show ¬ (((0 : Nat) : Int) > 0) by omega, if_false]
    exact fin 0 hm (by rw [← he]; rfl)
  | succ m ih =>
    intro hm he
    have hs : s.take (m + 1) = s.take m ++ [s.getD m z45] := by rw [List.take_succ_eq_append_getElem (by omega), getD_lt _ _ (by omega)]
    have hd : s.drop m = s.getD m z45 :: s.drop (m + 1) := by rw [List.drop_eq_getElem_cons (by omega), getD_lt _ _ (by omega)]
    have tl : (s.take m).length = m := by rw [List.length_take]; omega
    have e0 : (s.take (m + 1) ++ x :: s.drop (m + 1)) ++ B = s.take m ++ s.getD m z45 :: x :: (s.drop (m + 1) ++ B) := by rw [hs]; simp
    have w1 : wrap64 (((m + 1 : Nat) : Int) - 1) = (m : Int) := by rw [w64 (by omega) (by omega)]; omega
    have len : (s.take m ++ s.getD m z45 :: x :: (s.drop (m + 1) ++ B)).length = s.length + 1 + B.length := by simp; omega
    obtain ⟨g1, g2, g3⟩ := swapP_at z45 (s.take m) (s.drop (m + 1) ++ B) (s.getD m z45) x
    rw [tl] at g1 g2 g3
    obtain ⟨c, hc1, hc2⟩ := cmpP x (s.getD m z45)
    rw [e0]
    refine ev_succ ?_
    simp only [impl_LinePiece_114.l1, w1, show ((m + 1 : Nat) : Int) > 0 by omega, show (0 : Int) ≤ ((m + 1 : Nat) : Int) by omega, len, show ((m + 1 : Nat) : Int) < ((s.length + 1 + B.length : Nat) : Int) by omega, show (0 : Int) ≤ (m : Int) by omega, show (m : Int) < ((s.length + 1 + B.length : Nat) : Int) by omega, if_true, rd_T45, Int.toNat_natCast, g1, g2]
    refine Ev.bind hc1 ?_
    by_cases h : bfP x (s.getD m z45) = true
    · have e2 : posP s x m = posP s x s.length := by rw [← he]; show _ = (if _ then _ else _); rw [if_pos h]
      have i1 := ih (by omega) e2
      have e3 : (s.take m ++ x :: s.drop m) ++ B = s.take m ++ x :: s.getD m z45 :: (s.drop (m + 1) ++ B) := by rw [hd]; simp
      rw [e3] at i1
      simp only [show c < 0 from hc2.2 h, if_true]
      show Ev (fun k => impl_LinePiece_114.l1 k (((s.take m ++ s.getD m z45 :: x :: (s.drop (m + 1) ++ B)).set (m + 1) (s.getD m z45)).set m x) 0 b i (m : Int)) r
      rw [g3]
      exact i1
    · have e2 : m + 1 = posP s x s.length := by rw [← he]; show _ = (if _ then _ else _); rw [if_neg h]
      have f := fin (m + 1) hm e2
      rw [e0] at f
      simp only [show ¬ c < 0 from fun q => h (hc2.1 q), if_false]
      exact f
theorem impl_isortP_ev (xs : List S45) (h1 : 1 ≤ xs.length) (h : xs.length ≤ 1048576) : Ev (fun k => impl_LinePiece_114.f k xs 0 (xs.length : Int) 0) (sortP xs xs.length) := by
  simp only [impl_LinePiece_114.f]
  have key : ∀ d n, n + d = xs.length → 1 ≤ n → Ev (fun k => impl_LinePiece_114.l0 k (sortP xs n ++ xs.drop n) 0 (xs.length : Int) (n : Int)) (sortP xs xs.length) := by
    intro d
    induction d with
    | zero =>
      intro n hn _
      simp only [Nat.add_zero] at hn
      subst hn
      refine ev_succ ?_
      simp only [impl_LinePiece_114.l0, Int.lt_irrefl, if_false, List.drop_length, List.append_nil]
      exact ev_now _
    | succ d ih =>
      intro n hn h0
      have hl := sortP_length xs (show n ≤ xs.length by omega)
      have e1 : sortP xs (n + 1) = insP (sortP xs n) (xs.getD n z45) := foldl_take_succ xs _ _ _ (by omega)
      have hd : xs.drop n = xs.getD n z45 :: xs.drop (n + 1) := by rw [List.drop_eq_getElem_cons (by omega), getD_lt _ _ (by omega)]
      have i1 := ih (n + 1) (by omega) (by omega)
      rw [e1, show ((n + 1 : Nat) : Int) = wrap64 ((n : Int) + 1) by rw [w64 (by omega) (by omega)]; omega] at i1
      have l := impl_insertP_loop (sortP xs n) (xs.drop (n + 1)) (xs.getD n z45) (n : Int) (xs.length : Int) (by rw [hl, List.length_drop]; omega) i1 (sortP xs n).length (Nat.le_refl _) rfl
      rw [List.take_length, List.drop_length, hl] at l
      refine ev_succ ?_
      simp only [impl_LinePiece_114.l0, show (n : Int) < (xs.length : Int) by omega, if_true]
      rw [hd]
      simpa using l
  have e0 : xs = sortP xs 1 ++ xs.drop 1 := by
    cases xs with
    | nil => simp at h1
    | cons x xs => simp [sortP, insP, posP]
  have := key (xs.length - 1) 1 (by omega) (by omega)
  rw [← e0] at this
  rw [show wrap64 (0 + 1) = ((1 : Nat) : Int) by unfold wrap64; omega]
  exact this
theorem impl_sortP_ev (xs : List S45) (h : 1 ≤ xs.length ∧ xs.length ≤ 12) : Ev (fun k => impl_LinePiece_51.f k xs 0) (sortP xs xs.length) := by
  simp only [impl_LinePiece_51.f, impl_LinePiece_91.f]
  refine Ev.bind (a := sortP xs xs.length) (ev_succ ?_) (ev_now _)
  simp only [impl_LinePiece_91.l0, show ¬ (20 : Int) ≤ (xs.length : Int) by omega, if_false]
  refine Ev.bind (impl_isortP_ev xs h.1 (by omega)) (ev_succ ?_)
  simp only [impl_LinePiece_91.l1, show ¬ (20 : Int) < (xs.length : Int) by omega, if_false]
  exact ev_now _

theorem laws_szJoinS_ev (xs : List S78) (hl : xs.length ≤ 9223372036854775807) (hs : ∀ x ∈ xs, x.f0.size ≤ 140737488351232) (m : Int := 1048576) (hm0 : 0 ≤ m := by omega) (hm : m ≤ 1048576 := by omega) :
    ∃ r, Ev (fun k => laws_szJoinS.f k xs m) r ∧ (r < 0 ∨ (0 ≤ r ∧ r ≤ 1048576 ∧ xs.length ≤ 1048576)) := by
  simp only [laws_szJoinS.f]
  by_cases h : wrap64 (m - (xs.length : Int)) < 0
  · simp only [h, if_true]; exact ⟨-1, ev_now _, .inl (by decide)⟩
  have hl' : xs.length ≤ 1048576 := by unfold wrap64 at h; omega
  have hl2 : (xs.length : Int) ≤ m := by unfold wrap64 at h; omega
  simp only [h, if_false]
  rw [w64 (by omega) (by omega)]
  refine ev_loop (len := xs.length) (g := fun k s i => laws_szJoinS.l0 k xs s i) (fun n s => 0 ≤ s ∧ s ≤ 1048576) (fun r => r < 0 ∨ (0 ≤ r ∧ r ≤ 1048576 ∧ xs.length ≤ 1048576)) ?_ ?_ _ (by omega)
  · intro n s hn ⟨h1, h2⟩
    have hsz : (xs.getD n z78).f0.size ≤ 140737488351232 := by rw [getD_lt xs _ hn]; exact hs _ (List.getElem_mem hn)
    by_cases c : wrap64 (s - ((xs.getD n z78).f0.size : Int)) < 0
    · refine .inl ⟨-1, ev_succ ?_, .inl (by decide)⟩
      simp only [laws_szJoinS.l0, laws_szJoin.f, Int.ofNat_lt.2 hn, show (0 : Int) ≤ (n : Int) from Int.natCast_nonneg _, if_true, rd_T78, Int.toNat_natCast, c, Option.bind_some, show (-1 : Int) < 0 by decide]
      exact ev_now _
    · refine .inr ⟨wrap64 (s - ((xs.getD n z78).f0.size : Int)), ?_, fun r hr => ev_succ ?_⟩
      · rw [w64 (by omega) (by omega)] at *; omega
      · simp only [laws_szJoinS.l0, laws_szJoin.f, Int.ofNat_lt.2 hn, show (0 : Int) ≤ (n : Int) from Int.natCast_nonneg _, if_true, rd_T78, Int.toNat_natCast, c, if_false, Option.bind_some, wnext hn (by omega : xs.length ≤ 9223372036854775807)]
        exact hr
  · intro s ⟨h1, h2⟩
    refine ⟨s, ev_succ ?_, .inr ⟨h1, h2, hl'⟩⟩
    simp only [laws_szJoinS.l0, Int.lt_irrefl, if_false]
    exact ev_now _

def conv_Join (x : S78) : S61 := ⟨x.f0, x.f1, x.f2⟩
theorem laws_toJoinS_ev (xs : List S78) (h : xs.length ≤ 1048576) : Ev (fun k => laws_toJoinS.f k xs) (xs.map conv_Join) := by
  simp only [laws_toJoinS.f, Int.toNat_natCast, show (0 : Int) ≤ (xs.length : Int) from Int.natCast_nonneg _, if_true]
  rw [if_pos_ev (by omega)]
  have e : List.replicate xs.length z61 = (xs.take 0).map conv_Join ++ List.replicate (xs.length - 0) z61 := by simp
  have e2 : xs.map conv_Join = (xs.take xs.length).map conv_Join ++ List.replicate (xs.length - xs.length) z61 := by simp
  rw [e, e2]
  refine ev_fold (len := xs.length) (g := fun k s i => laws_toJoinS.l0 k xs s i) (fun n s => s.set n (conv_Join (xs.getD n z78))) (fun n => (xs.take n).map conv_Join ++ List.replicate (xs.length - n) z61) _ ?_ ?_ ?_
  · intro n hn; exact (fill_step xs conv_Join _ _ hn).symm
  · intro n hn r hr
    refine ev_succ ?_
    have l1 : (n : Int) < (((xs.take n).map conv_Join ++ List.replicate (xs.length - n) z61).length : Int) := by simp; omega
    simp only [laws_toJoinS.l0, laws_toJoin.f, Option.bind_some, Int.ofNat_lt.2 hn, show (0 : Int) ≤ (n : Int) from Int.natCast_nonneg _, if_true, l1, wnext hn (by omega : xs.length ≤ 9223372036854775807), rd_T78, Int.toNat_natCast]
    exact hr
  · refine ev_succ ?_
    simp only [laws_toJoinS.l0, Int.lt_irrefl, if_false]
    exact ev_now _

theorem laws_eqJoinS_self (xs : List S61) (h : xs.length ≤ 9223372036854775807) : Ev (fun k => laws_eqJoinS.f k xs xs) true := by
  simp only [laws_eqJoinS.f, if_true]
  refine ev_to (ev_all (len := xs.length) (g := fun k i => laws_eqJoinS.l0 k xs xs i) (fun _ => true) true ?_ (fun n hn hp => by simp at hp) ?_) (by simp)
  · intro n hn hp r hr
    refine ev_succ ?_
    simp only [laws_eqJoinS.l0, laws_eqJoin.f, Option.bind_some, Int.ofNat_lt.2 hn, show (0 : Int) ≤ (n : Int) from Int.natCast_nonneg _, if_true, bne_self_eq_false, Bool.false_eq_true, if_false, wnext hn h]
    exact hr
  · refine ev_succ ?_
    simp only [laws_eqJoinS.l0, Int.lt_irrefl, if_false]
    exact ev_now _

def conv_LinePiece (x : S83) : S45 := ⟨x.f0, x.f1⟩
theorem laws_toLinePieceS_ev (xs : List S83) (h : xs.length ≤ 1048576) : Ev (fun k => laws_toLinePieceS.f k xs) (xs.map conv_LinePiece) := by
  simp only [laws_toLinePieceS.f, Int.toNat_natCast, show (0 : Int) ≤ (xs.length : Int) from Int.natCast_nonneg _, if_true]
  rw [if_pos_ev (by omega)]
  have e : List.replicate xs.length z45 = (xs.take 0).map conv_LinePiece ++ List.replicate (xs.length - 0) z45 := by simp
  have e2 : xs.map conv_LinePiece = (xs.take xs.length).map conv_LinePiece ++ List.replicate (xs.length - xs.length) z45 := by simp
  rw [e, e2]
  refine ev_fold (len := xs.length) (g := fun k s i => laws_toLinePieceS.l0 k xs s i) (fun n s => s.set n (conv_LinePiece (xs.getD n z83))) (fun n => (xs.take n).map conv_LinePiece ++ List.replicate (xs.length - n) z45) _ ?_ ?_ ?_
  · intro n hn; exact (fill_step xs conv_LinePiece _ _ hn).symm
  · intro n hn r hr
    refine ev_succ ?_
    have l1 : (n : Int) < (((xs.take n).map conv_LinePiece ++ List.replicate (xs.length - n) z45).length : Int) := by simp; omega
    simp only [laws_toLinePieceS.l0, laws_toLinePiece.f, Option.bind_some, Int.ofNat_lt.2 hn, show (0 : Int) ≤ (n : Int) from Int.natCast_nonneg _, if_true, l1, wnext hn (by omega : xs.length ≤ 9223372036854775807), rd_T83, Int.toNat_natCast]
    exact hr
  · refine ev_succ ?_
    simp only [laws_toLinePieceS.l0, Int.lt_irrefl, if_false]
    exact ev_now _

theorem laws_eqLinePieceS_self (xs : List S45) (h : xs.length ≤ 9223372036854775807) : Ev (fun k => laws_eqLinePieceS.f k xs xs) true := by
  simp only [laws_eqLinePieceS.f, if_true]
  refine ev_to (ev_all (len := xs.length) (g := fun k i => laws_eqLinePieceS.l0 k xs xs i) (fun _ => true) true ?_ (fun n hn hp => by simp at hp) ?_) (by simp)
  · intro n hn hp r hr
    refine ev_succ ?_
    simp only [laws_eqLinePieceS.l0, laws_eqLinePiece.f, Option.bind_some, Int.ofNat_lt.2 hn, show (0 : Int) ≤ (n : Int) from Int.natCast_nonneg _, if_true, bne_self_eq_false, Bool.false_eq_true, if_false, wnext hn h]
    exact hr
  · refine ev_succ ?_
    simp only [laws_eqLinePieceS.l0, Int.lt_irrefl, if_false]
    exact ev_now _

theorem laws_eqInt64S_self (xs : List Int) (h : xs.length ≤ 9223372036854775807) : Ev (fun k => laws_eqInt64S.f k xs xs) true := by
  simp only [laws_eqInt64S.f, if_true]
  refine ev_to (ev_all (len := xs.length) (g := fun k i => laws_eqInt64S.l0 k xs xs i) (fun _ => true) true ?_ (fun n hn hp => by simp at hp) ?_) (by simp)
  · intro n hn hp r hr
    refine ev_succ ?_
    simp only [laws_eqInt64S.l0, Int.ofNat_lt.2 hn, show (0 : Int) ≤ (n : Int) from Int.natCast_nonneg _, if_true, wnext hn h]
    exact hr
  · refine ev_succ ?_
    simp only [laws_eqInt64S.l0, Int.lt_irrefl, if_false]
    exact ev_now _


theorem laws_eqLine_self (ps : List S45) (js : List Int) (hp : ps.length ≤ 1048576) (hq : js.length ≤ 1048576) : Ev (fun k => laws_eqLine.f k ps js ps js) true := by
  simp only [laws_eqLine.f]
  refine Ev.bind (laws_eqLinePieceS_self _ (by omega)) ?_
  simp only [if_true]
  refine Ev.bind (laws_eqInt64S_self _ (by omega)) ?_
  simp only [if_true]
  exact ev_now _

theorem markText_l0 (n : Nat) : ∀ (a : Int) (s : ByteArray), a < 10 ^ n → s.size + n + 1 ≤ 9223372036854775807 → a ≤ 9223372036854775807 → ∃ r, Ev (fun k => laws_markText.l0 k a s) r := by
  induction n with
  | zero =>
    intro a s h1 h2 h3
    refine ⟨(⟨#[109]⟩ : ByteArray) ++ s, ev_succ ?_⟩
    simp only [laws_markText.l0, show ¬ a > 0 by simp at h1; omega, if_false, show 1 + s.size ≤ 9223372036854775807 by omega, if_true]
    exact ev_now _
  | succ n ih =>
    intro a s h1 h2 h3
    by_cases c : a > 0
    · have ht : Int.tdiv a 10 < 10 ^ n := by rw [Int.tdiv_eq_ediv_of_nonneg (by omega), Int.pow_succ] at *; omega
      have hb : 0 ≤ Int.tdiv a 10 ∧ Int.tdiv a 10 ≤ a := by rw [Int.tdiv_eq_ediv_of_nonneg (by omega)]; omega
      have hz : ∀ x, (strOfNums [x]).size = 1 := fun _ => rfl
      have hs : (strOfNums [wrap64 (48 + Int.tmod a 10) % 256] ++ s).size = 1 + s.size := by rw [ByteArray.size_append, hz]
      obtain ⟨r, hr⟩ := ih (Int.tdiv a 10) (strOfNums [wrap64 (48 + Int.tmod a 10) % 256] ++ s) ht (by omega) (by omega)
      refine ⟨r, ev_succ ?_⟩
      simp only [laws_markText.l0, c, if_true, Option.bind_some, hz, show 1 + s.size ≤ 9223372036854775807 by omega, w64 (show -9223372036854775808 ≤ Int.tdiv a 10 by omega) (show Int.tdiv a 10 ≤ 9223372036854775807 by omega)]
      exact hr
    · refine ⟨(⟨#[109]⟩ : ByteArray) ++ s, ev_succ ?_⟩
      simp only [laws_markText.l0, c, if_false, show 1 + s.size ≤ 9223372036854775807 by omega, if_true]
      exact ev_now _
theorem markText_ex (a : Int) : ∃ r, a ≤ 9223372036854775807 → Ev (fun k => laws_markText.f k a) r := by
  by_cases h : a ≤ 9223372036854775807
  · by_cases c : a ≤ 0
    · exact ⟨_, fun _ => by simp only [laws_markText.f, c, if_true]; exact ev_now _⟩
    · obtain ⟨r, hr⟩ := markText_l0 19 a ⟨#[]⟩ (by omega) (by simp [ByteArray.size]) h
      exact ⟨r, fun _ => by simp only [laws_markText.f, c, if_false]; exact hr⟩
  · exact ⟨⟨#[]⟩, fun q => absurd q h⟩
noncomputable def mkT (a : Int) : ByteArray := Classical.choose (markText_ex a)
theorem laws_markText_ev (a : Int) (h : a ≤ 9223372036854775807) : Ev (fun k => laws_markText.f k a) (mkT a) := Classical.choose_spec (markText_ex a) h

noncomputable def mkEJoin (m : Int) : S61 := ⟨mkT (m), m + 1, m + 1 + 1⟩
def MarkedJoin (xs : List S61) (n : Nat) : Prop := ∀ i, i < n → xs.getD i z61 = mkEJoin (1 + 3 * (i : Int))
theorem laws_markJoinS_ev (xs : List S61) (h : xs.length ≤ 2097152) : ∃ r, Ev (fun k => laws_markJoinS.f k xs 1) r ∧ r.1 = 1 + 3 * (xs.length : Int) ∧ r.2.length = xs.length ∧ MarkedJoin r.2 xs.length := by
  simp only [laws_markJoinS.f]
  refine ev_loop (len := xs.length) (g := fun k (s : List S61 × Int) i => laws_markJoinS.l0 k s.1 s.2 i) (fun n s => s.1.length = xs.length ∧ s.2 = 1 + 3 * (n : Int) ∧ MarkedJoin s.1 n) (fun r => r.1 = 1 + 3 * (xs.length : Int) ∧ r.2.length = xs.length ∧ MarkedJoin r.2 xs.length) ?_ ?_ (xs, 1) ⟨rfl, by simp, fun i hi => absurd hi (by omega)⟩
  · rintro n ⟨l, q⟩ hn ⟨h1, h2, h3⟩
    simp only at h1 h2 h3
    subst h2
    have e0 : wrap64 ((1 + 3 * (n : Int)) + 1) = (1 + 3 * (n : Int)) + 1 := w64 (by omega) (by omega)
    have e1 : wrap64 ((1 + 3 * (n : Int)) + 1 + 1) = (1 + 3 * (n : Int)) + 1 + 1 := w64 (by omega) (by omega)
    have e2 : wrap64 ((1 + 3 * (n : Int)) + 1 + 1 + 1) = (1 + 3 * (n : Int)) + 1 + 1 + 1 := w64 (by omega) (by omega)
    have h0 : n < l.length := by omega
    have l1 : (n : Int) < (l.length : Int) := by omega
    refine .inr ⟨(l.set n (mkEJoin (1 + 3 * (n : Int))), 1 + 3 * ((n + 1 : Nat) : Int)), ⟨by simp [h1], rfl, ?cell⟩, fun r hr => ?go⟩
    case go =>
      refine ev_succ ?_
      have ee : 1 + 3 * ((n + 1 : Nat) : Int) = 1 + 3 * (n : Int) + 1 + 1 + 1 := by omega
      rw [ee] at hr
      simp only [laws_markJoinS.l0, l1, if_true, show (0 : Int) ≤ (n : Int) from Int.natCast_nonneg _]
      refine Ev.bind (laws_markText_ev _ (by omega)) ?_
      simp only [if_true, lset_self h0, List.set_set, List.length_set, l1, Option.bind_some, Int.toNat_natCast, rd_T61, e0, e1, e2, wnext hn (by omega : xs.length ≤ 9223372036854775807), show (0 : Int) ≤ (n : Int) from Int.natCast_nonneg _]
      exact hr
    case cell =>
      intro i hi
      by_cases hin : i = n
      · subst hin; exact lset_self h0
      · show (l.set n _).getD i _ = _
        rw [lset_ne (by omega)]; exact h3 i (by omega)
  · rintro ⟨l, q⟩ ⟨h1, h2, h3⟩
    simp only at h1 h2 h3
    subst h2
    refine ⟨(1 + 3 * (xs.length : Int), l), ev_succ ?_, rfl, h1, h3⟩
    simp only [laws_markJoinS.l0, h1, Int.lt_irrefl, if_false]
    exact ev_now _

def mkELinePiece (m : Int) : S45 := ⟨m, m + 1⟩
def MarkedLinePiece (xs : List S45) (n : Nat) : Prop := ∀ i, i < n → xs.getD i z45 = mkELinePiece (1 + 2 * (i : Int))
theorem laws_markLinePieceS_ev (xs : List S45) (h : xs.length ≤ 2097152) : ∃ r, Ev (fun k => laws_markLinePieceS.f k xs 1) r ∧ r.1 = 1 + 2 * (xs.length : Int) ∧ r.2.length = xs.length ∧ MarkedLinePiece r.2 xs.length := by
  simp only [laws_markLinePieceS.f]
  refine ev_loop (len := xs.length) (g := fun k (s : List S45 × Int) i => laws_markLinePieceS.l0 k s.1 s.2 i) (fun n s => s.1.length = xs.length ∧ s.2 = 1 + 2 * (n : Int) ∧ MarkedLinePiece s.1 n) (fun r => r.1 = 1 + 2 * (xs.length : Int) ∧ r.2.length = xs.length ∧ MarkedLinePiece r.2 xs.length) ?_ ?_ (xs, 1) ⟨rfl, by simp, fun i hi => absurd hi (by omega)⟩
  · rintro n ⟨l, q⟩ hn ⟨h1, h2, h3⟩
    simp only at h1 h2 h3
    subst h2
    have e0 : wrap64 ((1 + 2 * (n : Int)) + 1) = (1 + 2 * (n : Int)) + 1 := w64 (by omega) (by omega)
    have e1 : wrap64 ((1 + 2 * (n : Int)) + 1 + 1) = (1 + 2 * (n : Int)) + 1 + 1 := w64 (by omega) (by omega)
    have h0 : n < l.length := by omega
    have l1 : (n : Int) < (l.length : Int) := by omega
    refine .inr ⟨(l.set n (mkELinePiece (1 + 2 * (n : Int))), 1 + 2 * ((n + 1 : Nat) : Int)), ⟨by simp [h1], rfl, ?cell⟩, fun r hr => ?go⟩
    case go =>
      refine ev_succ ?_
      have ee : 1 + 2 * ((n + 1 : Nat) : Int) = 1 + 2 * (n : Int) + 1 + 1 := by omega
      rw [ee] at hr
      simp only [laws_markLinePieceS.l0, l1, if_true, show (0 : Int) ≤ (n : Int) from Int.natCast_nonneg _]
      simp only [if_true, lset_self h0, List.set_set, List.length_set, l1, Option.bind_some, Int.toNat_natCast, rd_T45, e0, e1, wnext hn (by omega : xs.length ≤ 9223372036854775807), show (0 : Int) ≤ (n : Int) from Int.natCast_nonneg _]
      exact hr
    case cell =>
      intro i hi
      by_cases hin : i = n
      · subst hin; exact lset_self h0
      · show (l.set n _).getD i _ = _
        rw [lset_ne (by omega)]; exact h3 i (by omega)
  · rintro ⟨l, q⟩ ⟨h1, h2, h3⟩
    simp only at h1 h2 h3
    subst h2
    refine ⟨(1 + 2 * (xs.length : Int), l), ev_succ ?_, rfl, h1, h3⟩
    simp only [laws_markLinePieceS.l0, h1, Int.lt_irrefl, if_false]
    exact ev_now _
theorem laws_heldLinePieceS_ev (xs : List S45) (h : xs.length ≤ 2097152) (hm : MarkedLinePiece xs xs.length) : Ev (fun k => laws_heldLinePieceS.f k xs 1) (1 + 2 * (xs.length : Int)) := by
  simp only [laws_heldLinePieceS.f]
  have := ev_fold (len := xs.length) (g := fun k (s : Int) i => laws_heldLinePieceS.l0 k xs s i) (fun _ s => s + 2) (fun n => 1 + 2 * (n : Int)) (1 + 2 * (xs.length : Int))
    (fun n hn => by omega)
    (fun n hn r hr => by
      refine ev_succ ?_
      have e0 : wrap64 ((1 + 2 * (n : Int)) + 1) = (1 + 2 * (n : Int)) + 1 := w64 (by omega) (by omega)
      have e1 : wrap64 ((1 + 2 * (n : Int)) + 1 + 1) = (1 + 2 * (n : Int)) + 1 + 1 := w64 (by omega) (by omega)
      have l1 : (n : Int) < (xs.length : Int) := by omega
      have ee : 1 + 2 * (n : Int) + 2 = 1 + 2 * (n : Int) + 1 + 1 := by omega
      rw [ee] at hr
      have cell := hm n hn
      simp only [laws_heldLinePieceS.l0, l1, show (0 : Int) ≤ (n : Int) from Int.natCast_nonneg _, if_true, rd_T45, Int.toNat_natCast, cell, mkELinePiece]
      simp only [if_true, e0, e1, bne_self_eq_false, Bool.false_eq_true, if_false, wnext hn (by omega : xs.length ≤ 9223372036854775807)]
      exact hr)
    (by
      refine ev_succ ?_
      simp only [laws_heldLinePieceS.l0, Int.lt_irrefl, if_false]
      exact ev_now _)
  simpa using this

theorem laws_markInt64S_evG (xs : List Int) (m : Int) (h : xs.length ≤ 2097152) (h0 : 0 ≤ m) (h1 : m ≤ 16777216) : Ev (fun k => laws_markInt64S.f k xs m) (m + (xs.length : Int), upI m xs.length) := by
  simp only [laws_markInt64S.f]
  have := ev_fold (len := xs.length) (g := fun k (s : List Int × Int) i => laws_markInt64S.l0 k s.1 s.2 i) (fun n s => (s.1.set n s.2, s.2 + 1)) (fun n => (upI m n ++ xs.drop n, m + (n : Int))) (m + (xs.length : Int), upI m xs.length)
    (fun n hn => by
      rw [Prod.mk.injEq]
      exact ⟨(fill_up xs m hn).symm, by omega⟩)
    (fun n hn r hr => by
      refine ev_succ ?_
      have l1 : (n : Int) < ((upI m n ++ xs.drop n).length : Int) := by simp [upI_length]; omega
      have e1 : wrap64 (m + (n : Int) + 1) = m + (n : Int) + 1 := w64 (by omega) (by omega)
      simp only [laws_markInt64S.l0, l1, show (0 : Int) ≤ (n : Int) from Int.natCast_nonneg _, if_true, e1, Int.toNat_natCast, wnext hn (by omega : xs.length ≤ 9223372036854775807)]
      exact hr)
    (by
      refine ev_succ ?_
      have l1 : ¬ ((xs.length : Int) < ((upI m xs.length ++ xs.drop xs.length).length : Int)) := by simp [upI_length]
      simp only [laws_markInt64S.l0, l1, if_false]
      exact ev_to (ev_now _) (by simp))
  simpa [upI] using this
theorem laws_heldInt64S_evG (n : Nat) (m : Int) (h : n ≤ 2097152) (h0 : 0 ≤ m) (h1 : m ≤ 16777216) : Ev (fun k => laws_heldInt64S.f k (upI m n) m) (m + (n : Int)) := by
  simp only [laws_heldInt64S.f]
  have := ev_fold (len := n) (g := fun k (s : Int) i => laws_heldInt64S.l0 k (upI m n) s i) (fun _ s => s + 1) (fun i => m + (i : Int)) (m + (n : Int))
    (fun i hi => by omega)
    (fun i hi r hr => by
      refine ev_succ ?_
      have l1 : (i : Int) < ((upI m n).length : Int) := by rw [upI_length]; omega
      have e1 : wrap64 (m + (i : Int) + 1) = m + (i : Int) + 1 := w64 (by omega) (by omega)
      have e2 : rd (upI m n) (i : Int) = m + (i : Int) := by unfold rd; rw [Int.toNat_natCast]; exact upI_get m hi
      simp only [laws_heldInt64S.l0, l1, show (0 : Int) ≤ (i : Int) from Int.natCast_nonneg _, if_true, e1, e2, wnext hi (by omega : n ≤ 9223372036854775807)]
      exact hr)
    (by
      refine ev_succ ?_
      have l1 : ¬ ((n : Int) < ((upI m n).length : Int)) := by simp [upI_length]
      simp only [laws_heldInt64S.l0, l1, if_false]
      exact ev_now _)
  simpa using this
theorem laws_markPieces_any (xs : List S45) (m : Int) (h : xs.length ≤ 1048576) (h0 : 0 ≤ m) (h1 : m ≤ 8388608) : ∃ u : Int × List S45, Ev (fun k => laws_markLinePieceS.f k xs m) u ∧ u.1 = m + 2 * (xs.length : Int) := by
  simp only [laws_markLinePieceS.f]
  refine ev_loop (len := xs.length) (g := fun k (s : List S45 × Int) i => laws_markLinePieceS.l0 k s.1 s.2 i) (fun n s => s.1.length = xs.length ∧ s.2 = m + 2 * (n : Int)) (fun r => r.1 = m + 2 * (xs.length : Int)) ?_ ?_ (xs, m) ⟨rfl, by simp⟩
  · rintro n ⟨l, q⟩ hn ⟨h1, h2⟩
    simp only at h1 h2
    subst h2
    have e0 : wrap64 (m + 2 * (n : Int) + 1) = m + 2 * (n : Int) + 1 := w64 (by omega) (by omega)
    have e1 : wrap64 (m + 2 * (n : Int) + 1 + 1) = m + 2 * (n : Int) + 1 + 1 := w64 (by omega) (by omega)
    have l1 : (n : Int) < (l.length : Int) := by omega
    refine .inr ⟨(?L, ?Q), ⟨?len, ?num⟩, fun r hr => ?go⟩
    case go =>
      refine ev_succ ?_
      simp only [laws_markLinePieceS.l0, l1, show (0 : Int) ≤ (n : Int) from Int.natCast_nonneg _, if_true, e0, e1, Option.bind_some, wnext hn (by omega : xs.length ≤ 9223372036854775807)]
      exact hr
    case len => simp [h1]
    case num => simp only; omega
  · rintro ⟨l, q⟩ ⟨h1, h2⟩
    simp only at h1 h2
    subst h2
    refine ⟨(m + 2 * (xs.length : Int), l), ev_succ ?_, rfl⟩
    simp only [laws_markLinePieceS.l0, h1, Int.lt_irrefl, if_false]
    exact ev_now _
/-- A line that is marked, and held. -/
theorem laws_markLine_ev (ps : List S45) (js : List Int) (hp : ps.length ≤ 2097152) (hq : js.length ≤ 2097152) :
    ∃ r : Int × (List S45) × List Int, Ev (fun k => laws_markLine.f k ps js 1) r ∧ 1 ≤ r.1 ∧ Ev (fun k => laws_heldLine.f k r.2.1 r.2.2 1) r.1 := by
  obtain ⟨⟨c, ml⟩, m1, m2, m3, m4⟩ := laws_markLinePieceS_ev ps hp
  simp only at m2 m3 m4
  have hh := laws_heldLinePieceS_ev ml (by omega) (by rw [m3]; exact m4)
  rw [m3, ← m2] at hh
  have mi := laws_markInt64S_evG js c hq (by omega) (by omega)
  have hi := laws_heldInt64S_evG js.length c hq (by omega) (by omega)
  refine ⟨(c + (js.length : Int), ml, upI c js.length), ?_, by simp only; omega, ?_⟩
  · simp only [laws_markLine.f]
    exact Ev.bind m1 (Ev.bind mi (ev_now _))
  · simp only [laws_heldLine.f]
    refine Ev.bind hh ?_
    simp only [show ¬ c < 0 by omega, if_false]
    refine Ev.bind hi ?_
    simp only [show ¬ c + (js.length : Int) < 0 by omega, if_false]
    exact ev_now _

theorem lt_lim {n m : Nat} (h : n ≤ m) (hm : m ≤ 1048576) : n < 8796093022208 ∧ n < 17592186044416 := ⟨by omega, by omega⟩
def okP (x : S45) : Bool := pieceB x.f0 x.f1
def strong (need : Int) (x : S45) : Bool := decide (need ≤ x.f0)
/-- One more piece, if a join bears it. -/
def chainS (xs : List S61) (need : Int) (s : List S45 × List Int) (y : S45) : List S45 × List Int :=
  if 0 ≤ bestS xs (mn (s.1.getD (s.1.length - 1) z45).f0 y.f0) need xs.length ∧ (xs.getD (bestS xs (mn (s.1.getD (s.1.length - 1) z45).f0 y.f0) need xs.length).toNat z61).f2 < y.f1
  then (s.1 ++ [y], s.2 ++ [bestS xs (mn (s.1.getD (s.1.length - 1) z45).f0 y.f0) need xs.length]) else s
def chainV (xs : List S61) (need : Int) (o : List S45) : List S45 × List Int := (o.drop 1).foldl (chainS xs need) ([o.getD 0 z45], [])
def orderV (need : Int) (ps : List S45) : List S45 := (ps.filter (strong need)).foldl insP []
def longV (xs : List S61) (ps : List S45) (need : Int) : List S45 × List Int × Int :=
  if joinsB xs = true ∧ ps.all okP = true then
    if ps.length ≤ 12 ∧ 0 ≤ need ∧ need ≤ 1000000 then
      if (ps.filter (strong need)).length = 0 then ([], [], 3) else ((chainV xs need (orderV need ps)).1, (chainV xs need (orderV need ps)).2, 0)
    else ([], [], 2)
  else ([], [], 1)
theorem chainS_len (xs : List S61) (need : Int) (s : List S45 × List Int) (y : S45) : (chainS xs need s y).1.length ≤ s.1.length + 1 ∧ (chainS xs need s y).2.length ≤ s.2.length + 1 ∧ s.1.length ≤ (chainS xs need s y).1.length := by
  unfold chainS; split <;> simp
theorem chain_go (xs : List S61) (need : Int) : ∀ (o : List S45) (s : List S45 × List Int), (o.foldl (chainS xs need) s).1.length ≤ s.1.length + o.length ∧ (o.foldl (chainS xs need) s).2.length ≤ s.2.length + o.length ∧ s.1.length ≤ (o.foldl (chainS xs need) s).1.length
  | [], s => ⟨Nat.le_refl _, Nat.le_refl _, Nat.le_refl _⟩
  | y :: o, s => by
    have i := chain_go xs need o (chainS xs need s y)
    have c := chainS_len xs need s y
    rw [List.foldl_cons, List.length_cons]
    omega
theorem chain_mem (xs : List S61) (need : Int) (P : S45 → Prop) : ∀ (o : List S45) (s : List S45 × List Int), (∀ y ∈ o, P y) → (∀ y ∈ s.1, P y) → ∀ y ∈ (o.foldl (chainS xs need) s).1, P y
  | [], _, _, h => h
  | y :: o, s, ho, h => by
    rw [List.foldl_cons]
    refine chain_mem xs need P o _ (fun z hz => ho z (List.mem_cons_of_mem _ hz)) ?_
    intro z hz
    unfold chainS at hz
    split at hz
    · rcases List.mem_append.1 hz with hz | hz
      · exact h z hz
      · rw [List.mem_singleton] at hz; rw [hz]; exact ho y List.mem_cons_self
    · exact h z hz
theorem order_len (need : Int) (ps : List S45) : (orderV need ps).length = (ps.filter (strong need)).length := by
  unfold orderV; rw [foldP_length]; simp
theorem order_mem (need : Int) {ps : List S45} {y : S45} (h : y ∈ orderV need ps) : y ∈ ps := by
  rcases foldP_mem _ _ h with h | h
  · exact (List.mem_filter.1 h).1
  · simp at h
theorem longV_len (xs : List S61) (ps : List S45) (need : Int) : (longV xs ps need).1.length ≤ 1048576 ∧ (longV xs ps need).2.1.length ≤ 1048576 := by
  unfold longV
  split
  · split
    · rename_i h
      split
      · simp
      · have c := chain_go xs need ((orderV need ps).drop 1) ([(orderV need ps).getD 0 z45], [])
        have o := order_len need ps
        have f := List.length_filter_le (strong need) ps
        rw [List.length_drop] at c
        simp only [List.length_singleton, List.length_nil] at c
        unfold chainV
        dsimp only
        exact ⟨by omega, by omega⟩
    · simp
  · simp
theorem bst_lt (xs : List S61) (m need : Int) : bestS xs m need xs.length < (xs.length : Int) := bestS_lt xs m need xs.length
/-! ### the specification -/
theorem spec_chain_ev (xs : List S61) (hx : xs.length ≤ 1048576) (hb : joinsB xs = true) (need : Int) (hn : 0 ≤ need ∧ need ≤ 1000000) (o : List S45) (ho : ∀ y ∈ o, okP y = true) (h1 : 1 ≤ o.length ∧ o.length ≤ 1048576) :
    Ev (fun k => spec_LongestLine.l3 k xs need o 1 [o.getD 0 z45] []) ((chainV xs need o).1, (chainV xs need o).2, 0) := by
  have key : ∀ (rest : List S45) (pre : List S45) (s : List S45 × List Int), o = pre ++ rest → 1 ≤ s.1.length → s.1.length ≤ pre.length → s.2.length ≤ pre.length → (∀ y ∈ s.1, okP y = true) →
      Ev (fun k => spec_LongestLine.l3 k xs need o (pre.length : Int) s.1 s.2) ((rest.foldl (chainS xs need) s).1, (rest.foldl (chainS xs need) s).2, 0) := by
    intro rest
    induction rest with
    | nil =>
      intro pre s e _ _ _ _
      have : (pre.length : Int) = (o.length : Int) := by rw [e]; simp
      refine ev_succ ?_
      simp only [spec_LongestLine.l3, this, Int.lt_irrefl, if_false, List.foldl_nil]
      exact ev_now _
    | cons y rest ih =>
      intro pre s e l1 l2 l3 hs
      have ol : o.length = pre.length + (rest.length + 1) := by rw [e]; simp
      have gy : o.getD pre.length z45 = y := by rw [e]; simp [List.getD_eq_getElem?_getD]
      have q1 := lt_lim (show s.1.length ≤ o.length by omega) (by omega)
      have q2 := lt_lim (show s.2.length ≤ o.length by omega) (by omega)
      have cs := chainS_len xs need s y
      have cm := chain_mem xs need (fun y => okP y = true) [y] s (fun z hz => by rw [List.mem_singleton] at hz; subst hz; exact ho z (by rw [e]; simp)) hs
      have i := ih (pre ++ [y]) (chainS xs need s y) (by rw [e]; simp) (by omega) (by rw [List.length_append, List.length_singleton]; omega) (by rw [List.length_append, List.length_singleton]; omega) cm
      rw [List.length_append, List.length_singleton] at i
      have w1 : wrap64 ((s.1.length : Int) - 1) = ((s.1.length - 1 : Nat) : Int) := by rw [w64 (by omega) (by omega)]; omega
      have w2 : wrap64 ((pre.length : Int) + 1) = ((pre.length + 1 : Nat) : Int) := by rw [w64 (by omega) (by omega)]; omega
      have oy : okP y = true := ho y (by rw [e]; simp)
      have ol1 : okP (s.1.getD (s.1.length - 1) z45) = true := hs _ (by rw [getD_lt _ _ (by omega)]; exact List.getElem_mem _)
      have bj := spec_BestJoin_ok xs hx hb (s.1.getD (s.1.length - 1) z45).f0 (s.1.getD (s.1.length - 1) z45).f1 y.f0 y.f1 need ol1 oy hn
      have bl := bst_lt xs (mn (s.1.getD (s.1.length - 1) z45).f0 y.f0) need
      rw [List.foldl_cons]
      refine ev_succ ?_
      simp only [spec_LongestLine.l3, show (pre.length : Int) < (o.length : Int) by omega, w1, show (0 : Int) ≤ ((s.1.length - 1 : Nat) : Int) from Int.natCast_nonneg _, show ((s.1.length - 1 : Nat) : Int) < (s.1.length : Int) by omega, show (0 : Int) ≤ (pre.length : Int) from Int.natCast_nonneg _, if_true, rd_T45, rd_T61, Int.toNat_natCast, gy, w2, q1.1, q2.2]
      refine Ev.bind bj ?_
      unfold chainS at i ⊢
      unfold bestV
      generalize bestS xs (mn (s.1.getD (s.1.length - 1) z45).f0 y.f0) need xs.length = b at bl i ⊢
      by_cases h : b < 0
      · simp only [show ¬ 0 ≤ b by omega, false_and, if_false] at i
        simp only [h, if_true, show ¬ (3 : Int) = 0 by decide, if_false, show ¬ 0 ≤ b by omega, false_and]
        exact i
      · by_cases h2 : (xs.getD b.toNat z61).f2 < y.f1
        · simp only [show 0 ≤ b by omega, h2, and_self, if_true] at i
          simp only [h, if_false, if_true, show 0 ≤ b by omega, bl, h2, and_self]
          exact i
        · simp only [h2, and_false, if_false] at i
          simp only [h, if_false, if_true, show 0 ≤ b by omega, bl, h2, and_false]
          exact i
  have e : o = [o.getD 0 z45] ++ o.drop 1 := by
    cases o with
    | nil => simp at h1
    | cons x o => simp
  have := key (o.drop 1) [o.getD 0 z45] ([o.getD 0 z45], []) e (by simp) (by simp) (by simp) (fun y hy => ho y (by rw [e]; simp at hy ⊢; exact .inl hy))
  exact this
theorem spec_ins_loop (xs : List S61) (ps : List S45) (need : Int) (out : List S45) (n : Nat) (hn : n < ps.length) (hp : ps.length ≤ 12) (hl : out.length ≤ 12) {r : List S45 × List Int × Int}
    (hr : Ev (fun k => spec_LongestLine.l1 k xs ps need (insP out (ps.getD n z45)) ((n + 1 : Nat) : Int)) r) : ∀ m, m ≤ out.length → posP out (ps.getD n z45) m = posP out (ps.getD n z45) out.length →
    Ev (fun k => spec_LongestLine.l2 k xs ps need out (n : Int) (m : Int)) r := by
  have fin : ∀ m : Nat, m ≤ out.length → m = posP out (ps.getD n z45) out.length → Ev (fun k => spec_LongestLine.j4 k xs ps need out (n : Int) (m : Int) false) r := by
    intro m hm he
    have e : insP out (ps.getD n z45) = out.take m ++ [ps.getD n z45] ++ out.drop m := by unfold insP; rw [← he]
    rw [e] at hr
    refine ev_succ ?_
    simp only [spec_LongestLine.j4, Bool.false_eq_true, if_false, Option.bind_some, List.length_nil, List.nil_append, show (0 : Int) ≤ (m : Int) from Int.natCast_nonneg _, show (m : Int) ≤ (out.length : Int) by omega, show (0 : Int) ≤ (n : Int) from Int.natCast_nonneg _, Int.ofNat_lt.2 hn, if_true, Int.toNat_natCast, rd_T45, wnext hn (by omega : ps.length ≤ 9223372036854775807)]
    simp only [List.length_append, List.length_take, List.length_drop, List.length_singleton, show 0 + min m out.length < 8796093022208 by omega, show min m out.length < 8796093022208 by omega, show min m out.length + 1 + (out.length - m) < 8796093022208 by omega, if_true]
    exact hr
  intro m
  induction m with
  | zero =>
    intro hm he
    refine ev_succ ?_
    simp only [spec_LongestLine.l2, show ¬ (((0 : Nat) : Int) > 0) by omega, if_false]
    exact fin 0 hm (by rw [← he]; rfl)
  | succ m ih =>
    intro hm he
    have w1 : wrap64 (((m + 1 : Nat) : Int) - 1) = (m : Int) := by rw [w64 (by omega) (by omega)]; omega
    refine ev_succ ?_
    simp only [spec_LongestLine.l2, w1, show ((m + 1 : Nat) : Int) > 0 by omega, show (0 : Int) ≤ (m : Int) from Int.natCast_nonneg _, show (m : Int) < (out.length : Int) by omega, show (0 : Int) ≤ (n : Int) from Int.natCast_nonneg _, Int.ofNat_lt.2 hn, if_true, rd_T45, Int.toNat_natCast]
    have yes : bfP (ps.getD n z45) (out.getD m z45) = true → Ev (fun k => spec_LongestLine.j4 k xs ps need out (n : Int) ((m + 1 : Nat) : Int) true) r := by
      intro h
      have e2 : posP out (ps.getD n z45) m = posP out (ps.getD n z45) out.length := by rw [← he]; show _ = (if _ then _ else _); rw [if_pos h]
      refine ev_succ ?_
      simp only [spec_LongestLine.j4, if_true, w1]
      exact ih (by omega) e2
    have no : ¬ bfP (ps.getD n z45) (out.getD m z45) = true → Ev (fun k => spec_LongestLine.j4 k xs ps need out (n : Int) ((m + 1 : Nat) : Int) false) r := by
      intro h
      exact fin (m + 1) hm (by rw [← he]; show _ = (if _ then _ else _); rw [if_neg h])
    unfold bfP at yes no
    by_cases h1 : (out.getD m z45).f0 < (ps.getD n z45).f0
    · simp only [h1, if_true]; exact yes (by rw [decide_eq_true_eq]; omega)
    · simp only [h1, if_false]
      by_cases h2 : (out.getD m z45).f0 = (ps.getD n z45).f0
      · simp only [h2, if_true]
        by_cases h3 : (out.getD m z45).f1 < (ps.getD n z45).f1
        · simp only [h3, decide_true]; exact yes (by rw [decide_eq_true_eq]; omega)
        · simp only [h3, decide_false]; exact no (by rw [decide_eq_true_eq]; omega)
      · simp only [h2, if_false]; exact no (by rw [decide_eq_true_eq]; omega)
theorem filter_take_succ {α : Type} (p : α → Bool) (xs : List α) (z : α) {n : Nat} (h : n < xs.length) : (xs.take (n + 1)).filter p = if p (xs.getD n z) = true then (xs.take n).filter p ++ [xs.getD n z] else (xs.take n).filter p := by
  rw [List.take_succ_eq_append_getElem h, List.filter_append, getD_lt _ _ h]
  by_cases hb : p xs[n] = true
  · rw [if_pos hb]; simp [hb]
  · rw [if_neg hb]; simp [hb]
theorem spec_order_ev (xs : List S61) (hx : xs.length ≤ 1048576) (hb : joinsB xs = true) (ps : List S45) (hp : ps.length ≤ 12) (hv : ps.all okP = true) (need : Int) (hn : 0 ≤ need ∧ need ≤ 1000000) :
    Ev (fun k => spec_LongestLine.l1 k xs ps need [] 0) (if (ps.filter (strong need)).length = 0 then ([], [], 3) else ((chainV xs need (orderV need ps)).1, (chainV xs need (orderV need ps)).2, 0)) := by
  refine ev_fold (len := ps.length) (g := fun k (s : List S45) i => spec_LongestLine.l1 k xs ps need s i) (fun n s => if strong need (ps.getD n z45) = true then insP s (ps.getD n z45) else s) (fun n => ((ps.take n).filter (strong need)).foldl insP []) _ ?_ ?_ ?_
  · intro n hn'
    rw [filter_take_succ _ _ z45 hn']
    split
    · rw [List.foldl_append]; rfl
    · rfl
  · intro n hn' r hr
    refine ev_succ ?_
    simp only [spec_LongestLine.l1, Int.ofNat_lt.2 hn', show (0 : Int) ≤ (n : Int) from Int.natCast_nonneg _, if_true, rd_T45, Int.toNat_natCast, wnext hn' (by omega : ps.length ≤ 9223372036854775807)]
    by_cases h : (ps.getD n z45).f0 < need
    · have hs : ¬ strong need (ps.getD n z45) = true := by unfold strong; rw [decide_eq_true_eq]; omega
      simp only [hs, Bool.false_eq_true, if_false] at hr
      simp only [h, if_true]
      exact hr
    · have hs : strong need (ps.getD n z45) = true := by unfold strong; rw [decide_eq_true_eq]; omega
      simp only [hs, if_true] at hr
      simp only [h, if_false]
      have fl := foldP_length ((ps.take n).filter (strong need)) []
      have f2 := List.length_filter_le (strong need) (ps.take n)
      rw [List.length_take] at f2
      rw [List.length_nil] at fl
      exact spec_ins_loop xs ps need _ n hn' hp (by omega) hr _ (Nat.le_refl _) rfl
  · refine ev_succ ?_
    rw [List.take_length]
    show Ev (fun k => spec_LongestLine.l1 (k + 1) xs ps need (orderV need ps) (ps.length : Int)) _
    have ol := order_len need ps
    simp only [spec_LongestLine.l1, Int.lt_irrefl, if_false]
    by_cases h : (ps.filter (strong need)).length = 0
    · simp only [h, if_true, show ((orderV need ps).length : Int) = 0 by omega]; exact ev_now _
    · have f := List.length_filter_le (strong need) ps
      simp only [h, if_false, show ¬ ((orderV need ps).length : Int) = 0 by omega, show (0 : Int) < ((orderV need ps).length : Int) by omega, if_true, rd_T45, show ((0 : Int)).toNat = 0 from rfl]
      exact spec_chain_ev xs hx hb need hn _ (fun y hy => List.all_eq_true.1 hv y (order_mem need hy)) (by omega)
theorem all_drop {α : Type} (p : α → Bool) (xs : List α) (z : α) {n : Nat} (h : n < xs.length) : (xs.drop n).all p = (p (xs.getD n z) && (xs.drop (n + 1)).all p) := by
  rw [List.drop_eq_getElem_cons h, List.all_cons, getD_lt _ _ h]
theorem spec_LongestLine_ev (xs : List S61) (hx : xs.length ≤ 1048576) (ps : List S45) (hp : ps.length ≤ 1048576) (need : Int) : Ev (fun k => spec_LongestLine.f k xs ps need) (longV xs ps need) := by
  simp only [spec_LongestLine.f]
  refine Ev.bind (spec_l03Ok_ev xs hx) ?_
  unfold longV
  cases hb : joinsB xs
  · simp only [Bool.false_eq_true, false_and, if_false]; exact ev_now _
  · simp only [if_true, true_and]
    have key : ∀ d n, n + d = ps.length → ∀ R, (((ps.drop n).all okP = true) → Ev (fun k => spec_LongestLine.l0 k xs ps need (ps.length : Int)) R) → Ev (fun k => spec_LongestLine.l0 k xs ps need (n : Int)) (if (ps.drop n).all okP = true then R else ([], [], 1)) := by
      intro d
      induction d with
      | zero =>
        intro n hn R hR
        simp only [Nat.add_zero] at hn
        subst hn
        rw [List.drop_length] at hR ⊢
        rw [if_pos (by rfl)]
        exact hR rfl
      | succ d ih =>
        intro n hn R hR
        have hl : n < ps.length := by omega
        rw [all_drop _ _ z45 hl] at hR ⊢
        refine ev_succ ?_
        simp only [spec_LongestLine.l0, Int.ofNat_lt.2 hl, show (0 : Int) ≤ (n : Int) from Int.natCast_nonneg _, if_true, rd_T45, Int.toNat_natCast, spec_l03Piece_eq, Option.bind_some, wnext hl (by omega : ps.length ≤ 9223372036854775807)]
        unfold okP at hR ⊢
        cases hq : pieceB (ps.getD n z45).f0 (ps.getD n z45).f1
        · simp only [Bool.false_eq_true, if_false, Bool.false_and]; exact ev_now _
        · simp only [hq, if_true, Bool.true_and] at hR ⊢
          exact ih (n + 1) (by omega) R hR
    have last : ps.all okP = true → Ev (fun k => spec_LongestLine.l0 k xs ps need (ps.length : Int)) (if ps.length ≤ 12 ∧ 0 ≤ need ∧ need ≤ 1000000 then if (ps.filter (strong need)).length = 0 then ([], [], 3) else ((chainV xs need (orderV need ps)).1, (chainV xs need (orderV need ps)).2, 0) else ([], [], 2)) := by
      intro hv
      refine ev_succ ?_
      simp only [spec_LongestLine.l0, Int.lt_irrefl, if_false]
      by_cases h1 : ps.length ≤ 12
      · simp only [show ¬ (ps.length : Int) > 12 by omega, if_false, spec_l03Need.f, spec_l00In_eq, Option.bind_some]
        by_cases h2 : 0 ≤ need ∧ need ≤ 1000000
        · simp only [h1, h2, and_self, decide_true, Bool.not_true, if_true]
          refine ev_succ ?_
          simp only [spec_LongestLine.j1, Bool.false_eq_true, if_false]
          exact spec_order_ev xs hx hb ps h1 hv need h2
        · simp only [h1, h2, decide_false, Bool.not_false, and_false, if_false]
          refine ev_succ ?_
          simp only [spec_LongestLine.j1, if_true]
          exact ev_now _
      · simp only [show (ps.length : Int) > 12 by omega, if_true, h1, false_and, if_false]
        refine ev_succ ?_
        simp only [spec_LongestLine.j1, if_true]
        exact ev_now _
    have := key ps.length 0 (by omega) _ (by rw [List.drop_zero]; exact last)
    rw [List.drop_zero] at this
    exact this
/-! ### the program -/
theorem impl_chain_ev (xs : List S61) (hx : xs.length ≤ 1048576) (need : Int) (o : List S45) (h1 : o.length ≤ 1048576) (z0 : S45) :
    Ev (fun k => impl_LongestLine.l1 k xs need o (o.length : Int) 0 [z0] []) ((o.foldl (chainS xs need) ([z0], [])).1, (o.foldl (chainS xs need) ([z0], [])).2, 0) := by
  have key : ∀ (rest : List S45) (pre : List S45) (s : List S45 × List Int), o = pre ++ rest → 1 ≤ s.1.length → s.1.length ≤ pre.length + 1 → s.2.length ≤ pre.length →
      Ev (fun k => impl_LongestLine.l1 k xs need o (o.length : Int) (pre.length : Int) s.1 s.2) ((rest.foldl (chainS xs need) s).1, (rest.foldl (chainS xs need) s).2, 0) := by
    intro rest
    induction rest with
    | nil =>
      intro pre s e _ _ _
      have : (pre.length : Int) = (o.length : Int) := by rw [e]; simp
      refine ev_succ ?_
      simp only [impl_LongestLine.l1, this, Int.lt_irrefl, if_false, List.foldl_nil]
      exact ev_now _
    | cons y rest ih =>
      intro pre s e l1 l2 l3
      have ol : o.length = pre.length + (rest.length + 1) := by rw [e]; simp
      have gy : o.getD pre.length z45 = y := by rw [e]; simp [List.getD_eq_getElem?_getD]
      have q1 := lt_lim (show s.1.length ≤ o.length by omega) (by omega)
      have q2 := lt_lim (show s.2.length ≤ o.length by omega) (by omega)
      have cs := chainS_len xs need s y
      have i := ih (pre ++ [y]) (chainS xs need s y) (by rw [e]; simp) (by omega) (by rw [List.length_append, List.length_singleton]; omega) (by rw [List.length_append, List.length_singleton]; omega)
      rw [List.length_append, List.length_singleton] at i
      have w1 : wrap64 ((s.1.length : Int) - 1) = ((s.1.length - 1 : Nat) : Int) := by rw [w64 (by omega) (by omega)]; omega
      have w2 : wrap64 ((pre.length : Int) + 1) = ((pre.length + 1 : Nat) : Int) := by rw [w64 (by omega) (by omega)]; omega
      have bj := impl_best_loop xs hx need (s.1.getD (s.1.length - 1) z45).f0 (s.1.getD (s.1.length - 1) z45).f1 y.f0 y.f1
      have bl := bst_lt xs (mn (s.1.getD (s.1.length - 1) z45).f0 y.f0) need
      rw [List.foldl_cons]
      refine ev_succ ?_
      simp only [impl_LongestLine.l1, show (pre.length : Int) < (o.length : Int) by omega, w1, show (0 : Int) ≤ ((s.1.length - 1 : Nat) : Int) from Int.natCast_nonneg _, show ((s.1.length - 1 : Nat) : Int) < (s.1.length : Int) by omega, show (0 : Int) ≤ (pre.length : Int) from Int.natCast_nonneg _, if_true, rd_T45, rd_T61, Int.toNat_natCast, gy, w2, q1.1, q2.2]
      refine Ev.bind bj ?_
      unfold chainS at i ⊢
      generalize bestS xs (mn (s.1.getD (s.1.length - 1) z45).f0 y.f0) need xs.length = b at bl i ⊢
      by_cases h : b ≥ 0
      · by_cases h2 : (xs.getD b.toNat z61).f2 < y.f1
        · simp only [show 0 ≤ b by omega, h2, and_self, if_true] at i
          simp only [h, if_true, show 0 ≤ b by omega, bl, h2, and_self]
          exact i
        · simp only [h2, and_false, if_false] at i
          simp only [h, if_false, if_true, show 0 ≤ b by omega, bl, h2, and_false]
          exact i
      · simp only [show ¬ 0 ≤ b by omega, false_and, if_false] at i
        simp only [h, if_false, show ¬ 0 ≤ b by omega, false_and]
        exact i
  exact key o [] ([z0], []) rfl (by simp) (by simp) (by simp)
theorem impl_rest_ev (xs : List S61) (hx : xs.length ≤ 1048576) (need : Int) (q : List S45) (hq : q.length ≤ 12) :
    Ev (fun k => impl_LongestLine.j1 k xs need q false) (if q.length = 0 then ([], [], 3) else ((chainV xs need (q.foldl insP [])).1, (chainV xs need (q.foldl insP [])).2, 0)) := by
  refine ev_succ ?_
  simp only [impl_LongestLine.j1, Bool.false_eq_true, if_false]
  by_cases h : q.length = 0
  · simp only [h, if_true, show ((0 : Nat) : Int) = 0 from rfl]; exact ev_now _
  · simp only [h, if_false, show ¬ (q.length : Int) = 0 by omega]
    have so := impl_sortP_ev q (by omega)
    have sl := sortP_length q (Nat.le_refl _)
    have se : sortP q q.length = q.foldl insP [] := by unfold sortP; rw [List.take_length]
    rw [se] at so sl
    refine Ev.bind so ?_
    simp only [show (0 : Int) < (q.length : Int) by omega, show (1 : Int) ≤ (q.length : Int) by omega, if_true, Option.bind_some, rd_T45, show ((0 : Int)).toNat = 0 from rfl]
    exact impl_chain_ev xs hx need _ (by rw [List.length_drop]; omega) _
theorem impl_LongestLine_ev (xs : List S61) (hx : xs.length ≤ 1048576) (ps : List S45) (hp : ps.length ≤ 1048576) (need : Int) : Ev (fun k => impl_LongestLine.f k xs ps need) (longV xs ps need) := by
  simp only [impl_LongestLine.f]
  refine Ev.bind (impl_ValidJoins_ev xs hx) ?_
  unfold longV
  cases hb : joinsB xs
  · simp only [Bool.false_eq_true, false_and, if_false]; exact ev_now _
  · simp only [if_true, true_and]
    have key : ∀ d n, n + d = ps.length → ∀ R, (((ps.drop n).all okP = true) → Ev (fun k => impl_LongestLine.l0 k xs ps need (ps.filter (strong need)) ps (ps.length : Int) (ps.length : Int)) R) → Ev (fun k => impl_LongestLine.l0 k xs ps need ((ps.take n).filter (strong need)) ps (ps.length : Int) (n : Int)) (if (ps.drop n).all okP = true then R else ([], [], 1)) := by
      intro d
      induction d with
      | zero =>
        intro n hn R hR
        simp only [Nat.add_zero] at hn
        subst hn
        rw [List.drop_length] at hR ⊢
        rw [if_pos (by rfl), List.take_length]
        exact hR rfl
      | succ d ih =>
        intro n hn R hR
        have hl : n < ps.length := by omega
        have fl := List.length_filter_le (strong need) (ps.take n)
        rw [List.length_take] at fl
        rw [all_drop _ _ z45 hl] at hR ⊢
        have i := fun h => ih (n + 1) (by omega) R h
        rw [filter_take_succ _ _ z45 hl] at i
        refine ev_succ ?_
        simp only [impl_LongestLine.l0, Int.ofNat_lt.2 hl, show (0 : Int) ≤ (n : Int) from Int.natCast_nonneg _, if_true, rd_T45, Int.toNat_natCast, impl_validPiece_eq, Option.bind_some, wnext hl (by omega : ps.length ≤ 9223372036854775807), show ((ps.take n).filter (strong need)).length < 8796093022208 by omega]
        unfold okP at hR i ⊢
        cases hq : pieceB (ps.getD n z45).f0 (ps.getD n z45).f1
        · simp only [Bool.false_eq_true, if_false, Bool.false_and]; exact ev_now _
        · simp only [hq, if_true, Bool.true_and] at hR ⊢
          by_cases hs : (ps.getD n z45).f0 ≥ need
          · have h2 : strong need (ps.getD n z45) = true := by unfold strong; rw [decide_eq_true_eq]; omega
            rw [if_pos h2] at i
            simp only [hs, if_true]
            exact i hR
          · have h2 : ¬ strong need (ps.getD n z45) = true := by unfold strong; rw [decide_eq_true_eq]; omega
            rw [if_neg h2] at i
            simp only [hs, if_false]
            exact i hR
    have last : Ev (fun k => impl_LongestLine.l0 k xs ps need (ps.filter (strong need)) ps (ps.length : Int) (ps.length : Int)) (if ps.length ≤ 12 ∧ 0 ≤ need ∧ need ≤ 1000000 then if (ps.filter (strong need)).length = 0 then ([], [], 3) else ((chainV xs need (orderV need ps)).1, (chainV xs need (orderV need ps)).2, 0) else ([], [], 2)) := by
      have fl := List.length_filter_le (strong need) ps
      refine ev_succ ?_
      simp only [impl_LongestLine.l0, Int.lt_irrefl, if_false, impl_within_eq, Option.bind_some]
      by_cases h2 : 0 ≤ need ∧ need ≤ 1000000
      · by_cases h1 : ps.length ≤ 12
        · simp only [h1, h2, and_self, decide_true, if_true, show decide ((ps.length : Int) > 12) = false from decide_eq_false (by omega)]
          exact impl_rest_ev xs hx need _ (by omega)
        · simp only [h1, h2, and_self, decide_true, if_true, false_and, if_false, show decide ((ps.length : Int) > 12) = true from decide_eq_true (by omega)]
          refine ev_succ ?_
          simp only [impl_LongestLine.j1, if_true]
          exact ev_now _
      · simp only [h2, decide_false, Bool.false_eq_true, and_false, if_false]
        refine ev_succ ?_
        simp only [impl_LongestLine.j1, if_true]
        exact ev_now _
    have := key ps.length 0 (by omega) _ (fun _ => last)
    rw [List.drop_zero] at this
    exact this
theorem FnExactLongestLine : laws_FnExactLongestLine.Pure := by
  intro xs ps need hx hp hn
  refine Ev.rounds ?_
  simp only [laws_FnExactLongestLine.f]
  obtain ⟨left, s1, s2⟩ := laws_szJoinS_ev xs (by have := hx.2.1; rw [maxLen_eq] at this; omega) (fun x h => (hx.2.2 x h).1)
  refine Ev.bind s1 ?_
  by_cases h : left < 0
  · simp only [h, if_true]; exact ev_now _
  have hl : xs.length ≤ 1048576 := by omega
  have hm : (xs.map conv_Join).length ≤ 1048576 := by simpa using hl
  simp only [h, if_false, laws_szLinePieceS.f]
  by_cases h' : wrap64 (left - (ps.length : Int)) < 0
  · simp only [h', if_true, Option.bind_some, show (-1 : Int) < 0 by decide]; exact ev_now _
  have hp1 : ps.length ≤ 1048576 := by have := hp.2.1; rw [maxLen_eq] at this; unfold wrap64 at h'; omega
  have hpm : (ps.map conv_LinePiece).length ≤ 1048576 := by simpa using hp1
  simp only [h', if_false, Option.bind_some]
  have k1 := spec_LongestLine_ev _ hm _ hpm need
  have k2 := impl_LongestLine_ev _ hm _ hpm need
  have kl := longV_len (xs.map conv_Join) (ps.map conv_LinePiece) need
  generalize longV (xs.map conv_Join) (ps.map conv_LinePiece) need = r at k1 k2 kl
  obtain ⟨⟨cnt, mj⟩, m1, m2, m3, m4⟩ := laws_markJoinS_ev (xs.map conv_Join) (by omega)
  simp only at m2
  obtain ⟨u, u1, u2⟩ := laws_markPieces_any (ps.map conv_LinePiece) cnt (by omega) (by omega) (by omega)
  obtain ⟨mr, mr1, mr2, mr3⟩ := laws_markLine_ev r.1 r.2.1 (by omega) (by omega)
  refine Ev.bind (laws_toJoinS_ev xs hl) (Ev.bind (laws_toLinePieceS_ev ps hp1) (Ev.bind k1 (Ev.bind (laws_toJoinS_ev xs hl) (Ev.bind (laws_toLinePieceS_ev ps hp1) (Ev.bind k2 (Ev.bind (laws_eqLine_self r.1 r.2.1 kl.1 kl.2) ?_))))))
  simp only [if_true, bne_self_eq_false]
  refine ev_succ ?_
  simp only [laws_FnExactLongestLine.j0, Bool.false_eq_true, if_false]
  refine Ev.bind (laws_toJoinS_ev xs hl) (Ev.bind (laws_eqJoinS_self _ (by omega)) ?_)
  simp only [if_true]
  refine Ev.bind (laws_toLinePieceS_ev ps hp1) (Ev.bind (laws_eqLinePieceS_self _ (by omega)) ?_)
  simp only [if_true]
  refine Ev.bind m1 (Ev.bind u1 ?_)
  simp only [show ¬ u.1 < 0 by omega, if_false]
  refine Ev.bind (laws_eqLine_self r.1 r.2.1 kl.1 kl.2) ?_
  simp only [if_true, bne_self_eq_false]
  refine ev_succ ?_
  simp only [laws_FnExactLongestLine.j1, Bool.false_eq_true, if_false]
  refine Ev.bind mr1 (Ev.bind mr3 ?_)
  simp only [show ¬ mr.1 < 0 by omega, if_false, if_true]
  refine Ev.bind (laws_toJoinS_ev xs hl) (Ev.bind (laws_toLinePieceS_ev ps hp1) (Ev.bind k2 (Ev.bind (laws_eqLine_self r.1 r.2.1 kl.1 kl.2) ?_)))
  simp only [if_true, bne_self_eq_false]
  refine ev_succ ?_
  simp only [laws_FnExactLongestLine.j2, Bool.false_eq_true, if_false]
  refine Ev.bind mr3 ?_
  simp only [show ¬ mr.1 < 0 by omega, if_false, if_true]
  exact ev_now _

end Go.Proofs.Ytginmioklkcgbaa.Pure

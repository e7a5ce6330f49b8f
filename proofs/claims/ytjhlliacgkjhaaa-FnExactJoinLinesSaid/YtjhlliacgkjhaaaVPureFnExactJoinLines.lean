/- The pure statement of FnExactJoinLines: numbers and lists alone. No condition. -/
import Derived.Test.YtjhlliacgkjhaaaVQFnExactJoinLinesx14
import Derived.Test.YtjhlliacgkjhaaaVAid
namespace Go.Proofs.Ytjhlliacgkjhaaa.Pure
open Go.RowKit Go.Proofs.Ytjhlliacgkjhaaa.QFnExactJoinLines Go.Proofs.YtjhlliacgkjhaaaW.PrintWords Go.Proofs.YtjhlliacgkjhaaaW.PrintLast Go.Proofs.YtjhlliacgkjhaaaW.PrintMore Go.Proofs.Ytjhlliacgkjhaaa.Aid
set_option linter.unusedVariables false
set_option linter.unusedSimpArgs false

theorem spec_l01Small_eq (c : Int) : spec_l01Small.f c = some (decide (97 ≤ c ∧ c ≤ 122)) := by
  unfold spec_l01Small.f
  by_cases h : c ≥ 97
  · rw [if_pos h]; congr 1; simp; omega
  · rw [if_neg h]; congr 1; simp; omega
theorem spec_l01Digit_eq (c : Int) : spec_l01Digit.f c = some (decide (48 ≤ c ∧ c ≤ 57)) := by
  unfold spec_l01Digit.f
  by_cases h : c ≥ 48
  · rw [if_pos h]; congr 1; simp; omega
  · rw [if_neg h]; congr 1; simp; omega
theorem spec_IsName_loop (s : ByteArray) (hs : s.size ≤ 12) : Ev (fun k => spec_IsName.l0 k s 0) ((List.range s.size).all fun i => nameCh (bt s i)) := by
  refine ev_to (ev_all (len := s.size) (g := fun k i => spec_IsName.l0 k s i) (fun i => nameCh (bt s i)) true ?_ ?_ ?_) (by simp)
  · intro n hn hp r hr
    refine ev_succ ?_
    simp only [spec_IsName.l0, spec_l01Small_eq, spec_l01Digit_eq, Option.bind_some]
    simp only [Int.ofNat_lt.2 hn, if_true, show (0 : Int) ≤ (n : Int) from Int.natCast_nonneg n, wnext hn (by omega : s.size ≤ 9223372036854775807)]
    unfold nameCh at hp
    by_cases c1 : 97 ≤ bt s n ∧ bt s n ≤ 122
    · simpa [c1] using hr
    · by_cases c2 : 48 ≤ bt s n ∧ bt s n ≤ 57
      · simpa [c1, c2] using hr
      · by_cases c3 : bt s n = 45
        · simpa [c3] using hr
        · simp [c1, c2, c3] at hp
  · intro n hn hp
    refine ev_succ ?_
    simp only [spec_IsName.l0, spec_l01Small_eq, spec_l01Digit_eq, Option.bind_some]
    unfold nameCh at hp
    simp only [Bool.or_eq_false_iff, decide_eq_false_iff_not] at hp
    simp only [hp.1.1, hp.1.2, hp.2, Int.ofNat_lt.2 hn, show (0 : Int) ≤ (n : Int) from Int.natCast_nonneg n, if_true, if_false, decide_false, Bool.false_eq_true]
    exact ev_now _
  · refine ev_succ ?_
    simp only [spec_IsName.l0, Int.lt_irrefl, if_false]
    exact ev_now _
theorem toList_nil_iff (s : ByteArray) : s.toList = ([] : List UInt8) ↔ s.size = 0 := by
  rw [← List.length_eq_zero_iff, ByteArray.toList_eq, Array.length_toList]
  exact Iff.rfl
theorem spec_IsName_ev (s : ByteArray) : Ev (fun k => spec_IsName.f k s) (isNameB s) := by
  unfold spec_IsName.f isNameB
  by_cases h0 : s.size = 0
  · simp only [(toList_nil_iff s).2 h0, if_true, h0]
    refine ev_succ ?_
    simp only [spec_IsName.j0, if_true]
    exact ev_now _
  · have h0' : ¬ s.toList = ([] : List UInt8) := fun h => h0 ((toList_nil_iff s).1 h)
    simp only [h0', if_false]
    by_cases h1 : s.size ≤ 12
    · have e1 : ¬ ((s.size : Int) > 12) := by omega
      have e2 : (0 : Int) < (s.size : Int) := by omega
      simp only [e1, e2, if_true, if_false, spec_l01Small_eq, Option.bind_some]
      refine ev_succ ?_
      simp only [spec_IsName.j0]
      by_cases h2 : 97 ≤ bt s 0 ∧ bt s 0 ≤ 122
      · simp only [h2, decide_true, Bool.not_true, Bool.false_eq_true, if_false, and_self]
        refine ev_to (spec_IsName_loop s h1) ?_
        simp [show 1 ≤ s.size by omega, h1]
      · simp only [h2, decide_false, Bool.not_false, if_true]
        exact ev_to (ev_now _) (by simp)
    · have e1 : ((s.size : Int) > 12) := by omega
      simp only [e1, if_true]
      refine ev_succ ?_
      simp only [spec_IsName.j0, if_true]
      exact ev_to (ev_now _) (by simp [h1])
theorem impl_IsName_loop (s : ByteArray) (hs : s.size ≤ 12) : Ev (fun k => impl_IsName.l0 k s 0) ((List.range s.size).all fun i => nameCh (bt s i)) := by
  refine ev_to (ev_all (len := s.size) (g := fun k i => impl_IsName.l0 k s i) (fun i => nameCh (bt s i)) true ?_ ?_ ?_) (by simp)
  · intro n hn hp r hr
    refine ev_succ ?_
    simp only [impl_IsName.l0]
    unfold nameCh at hp
    simp only [Bool.or_eq_true, decide_eq_true_eq] at hp
    have e0 : (n : Int) < (s.size : Int) := by omega
    simp only [e0, show (0 : Int) ≤ (n : Int) from Int.natCast_nonneg n, if_true, wnext hn (by omega : s.size ≤ 9223372036854775807)]
    by_cases d1 : bt s n < 97 <;> by_cases d2 : bt s n > 122 <;> by_cases d3 : bt s n < 48 <;> by_cases d4 : bt s n > 57 <;> by_cases d5 : bt s n = 45 <;>
      first | (exfalso; omega) | (simp only [d1, d2, d3, d4, d5, if_true, if_false]; exact hr)
  · intro n hn hp
    refine ev_succ ?_
    simp only [impl_IsName.l0]
    unfold nameCh at hp
    simp only [Bool.or_eq_false_iff, decide_eq_false_iff_not] at hp
    have e0 : (n : Int) < (s.size : Int) := by omega
    simp only [e0, show (0 : Int) ≤ (n : Int) from Int.natCast_nonneg n, if_true]
    by_cases d1 : bt s n < 97 <;> by_cases d2 : bt s n > 122 <;> by_cases d3 : bt s n < 48 <;> by_cases d4 : bt s n > 57 <;> by_cases d5 : bt s n = 45 <;>
      first | (exfalso; omega) | (simp only [d1, d2, d3, d4, d5, if_true, if_false]; exact ev_now _)
  · refine ev_succ ?_
    simp only [impl_IsName.l0, Int.lt_irrefl, if_false]
    exact ev_now _
theorem impl_IsName_ev (s : ByteArray) : Ev (fun k => impl_IsName.f k s) (isNameB s) := by
  unfold impl_IsName.f isNameB
  by_cases h0 : s.size = 0
  · simp only [h0]
    refine ev_succ ?_
    simp only [impl_IsName.j0, if_true]
    exact ev_now _
  · have e3 : ¬ ((s.size : Int) < 1) := by omega
    simp only [e3, if_false]
    by_cases h1 : s.size ≤ 12
    · have e1 : ¬ ((s.size : Int) > 12) := by omega
      have e2 : (0 : Int) < (s.size : Int) := by omega
      simp only [e1, e2, if_true, if_false]
      by_cases h2 : bt s 0 < 97
      · simp only [h2, if_true]
        refine ev_succ ?_
        simp only [impl_IsName.j0, if_true]
        exact ev_to (ev_now _) (by simp; omega)
      · simp only [h2, if_false]
        refine ev_succ ?_
        simp only [impl_IsName.j0]
        by_cases h3 : bt s 0 > 122
        · simp only [h3, decide_true, if_true]
          exact ev_to (ev_now _) (by simp; omega)
        · simp only [h3, decide_false, Bool.false_eq_true, if_false]
          refine ev_to (impl_IsName_loop s h1) ?_
          simp [show 1 ≤ s.size by omega, h1, show 97 ≤ bt s 0 by omega, show bt s 0 ≤ 122 by omega]
    · have e1 : ((s.size : Int) > 12) := by omega
      simp only [e1, if_true]
      refine ev_succ ?_
      simp only [impl_IsName.j0, if_true]
      exact ev_to (ev_now _) (by simp [h1])

theorem spec_l00In_eq (a b c : Int) : spec_l00In.f a b c = some (decide (b ≤ a ∧ a ≤ c)) := by
  unfold spec_l00In.f
  by_cases h : a ≥ b
  · rw [if_pos h]; congr 1; simp; omega
  · rw [if_neg h]; congr 1; simp; omega

theorem impl_within_eq (a b c : Int) : impl_within.f a b c = some (decide (b ≤ a ∧ a ≤ c)) := by
  unfold impl_within.f
  by_cases h : a ≥ b
  · rw [if_pos h]; congr 1; simp; omega
  · rw [if_neg h]; congr 1; simp; omega

def joinB (s : ByteArray) (a b : Int) : Bool := isNameB s && (decide (1 ≤ a ∧ a ≤ 1000) && decide (0 ≤ b ∧ b ≤ 1000))
def jB (x : S74) : Bool := joinB x.f0 x.f1 x.f2
theorem spec_l03OneAt_ev (x : S74) : Ev (fun k => spec_l03OneAt.f k [x]) (jB x) := by
  have e0 : rd_T74 [x] 0 = x := rfl
  have l0 : (0 : Int) < (([x] : List S74).length : Int) := by simp
  simp only [spec_l03OneAt.f, spec_l00In_eq, Option.bind_some, e0, l0, if_true]
  refine Ev.bind (spec_IsName_ev _) ?_
  unfold jB joinB
  cases isNameB x.f0
  · exact ev_now _
  · by_cases h1 : 1 ≤ x.f1 ∧ x.f1 ≤ 1000
    · simp only [h1, decide_true, if_true, Bool.true_and, and_self]; exact ev_now _
    · simp only [h1, decide_false, if_true, Bool.true_and, Bool.false_and, Bool.false_eq_true, if_false]; exact ev_now _
theorem impl_validJoin_ev (s : ByteArray) (a b : Int) : Ev (fun k => impl_validJoin.f k s a b) (joinB s a b) := by
  simp only [impl_validJoin.f, impl_within_eq, Option.bind_some]
  refine Ev.bind (impl_IsName_ev s) ?_
  unfold joinB
  cases isNameB s
  · exact ev_now _
  · by_cases h1 : 1 ≤ a ∧ a ≤ 1000
    · simp only [h1, decide_true, if_true, Bool.true_and, and_self]; exact ev_now _
    · simp only [h1, decide_false, if_true, Bool.true_and, Bool.false_and, Bool.false_eq_true, if_false]; exact ev_now _

def sameN (xs : List S74) (n j : Nat) : Bool := decide ((xs.getD j z74).f0.toList = (xs.getD n z74).f0.toList)
def joinsP (xs : List S74) (n : Nat) : Bool := jB (xs.getD n z74) && !((List.range n).any (sameN xs n))
def joinsB (xs : List S74) : Bool := (List.range xs.length).all (joinsP xs) && decide (xs.length ≤ 20)
theorem spec_l03Ok_l1 (xs : List S74) (h : xs.length ≤ 1048576) (n : Nat) (hn : n < xs.length) (r : Bool)
    (hr : (List.range n).any (sameN xs n) = false → Ev (fun k => spec_l03Ok.l0 k xs ((n + 1 : Nat) : Int)) r) (hf : (List.range n).any (sameN xs n) = true → r = false) : Ev (fun k => spec_l03Ok.l1 k xs (n : Int) 0) r := by
  suffices key : ∃ r', Ev (fun k => spec_l03Ok.l1 k xs (n : Int) 0) r' ∧ r' = r by obtain ⟨r', hr', e⟩ := key; exact e ▸ hr'
  refine ev_loop (len := n) (g := fun k (_ : Unit) j => spec_l03Ok.l1 k xs (n : Int) j) (fun j _ => (List.range j).any (sameN xs n) = false) (fun r' => r' = r) ?_ ?_ () rfl
  · intro j _ hj hi
    cases hb : sameN xs n j with
    | false =>
      refine .inr ⟨(), by rw [List.range_succ, List.any_append, hi, List.any_cons, List.any_nil, hb]; rfl, fun r' hr' => ev_succ ?_⟩
      simp only [sameN, decide_eq_false_iff_not] at hb
      simp only [spec_l03Ok.l1, Int.ofNat_lt.2 hj, Int.ofNat_lt.2 hn, Int.ofNat_lt.2 (Nat.lt_trans hj hn), show (0 : Int) ≤ (j : Int) from Int.natCast_nonneg _, show (0 : Int) ≤ (n : Int) from Int.natCast_nonneg _, if_true, rd_T74, Int.toNat_natCast, hb, if_false, wnext hj (by omega : n ≤ 9223372036854775807)]
      exact hr'
    | true =>
      have ht : (List.range n).any (sameN xs n) = true := by rw [List.any_eq_true]; exact ⟨j, List.mem_range.2 hj, hb⟩
      refine .inl ⟨r, ev_succ ?_, rfl⟩
      rw [hf ht]
      simp only [sameN, decide_eq_true_eq] at hb
      simp only [spec_l03Ok.l1, Int.ofNat_lt.2 hj, Int.ofNat_lt.2 hn, Int.ofNat_lt.2 (Nat.lt_trans hj hn), show (0 : Int) ≤ (j : Int) from Int.natCast_nonneg _, show (0 : Int) ≤ (n : Int) from Int.natCast_nonneg _, if_true, rd_T74, Int.toNat_natCast, hb]
      exact ev_now _
  · intro _ hi
    refine ⟨r, ev_succ ?_, rfl⟩
    simp only [spec_l03Ok.l1, Int.lt_irrefl, if_false, wnext hn (by omega : xs.length ≤ 9223372036854775807)]
    exact hr hi
theorem spec_l03Ok_ev (xs : List S74) (h : xs.length ≤ 1048576) : Ev (fun k => spec_l03Ok.f k xs) (joinsB xs) := by
  simp only [spec_l03Ok.f]
  refine ev_all (len := xs.length) (g := fun k i => spec_l03Ok.l0 k xs i) (joinsP xs) (decide (xs.length ≤ 20)) ?_ ?_ ?_
  · intro n hn hp r hr
    unfold joinsP at hp
    simp only [Bool.and_eq_true, Bool.not_eq_true'] at hp
    refine ev_succ ?_
    simp only [spec_l03Ok.l0, Int.ofNat_lt.2 hn, show (0 : Int) ≤ (n : Int) from Int.natCast_nonneg _, if_true, rd_T74, Int.toNat_natCast]
    refine Ev.bind (spec_l03OneAt_ev _) ?_
    simp only [hp.1, if_true]
    exact spec_l03Ok_l1 xs h n hn r (fun _ => hr) (fun ht => by rw [hp.2] at ht; cases ht)
  · intro n hn hp
    unfold joinsP at hp
    refine ev_succ ?_
    simp only [spec_l03Ok.l0, Int.ofNat_lt.2 hn, show (0 : Int) ≤ (n : Int) from Int.natCast_nonneg _, if_true, rd_T74, Int.toNat_natCast]
    refine Ev.bind (spec_l03OneAt_ev _) ?_
    cases h1 : jB (xs.getD n z74)
    · simp only [Bool.false_eq_true, if_false]; exact ev_now _
    · simp only [h1, Bool.true_and, Bool.not_eq_false'] at hp
      simp only [if_true]
      exact spec_l03Ok_l1 xs h n hn false (fun ht => by rw [hp] at ht; cases ht) (fun _ => rfl)
  · refine ev_succ ?_
    simp only [spec_l03Ok.l0, Int.lt_irrefl, if_false]
    exact ev_to (ev_now _) (by congr 1; simp; omega)
theorem impl_contains_ev (xs : List S74) (h : xs.length ≤ 1048576) (y : S74) : Ev (fun k => impl_Join_59.f k xs [y]) ((List.range xs.length).any fun j => decide ((xs.getD j z74).f0.toList = y.f0.toList)) := by
  have e0 : rd_T74 [y] 0 = y := rfl
  have l0 : (0 : Int) < (([y] : List S74).length : Int) := by simp
  simp only [impl_Join_59.f, impl_Join_67.f]
  refine Ev.bind (ev_find (len := xs.length) (g := fun k i => impl_Join_67.l0 k xs [y] (xs.length : Int) i) (fun j => decide ((xs.getD j z74).f0.toList = y.f0.toList)) (fun n => (n : Int)) (-1) ?_ ?_ ?_) (ev_to (ev_now _) ?_)
  · intro n hn hp r hr
    refine ev_succ ?_
    simp only [decide_eq_false_iff_not] at hp
    simp only [impl_Join_67.l0, impl_ValidJoins_1.f, e0, l0, Option.bind_some, Int.ofNat_lt.2 hn, show (0 : Int) ≤ (n : Int) from Int.natCast_nonneg _, if_true, rd_T74, Int.toNat_natCast, wnext hn (by omega : xs.length ≤ 9223372036854775807)]
    rw [show ((xs.getD n z74).f0.toList == (([y] : List S74).getD (0 : Int).toNat z74).f0.toList) = false from by rw [beq_eq_false_iff_ne]; exact hp]
    simp only [Bool.false_eq_true, if_false]
    exact hr
  · intro n hn hp
    refine ev_succ ?_
    simp only [decide_eq_true_eq] at hp
    simp only [impl_Join_67.l0, impl_ValidJoins_1.f, e0, l0, Option.bind_some, Int.ofNat_lt.2 hn, show (0 : Int) ≤ (n : Int) from Int.natCast_nonneg _, if_true, rd_T74, Int.toNat_natCast]
    rw [show ((xs.getD n z74).f0.toList == (([y] : List S74).getD (0 : Int).toNat z74).f0.toList) = true from by rw [beq_iff_eq]; exact hp]
    simp only [if_true]
    exact ev_now _
  · refine ev_succ ?_
    simp only [impl_Join_67.l0, Int.lt_irrefl, if_false]
    exact ev_now _
  · cases hf : (List.range xs.length).find? (fun j => decide ((xs.getD j z74).f0.toList = y.f0.toList)) with
    | none =>
      rw [List.find?_eq_none] at hf
      simp only
      symm
      rw [show decide ((-1 : Int) ≥ 0) = false from rfl, List.any_eq_false]
      exact hf
    | some n =>
      simp only
      symm
      rw [show decide ((n : Int) ≥ 0) = true by simp, List.any_eq_true]
      exact ⟨n, List.mem_of_find?_eq_some hf, by have h2 := List.find?_some hf; exact h2⟩
theorem impl_ValidJoins_ev (xs : List S74) (h : xs.length ≤ 1048576) : Ev (fun k => impl_ValidJoins.f k xs) (joinsB xs) := by
  simp only [impl_ValidJoins.f]
  by_cases hb : (xs.length : Int) > 20
  · simp only [hb, if_true]
    exact ev_to (ev_now _) (by unfold joinsB; rw [show decide (xs.length ≤ 20) = false by simp; omega, Bool.and_false])
  simp only [hb, if_false]
  have anyE : ∀ n, n < xs.length → ((List.range (xs.take n).length).any fun j => decide (((xs.take n).getD j z74).f0.toList = (xs.getD n z74).f0.toList)) = (List.range n).any (sameN xs n) := by
    intro n hn
    rw [List.length_take, Nat.min_eq_left (by omega), Bool.eq_iff_iff, List.any_eq_true, List.any_eq_true]
    have e : ∀ j, j < n → (xs.take n).getD j z74 = xs.getD j z74 := fun j hj => by simp [List.getD_eq_getElem?_getD, List.getElem?_take, hj]
    constructor <;> (rintro ⟨j, hj, hp⟩; refine ⟨j, hj, ?_⟩; have := e j (List.mem_range.1 hj); simp only [sameN] at *; first | (rw [this] at hp; exact hp) | (rw [this]; exact hp))
  refine ev_to (ev_all (len := xs.length) (g := fun k i => impl_ValidJoins.l0 k xs xs (xs.length : Int) i) (joinsP xs) true ?_ ?_ ?_) (by unfold joinsB; rw [show decide (xs.length ≤ 20) = true by simp; omega])
  · intro n hn hp r hr
    unfold joinsP at hp
    simp only [Bool.and_eq_true, Bool.not_eq_true'] at hp
    refine ev_succ ?_
    simp only [impl_ValidJoins.l0, Int.ofNat_lt.2 hn, show (0 : Int) ≤ (n : Int) from Int.natCast_nonneg _, if_true, rd_T74, Int.toNat_natCast, show (n : Int) ≤ (xs.length : Int) by omega, wnext hn (by omega : xs.length ≤ 9223372036854775807)]
    refine Ev.bind (impl_validJoin_ev _ _ _) ?_
    rw [show joinB _ _ _ = true from hp.1]
    simp only [if_true]
    refine Ev.bind (impl_contains_ev _ (by simp; omega) _) ?_
    rw [anyE n hn, hp.2]
    simp only [Bool.false_eq_true, if_false]
    exact hr
  · intro n hn hp
    unfold joinsP at hp
    refine ev_succ ?_
    simp only [impl_ValidJoins.l0, Int.ofNat_lt.2 hn, show (0 : Int) ≤ (n : Int) from Int.natCast_nonneg _, if_true, rd_T74, Int.toNat_natCast, show (n : Int) ≤ (xs.length : Int) by omega]
    refine Ev.bind (impl_validJoin_ev _ _ _) ?_
    cases h1 : jB (xs.getD n z74)
    · rw [show joinB _ _ _ = false from h1]; simp only [Bool.false_eq_true, if_false]; exact ev_now _
    · rw [show joinB _ _ _ = true from h1]
      simp only [h1, Bool.true_and, Bool.not_eq_false'] at hp
      simp only [if_true]
      refine Ev.bind (impl_contains_ev _ (by simp; omega) _) ?_
      rw [anyE n hn, hp]
      simp only [if_true]
      exact ev_now _
  · refine ev_succ ?_
    simp only [impl_ValidJoins.l0, Int.lt_irrefl, if_false]
    exact ev_now _

def pieceB (a b : Int) : Bool := decide (1 ≤ a ∧ a ≤ 1000000) && decide (1 ≤ b ∧ b ≤ 100000)
theorem spec_l03Piece_eq (a b : Int) : spec_l03Piece.f a b = some (pieceB a b) := by
  simp only [spec_l03Piece.f, spec_l00In_eq, Option.bind_some]
  unfold pieceB
  by_cases h1 : 1 ≤ a ∧ a ≤ 1000000
  · simp only [h1, decide_true, if_true, Bool.true_and, and_self]
  · simp only [h1, decide_false, Bool.false_and, Bool.false_eq_true, if_false]
theorem impl_validPiece_eq (a b : Int) : impl_validPiece.f a b = some (pieceB a b) := by
  simp only [impl_validPiece.f, impl_within_eq, Option.bind_some]
  unfold pieceB
  by_cases h1 : 1 ≤ a ∧ a ≤ 1000000
  · simp only [h1, decide_true, if_true, Bool.true_and, and_self]
  · simp only [h1, decide_false, Bool.false_and, Bool.false_eq_true, if_false]

def addP (s : Int) (p : S91) : Int := wrap64 (s + p.f1)
def subJ (xs : List S74) (s : Int) (j : Int) : Int := wrap64 (s - (xs.getD j.toNat z74).f2)
def lenV (xs : List S74) (ps : List S91) (js : List Int) : Int := js.foldl (subJ xs) (ps.foldl addP 0)
def inJ (xs : List S74) (j : Int) : Bool := decide (0 ≤ j ∧ j ≤ (xs.length : Int) - 1)
def lineB (xs : List S74) (ps : List S91) (js : List Int) : Bool :=
  decide (1 ≤ ps.length ∧ ps.length ≤ 12) && (decide ((js.length : Int) = (ps.length : Int) - 1) && (ps.all (fun p => pieceB p.f0 p.f1) && (js.all (inJ xs) && decide (lenV xs ps js ≥ 1))))
theorem inJ_of (xs : List S74) (js : List Int) (h : (js.all (inJ xs)) = true) {n : Nat} (hn : n < js.length) : 0 ≤ js.getD n 0 ∧ js.getD n 0 < (xs.length : Int) := by
  rw [List.all_eq_true] at h
  have := h (js[n]) (List.getElem_mem hn)
  rw [getD_lt js 0 hn]
  simp only [inJ, decide_eq_true_eq] at this
  omega
theorem spec_l03LengthAt_ev (xs : List S74) (ps : List S91) (js : List Int) (hp : ps.length ≤ 1048576) (hq : js.length ≤ 1048576) (h : (js.all (inJ xs)) = true) :
    Ev (fun k => spec_l03LengthAt.f k xs [(⟨ps, js⟩ : S45)]) (lenV xs ps js) := by
  have e0 : rd_T45 [(⟨ps, js⟩ : S45)] 0 = ⟨ps, js⟩ := rfl
  have l0 : (0 : Int) < (([(⟨ps, js⟩ : S45)]).length : Int) := by simp
  simp only [spec_l03LengthAt.f]
  refine ev_foldl ps z91 addP 0 (g := fun k s i => spec_l03LengthAt.l0 k xs [(⟨ps, js⟩ : S45)] s i) (fun s => js.foldl (subJ xs) s) ?_ ?_
  · intro n hn s hs r hr
    refine ev_succ ?_
    simp only [spec_l03LengthAt.l0, e0, l0, Int.ofNat_lt.2 hn, show (0 : Int) ≤ (n : Int) from Int.natCast_nonneg _, if_true, rd_T91, Int.toNat_natCast, wnext hn (by omega : ps.length ≤ 9223372036854775807)]
    exact hr
  · refine ev_succ ?_
    simp only [spec_l03LengthAt.l0, e0, l0, Int.lt_irrefl, if_true, if_false]
    refine ev_foldl js 0 (subJ xs) _ (g := fun k s i => spec_l03LengthAt.l1 k xs [(⟨ps, js⟩ : S45)] s i) (fun s => s) ?_ ?_
    · intro n hn s hs r hr
      have hj := inJ_of xs js h hn
      refine ev_succ ?_
      simp only [spec_l03LengthAt.l1, e0, l0, Int.ofNat_lt.2 hn, show (0 : Int) ≤ (n : Int) from Int.natCast_nonneg _, if_true, rd, rd_T74, Int.toNat_natCast, hj.1, hj.2, wnext hn (by omega : js.length ≤ 9223372036854775807)]
      exact hr
    · refine ev_succ ?_
      simp only [spec_l03LengthAt.l1, e0, l0, Int.lt_irrefl, if_true, if_false]
      exact ev_now _
theorem impl_lineLength_ev (xs : List S74) (ps : List S91) (js : List Int) (hp : ps.length ≤ 1048576) (hq : js.length ≤ 1048576) (h : (js.all (inJ xs)) = true) :
    Ev (fun k => impl_lineLength.f k xs ps js) (lenV xs ps js) := by
  simp only [impl_lineLength.f]
  refine ev_foldl ps z91 addP 0 (g := fun k s i => impl_lineLength.l0 k xs s ps (ps.length : Int) i ps js) (fun s => js.foldl (subJ xs) s) ?_ ?_
  · intro n hn s hs r hr
    refine ev_succ ?_
    simp only [impl_lineLength.l0, Int.ofNat_lt.2 hn, show (0 : Int) ≤ (n : Int) from Int.natCast_nonneg _, if_true, rd_T91, Int.toNat_natCast, wnext hn (by omega : ps.length ≤ 9223372036854775807)]
    exact hr
  · refine ev_succ ?_
    simp only [impl_lineLength.l0, Int.lt_irrefl, if_false]
    refine ev_foldl js 0 (subJ xs) _ (g := fun k s i => impl_lineLength.l1 k xs s js (js.length : Int) i) (fun s => s) ?_ ?_
    · intro n hn s hs r hr
      have hj := inJ_of xs js h hn
      refine ev_succ ?_
      simp only [impl_lineLength.l1, Int.ofNat_lt.2 hn, show (0 : Int) ≤ (n : Int) from Int.natCast_nonneg _, if_true, rd, rd_T74, Int.toNat_natCast, hj.1, hj.2, wnext hn (by omega : js.length ≤ 9223372036854775807)]
      exact hr
    · refine ev_succ ?_
      simp only [impl_lineLength.l1, Int.lt_irrefl, if_false]
      exact ev_now _
theorem spec_l03LineAt_ev (xs : List S74) (hx : xs.length ≤ 1048576) (ps : List S91) (js : List Int) (hp : ps.length ≤ 1048576) (hq : js.length ≤ 1048576) :
    Ev (fun k => spec_l03LineAt.f k xs [(⟨ps, js⟩ : S45)]) (joinsB xs && lineB xs ps js) := by
  have e0 : rd_T45 [(⟨ps, js⟩ : S45)] 0 = ⟨ps, js⟩ := rfl
  have l0 : (0 : Int) < (([(⟨ps, js⟩ : S45)]).length : Int) := by simp
  simp only [spec_l03LineAt.f, e0, l0, if_true, spec_l00In_eq, Option.bind_some]
  refine Ev.bind (spec_l03Ok_ev xs hx) ?_
  cases hj : joinsB xs
  · simp only [Bool.false_eq_true, if_false, Bool.false_and]
    refine ev_succ ?_; simp only [spec_l03LineAt.j0, if_true]; exact ev_now _
  simp only [if_true, Bool.true_and]
  unfold lineB
  by_cases h1 : 1 ≤ ps.length ∧ ps.length ≤ 12
  · simp only [show (1 : Int) ≤ (ps.length : Int) ∧ (ps.length : Int) ≤ 12 by omega, h1, and_self, decide_true, if_true, Bool.true_and, w64 (show -9223372036854775808 ≤ (ps.length : Int) - 1 by omega) (show (ps.length : Int) - 1 ≤ 9223372036854775807 by omega)]
    refine ev_succ ?_
    by_cases h2 : (js.length : Int) = (ps.length : Int) - 1
    · simp only [spec_l03LineAt.j0, h2, bne_self_eq_false, Bool.false_eq_true, if_false, decide_true, Bool.true_and]
      have pe : (ps.all fun p => pieceB p.f0 p.f1) = (List.range ps.length).all fun n => pieceB (ps.getD n z91).f0 (ps.getD n z91).f1 := (range_all ps z91 fun p => pieceB p.f0 p.f1).symm
      have je : (js.all (inJ xs)) = (List.range js.length).all fun n => inJ xs (js.getD n 0) := (range_all js 0 (inJ xs)).symm
      rw [pe]
      refine ev_all (len := ps.length) (g := fun k i => spec_l03LineAt.l0 k xs [(⟨ps, js⟩ : S45)] i) _ (js.all (inJ xs) && decide (lenV xs ps js ≥ 1)) ?_ ?_ ?_
      · intro n hn hb r hr
        refine ev_succ ?_
        simp only [spec_l03LineAt.l0, e0, l0, spec_l03Piece_eq, Option.bind_some, Int.ofNat_lt.2 hn, show (0 : Int) ≤ (n : Int) from Int.natCast_nonneg _, if_true, rd_T91, Int.toNat_natCast, hb, wnext hn (by omega : ps.length ≤ 9223372036854775807)]
        exact hr
      · intro n hn hb
        refine ev_succ ?_
        simp only [spec_l03LineAt.l0, e0, l0, spec_l03Piece_eq, Option.bind_some, Int.ofNat_lt.2 hn, show (0 : Int) ≤ (n : Int) from Int.natCast_nonneg _, if_true, rd_T91, Int.toNat_natCast, hb, Bool.false_eq_true, if_false]
        exact ev_now _
      · refine ev_succ ?_
        simp only [spec_l03LineAt.l0, e0, l0, Int.lt_irrefl, if_true, if_false]
        rw [je]
        refine ev_all2 (len := js.length) (g := fun k i => spec_l03LineAt.l1 k xs [(⟨ps, js⟩ : S45)] i) (fun n => inJ xs (js.getD n 0)) _ ?_ ?_ ?_
        · intro n hn hb r hr
          refine ev_succ ?_
          simp only [inJ, decide_eq_true_eq] at hb
          simp only [spec_l03LineAt.l1, e0, l0, spec_l00In_eq, Option.bind_some, Int.ofNat_lt.2 hn, show (0 : Int) ≤ (n : Int) from Int.natCast_nonneg _, if_true, rd, Int.toNat_natCast, w64 (show -9223372036854775808 ≤ (xs.length : Int) - 1 by omega) (show (xs.length : Int) - 1 ≤ 9223372036854775807 by omega), hb, decide_true, and_self, wnext hn (by omega : js.length ≤ 9223372036854775807)]
          exact hr
        · intro n hn hb
          refine ev_succ ?_
          simp only [inJ, decide_eq_false_iff_not] at hb
          simp only [spec_l03LineAt.l1, e0, l0, spec_l00In_eq, Option.bind_some, Int.ofNat_lt.2 hn, show (0 : Int) ≤ (n : Int) from Int.natCast_nonneg _, if_true, rd, Int.toNat_natCast, w64 (show -9223372036854775808 ≤ (xs.length : Int) - 1 by omega) (show (xs.length : Int) - 1 ≤ 9223372036854775807 by omega), hb, decide_false, Bool.false_eq_true, if_false]
          exact ev_now _
        · intro hall
          rw [← je] at hall
          refine ev_succ ?_
          simp only [spec_l03LineAt.l1, e0, l0, spec_l00In_eq, Int.lt_irrefl, if_true, if_false]
          exact Ev.bind (spec_l03LengthAt_ev xs ps js hp hq hall) (ev_now _)
    · rw [show ((js.length : Int) != (ps.length : Int) - 1) = true by rw [bne_iff_ne]; exact h2]
      simp only [spec_l03LineAt.j0, h2, if_true, decide_false, Bool.false_and]; exact ev_now _
  · simp only [show ¬ ((1 : Int) ≤ (ps.length : Int) ∧ (ps.length : Int) ≤ 12) by omega, h1, decide_false, Bool.false_eq_true, if_false, Bool.false_and]
    refine ev_succ ?_; simp only [spec_l03LineAt.j0, if_true]; exact ev_now _
theorem impl_validLine_ev (xs : List S74) (hx : xs.length ≤ 1048576) (ps : List S91) (js : List Int) (hp : ps.length ≤ 1048576) (hq : js.length ≤ 1048576) :
    Ev (fun k => impl_validLine.f k xs ps js) (lineB xs ps js) := by
  simp only [impl_validLine.f]
  unfold lineB
  by_cases h1 : 1 ≤ ps.length ∧ ps.length ≤ 12
  · simp only [show ¬ (ps.length : Int) < 1 by omega, show ¬ (ps.length : Int) > 12 by omega, if_false, h1, and_self, decide_true, Bool.true_and, w64 (show -9223372036854775808 ≤ (ps.length : Int) - 1 by omega) (show (ps.length : Int) - 1 ≤ 9223372036854775807 by omega)]
    refine ev_succ ?_
    by_cases h2 : (js.length : Int) = (ps.length : Int) - 1
    · simp only [impl_validLine.j0, h2, bne_self_eq_false, Bool.false_eq_true, if_false, decide_true, Bool.true_and]
      have pe : (ps.all fun p => pieceB p.f0 p.f1) = (List.range ps.length).all fun n => pieceB (ps.getD n z91).f0 (ps.getD n z91).f1 := (range_all ps z91 fun p => pieceB p.f0 p.f1).symm
      have je : (js.all (inJ xs)) = (List.range js.length).all fun n => inJ xs (js.getD n 0) := (range_all js 0 (inJ xs)).symm
      rw [pe]
      refine ev_all (len := ps.length) (g := fun k i => impl_validLine.l0 k xs ps (ps.length : Int) i ps js) _ (js.all (inJ xs) && decide (lenV xs ps js ≥ 1)) ?_ ?_ ?_
      · intro n hn hb r hr
        refine ev_succ ?_
        simp only [impl_validLine.l0, impl_validPiece_eq, Option.bind_some, Int.ofNat_lt.2 hn, show (0 : Int) ≤ (n : Int) from Int.natCast_nonneg _, if_true, rd_T91, Int.toNat_natCast, hb, wnext hn (by omega : ps.length ≤ 9223372036854775807)]
        exact hr
      · intro n hn hb
        refine ev_succ ?_
        simp only [impl_validLine.l0, impl_validPiece_eq, Option.bind_some, Int.ofNat_lt.2 hn, show (0 : Int) ≤ (n : Int) from Int.natCast_nonneg _, if_true, rd_T91, Int.toNat_natCast, hb, Bool.false_eq_true, if_false]
        exact ev_now _
      · refine ev_succ ?_
        simp only [impl_validLine.l0, Int.lt_irrefl, if_false]
        rw [je]
        refine ev_all2 (len := js.length) (g := fun k i => impl_validLine.l1 k xs js (js.length : Int) i ps js) (fun n => inJ xs (js.getD n 0)) _ ?_ ?_ ?_
        · intro n hn hb r hr
          refine ev_succ ?_
          simp only [inJ, decide_eq_true_eq] at hb
          simp only [impl_validLine.l1, impl_within_eq, Option.bind_some, Int.ofNat_lt.2 hn, show (0 : Int) ≤ (n : Int) from Int.natCast_nonneg _, if_true, rd, Int.toNat_natCast, w64 (show -9223372036854775808 ≤ (xs.length : Int) - 1 by omega) (show (xs.length : Int) - 1 ≤ 9223372036854775807 by omega), hb, decide_true, and_self, wnext hn (by omega : js.length ≤ 9223372036854775807)]
          exact hr
        · intro n hn hb
          refine ev_succ ?_
          simp only [inJ, decide_eq_false_iff_not] at hb
          simp only [impl_validLine.l1, impl_within_eq, Option.bind_some, Int.ofNat_lt.2 hn, show (0 : Int) ≤ (n : Int) from Int.natCast_nonneg _, if_true, rd, Int.toNat_natCast, w64 (show -9223372036854775808 ≤ (xs.length : Int) - 1 by omega) (show (xs.length : Int) - 1 ≤ 9223372036854775807 by omega), hb, decide_false, Bool.false_eq_true, if_false]
          exact ev_now _
        · intro hall
          rw [← je] at hall
          refine ev_succ ?_
          simp only [impl_validLine.l1, impl_within_eq, Int.lt_irrefl, if_true, if_false]
          exact Ev.bind (impl_lineLength_ev xs ps js hp hq hall) (ev_now _)
    · rw [show ((js.length : Int) != (ps.length : Int) - 1) = true by rw [bne_iff_ne]; exact h2]
      simp only [impl_validLine.j0, h2, if_true, decide_false, Bool.false_and]; exact ev_now _
  · simp only [h1, decide_false, Bool.false_and]
    by_cases h3 : (ps.length : Int) < 1
    · simp only [h3, if_true]
      refine ev_succ ?_; simp only [impl_validLine.j0, if_true]; exact ev_now _
    · simp only [h3, show (ps.length : Int) > 12 by omega, if_true, if_false]
      refine ev_succ ?_; simp only [impl_validLine.j0, if_true]; exact ev_now _

theorem laws_szJoinS_ev (xs : List S68) (hl : xs.length ≤ 9223372036854775807) (hs : ∀ x ∈ xs, x.f0.size ≤ 140737488351232) (m : Int := 1048576) (hm0 : 0 ≤ m := by omega) (hm : m ≤ 1048576 := by omega) :
    ∃ r, Ev (fun k => laws_szJoinS.f k xs m) r ∧ (r < 0 ∨ (0 ≤ r ∧ r ≤ 1048576 ∧ xs.length ≤ 1048576)) := by
  simp only [laws_szJoinS.f]
  by_cases h : wrap64 (m - (xs.length : Int)) < 0
  · simp only [h, if_true]; exact ⟨-1, ev_now _, .inl (by decide)⟩
  have hl' : xs.length ≤ 1048576 := by unfold wrap64 at h; omega
  have hl2 : (xs.length : Int) ≤ m := by unfold wrap64 at h; omega
  simp only [h, if_false]
  rw [w64 (by omega) (by omega)]
  refine ev_loop (len := xs.length) (g := fun k s i => laws_szJoinS.l0 k xs s i) (fun n s => 0 ≤ s ∧ s ≤ 1048576) (fun r => r < 0 ∨ (0 ≤ r ∧ r ≤ 1048576 ∧ xs.length ≤ 1048576)) ?_ ?_ _ (by omega)
  · intro n s hn ⟨h1, h2⟩
    have hsz : (xs.getD n z68).f0.size ≤ 140737488351232 := by rw [getD_lt xs _ hn]; exact hs _ (List.getElem_mem hn)
    by_cases c : wrap64 (s - ((xs.getD n z68).f0.size : Int)) < 0
    · refine .inl ⟨-1, ev_succ ?_, .inl (by decide)⟩
      simp only [laws_szJoinS.l0, laws_szJoin.f, Int.ofNat_lt.2 hn, show (0 : Int) ≤ (n : Int) from Int.natCast_nonneg _, if_true, rd_T68, Int.toNat_natCast, c, Option.bind_some, show (-1 : Int) < 0 by decide]
      exact ev_now _
    · refine .inr ⟨wrap64 (s - ((xs.getD n z68).f0.size : Int)), ?_, fun r hr => ev_succ ?_⟩
      · rw [w64 (by omega) (by omega)] at *; omega
      · simp only [laws_szJoinS.l0, laws_szJoin.f, Int.ofNat_lt.2 hn, show (0 : Int) ≤ (n : Int) from Int.natCast_nonneg _, if_true, rd_T68, Int.toNat_natCast, c, if_false, Option.bind_some, wnext hn (by omega : xs.length ≤ 9223372036854775807)]
        exact hr
  · intro s ⟨h1, h2⟩
    refine ⟨s, ev_succ ?_, .inr ⟨h1, h2, hl'⟩⟩
    simp only [laws_szJoinS.l0, Int.lt_irrefl, if_false]
    exact ev_now _

def conv_Join (x : S68) : S74 := ⟨x.f0, x.f1, x.f2⟩
theorem laws_toJoinS_ev (xs : List S68) (h : xs.length ≤ 1048576) : Ev (fun k => laws_toJoinS.f k xs) (xs.map conv_Join) := by
  simp only [laws_toJoinS.f, Int.toNat_natCast, show (0 : Int) ≤ (xs.length : Int) from Int.natCast_nonneg _, if_true]
  rw [if_pos_ev (by omega)]
  have e : List.replicate xs.length z74 = (xs.take 0).map conv_Join ++ List.replicate (xs.length - 0) z74 := by simp
  have e2 : xs.map conv_Join = (xs.take xs.length).map conv_Join ++ List.replicate (xs.length - xs.length) z74 := by simp
  rw [e, e2]
  refine ev_fold (len := xs.length) (g := fun k s i => laws_toJoinS.l0 k xs s i) (fun n s => s.set n (conv_Join (xs.getD n z68))) (fun n => (xs.take n).map conv_Join ++ List.replicate (xs.length - n) z74) _ ?_ ?_ ?_
  · intro n hn; exact (fill_step xs conv_Join _ _ hn).symm
  · intro n hn r hr
    refine ev_succ ?_
    have l1 : (n : Int) < (((xs.take n).map conv_Join ++ List.replicate (xs.length - n) z74).length : Int) := by simp; omega
    simp only [laws_toJoinS.l0, laws_toJoin.f, Option.bind_some, Int.ofNat_lt.2 hn, show (0 : Int) ≤ (n : Int) from Int.natCast_nonneg _, if_true, l1, wnext hn (by omega : xs.length ≤ 9223372036854775807), rd_T68, Int.toNat_natCast]
    exact hr
  · refine ev_succ ?_
    simp only [laws_toJoinS.l0, Int.lt_irrefl, if_false]
    exact ev_now _

theorem laws_eqJoinS_self (xs : List S74) (h : xs.length ≤ 9223372036854775807) : Ev (fun k => laws_eqJoinS.f k xs xs) true := by
  simp only [laws_eqJoinS.f, if_true]
  refine ev_to (ev_all (len := xs.length) (g := fun k i => laws_eqJoinS.l0 k xs xs i) (fun _ => true) true ?_ (fun n hn hp => by simp at hp) ?_) (by simp)
  · intro n hn hp r hr
    refine ev_succ ?_
    simp only [laws_eqJoinS.l0, laws_eqJoin.f, Option.bind_some, Int.ofNat_lt.2 hn, show (0 : Int) ≤ (n : Int) from Int.natCast_nonneg _, if_true, bne_self_eq_false, Bool.false_eq_true, if_false, wnext hn h]
    exact hr
  · refine ev_succ ?_
    simp only [laws_eqJoinS.l0, Int.lt_irrefl, if_false]
    exact ev_now _

def conv_LinePiece (x : S94) : S91 := ⟨x.f0, x.f1⟩
theorem laws_toLinePieceS_ev (xs : List S94) (h : xs.length ≤ 1048576) : Ev (fun k => laws_toLinePieceS.f k xs) (xs.map conv_LinePiece) := by
  simp only [laws_toLinePieceS.f, Int.toNat_natCast, show (0 : Int) ≤ (xs.length : Int) from Int.natCast_nonneg _, if_true]
  rw [if_pos_ev (by omega)]
  have e : List.replicate xs.length z91 = (xs.take 0).map conv_LinePiece ++ List.replicate (xs.length - 0) z91 := by simp
  have e2 : xs.map conv_LinePiece = (xs.take xs.length).map conv_LinePiece ++ List.replicate (xs.length - xs.length) z91 := by simp
  rw [e, e2]
  refine ev_fold (len := xs.length) (g := fun k s i => laws_toLinePieceS.l0 k xs s i) (fun n s => s.set n (conv_LinePiece (xs.getD n z94))) (fun n => (xs.take n).map conv_LinePiece ++ List.replicate (xs.length - n) z91) _ ?_ ?_ ?_
  · intro n hn; exact (fill_step xs conv_LinePiece _ _ hn).symm
  · intro n hn r hr
    refine ev_succ ?_
    have l1 : (n : Int) < (((xs.take n).map conv_LinePiece ++ List.replicate (xs.length - n) z91).length : Int) := by simp; omega
    simp only [laws_toLinePieceS.l0, laws_toLinePiece.f, Option.bind_some, Int.ofNat_lt.2 hn, show (0 : Int) ≤ (n : Int) from Int.natCast_nonneg _, if_true, l1, wnext hn (by omega : xs.length ≤ 9223372036854775807), rd_T94, Int.toNat_natCast]
    exact hr
  · refine ev_succ ?_
    simp only [laws_toLinePieceS.l0, Int.lt_irrefl, if_false]
    exact ev_now _

theorem laws_eqLinePieceS_self (xs : List S91) (h : xs.length ≤ 9223372036854775807) : Ev (fun k => laws_eqLinePieceS.f k xs xs) true := by
  simp only [laws_eqLinePieceS.f, if_true]
  refine ev_to (ev_all (len := xs.length) (g := fun k i => laws_eqLinePieceS.l0 k xs xs i) (fun _ => true) true ?_ (fun n hn hp => by simp at hp) ?_) (by simp)
  · intro n hn hp r hr
    refine ev_succ ?_
    simp only [laws_eqLinePieceS.l0, laws_eqLinePiece.f, Option.bind_some, Int.ofNat_lt.2 hn, show (0 : Int) ≤ (n : Int) from Int.natCast_nonneg _, if_true, bne_self_eq_false, Bool.false_eq_true, if_false, wnext hn h]
    exact hr
  · refine ev_succ ?_
    simp only [laws_eqLinePieceS.l0, Int.lt_irrefl, if_false]
    exact ev_now _

theorem laws_eqInt64S_self (xs : List Int) (h : xs.length ≤ 9223372036854775807) : Ev (fun k => laws_eqInt64S.f k xs xs) true := by
  simp only [laws_eqInt64S.f, if_true]
  refine ev_to (ev_all (len := xs.length) (g := fun k i => laws_eqInt64S.l0 k xs xs i) (fun _ => true) true ?_ (fun n hn hp => by simp at hp) ?_) (by simp)
  · intro n hn hp r hr
    refine ev_succ ?_
    simp only [laws_eqInt64S.l0, Int.ofNat_lt.2 hn, show (0 : Int) ≤ (n : Int) from Int.natCast_nonneg _, if_true, wnext hn h]
    exact hr
  · refine ev_succ ?_
    simp only [laws_eqInt64S.l0, Int.lt_irrefl, if_false]
    exact ev_now _

theorem laws_toInt64S_ev (xs : List Int) (h : xs.length ≤ 1048576) : Ev (fun k => laws_toInt64S.f k xs) xs := by
  simp only [laws_toInt64S.f, Int.toNat_natCast, show (0 : Int) ≤ (xs.length : Int) from Int.natCast_nonneg _, if_true]
  rw [if_pos_ev (by omega)]
  have e : List.replicate xs.length (0 : Int) = (xs.take 0).map id ++ List.replicate (xs.length - 0) 0 := by simp
  have e2 : xs = (xs.take xs.length).map id ++ List.replicate (xs.length - xs.length) 0 := by simp
  rw [e]
  refine ev_to ?_ e2.symm
  refine ev_fold (len := xs.length) (g := fun k s i => laws_toInt64S.l0 k xs s i) (fun n s => s.set n (xs.getD n 0)) (fun n => (xs.take n).map id ++ List.replicate (xs.length - n) 0) _ ?_ ?_ ?_
  · intro n hn; exact (fill_step xs id _ _ hn).symm
  · intro n hn r hr
    refine ev_succ ?_
    have l1 : (n : Int) < (((xs.take n).map id ++ List.replicate (xs.length - n) (0 : Int)).length : Int) := by simp; omega
    simp only [laws_toInt64S.l0, Int.ofNat_lt.2 hn, show (0 : Int) ≤ (n : Int) from Int.natCast_nonneg _, if_true, l1, wnext hn (by omega : xs.length ≤ 9223372036854775807), rd, Int.toNat_natCast]
    exact hr
  · refine ev_succ ?_
    simp only [laws_toInt64S.l0, Int.lt_irrefl, if_false]
    exact ev_now _

theorem laws_szLine_cases (ps : List S94) (js : List Int) (m : Int) (hp : ps.length ≤ 9223372036854775807) (hq : js.length ≤ 9223372036854775807) (h0 : 0 ≤ m) (h1 : m ≤ 1048576) :
    ∃ r, laws_szLine.f ps js m = some r ∧ (r < 0 ∨ (0 ≤ r ∧ r ≤ 1048576 ∧ ps.length ≤ 1048576 ∧ js.length ≤ 1048576)) := by
  simp only [laws_szLine.f, laws_szLinePieceS.f, laws_szInt64S.f]
  by_cases a : wrap64 (m - (ps.length : Int)) < 0
  · simp only [a, if_true, Option.bind_some, show (-1 : Int) < 0 by decide]; exact ⟨-1, rfl, .inl (by decide)⟩
  have hp' : (ps.length : Int) ≤ m := by unfold wrap64 at a; omega
  rw [w64 (n := m - (ps.length : Int)) (by omega) (by omega)] at *
  simp only [a, if_false, Option.bind_some]
  by_cases b : wrap64 (m - (ps.length : Int) - (js.length : Int)) < 0
  · simp only [b, if_true, Option.bind_some, show (-1 : Int) < 0 by decide]; exact ⟨-1, rfl, .inl (by decide)⟩
  have hq' : (js.length : Int) ≤ m - (ps.length : Int) := by unfold wrap64 at b; omega
  simp only [b, if_false, Option.bind_some]
  exact ⟨_, rfl, .inr (by rw [w64 (n := m - (ps.length : Int) - (js.length : Int)) (by omega) (by omega)] at *; omega)⟩
theorem laws_toLine_ev (ps : List S94) (js : List Int) (hp : ps.length ≤ 1048576) (hq : js.length ≤ 1048576) : Ev (fun k => laws_toLine.f k ps js) (ps.map conv_LinePiece, js) := by
  simp only [laws_toLine.f]
  exact Ev.bind (laws_toLinePieceS_ev ps hp) (Ev.bind (laws_toInt64S_ev js hq) (ev_now _))
theorem laws_eqLine_self (ps : List S91) (js : List Int) (hp : ps.length ≤ 1048576) (hq : js.length ≤ 1048576) : Ev (fun k => laws_eqLine.f k ps js ps js) true := by
  simp only [laws_eqLine.f]
  refine Ev.bind (laws_eqLinePieceS_self _ (by omega)) ?_
  simp only [if_true]
  refine Ev.bind (laws_eqInt64S_self _ (by omega)) ?_
  simp only [if_true]
  exact ev_now _

theorem markText_l0 (n : Nat) : ∀ (a : Int) (s : ByteArray), a < 10 ^ n → s.size + n + 1 ≤ 9223372036854775807 → a ≤ 9223372036854775807 → ∃ r, Ev (fun k => laws_markText.l0 k a s) r := by
  induction n with
  | zero =>
    intro a s h1 h2 h3
    refine ⟨(⟨#[109]⟩ : ByteArray) ++ s, ev_succ ?_⟩
    simp only [laws_markText.l0, show ¬ a > 0 by simp at h1; omega, if_false, show 1 + s.size ≤ 9223372036854775807 by omega, if_true]
    exact ev_now _
  | succ n ih =>
    intro a s h1 h2 h3
    by_cases c : a > 0
    · have ht : Int.tdiv a 10 < 10 ^ n := by rw [Int.tdiv_eq_ediv_of_nonneg (by omega), Int.pow_succ] at *; omega
      have hb : 0 ≤ Int.tdiv a 10 ∧ Int.tdiv a 10 ≤ a := by rw [Int.tdiv_eq_ediv_of_nonneg (by omega)]; omega
      have hz : ∀ x, (strOfNums [x]).size = 1 := fun _ => rfl
      have hs : (strOfNums [wrap64 (48 + Int.tmod a 10) % 256] ++ s).size = 1 + s.size := by rw [ByteArray.size_append, hz]
      obtain ⟨r, hr⟩ := ih (Int.tdiv a 10) (strOfNums [wrap64 (48 + Int.tmod a 10) % 256] ++ s) ht (by omega) (by omega)
      refine ⟨r, ev_succ ?_⟩
      simp only [laws_markText.l0, c, if_true, Option.bind_some, hz, show 1 + s.size ≤ 9223372036854775807 by omega, w64 (show -9223372036854775808 ≤ Int.tdiv a 10 by omega) (show Int.tdiv a 10 ≤ 9223372036854775807 by omega)]
      exact hr
    · refine ⟨(⟨#[109]⟩ : ByteArray) ++ s, ev_succ ?_⟩
      simp only [laws_markText.l0, c, if_false, show 1 + s.size ≤ 9223372036854775807 by omega, if_true]
      exact ev_now _
theorem markText_ex (a : Int) : ∃ r, a ≤ 9223372036854775807 → Ev (fun k => laws_markText.f k a) r := by
  by_cases h : a ≤ 9223372036854775807
  · by_cases c : a ≤ 0
    · exact ⟨_, fun _ => by simp only [laws_markText.f, c, if_true]; exact ev_now _⟩
    · obtain ⟨r, hr⟩ := markText_l0 19 a ⟨#[]⟩ (by omega) (by simp [ByteArray.size]) h
      exact ⟨r, fun _ => by simp only [laws_markText.f, c, if_false]; exact hr⟩
  · exact ⟨⟨#[]⟩, fun q => absurd q h⟩
noncomputable def mkT (a : Int) : ByteArray := Classical.choose (markText_ex a)
theorem laws_markText_ev (a : Int) (h : a ≤ 9223372036854775807) : Ev (fun k => laws_markText.f k a) (mkT a) := Classical.choose_spec (markText_ex a) h

noncomputable def mkEJoin (m : Int) : S74 := ⟨mkT (m), m + 1, m + 1 + 1⟩
def MarkedJoin (xs : List S74) (n : Nat) : Prop := ∀ i, i < n → xs.getD i z74 = mkEJoin (1 + 3 * (i : Int))
theorem laws_markJoinS_ev (xs : List S74) (h : xs.length ≤ 2097152) : ∃ r, Ev (fun k => laws_markJoinS.f k xs 1) r ∧ r.1 = 1 + 3 * (xs.length : Int) ∧ r.2.length = xs.length ∧ MarkedJoin r.2 xs.length := by
  simp only [laws_markJoinS.f]
  refine ev_loop (len := xs.length) (g := fun k (s : List S74 × Int) i => laws_markJoinS.l0 k s.1 s.2 i) (fun n s => s.1.length = xs.length ∧ s.2 = 1 + 3 * (n : Int) ∧ MarkedJoin s.1 n) (fun r => r.1 = 1 + 3 * (xs.length : Int) ∧ r.2.length = xs.length ∧ MarkedJoin r.2 xs.length) ?_ ?_ (xs, 1) ⟨rfl, by simp, fun i hi => absurd hi (by omega)⟩
  · rintro n ⟨l, q⟩ hn ⟨h1, h2, h3⟩
    simp only at h1 h2 h3
    subst h2
    have e0 : wrap64 ((1 + 3 * (n : Int)) + 1) = (1 + 3 * (n : Int)) + 1 := w64 (by omega) (by omega)
    have e1 : wrap64 ((1 + 3 * (n : Int)) + 1 + 1) = (1 + 3 * (n : Int)) + 1 + 1 := w64 (by omega) (by omega)
    have e2 : wrap64 ((1 + 3 * (n : Int)) + 1 + 1 + 1) = (1 + 3 * (n : Int)) + 1 + 1 + 1 := w64 (by omega) (by omega)
    have h0 : n < l.length := by omega
    have l1 : (n : Int) < (l.length : Int) := by omega
    refine .inr ⟨(l.set n (mkEJoin (1 + 3 * (n : Int))), 1 + 3 * ((n + 1 : Nat) : Int)), ⟨by simp [h1], rfl, ?cell⟩, fun r hr => ?go⟩
    case go =>
      refine ev_succ ?_
      have ee : 1 + 3 * ((n + 1 : Nat) : Int) = 1 + 3 * (n : Int) + 1 + 1 + 1 := by omega
      rw [ee] at hr
      simp only [laws_markJoinS.l0, l1, if_true, show (0 : Int) ≤ (n : Int) from Int.natCast_nonneg _]
      refine Ev.bind (laws_markText_ev _ (by omega)) ?_
      simp only [if_true, lset_self h0, List.set_set, List.length_set, l1, Option.bind_some, Int.toNat_natCast, rd_T74, e0, e1, e2, wnext hn (by omega : xs.length ≤ 9223372036854775807), show (0 : Int) ≤ (n : Int) from Int.natCast_nonneg _]
      exact hr
    case cell =>
      intro i hi
      by_cases hin : i = n
      · subst hin; exact lset_self h0
      · show (l.set n _).getD i _ = _
        rw [lset_ne (by omega)]; exact h3 i (by omega)
  · rintro ⟨l, q⟩ ⟨h1, h2, h3⟩
    simp only at h1 h2 h3
    subst h2
    refine ⟨(1 + 3 * (xs.length : Int), l), ev_succ ?_, rfl, h1, h3⟩
    simp only [laws_markJoinS.l0, h1, Int.lt_irrefl, if_false]
    exact ev_now _

def mkELinePiece (m : Int) : S91 := ⟨m, m + 1⟩
def MarkedLinePiece (xs : List S91) (n : Nat) : Prop := ∀ i, i < n → xs.getD i z91 = mkELinePiece (1 + 2 * (i : Int))
theorem laws_markLinePieceS_ev (xs : List S91) (h : xs.length ≤ 2097152) : ∃ r, Ev (fun k => laws_markLinePieceS.f k xs 1) r ∧ r.1 = 1 + 2 * (xs.length : Int) ∧ r.2.length = xs.length ∧ MarkedLinePiece r.2 xs.length := by
  simp only [laws_markLinePieceS.f]
  refine ev_loop (len := xs.length) (g := fun k (s : List S91 × Int) i => laws_markLinePieceS.l0 k s.1 s.2 i) (fun n s => s.1.length = xs.length ∧ s.2 = 1 + 2 * (n : Int) ∧ MarkedLinePiece s.1 n) (fun r => r.1 = 1 + 2 * (xs.length : Int) ∧ r.2.length = xs.length ∧ MarkedLinePiece r.2 xs.length) ?_ ?_ (xs, 1) ⟨rfl, by simp, fun i hi => absurd hi (by omega)⟩
  · rintro n ⟨l, q⟩ hn ⟨h1, h2, h3⟩
    simp only at h1 h2 h3
    subst h2
    have e0 : wrap64 ((1 + 2 * (n : Int)) + 1) = (1 + 2 * (n : Int)) + 1 := w64 (by omega) (by omega)
    have e1 : wrap64 ((1 + 2 * (n : Int)) + 1 + 1) = (1 + 2 * (n : Int)) + 1 + 1 := w64 (by omega) (by omega)
    have h0 : n < l.length := by omega
    have l1 : (n : Int) < (l.length : Int) := by omega
    refine .inr ⟨(l.set n (mkELinePiece (1 + 2 * (n : Int))), 1 + 2 * ((n + 1 : Nat) : Int)), ⟨by simp [h1], rfl, ?cell⟩, fun r hr => ?go⟩
    case go =>
      refine ev_succ ?_
      have ee : 1 + 2 * ((n + 1 : Nat) : Int) = 1 + 2 * (n : Int) + 1 + 1 := by omega
      rw [ee] at hr
      simp only [laws_markLinePieceS.l0, l1, if_true, show (0 : Int) ≤ (n : Int) from Int.natCast_nonneg _]
      simp only [if_true, lset_self h0, List.set_set, List.length_set, l1, Option.bind_some, Int.toNat_natCast, rd_T91, e0, e1, wnext hn (by omega : xs.length ≤ 9223372036854775807), show (0 : Int) ≤ (n : Int) from Int.natCast_nonneg _]
      exact hr
    case cell =>
      intro i hi
      by_cases hin : i = n
      · subst hin; exact lset_self h0
      · show (l.set n _).getD i _ = _
        rw [lset_ne (by omega)]; exact h3 i (by omega)
  · rintro ⟨l, q⟩ ⟨h1, h2, h3⟩
    simp only at h1 h2 h3
    subst h2
    refine ⟨(1 + 2 * (xs.length : Int), l), ev_succ ?_, rfl, h1, h3⟩
    simp only [laws_markLinePieceS.l0, h1, Int.lt_irrefl, if_false]
    exact ev_now _
theorem laws_heldLinePieceS_ev (xs : List S91) (h : xs.length ≤ 2097152) (hm : MarkedLinePiece xs xs.length) : Ev (fun k => laws_heldLinePieceS.f k xs 1) (1 + 2 * (xs.length : Int)) := by
  simp only [laws_heldLinePieceS.f]
  have := ev_fold (len := xs.length) (g := fun k (s : Int) i => laws_heldLinePieceS.l0 k xs s i) (fun _ s => s + 2) (fun n => 1 + 2 * (n : Int)) (1 + 2 * (xs.length : Int))
    (fun n hn => by omega)
    (fun n hn r hr => by
      refine ev_succ ?_
      have e0 : wrap64 ((1 + 2 * (n : Int)) + 1) = (1 + 2 * (n : Int)) + 1 := w64 (by omega) (by omega)
      have e1 : wrap64 ((1 + 2 * (n : Int)) + 1 + 1) = (1 + 2 * (n : Int)) + 1 + 1 := w64 (by omega) (by omega)
      have l1 : (n : Int) < (xs.length : Int) := by omega
      have ee : 1 + 2 * (n : Int) + 2 = 1 + 2 * (n : Int) + 1 + 1 := by omega
      rw [ee] at hr
      have cell := hm n hn
      simp only [laws_heldLinePieceS.l0, l1, show (0 : Int) ≤ (n : Int) from Int.natCast_nonneg _, if_true, rd_T91, Int.toNat_natCast, cell, mkELinePiece]
      simp only [if_true, e0, e1, bne_self_eq_false, Bool.false_eq_true, if_false, wnext hn (by omega : xs.length ≤ 9223372036854775807)]
      exact hr)
    (by
      refine ev_succ ?_
      simp only [laws_heldLinePieceS.l0, Int.lt_irrefl, if_false]
      exact ev_now _)
  simpa using this

theorem laws_markInt64S_evG (xs : List Int) (m : Int) (h : xs.length ≤ 2097152) (h0 : 0 ≤ m) (h1 : m ≤ 16777216) : Ev (fun k => laws_markInt64S.f k xs m) (m + (xs.length : Int), upI m xs.length) := by
  simp only [laws_markInt64S.f]
  have := ev_fold (len := xs.length) (g := fun k (s : List Int × Int) i => laws_markInt64S.l0 k s.1 s.2 i) (fun n s => (s.1.set n s.2, s.2 + 1)) (fun n => (upI m n ++ xs.drop n, m + (n : Int))) (m + (xs.length : Int), upI m xs.length)
    (fun n hn => by
      rw [Prod.mk.injEq]
      exact ⟨(fill_up xs m hn).symm, by omega⟩)
    (fun n hn r hr => by
      refine ev_succ ?_
      have l1 : (n : Int) < ((upI m n ++ xs.drop n).length : Int) := by simp [upI_length]; omega
      have e1 : wrap64 (m + (n : Int) + 1) = m + (n : Int) + 1 := w64 (by omega) (by omega)
      simp only [laws_markInt64S.l0, l1, show (0 : Int) ≤ (n : Int) from Int.natCast_nonneg _, if_true, e1, Int.toNat_natCast, wnext hn (by omega : xs.length ≤ 9223372036854775807)]
      exact hr)
    (by
      refine ev_succ ?_
      have l1 : ¬ ((xs.length : Int) < ((upI m xs.length ++ xs.drop xs.length).length : Int)) := by simp [upI_length]
      simp only [laws_markInt64S.l0, l1, if_false]
      exact ev_to (ev_now _) (by simp))
  simpa [upI] using this
theorem laws_heldInt64S_evG (n : Nat) (m : Int) (h : n ≤ 2097152) (h0 : 0 ≤ m) (h1 : m ≤ 16777216) : Ev (fun k => laws_heldInt64S.f k (upI m n) m) (m + (n : Int)) := by
  simp only [laws_heldInt64S.f]
  have := ev_fold (len := n) (g := fun k (s : Int) i => laws_heldInt64S.l0 k (upI m n) s i) (fun _ s => s + 1) (fun i => m + (i : Int)) (m + (n : Int))
    (fun i hi => by omega)
    (fun i hi r hr => by
      refine ev_succ ?_
      have l1 : (i : Int) < ((upI m n).length : Int) := by rw [upI_length]; omega
      have e1 : wrap64 (m + (i : Int) + 1) = m + (i : Int) + 1 := w64 (by omega) (by omega)
      have e2 : rd (upI m n) (i : Int) = m + (i : Int) := by unfold rd; rw [Int.toNat_natCast]; exact upI_get m hi
      simp only [laws_heldInt64S.l0, l1, show (0 : Int) ≤ (i : Int) from Int.natCast_nonneg _, if_true, e1, e2, wnext hi (by omega : n ≤ 9223372036854775807)]
      exact hr)
    (by
      refine ev_succ ?_
      have l1 : ¬ ((n : Int) < ((upI m n).length : Int)) := by simp [upI_length]
      simp only [laws_heldInt64S.l0, l1, if_false]
      exact ev_now _)
  simpa using this
theorem laws_markPieces_any (xs : List S91) (m : Int) (h : xs.length ≤ 1048576) (h0 : 0 ≤ m) (h1 : m ≤ 8388608) : ∃ u : Int × List S91, Ev (fun k => laws_markLinePieceS.f k xs m) u ∧ u.1 = m + 2 * (xs.length : Int) := by
  simp only [laws_markLinePieceS.f]
  refine ev_loop (len := xs.length) (g := fun k (s : List S91 × Int) i => laws_markLinePieceS.l0 k s.1 s.2 i) (fun n s => s.1.length = xs.length ∧ s.2 = m + 2 * (n : Int)) (fun r => r.1 = m + 2 * (xs.length : Int)) ?_ ?_ (xs, m) ⟨rfl, by simp⟩
  · rintro n ⟨l, q⟩ hn ⟨h1, h2⟩
    simp only at h1 h2
    subst h2
    have e0 : wrap64 (m + 2 * (n : Int) + 1) = m + 2 * (n : Int) + 1 := w64 (by omega) (by omega)
    have e1 : wrap64 (m + 2 * (n : Int) + 1 + 1) = m + 2 * (n : Int) + 1 + 1 := w64 (by omega) (by omega)
    have l1 : (n : Int) < (l.length : Int) := by omega
    refine .inr ⟨(?L, ?Q), ⟨?len, ?num⟩, fun r hr => ?go⟩
    case go =>
      refine ev_succ ?_
      simp only [laws_markLinePieceS.l0, l1, show (0 : Int) ≤ (n : Int) from Int.natCast_nonneg _, if_true, e0, e1, Option.bind_some, wnext hn (by omega : xs.length ≤ 9223372036854775807)]
      exact hr
    case len => simp [h1]
    case num => simp only; omega
  · rintro ⟨l, q⟩ ⟨h1, h2⟩
    simp only at h1 h2
    subst h2
    refine ⟨(m + 2 * (xs.length : Int), l), ev_succ ?_, rfl⟩
    simp only [laws_markLinePieceS.l0, h1, Int.lt_irrefl, if_false]
    exact ev_now _
/-- A line that is marked, and held. -/
theorem laws_markLine_ev (ps : List S91) (js : List Int) (hp : ps.length ≤ 2097152) (hq : js.length ≤ 2097152) :
    ∃ r : Int × (List S91) × List Int, Ev (fun k => laws_markLine.f k ps js 1) r ∧ 1 ≤ r.1 ∧ Ev (fun k => laws_heldLine.f k r.2.1 r.2.2 1) r.1 := by
  obtain ⟨⟨c, ml⟩, m1, m2, m3, m4⟩ := laws_markLinePieceS_ev ps hp
  simp only at m2 m3 m4
  have hh := laws_heldLinePieceS_ev ml (by omega) (by rw [m3]; exact m4)
  rw [m3, ← m2] at hh
  have mi := laws_markInt64S_evG js c hq (by omega) (by omega)
  have hi := laws_heldInt64S_evG js.length c hq (by omega) (by omega)
  refine ⟨(c + (js.length : Int), ml, upI c js.length), ?_, by simp only; omega, ?_⟩
  · simp only [laws_markLine.f]
    exact Ev.bind m1 (Ev.bind mi (ev_now _))
  · simp only [laws_heldLine.f]
    refine Ev.bind hh ?_
    simp only [show ¬ c < 0 by omega, if_false]
    refine Ev.bind hi ?_
    simp only [show ¬ c + (js.length : Int) < 0 by omega, if_false]
    exact ev_now _

theorem lineB_len {xs : List S74} {ps : List S91} {js : List Int} (h : (joinsB xs && lineB xs ps js) = true) : ps.length ≤ 12 ∧ js.length ≤ 11 := by
  unfold lineB at h
  simp only [Bool.and_eq_true, decide_eq_true_eq] at h
  omega
theorem spec_l03OwnAt_eq (ps : List S91) (js : List Int) (hp : ps.length ≤ 1048576) (hq : js.length ≤ 1048576) : spec_l03OwnAt.f [(⟨ps, js⟩ : S45)] = some (ps, js) := by
  have e0 : rd_T45 [(⟨ps, js⟩ : S45)] 0 = ⟨ps, js⟩ := rfl
  simp only [spec_l03OwnAt.f, spec_l00Own.f, e0, Option.bind_some, List.length_singleton, show (0 : Int) < ((1 : Nat) : Int) by decide, if_true, List.length_nil, List.nil_append, show 0 + ps.length < 8796093022208 by omega, show 0 + js.length < 17592186044416 by omega]
def joinLV (xs : List S74) (ps : List S91) (js : List Int) (ps' : List S91) (js' : List Int) (n : Int) : (List S91) × List Int × Int :=
  if (joinsB xs && lineB xs ps js) = true then (if (joinsB xs && lineB xs ps' js') = true then (if 0 ≤ n ∧ n ≤ (xs.length : Int) - 1 then (if (joinsB xs && lineB xs (ps ++ ps') ((js ++ [n]) ++ js')) = true then (ps ++ ps', (js ++ [n]) ++ js', 0) else ([], [], 5)) else ([], [], 2)) else ([], [], 1)) else ([], [], 1)
theorem joinLV_len (xs : List S74) (ps : List S91) (js : List Int) (ps' : List S91) (js' : List Int) (n : Int) : (joinLV xs ps js ps' js' n).1.length ≤ 1048576 ∧ (joinLV xs ps js ps' js' n).2.1.length ≤ 1048576 := by
  unfold joinLV
  split
  · split
    · split
      · split
        · rename_i h; have := lineB_len h; exact ⟨(by show (ps ++ ps').length ≤ _; omega), (by show (js ++ [n] ++ js').length ≤ _; omega)⟩
        · simp
      · simp
    · simp
  · simp
theorem spec_JoinLines_ev (xs : List S74) (hx : xs.length ≤ 1048576) (ps : List S91) (js : List Int) (ps' : List S91) (js' : List Int) (hp : ps.length ≤ 1048576) (hq : js.length ≤ 1048576) (hp' : ps'.length ≤ 1048576) (hq' : js'.length ≤ 1048576) (n : Int) :
    Ev (fun k => spec_JoinLines.f k xs ps js ps' js' n) (joinLV xs ps js ps' js' n) := by
  simp only [spec_JoinLines.f]
  have bad : Ev (fun k => spec_JoinLines.j0 k xs n true ps js ps' js') ([], [], 1) := by
    refine ev_succ ?_
    simp only [spec_JoinLines.j0, if_true]
    exact ev_now _
  refine Ev.bind (spec_l03LineAt_ev xs hx ps js hp hq) ?_
  unfold joinLV
  by_cases h1 : (joinsB xs && lineB xs ps js) = true
  · simp only [h1, if_true]
    refine Ev.bind (spec_l03LineAt_ev xs hx ps' js' hp' hq') ?_
    by_cases h2 : (joinsB xs && lineB xs ps' js') = true
    · have l1 := lineB_len h1
      have l2 := lineB_len h2
      simp only [h2, if_true, Bool.not_true]
      refine ev_succ ?_
      have wl : wrap64 ((xs.length : Int) - 1) = (xs.length : Int) - 1 := w64 (by omega) (by omega)
      simp only [spec_JoinLines.j0, Bool.false_eq_true, if_false, spec_l00In_eq, Option.bind_some, wl]
      by_cases h3 : 0 ≤ n ∧ n ≤ (xs.length : Int) - 1
      · simp only [h3, and_self, decide_true, if_true, spec_l03OwnAt_eq ps js hp hq, Option.bind_some, show js.length < 17592186044416 by omega, show ps.length + ps'.length < 8796093022208 by omega, List.length_append, List.length_singleton, show js.length + 1 + js'.length < 17592186044416 by omega]
        refine Ev.bind (spec_l03LineAt_ev xs hx (ps ++ ps') (js ++ [n] ++ js') (by simp; omega) (by simp; omega)) ?_
        by_cases h4 : (joinsB xs && lineB xs (ps ++ ps') (js ++ [n] ++ js')) = true
        · simp only [h4, if_true]; exact ev_now _
        · simp only [h4, if_false]; exact ev_now _
      · simp only [h3, decide_false, Bool.false_eq_true, if_false]; exact ev_now _
    · have e : (joinsB xs && lineB xs ps' js') = false := by simpa using h2
      simp only [e, Bool.false_eq_true, if_false, Bool.not_false]
      exact bad
  · simp only [h1, if_false]
    exact bad
theorem impl_JoinLines_ev (xs : List S74) (hx : xs.length ≤ 1048576) (ps : List S91) (js : List Int) (ps' : List S91) (js' : List Int) (hp : ps.length ≤ 1048576) (hq : js.length ≤ 1048576) (hp' : ps'.length ≤ 1048576) (hq' : js'.length ≤ 1048576) (n : Int) :
    Ev (fun k => impl_JoinLines.f k xs ps js ps' js' n) (joinLV xs ps js ps' js' n) := by
  simp only [impl_JoinLines.f]
  have bad : Ev (fun k => impl_JoinLines.j0 k xs n true ps js ps' js') ([], [], 1) := by
    refine ev_succ ?_
    simp only [impl_JoinLines.j0, if_true]
    exact ev_now _
  refine Ev.bind (impl_ValidJoins_ev xs hx) ?_
  unfold joinLV
  cases hb : joinsB xs
  · simp only [Bool.false_and, Bool.false_eq_true, if_false]; exact bad
  · simp only [if_true, Bool.true_and]
    refine Ev.bind (impl_validLine_ev xs hx ps js hp hq) ?_
    by_cases h1 : lineB xs ps js = true
    · simp only [h1, if_true]
      refine Ev.bind (impl_validLine_ev xs hx ps' js' hp' hq') ?_
      by_cases h2 : lineB xs ps' js' = true
      · have l1 := lineB_len (xs := xs) (ps := ps) (js := js) (by rw [hb, h1]; rfl)
        have l2 := lineB_len (xs := xs) (ps := ps') (js := js') (by rw [hb, h2]; rfl)
        simp only [h2, if_true, Bool.not_true]
        refine ev_succ ?_
        have wl : wrap64 ((xs.length : Int) - 1) = (xs.length : Int) - 1 := w64 (by omega) (by omega)
        simp only [impl_JoinLines.j0, Bool.false_eq_true, if_false, impl_within_eq, Option.bind_some, wl]
        by_cases h3 : 0 ≤ n ∧ n ≤ (xs.length : Int) - 1
        · simp only [h3, and_self, decide_true, if_true, Option.bind_some, List.length_nil, List.nil_append, show 0 + ps.length < 8796093022208 by omega, show ps.length + ps'.length < 8796093022208 by omega, show 0 + js.length < 17592186044416 by omega, List.length_append, List.length_singleton, show js.length + 1 < 17592186044416 by omega, show js.length + 1 + js'.length < 17592186044416 by omega]
          refine Ev.bind (impl_validLine_ev xs hx (ps ++ ps') (js ++ [n] ++ js') (by simp; omega) (by simp; omega)) ?_
          by_cases h4 : lineB xs (ps ++ ps') (js ++ [n] ++ js') = true
          · simp only [h4, if_true]; exact ev_now _
          · simp only [h4, if_false]; exact ev_now _
        · simp only [h3, decide_false, Bool.false_eq_true, if_false]; exact ev_now _
      · have e : lineB xs ps' js' = false := by simpa using h2
        simp only [e, Bool.false_eq_true, if_false, Bool.not_false]
        exact bad
    · simp only [h1, if_false]
      exact bad
theorem markLine_any (ps : List S91) (js : List Int) (cnt : Int) (hp : ps.length ≤ 1048576) (hq : js.length ≤ 1048576) (hc : 0 ≤ cnt ∧ cnt ≤ 8388608) :
    ∃ r : Int × (List S91) × List Int, Ev (fun k => laws_markLine.f k ps js cnt) r ∧ r.1 = cnt + 2 * (ps.length : Int) + (js.length : Int) := by
  obtain ⟨u, u1, u2⟩ := laws_markPieces_any ps cnt (by omega) hc.1 (by omega)
  have mi := laws_markInt64S_evG js u.1 (by omega) (by omega) (by omega)
  refine ⟨(u.1 + (js.length : Int), u.2, upI u.1 js.length), ?_, by simp only; omega⟩
  simp only [laws_markLine.f]
  exact Ev.bind u1 (Ev.bind mi (ev_now _))
theorem FnExactJoinLines : laws_FnExactJoinLines.Pure := by
  intro xs ps js ps' js' n hx hp hq hp' hq' hn
  refine Ev.rounds ?_
  simp only [laws_FnExactJoinLines.f]
  obtain ⟨left, s1, s2⟩ := laws_szJoinS_ev xs (by have := hx.2.1; rw [maxLen_eq] at this; omega) (fun x h => (hx.2.2 x h).1)
  refine Ev.bind s1 ?_
  by_cases h : left < 0
  · simp only [h, if_true]; exact ev_now _
  have hl : xs.length ≤ 1048576 := by omega
  have hm : (xs.map conv_Join).length ≤ 1048576 := by simpa using hl
  simp only [h, if_false]
  obtain ⟨left', e1, e2⟩ := laws_szLine_cases ps js left (by have := hp.2.1; rw [maxLen_eq] at this; omega) (by have := hq.2.1; rw [maxLen_eq] at this; omega) (by omega) (by omega)
  simp only [e1, Option.bind_some]
  by_cases h' : left' < 0
  · simp only [h', if_true]; exact ev_now _
  simp only [h', if_false]
  obtain ⟨left2, e3, e4⟩ := laws_szLine_cases ps' js' left' (by have := hp'.2.1; rw [maxLen_eq] at this; omega) (by have := hq'.2.1; rw [maxLen_eq] at this; omega) (by omega) (by omega)
  simp only [e3, Option.bind_some]
  by_cases h2 : left2 < 0
  · simp only [h2, if_true]; exact ev_now _
  simp only [h2, if_false]
  have hp1 : ps.length ≤ 1048576 := by omega
  have hq1 : js.length ≤ 1048576 := by omega
  have hp2 : ps'.length ≤ 1048576 := by omega
  have hq2 : js'.length ≤ 1048576 := by omega
  have hpm : (ps.map conv_LinePiece).length ≤ 1048576 := by simpa using hp1
  have hpm' : (ps'.map conv_LinePiece).length ≤ 1048576 := by simpa using hp2
  have k1 := spec_JoinLines_ev _ hm _ js _ js' hpm hq1 hpm' hq2 n
  have k2 := impl_JoinLines_ev _ hm _ js _ js' hpm hq1 hpm' hq2 n
  have kl := joinLV_len (xs.map conv_Join) (ps.map conv_LinePiece) js (ps'.map conv_LinePiece) js' n
  generalize joinLV (xs.map conv_Join) (ps.map conv_LinePiece) js (ps'.map conv_LinePiece) js' n = r at k1 k2 kl
  obtain ⟨⟨cnt, mj⟩, m1, m2, m3, m4⟩ := laws_markJoinS_ev (xs.map conv_Join) (by omega)
  simp only at m2
  obtain ⟨ma, ma1, ma2⟩ := markLine_any (ps.map conv_LinePiece) js cnt hpm hq1 (by omega)
  obtain ⟨mb, mb1, mb2⟩ := markLine_any (ps'.map conv_LinePiece) js' ma.1 hpm' hq2 (by omega)
  obtain ⟨mr, mr1, mr2, mr3⟩ := laws_markLine_ev r.1 r.2.1 (by omega) (by omega)
  have t1 := laws_toJoinS_ev xs hl
  have t2 := laws_toLine_ev ps js hp1 hq1
  have t3 := laws_toLine_ev ps' js' hp2 hq2
  refine Ev.bind t1 (Ev.bind t2 (Ev.bind t3 (Ev.bind k1 (Ev.bind t1 (Ev.bind t2 (Ev.bind t3 (Ev.bind k2 (Ev.bind (laws_eqLine_self r.1 r.2.1 kl.1 kl.2) ?_))))))))
  simp only [if_true, bne_self_eq_false]
  refine ev_succ ?_
  simp only [laws_FnExactJoinLines.j0, Bool.false_eq_true, if_false]
  refine Ev.bind t1 (Ev.bind (laws_eqJoinS_self _ (by omega)) ?_)
  simp only [if_true]
  refine Ev.bind t2 (Ev.bind (laws_eqLine_self _ js hpm hq1) ?_)
  simp only [if_true]
  refine Ev.bind t3 (Ev.bind (laws_eqLine_self _ js' hpm' hq2) ?_)
  simp only [if_true]
  refine Ev.bind m1 (Ev.bind ma1 (Ev.bind mb1 ?_))
  simp only [show ¬ mb.1 < 0 by omega, if_false]
  refine Ev.bind (laws_eqLine_self r.1 r.2.1 kl.1 kl.2) ?_
  simp only [if_true, bne_self_eq_false]
  refine ev_succ ?_
  simp only [laws_FnExactJoinLines.j1, Bool.false_eq_true, if_false]
  refine Ev.bind mr1 (Ev.bind mr3 ?_)
  simp only [show ¬ mr.1 < 0 by omega, if_false, if_true]
  refine Ev.bind t1 (Ev.bind t2 (Ev.bind t3 (Ev.bind k2 (Ev.bind (laws_eqLine_self r.1 r.2.1 kl.1 kl.2) ?_))))
  simp only [if_true, bne_self_eq_false]
  refine ev_succ ?_
  simp only [laws_FnExactJoinLines.j2, Bool.false_eq_true, if_false]
  refine Ev.bind mr3 ?_
  simp only [show ¬ mr.1 < 0 by omega, if_false, if_true]
  exact ev_now _

end Go.Proofs.Ytjhlliacgkjhaaa.Pure

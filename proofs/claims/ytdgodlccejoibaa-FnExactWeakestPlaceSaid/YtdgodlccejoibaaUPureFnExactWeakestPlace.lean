/- The pure statement of FnExactWeakestPlace: numbers and lists alone. No condition. -/
import Derived.Test.YtdgodlccejoibaaUQFnExactWeakestPlacex16
import Derived.Test.YtdgodlccejoibaaUAid
namespace Go.Proofs.Ytdgodlccejoibaa.Pure
open Go.RowKit Go.Proofs.Ytdgodlccejoibaa.QFnExactWeakestPlace Go.Proofs.YtdgodlccejoibaaW.PrintWords Go.Proofs.YtdgodlccejoibaaW.PrintLast Go.Proofs.YtdgodlccejoibaaW.PrintMore Go.Proofs.Ytdgodlccejoibaa.Aid
set_option linter.unusedVariables false
set_option linter.unusedSimpArgs false

theorem spec_l01Small_eq (c : Int) : spec_l01Small.f c = some (decide (97 ≤ c ∧ c ≤ 122)) := by
  unfold spec_l01Small.f
  by_cases h : c ≥ 97
  · rw [if_pos h]; congr 1; simp; omega
  · rw [if_neg h]; congr 1; simp; omega
theorem spec_l01Digit_eq (c : Int) : spec_l01Digit.f c = some (decide (48 ≤ c ∧ c ≤ 57)) := by
  unfold spec_l01Digit.f
  by_cases h : c ≥ 48
  · rw [if_pos h]; congr 1; simp; omega
  · rw [if_neg h]; congr 1; simp; omega
theorem spec_IsName_loop (s : ByteArray) (hs : s.size ≤ 12) : Ev (fun k => spec_IsName.l0 k s 0) ((List.range s.size).all fun i => nameCh (bt s i)) := by
  refine ev_to (ev_all (len := s.size) (g := fun k i => spec_IsName.l0 k s i) (fun i => nameCh (bt s i)) true ?_ ?_ ?_) (by simp)
  · intro n hn hp r hr
    refine ev_succ ?_
    simp only [spec_IsName.l0, spec_l01Small_eq, spec_l01Digit_eq, Option.bind_some]
    simp only [Int.ofNat_lt.2 hn, if_true, show (0 : Int) ≤ (n : Int) from Int.natCast_nonneg n, wnext hn (by omega : s.size ≤ 9223372036854775807)]
    unfold nameCh at hp
    by_cases c1 : 97 ≤ bt s n ∧ bt s n ≤ 122
    · simpa [c1] using hr
    · by_cases c2 : 48 ≤ bt s n ∧ bt s n ≤ 57
      · simpa [c1, c2] using hr
      · by_cases c3 : bt s n = 45
        · simpa [c3] using hr
        · simp [c1, c2, c3] at hp
  · intro n hn hp
    refine ev_succ ?_
    simp only [spec_IsName.l0, spec_l01Small_eq, spec_l01Digit_eq, Option.bind_some]
    unfold nameCh at hp
    simp only [Bool.or_eq_false_iff, decide_eq_false_iff_not] at hp
    simp only [hp.1.1, hp.1.2, hp.2, Int.ofNat_lt.2 hn, show (0 : Int) ≤ (n : Int) from Int.natCast_nonneg n, if_true, if_false, decide_false, Bool.false_eq_true]
    exact ev_now _
  · refine ev_succ ?_
    simp only [spec_IsName.l0, Int.lt_irrefl, if_false]
    exact ev_now _
theorem toList_nil_iff (s : ByteArray) : s.toList = ([] : List UInt8) ↔ s.size = 0 := by
  rw [← List.length_eq_zero_iff, ByteArray.toList_eq, Array.length_toList]
  exact Iff.rfl
theorem spec_IsName_ev (s : ByteArray) : Ev (fun k => spec_IsName.f k s) (isNameB s) := by
  unfold spec_IsName.f isNameB
  by_cases h0 : s.size = 0
  · simp only [(toList_nil_iff s).2 h0, if_true, h0]
    refine ev_succ ?_
    simp only [spec_IsName.j0, if_true]
    exact ev_now _
  · have h0' : ¬ s.toList = ([] : List UInt8) := fun h => h0 ((toList_nil_iff s).1 h)
    simp only [h0', if_false]
    by_cases h1 : s.size ≤ 12
    · have e1 : ¬ ((s.size : Int) > 12) := by omega
      have e2 : (0 : Int) < (s.size : Int) := by omega
      simp only [e1, e2, if_true, if_false, spec_l01Small_eq, Option.bind_some]
      refine ev_succ ?_
      simp only [spec_IsName.j0]
      by_cases h2 : 97 ≤ bt s 0 ∧ bt s 0 ≤ 122
      · simp only [h2, decide_true, Bool.not_true, Bool.false_eq_true, if_false, and_self]
        refine ev_to (spec_IsName_loop s h1) ?_
        simp [show 1 ≤ s.size by omega, h1]
      · simp only [h2, decide_false, Bool.not_false, if_true]
        exact ev_to (ev_now _) (by simp)
    · have e1 : ((s.size : Int) > 12) := by omega
      simp only [e1, if_true]
      refine ev_succ ?_
      simp only [spec_IsName.j0, if_true]
      exact ev_to (ev_now _) (by simp [h1])
theorem impl_IsName_loop (s : ByteArray) (hs : s.size ≤ 12) : Ev (fun k => impl_IsName.l0 k s 0) ((List.range s.size).all fun i => nameCh (bt s i)) := by
  refine ev_to (ev_all (len := s.size) (g := fun k i => impl_IsName.l0 k s i) (fun i => nameCh (bt s i)) true ?_ ?_ ?_) (by simp)
  · intro n hn hp r hr
    refine ev_succ ?_
    simp only [impl_IsName.l0]
    unfold nameCh at hp
    simp only [Bool.or_eq_true, decide_eq_true_eq] at hp
    have e0 : (n : Int) < (s.size : Int) := by omega
    simp only [e0, show (0 : Int) ≤ (n : Int) from Int.natCast_nonneg n, if_true, wnext hn (by omega : s.size ≤ 9223372036854775807)]
    by_cases d1 : bt s n < 97 <;> by_cases d2 : bt s n > 122 <;> by_cases d3 : bt s n < 48 <;> by_cases d4 : bt s n > 57 <;> by_cases d5 : bt s n = 45 <;>
      first | (exfalso; omega) | (simp only [d1, d2, d3, d4, d5, if_true, if_false]; exact hr)
  · intro n hn hp
    refine ev_succ ?_
    simp only [impl_IsName.l0]
    unfold nameCh at hp
    simp only [Bool.or_eq_false_iff, decide_eq_false_iff_not] at hp
    have e0 : (n : Int) < (s.size : Int) := by omega
    simp only [e0, show (0 : Int) ≤ (n : Int) from Int.natCast_nonneg n, if_true]
    by_cases d1 : bt s n < 97 <;> by_cases d2 : bt s n > 122 <;> by_cases d3 : bt s n < 48 <;> by_cases d4 : bt s n > 57 <;> by_cases d5 : bt s n = 45 <;>
      first | (exfalso; omega) | (simp only [d1, d2, d3, d4, d5, if_true, if_false]; exact ev_now _)
  · refine ev_succ ?_
    simp only [impl_IsName.l0, Int.lt_irrefl, if_false]
    exact ev_now _
theorem impl_IsName_ev (s : ByteArray) : Ev (fun k => impl_IsName.f k s) (isNameB s) := by
  unfold impl_IsName.f isNameB
  by_cases h0 : s.size = 0
  · simp only [h0]
    refine ev_succ ?_
    simp only [impl_IsName.j0, if_true]
    exact ev_now _
  · have e3 : ¬ ((s.size : Int) < 1) := by omega
    simp only [e3, if_false]
    by_cases h1 : s.size ≤ 12
    · have e1 : ¬ ((s.size : Int) > 12) := by omega
      have e2 : (0 : Int) < (s.size : Int) := by omega
      simp only [e1, e2, if_true, if_false]
      by_cases h2 : bt s 0 < 97
      · simp only [h2, if_true]
        refine ev_succ ?_
        simp only [impl_IsName.j0, if_true]
        exact ev_to (ev_now _) (by simp; omega)
      · simp only [h2, if_false]
        refine ev_succ ?_
        simp only [impl_IsName.j0]
        by_cases h3 : bt s 0 > 122
        · simp only [h3, decide_true, if_true]
          exact ev_to (ev_now _) (by simp; omega)
        · simp only [h3, decide_false, Bool.false_eq_true, if_false]
          refine ev_to (impl_IsName_loop s h1) ?_
          simp [show 1 ≤ s.size by omega, h1, show 97 ≤ bt s 0 by omega, show bt s 0 ≤ 122 by omega]
    · have e1 : ((s.size : Int) > 12) := by omega
      simp only [e1, if_true]
      refine ev_succ ?_
      simp only [impl_IsName.j0, if_true]
      exact ev_to (ev_now _) (by simp [h1])

theorem spec_l00In_eq (a b c : Int) : spec_l00In.f a b c = some (decide (b ≤ a ∧ a ≤ c)) := by
  unfold spec_l00In.f
  by_cases h : a ≥ b
  · rw [if_pos h]; congr 1; simp; omega
  · rw [if_neg h]; congr 1; simp; omega

theorem impl_within_eq (a b c : Int) : impl_within.f a b c = some (decide (b ≤ a ∧ a ≤ c)) := by
  unfold impl_within.f
  by_cases h : a ≥ b
  · rw [if_pos h]; congr 1; simp; omega
  · rw [if_neg h]; congr 1; simp; omega

def joinB (s : ByteArray) (a b : Int) : Bool := isNameB s && (decide (1 ≤ a ∧ a ≤ 1000) && decide (0 ≤ b ∧ b ≤ 1000))
def jB (x : S68) : Bool := joinB x.f0 x.f1 x.f2
theorem spec_l03OneAt_ev (x : S68) : Ev (fun k => spec_l03OneAt.f k [x]) (jB x) := by
  have e0 : rd_T68 [x] 0 = x := rfl
  have l0 : (0 : Int) < (([x] : List S68).length : Int) := by simp
  simp only [spec_l03OneAt.f, spec_l00In_eq, Option.bind_some, e0, l0, if_true]
  refine Ev.bind (spec_IsName_ev _) ?_
  unfold jB joinB
  cases isNameB x.f0
  · exact ev_now _
  · by_cases h1 : 1 ≤ x.f1 ∧ x.f1 ≤ 1000
    · simp only [h1, decide_true, if_true, Bool.true_and, and_self]; exact ev_now _
    · simp only [h1, decide_false, if_true, Bool.true_and, Bool.false_and, Bool.false_eq_true, if_false]; exact ev_now _
theorem impl_validJoin_ev (s : ByteArray) (a b : Int) : Ev (fun k => impl_validJoin.f k s a b) (joinB s a b) := by
  simp only [impl_validJoin.f, impl_within_eq, Option.bind_some]
  refine Ev.bind (impl_IsName_ev s) ?_
  unfold joinB
  cases isNameB s
  · exact ev_now _
  · by_cases h1 : 1 ≤ a ∧ a ≤ 1000
    · simp only [h1, decide_true, if_true, Bool.true_and, and_self]; exact ev_now _
    · simp only [h1, decide_false, if_true, Bool.true_and, Bool.false_and, Bool.false_eq_true, if_false]; exact ev_now _

def sameN (xs : List S68) (n j : Nat) : Bool := decide ((xs.getD j z68).f0.toList = (xs.getD n z68).f0.toList)
def joinsP (xs : List S68) (n : Nat) : Bool := jB (xs.getD n z68) && !((List.range n).any (sameN xs n))
def joinsB (xs : List S68) : Bool := (List.range xs.length).all (joinsP xs) && decide (xs.length ≤ 20)
theorem spec_l03Ok_l1 (xs : List S68) (h : xs.length ≤ 1048576) (n : Nat) (hn : n < xs.length) (r : Bool)
    (hr : (List.range n).any (sameN xs n) = false → Ev (fun k => spec_l03Ok.l0 k xs ((n + 1 : Nat) : Int)) r) (hf : (List.range n).any (sameN xs n) = true → r = false) : Ev (fun k => spec_l03Ok.l1 k xs (n : Int) 0) r := by
  suffices key : ∃ r', Ev (fun k => spec_l03Ok.l1 k xs (n : Int) 0) r' ∧ r' = r by obtain ⟨r', hr', e⟩ := key; exact e ▸ hr'
  refine ev_loop (len := n) (g := fun k (_ : Unit) j => spec_l03Ok.l1 k xs (n : Int) j) (fun j _ => (List.range j).any (sameN xs n) = false) (fun r' => r' = r) ?_ ?_ () rfl
  · intro j _ hj hi
    cases hb : sameN xs n j with
    | false =>
      refine .inr ⟨(), by rw [List.range_succ, List.any_append, hi, List.any_cons, List.any_nil, hb]; rfl, fun r' hr' => ev_succ ?_⟩
      simp only [sameN, decide_eq_false_iff_not] at hb
      simp only [spec_l03Ok.l1, Int.ofNat_lt.2 hj, Int.ofNat_lt.2 hn, Int.ofNat_lt.2 (Nat.lt_trans hj hn), show (0 : Int) ≤ (j : Int) from Int.natCast_nonneg _, show (0 : Int) ≤ (n : Int) from Int.natCast_nonneg _, if_true, rd_T68, Int.toNat_natCast, hb, if_false, wnext hj (by omega : n ≤ 9223372036854775807)]
      exact hr'
    | true =>
      have ht : (List.range n).any (sameN xs n) = true := by rw [List.any_eq_true]; exact ⟨j, List.mem_range.2 hj, hb⟩
      refine .inl ⟨r, ev_succ ?_, rfl⟩
      rw [hf ht]
      simp only [sameN, decide_eq_true_eq] at hb
      simp only [spec_l03Ok.l1, Int.ofNat_lt.2 hj, Int.ofNat_lt.2 hn, Int.ofNat_lt.2 (Nat.lt_trans hj hn), show (0 : Int) ≤ (j : Int) from Int.natCast_nonneg _, show (0 : Int) ≤ (n : Int) from Int.natCast_nonneg _, if_true, rd_T68, Int.toNat_natCast, hb]
      exact ev_now _
  · intro _ hi
    refine ⟨r, ev_succ ?_, rfl⟩
    simp only [spec_l03Ok.l1, Int.lt_irrefl, if_false, wnext hn (by omega : xs.length ≤ 9223372036854775807)]
    exact hr hi
theorem spec_l03Ok_ev (xs : List S68) (h : xs.length ≤ 1048576) : Ev (fun k => spec_l03Ok.f k xs) (joinsB xs) := by
  simp only [spec_l03Ok.f]
  refine ev_all (len := xs.length) (g := fun k i => spec_l03Ok.l0 k xs i) (joinsP xs) (decide (xs.length ≤ 20)) ?_ ?_ ?_
  · intro n hn hp r hr
    unfold joinsP at hp
    simp only [Bool.and_eq_true, Bool.not_eq_true'] at hp
    refine ev_succ ?_
    simp only [spec_l03Ok.l0, Int.ofNat_lt.2 hn, show (0 : Int) ≤ (n : Int) from Int.natCast_nonneg _, if_true, rd_T68, Int.toNat_natCast]
    refine Ev.bind (spec_l03OneAt_ev _) ?_
    simp only [hp.1, if_true]
    exact spec_l03Ok_l1 xs h n hn r (fun _ => hr) (fun ht => by rw [hp.2] at ht; cases ht)
  · intro n hn hp
    unfold joinsP at hp
    refine ev_succ ?_
    simp only [spec_l03Ok.l0, Int.ofNat_lt.2 hn, show (0 : Int) ≤ (n : Int) from Int.natCast_nonneg _, if_true, rd_T68, Int.toNat_natCast]
    refine Ev.bind (spec_l03OneAt_ev _) ?_
    cases h1 : jB (xs.getD n z68)
    · simp only [Bool.false_eq_true, if_false]; exact ev_now _
    · simp only [h1, Bool.true_and, Bool.not_eq_false'] at hp
      simp only [if_true]
      exact spec_l03Ok_l1 xs h n hn false (fun ht => by rw [hp] at ht; cases ht) (fun _ => rfl)
  · refine ev_succ ?_
    simp only [spec_l03Ok.l0, Int.lt_irrefl, if_false]
    exact ev_to (ev_now _) (by congr 1; simp; omega)
theorem impl_contains_ev (xs : List S68) (h : xs.length ≤ 1048576) (y : S68) : Ev (fun k => impl_Join_48.f k xs [y]) ((List.range xs.length).any fun j => decide ((xs.getD j z68).f0.toList = y.f0.toList)) := by
  have e0 : rd_T68 [y] 0 = y := rfl
  have l0 : (0 : Int) < (([y] : List S68).length : Int) := by simp
  simp only [impl_Join_48.f, impl_Join_86.f]
  refine Ev.bind (ev_find (len := xs.length) (g := fun k i => impl_Join_86.l0 k xs [y] (xs.length : Int) i) (fun j => decide ((xs.getD j z68).f0.toList = y.f0.toList)) (fun n => (n : Int)) (-1) ?_ ?_ ?_) (ev_to (ev_now _) ?_)
  · intro n hn hp r hr
    refine ev_succ ?_
    simp only [decide_eq_false_iff_not] at hp
    simp only [impl_Join_86.l0, impl_ValidJoins_1.f, e0, l0, Option.bind_some, Int.ofNat_lt.2 hn, show (0 : Int) ≤ (n : Int) from Int.natCast_nonneg _, if_true, rd_T68, Int.toNat_natCast, wnext hn (by omega : xs.length ≤ 9223372036854775807)]
    rw [show ((xs.getD n z68).f0.toList == (([y] : List S68).getD (0 : Int).toNat z68).f0.toList) = false from by rw [beq_eq_false_iff_ne]; exact hp]
    simp only [Bool.false_eq_true, if_false]
    exact hr
  · intro n hn hp
    refine ev_succ ?_
    simp only [decide_eq_true_eq] at hp
    simp only [impl_Join_86.l0, impl_ValidJoins_1.f, e0, l0, Option.bind_some, Int.ofNat_lt.2 hn, show (0 : Int) ≤ (n : Int) from Int.natCast_nonneg _, if_true, rd_T68, Int.toNat_natCast]
    rw [show ((xs.getD n z68).f0.toList == (([y] : List S68).getD (0 : Int).toNat z68).f0.toList) = true from by rw [beq_iff_eq]; exact hp]
    simp only [if_true]
    exact ev_now _
  · refine ev_succ ?_
    simp only [impl_Join_86.l0, Int.lt_irrefl, if_false]
    exact ev_now _
  · cases hf : (List.range xs.length).find? (fun j => decide ((xs.getD j z68).f0.toList = y.f0.toList)) with
    | none =>
      rw [List.find?_eq_none] at hf
      simp only
      symm
      rw [show decide ((-1 : Int) ≥ 0) = false from rfl, List.any_eq_false]
      exact hf
    | some n =>
      simp only
      symm
      rw [show decide ((n : Int) ≥ 0) = true by simp, List.any_eq_true]
      exact ⟨n, List.mem_of_find?_eq_some hf, by have h2 := List.find?_some hf; exact h2⟩
theorem impl_ValidJoins_ev (xs : List S68) (h : xs.length ≤ 1048576) : Ev (fun k => impl_ValidJoins.f k xs) (joinsB xs) := by
  simp only [impl_ValidJoins.f]
  by_cases hb : (xs.length : Int) > 20
  · simp only [hb, if_true]
    exact ev_to (ev_now _) (by unfold joinsB; rw [show decide (xs.length ≤ 20) = false by simp; omega, Bool.and_false])
  simp only [hb, if_false]
  have anyE : ∀ n, n < xs.length → ((List.range (xs.take n).length).any fun j => decide (((xs.take n).getD j z68).f0.toList = (xs.getD n z68).f0.toList)) = (List.range n).any (sameN xs n) := by
    intro n hn
    rw [List.length_take, Nat.min_eq_left (by omega), Bool.eq_iff_iff, List.any_eq_true, List.any_eq_true]
    have e : ∀ j, j < n → (xs.take n).getD j z68 = xs.getD j z68 := fun j hj => by simp [List.getD_eq_getElem?_getD, List.getElem?_take, hj]
    constructor <;> (rintro ⟨j, hj, hp⟩; refine ⟨j, hj, ?_⟩; have := e j (List.mem_range.1 hj); simp only [sameN] at *; first | (rw [this] at hp; exact hp) | (rw [this]; exact hp))
  refine ev_to (ev_all (len := xs.length) (g := fun k i => impl_ValidJoins.l0 k xs xs (xs.length : Int) i) (joinsP xs) true ?_ ?_ ?_) (by unfold joinsB; rw [show decide (xs.length ≤ 20) = true by simp; omega])
  · intro n hn hp r hr
    unfold joinsP at hp
    simp only [Bool.and_eq_true, Bool.not_eq_true'] at hp
    refine ev_succ ?_
    simp only [impl_ValidJoins.l0, Int.ofNat_lt.2 hn, show (0 : Int) ≤ (n : Int) from Int.natCast_nonneg _, if_true, rd_T68, Int.toNat_natCast, show (n : Int) ≤ (xs.length : Int) by omega, wnext hn (by omega : xs.length ≤ 9223372036854775807)]
    refine Ev.bind (impl_validJoin_ev _ _ _) ?_
    rw [show joinB _ _ _ = true from hp.1]
    simp only [if_true]
    refine Ev.bind (impl_contains_ev _ (by simp; omega) _) ?_
    rw [anyE n hn, hp.2]
    simp only [Bool.false_eq_true, if_false]
    exact hr
  · intro n hn hp
    unfold joinsP at hp
    refine ev_succ ?_
    simp only [impl_ValidJoins.l0, Int.ofNat_lt.2 hn, show (0 : Int) ≤ (n : Int) from Int.natCast_nonneg _, if_true, rd_T68, Int.toNat_natCast, show (n : Int) ≤ (xs.length : Int) by omega]
    refine Ev.bind (impl_validJoin_ev _ _ _) ?_
    cases h1 : jB (xs.getD n z68)
    · rw [show joinB _ _ _ = false from h1]; simp only [Bool.false_eq_true, if_false]; exact ev_now _
    · rw [show joinB _ _ _ = true from h1]
      simp only [h1, Bool.true_and, Bool.not_eq_false'] at hp
      simp only [if_true]
      refine Ev.bind (impl_contains_ev _ (by simp; omega) _) ?_
      rw [anyE n hn, hp]
      simp only [if_true]
      exact ev_now _
  · refine ev_succ ?_
    simp only [impl_ValidJoins.l0, Int.lt_irrefl, if_false]
    exact ev_now _

def pieceB (a b : Int) : Bool := decide (1 ≤ a ∧ a ≤ 1000000) && decide (1 ≤ b ∧ b ≤ 100000)
theorem spec_l03Piece_eq (a b : Int) : spec_l03Piece.f a b = some (pieceB a b) := by
  simp only [spec_l03Piece.f, spec_l00In_eq, Option.bind_some]
  unfold pieceB
  by_cases h1 : 1 ≤ a ∧ a ≤ 1000000
  · simp only [h1, decide_true, if_true, Bool.true_and, and_self]
  · simp only [h1, decide_false, Bool.false_and, Bool.false_eq_true, if_false]
theorem impl_validPiece_eq (a b : Int) : impl_validPiece.f a b = some (pieceB a b) := by
  simp only [impl_validPiece.f, impl_within_eq, Option.bind_some]
  unfold pieceB
  by_cases h1 : 1 ≤ a ∧ a ≤ 1000000
  · simp only [h1, decide_true, if_true, Bool.true_and, and_self]
  · simp only [h1, decide_false, Bool.false_and, Bool.false_eq_true, if_false]

def addP (s : Int) (p : S44) : Int := wrap64 (s + p.f1)
def subJ (xs : List S68) (s : Int) (j : Int) : Int := wrap64 (s - (xs.getD j.toNat z68).f2)
def lenV (xs : List S68) (ps : List S44) (js : List Int) : Int := js.foldl (subJ xs) (ps.foldl addP 0)
def inJ (xs : List S68) (j : Int) : Bool := decide (0 ≤ j ∧ j ≤ (xs.length : Int) - 1)
def lineB (xs : List S68) (ps : List S44) (js : List Int) : Bool :=
  decide (1 ≤ ps.length ∧ ps.length ≤ 12) && (decide ((js.length : Int) = (ps.length : Int) - 1) && (ps.all (fun p => pieceB p.f0 p.f1) && (js.all (inJ xs) && decide (lenV xs ps js ≥ 1))))
theorem inJ_of (xs : List S68) (js : List Int) (h : (js.all (inJ xs)) = true) {n : Nat} (hn : n < js.length) : 0 ≤ js.getD n 0 ∧ js.getD n 0 < (xs.length : Int) := by
  rw [List.all_eq_true] at h
  have := h (js[n]) (List.getElem_mem hn)
  rw [getD_lt js 0 hn]
  simp only [inJ, decide_eq_true_eq] at this
  omega
theorem spec_l03LengthAt_ev (xs : List S68) (ps : List S44) (js : List Int) (hp : ps.length ≤ 1048576) (hq : js.length ≤ 1048576) (h : (js.all (inJ xs)) = true) :
    Ev (fun k => spec_l03LengthAt.f k xs [(⟨ps, js⟩ : S37)]) (lenV xs ps js) := by
  have e0 : rd_T37 [(⟨ps, js⟩ : S37)] 0 = ⟨ps, js⟩ := rfl
  have l0 : (0 : Int) < (([(⟨ps, js⟩ : S37)]).length : Int) := by simp
  simp only [spec_l03LengthAt.f]
  refine ev_foldl ps z44 addP 0 (g := fun k s i => spec_l03LengthAt.l0 k xs [(⟨ps, js⟩ : S37)] s i) (fun s => js.foldl (subJ xs) s) ?_ ?_
  · intro n hn s hs r hr
    refine ev_succ ?_
    simp only [spec_l03LengthAt.l0, e0, l0, Int.ofNat_lt.2 hn, show (0 : Int) ≤ (n : Int) from Int.natCast_nonneg _, if_true, rd_T44, Int.toNat_natCast, wnext hn (by omega : ps.length ≤ 9223372036854775807)]
    exact hr
  · refine ev_succ ?_
    simp only [spec_l03LengthAt.l0, e0, l0, Int.lt_irrefl, if_true, if_false]
    refine ev_foldl js 0 (subJ xs) _ (g := fun k s i => spec_l03LengthAt.l1 k xs [(⟨ps, js⟩ : S37)] s i) (fun s => s) ?_ ?_
    · intro n hn s hs r hr
      have hj := inJ_of xs js h hn
      refine ev_succ ?_
      simp only [spec_l03LengthAt.l1, e0, l0, Int.ofNat_lt.2 hn, show (0 : Int) ≤ (n : Int) from Int.natCast_nonneg _, if_true, rd, rd_T68, Int.toNat_natCast, hj.1, hj.2, wnext hn (by omega : js.length ≤ 9223372036854775807)]
      exact hr
    · refine ev_succ ?_
      simp only [spec_l03LengthAt.l1, e0, l0, Int.lt_irrefl, if_true, if_false]
      exact ev_now _
theorem impl_lineLength_ev (xs : List S68) (ps : List S44) (js : List Int) (hp : ps.length ≤ 1048576) (hq : js.length ≤ 1048576) (h : (js.all (inJ xs)) = true) :
    Ev (fun k => impl_lineLength.f k xs ps js) (lenV xs ps js) := by
  simp only [impl_lineLength.f]
  refine ev_foldl ps z44 addP 0 (g := fun k s i => impl_lineLength.l0 k xs s ps (ps.length : Int) i ps js) (fun s => js.foldl (subJ xs) s) ?_ ?_
  · intro n hn s hs r hr
    refine ev_succ ?_
    simp only [impl_lineLength.l0, Int.ofNat_lt.2 hn, show (0 : Int) ≤ (n : Int) from Int.natCast_nonneg _, if_true, rd_T44, Int.toNat_natCast, wnext hn (by omega : ps.length ≤ 9223372036854775807)]
    exact hr
  · refine ev_succ ?_
    simp only [impl_lineLength.l0, Int.lt_irrefl, if_false]
    refine ev_foldl js 0 (subJ xs) _ (g := fun k s i => impl_lineLength.l1 k xs s js (js.length : Int) i) (fun s => s) ?_ ?_
    · intro n hn s hs r hr
      have hj := inJ_of xs js h hn
      refine ev_succ ?_
      simp only [impl_lineLength.l1, Int.ofNat_lt.2 hn, show (0 : Int) ≤ (n : Int) from Int.natCast_nonneg _, if_true, rd, rd_T68, Int.toNat_natCast, hj.1, hj.2, wnext hn (by omega : js.length ≤ 9223372036854775807)]
      exact hr
    · refine ev_succ ?_
      simp only [impl_lineLength.l1, Int.lt_irrefl, if_false]
      exact ev_now _
theorem spec_l03LineAt_ev (xs : List S68) (hx : xs.length ≤ 1048576) (ps : List S44) (js : List Int) (hp : ps.length ≤ 1048576) (hq : js.length ≤ 1048576) :
    Ev (fun k => spec_l03LineAt.f k xs [(⟨ps, js⟩ : S37)]) (joinsB xs && lineB xs ps js) := by
  have e0 : rd_T37 [(⟨ps, js⟩ : S37)] 0 = ⟨ps, js⟩ := rfl
  have l0 : (0 : Int) < (([(⟨ps, js⟩ : S37)]).length : Int) := by simp
  simp only [spec_l03LineAt.f, e0, l0, if_true, spec_l00In_eq, Option.bind_some]
  refine Ev.bind (spec_l03Ok_ev xs hx) ?_
  cases hj : joinsB xs
  · simp only [Bool.false_eq_true, if_false, Bool.false_and]
    refine ev_succ ?_; simp only [spec_l03LineAt.j0, if_true]; exact ev_now _
  simp only [if_true, Bool.true_and]
  unfold lineB
  by_cases h1 : 1 ≤ ps.length ∧ ps.length ≤ 12
  · simp only [show (1 : Int) ≤ (ps.length : Int) ∧ (ps.length : Int) ≤ 12 by omega, h1, and_self, decide_true, if_true, Bool.true_and, w64 (show -9223372036854775808 ≤ (ps.length : Int) - 1 by omega) (show (ps.length : Int) - 1 ≤ 9223372036854775807 by omega)]
    refine ev_succ ?_
    by_cases h2 : (js.length : Int) = (ps.length : Int) - 1
    · simp only [spec_l03LineAt.j0, h2, bne_self_eq_false, Bool.false_eq_true, if_false, decide_true, Bool.true_and]
      have pe : (ps.all fun p => pieceB p.f0 p.f1) = (List.range ps.length).all fun n => pieceB (ps.getD n z44).f0 (ps.getD n z44).f1 := (range_all ps z44 fun p => pieceB p.f0 p.f1).symm
      have je : (js.all (inJ xs)) = (List.range js.length).all fun n => inJ xs (js.getD n 0) := (range_all js 0 (inJ xs)).symm
      rw [pe]
      refine ev_all (len := ps.length) (g := fun k i => spec_l03LineAt.l0 k xs [(⟨ps, js⟩ : S37)] i) _ (js.all (inJ xs) && decide (lenV xs ps js ≥ 1)) ?_ ?_ ?_
      · intro n hn hb r hr
        refine ev_succ ?_
        simp only [spec_l03LineAt.l0, e0, l0, spec_l03Piece_eq, Option.bind_some, Int.ofNat_lt.2 hn, show (0 : Int) ≤ (n : Int) from Int.natCast_nonneg _, if_true, rd_T44, Int.toNat_natCast, hb, wnext hn (by omega : ps.length ≤ 9223372036854775807)]
        exact hr
      · intro n hn hb
        refine ev_succ ?_
        simp only [spec_l03LineAt.l0, e0, l0, spec_l03Piece_eq, Option.bind_some, Int.ofNat_lt.2 hn, show (0 : Int) ≤ (n : Int) from Int.natCast_nonneg _, if_true, rd_T44, Int.toNat_natCast, hb, Bool.false_eq_true, if_false]
        exact ev_now _
      · refine ev_succ ?_
        simp only [spec_l03LineAt.l0, e0, l0, Int.lt_irrefl, if_true, if_false]
        rw [je]
        refine ev_all2 (len := js.length) (g := fun k i => spec_l03LineAt.l1 k xs [(⟨ps, js⟩ : S37)] i) (fun n => inJ xs (js.getD n 0)) _ ?_ ?_ ?_
        · intro n hn hb r hr
          refine ev_succ ?_
          simp only [inJ, decide_eq_true_eq] at hb
          simp only [spec_l03LineAt.l1, e0, l0, spec_l00In_eq, Option.bind_some, Int.ofNat_lt.2 hn, show (0 : Int) ≤ (n : Int) from Int.natCast_nonneg _, if_true, rd, Int.toNat_natCast, w64 (show -9223372036854775808 ≤ (xs.length : Int) - 1 by omega) (show (xs.length : Int) - 1 ≤ 9223372036854775807 by omega), hb, decide_true, and_self, wnext hn (by omega : js.length ≤ 9223372036854775807)]
          exact hr
        · intro n hn hb
          refine ev_succ ?_
          simp only [inJ, decide_eq_false_iff_not] at hb
          simp only [spec_l03LineAt.l1, e0, l0, spec_l00In_eq, Option.bind_some, Int.ofNat_lt.2 hn, show (0 : Int) ≤ (n : Int) from Int.natCast_nonneg _, if_true, rd, Int.toNat_natCast, w64 (show -9223372036854775808 ≤ (xs.length : Int) - 1 by omega) (show (xs.length : Int) - 1 ≤ 9223372036854775807 by omega), hb, decide_false, Bool.false_eq_true, if_false]
          exact ev_now _
        · intro hall
          rw [← je] at hall
          refine ev_succ ?_
          simp only [spec_l03LineAt.l1, e0, l0, spec_l00In_eq, Int.lt_irrefl, if_true, if_false]
          exact Ev.bind (spec_l03LengthAt_ev xs ps js hp hq hall) (ev_now _)
    · rw [show ((js.length : Int) != (ps.length : Int) - 1) = true by rw [bne_iff_ne]; exact h2]
      simp only [spec_l03LineAt.j0, h2, if_true, decide_false, Bool.false_and]; exact ev_now _
  · simp only [show ¬ ((1 : Int) ≤ (ps.length : Int) ∧ (ps.length : Int) ≤ 12) by omega, h1, decide_false, Bool.false_eq_true, if_false, Bool.false_and]
    refine ev_succ ?_; simp only [spec_l03LineAt.j0, if_true]; exact ev_now _
theorem impl_validLine_ev (xs : List S68) (hx : xs.length ≤ 1048576) (ps : List S44) (js : List Int) (hp : ps.length ≤ 1048576) (hq : js.length ≤ 1048576) :
    Ev (fun k => impl_validLine.f k xs ps js) (lineB xs ps js) := by
  simp only [impl_validLine.f]
  unfold lineB
  by_cases h1 : 1 ≤ ps.length ∧ ps.length ≤ 12
  · simp only [show ¬ (ps.length : Int) < 1 by omega, show ¬ (ps.length : Int) > 12 by omega, if_false, h1, and_self, decide_true, Bool.true_and, w64 (show -9223372036854775808 ≤ (ps.length : Int) - 1 by omega) (show (ps.length : Int) - 1 ≤ 9223372036854775807 by omega)]
    refine ev_succ ?_
    by_cases h2 : (js.length : Int) = (ps.length : Int) - 1
    · simp only [impl_validLine.j0, h2, bne_self_eq_false, Bool.false_eq_true, if_false, decide_true, Bool.true_and]
      have pe : (ps.all fun p => pieceB p.f0 p.f1) = (List.range ps.length).all fun n => pieceB (ps.getD n z44).f0 (ps.getD n z44).f1 := (range_all ps z44 fun p => pieceB p.f0 p.f1).symm
      have je : (js.all (inJ xs)) = (List.range js.length).all fun n => inJ xs (js.getD n 0) := (range_all js 0 (inJ xs)).symm
      rw [pe]
      refine ev_all (len := ps.length) (g := fun k i => impl_validLine.l0 k xs ps (ps.length : Int) i ps js) _ (js.all (inJ xs) && decide (lenV xs ps js ≥ 1)) ?_ ?_ ?_
      · intro n hn hb r hr
        refine ev_succ ?_
        simp only [impl_validLine.l0, impl_validPiece_eq, Option.bind_some, Int.ofNat_lt.2 hn, show (0 : Int) ≤ (n : Int) from Int.natCast_nonneg _, if_true, rd_T44, Int.toNat_natCast, hb, wnext hn (by omega : ps.length ≤ 9223372036854775807)]
        exact hr
      · intro n hn hb
        refine ev_succ ?_
        simp only [impl_validLine.l0, impl_validPiece_eq, Option.bind_some, Int.ofNat_lt.2 hn, show (0 : Int) ≤ (n : Int) from Int.natCast_nonneg _, if_true, rd_T44, Int.toNat_natCast, hb, Bool.false_eq_true, if_false]
        exact ev_now _
      · refine ev_succ ?_
        simp only [impl_validLine.l0, Int.lt_irrefl, if_false]
        rw [je]
        refine ev_all2 (len := js.length) (g := fun k i => impl_validLine.l1 k xs js (js.length : Int) i ps js) (fun n => inJ xs (js.getD n 0)) _ ?_ ?_ ?_
        · intro n hn hb r hr
          refine ev_succ ?_
          simp only [inJ, decide_eq_true_eq] at hb
          simp only [impl_validLine.l1, impl_within_eq, Option.bind_some, Int.ofNat_lt.2 hn, show (0 : Int) ≤ (n : Int) from Int.natCast_nonneg _, if_true, rd, Int.toNat_natCast, w64 (show -9223372036854775808 ≤ (xs.length : Int) - 1 by omega) (show (xs.length : Int) - 1 ≤ 9223372036854775807 by omega), hb, decide_true, and_self, wnext hn (by omega : js.length ≤ 9223372036854775807)]
          exact hr
        · intro n hn hb
          refine ev_succ ?_
          simp only [inJ, decide_eq_false_iff_not] at hb
          simp only [impl_validLine.l1, impl_within_eq, Option.bind_some, Int.ofNat_lt.2 hn, show (0 : Int) ≤ (n : Int) from Int.natCast_nonneg _, if_true, rd, Int.toNat_natCast, w64 (show -9223372036854775808 ≤ (xs.length : Int) - 1 by omega) (show (xs.length : Int) - 1 ≤ 9223372036854775807 by omega), hb, decide_false, Bool.false_eq_true, if_false]
          exact ev_now _
        · intro hall
          rw [← je] at hall
          refine ev_succ ?_
          simp only [impl_validLine.l1, impl_within_eq, Int.lt_irrefl, if_true, if_false]
          exact Ev.bind (impl_lineLength_ev xs ps js hp hq hall) (ev_now _)
    · rw [show ((js.length : Int) != (ps.length : Int) - 1) = true by rw [bne_iff_ne]; exact h2]
      simp only [impl_validLine.j0, h2, if_true, decide_false, Bool.false_and]; exact ev_now _
  · simp only [h1, decide_false, Bool.false_and]
    by_cases h3 : (ps.length : Int) < 1
    · simp only [h3, if_true]
      refine ev_succ ?_; simp only [impl_validLine.j0, if_true]; exact ev_now _
    · simp only [h3, show (ps.length : Int) > 12 by omega, if_true, if_false]
      refine ev_succ ?_; simp only [impl_validLine.j0, if_true]; exact ev_now _

theorem impl_gcd_loop (m : Nat) : ∀ a b : Int, b.toNat = m → 0 ≤ a → 0 ≤ b → Ev (fun k => impl_gcd.l0 k a b) (Nat.gcd a.toNat b.toNat : Nat) := by
  induction m using Nat.strongRecOn with
  | _ m ih =>
    intro a b hm ha hb
    refine ev_succ ?_
    by_cases h : b = 0
    · subst h
      simp only [impl_gcd.l0, if_true]
      exact ev_to (ev_now _) (by simp; omega)
    · obtain ⟨h1, h2, h3⟩ := gcd_step (a := a) (b := b) ha (by omega)
      simp only [impl_gcd.l0, h, if_false]
      exact ev_to (ih _ (by omega) b _ rfl hb h1) (by rw [h3])
theorem impl_gcd_ev (n d : Int) (hn : -4611686018427387904 ≤ n ∧ n ≤ 4611686018427387904) (hd : 0 ≤ d) : Ev (fun k => impl_gcd.f k n d) (Int.gcd n d : Nat) := by
  have g := impl_gcd_loop d.toNat (n.natAbs : Int) d rfl (by omega) (by omega)
  have eg : Nat.gcd ((n.natAbs : Int)).toNat d.toNat = Int.gcd n d := by rw [Int.gcd, Int.toNat_natCast]; congr 1; omega
  rw [eg] at g
  simp only [impl_gcd.f]
  by_cases h : n < 0
  · simp only [h, if_true]
    refine ev_succ ?_
    simp only [impl_gcd.j0]
    rw [w64 (by omega) (by omega), show -n = (n.natAbs : Int) by omega]
    exact g
  · simp only [h, if_false]
    refine ev_succ ?_
    simp only [impl_gcd.j0]
    rw [show (n : Int) = (n.natAbs : Int) by omega]
    rw [show ((n.natAbs : Int)).gcd d = n.gcd d by simp [Int.gcd]]
    exact g
theorem impl_fraction_ev (n d : Int) (hn : -4611686018427387904 ≤ n ∧ n ≤ 4611686018427387904) (hd : 0 < d ∧ d ≤ 4611686018427387904) : Ev (fun k => impl_fraction.f k n d) (mkF n d) := by
  simp only [impl_fraction.f, show ¬ d < 0 by omega, if_false]
  have pos : 0 < Int.gcd n d := Int.gcd_pos_of_ne_zero_right n (by omega)
  refine Ev.bind (impl_gcd_ev n d hn (by omega)) ?_
  have b1 := tdiv_bound n (Int.gcd n d)
  have b2 := tdiv_bound d (Int.gcd n d)
  simp only [show ¬ ((Int.gcd n d : Nat) : Int) = 0 by omega, if_false, w64 (n := Int.tdiv n (Int.gcd n d : Nat)) (by omega) (by omega), w64 (n := Int.tdiv d (Int.gcd n d : Nat)) (by omega) (by omega)]
  exact ev_now _

theorem mkF_scale (c n d : Int) (hc : 0 < c) : mkF (c * n) (c * d) = mkF n d := by
  unfold mkF
  have e : (Int.gcd (c * n) (c * d) : Int) = c * (Int.gcd n d : Int) := by
    rw [Int.gcd_mul_left]; push_cast; rw [Int.natAbs_of_nonneg (by omega)]
  rw [e, Int.mul_tdiv_mul_of_pos _ _ hc, Int.mul_tdiv_mul_of_pos _ _ hc]
theorem mkF_mul (n d : Int) (hd : 0 < d) : ∃ g : Int, 0 < g ∧ n = g * (mkF n d).1 ∧ d = g * (mkF n d).2 := by
  have pos : 0 < Int.gcd n d := Int.gcd_pos_of_ne_zero_right n (by omega)
  exact ⟨(Int.gcd n d : Nat), by omega, (Int.mul_tdiv_cancel' (Int.gcd_dvd_left ..)).symm, (Int.mul_tdiv_cancel' (Int.gcd_dvd_right ..)).symm⟩
theorem pos_of_mul {g x : Int} (hg : 0 < g) (h : 0 < g * x) : 0 < x := by
  rcases Int.lt_or_le 0 x with q | q
  · exact q
  · have := Int.mul_le_mul_of_nonneg_left q (Int.le_of_lt hg); omega
theorem nonneg_of_mul {g x : Int} (hg : 0 < g) (h : 0 ≤ g * x) : 0 ≤ x := by
  rcases Int.lt_or_le x 0 with q | q
  · have := Int.mul_lt_mul_of_pos_left q hg; omega
  · exact q
theorem le_mul_pos {g x : Int} (hg : 0 < g) (hx : 0 ≤ x) : x ≤ g * x := by
  have := Int.mul_le_mul_of_nonneg_right (show (1 : Int) ≤ g by omega) hx; omega
theorem mul_bd {a b A B : Int} (h0 : 0 ≤ a) (h1 : a ≤ A) (h2 : 0 ≤ b) (h3 : b ≤ B) : 0 ≤ a * b ∧ a * b ≤ A * B :=
  ⟨Int.mul_nonneg h0 h2, Int.mul_le_mul h1 h3 h2 (by omega)⟩
theorem mkF_pos (n d : Int) (hn : 0 ≤ n) (hd : 0 < d) : 0 ≤ (mkF n d).1 ∧ (mkF n d).1 ≤ n ∧ 0 < (mkF n d).2 ∧ (mkF n d).2 ≤ d := by
  obtain ⟨g, hg, e1, e2⟩ := mkF_mul n d hd
  have a := nonneg_of_mul hg (show 0 ≤ g * (mkF n d).1 by omega)
  have b := pos_of_mul hg (show 0 < g * (mkF n d).2 by omega)
  have c := le_mul_pos hg a
  have e := le_mul_pos hg (Int.le_of_lt b)
  exact ⟨a, by omega, b, by omega⟩

theorem min_eq (a b : Int) : spec_l00Min.f a b = some (mn a b) := by
  unfold spec_l00Min.f mn
  by_cases h : a < b
  · rw [if_pos h, if_neg (by omega)]
  · rw [if_neg h]
    by_cases h2 : b < a
    · rw [if_pos h2]
    · rw [if_neg h2]; congr 1; omega
theorem spec_l03JoinedAt_eq (x : S68) (a b c d : Int) : spec_l03JoinedAt.f [x] a b c d = some (wrap64 (mn a c * x.f1)) := by
  have e0 : rd_T68 [x] 0 = x := rfl
  have l0 : (0 : Int) < (([x] : List S68).length : Int) := by simp
  simp only [spec_l03JoinedAt.f, e0, l0, if_true, min_eq, Option.bind_some, Int.mul_comm]
/-- What a valid line is made of. -/
structure LineOk (xs : List S68) (ps : List S44) (js : List Int) : Prop where
  len : 1 ≤ ps.length ∧ ps.length ≤ 12
  joins : js.length + 1 = ps.length
  str : ∀ n, n < ps.length → 1 ≤ (ps.getD n z44).f0 ∧ (ps.getD n z44).f0 ≤ 1000000
  at_ : ∀ n, n < js.length → 0 ≤ js.getD n 0 ∧ js.getD n 0 < (xs.length : Int)
  share : ∀ n, n < xs.length → 1 ≤ (xs.getD n z68).f1 ∧ (xs.getD n z68).f1 ≤ 1000
theorem lineOk_of {xs : List S68} {ps : List S44} {js : List Int} (h1 : joinsB xs = true) (h2 : lineB xs ps js = true) : LineOk xs ps js := by
  unfold lineB at h2
  simp only [Bool.and_eq_true, decide_eq_true_eq, List.all_eq_true] at h2
  obtain ⟨a, b, c, d, e⟩ := h2
  unfold joinsB at h1
  simp only [Bool.and_eq_true, List.all_eq_true] at h1
  refine ⟨a, by omega, fun n hn => ?_, fun n hn => inJ_of xs js (List.all_eq_true.2 d) hn, fun n hn => ?_⟩
  · have := c _ (List.getElem_mem hn)
    rw [getD_lt _ _ hn]
    unfold pieceB at this
    simp only [Bool.and_eq_true, decide_eq_true_eq] at this
    exact this.1
  · have := h1.1 n (List.mem_range.2 hn)
    unfold joinsP at this
    simp only [Bool.and_eq_true] at this
    have := this.1
    unfold jB joinB at this
    simp only [Bool.and_eq_true, decide_eq_true_eq] at this
    exact this.2.1
/-- A thousand times the strength of join n. -/
def jV (xs : List S68) (ps : List S44) (js : List Int) (n : Nat) : Int := mn (ps.getD n z44).f0 (ps.getD (n + 1) z44).f0 * (xs.getD (js.getD n 0).toNat z68).f1
theorem jV_bd {xs : List S68} {ps : List S44} {js : List Int} (h : LineOk xs ps js) {n : Nat} (hn : n < js.length) : 1 ≤ jV xs ps js n ∧ jV xs ps js n ≤ 1000000000 := by
  have a := h.str n (by have := h.joins; omega)
  have b := h.str (n + 1) (by have := h.joins; omega)
  have c := h.at_ n hn
  have d := h.share (js.getD n 0).toNat (by omega)
  have m : 1 ≤ mn (ps.getD n z44).f0 (ps.getD (n + 1) z44).f0 ∧ mn (ps.getD n z44).f0 (ps.getD (n + 1) z44).f0 ≤ 1000000 := by unfold mn; split <;> omega
  have e := mul_bd (show 0 ≤ mn (ps.getD n z44).f0 (ps.getD (n + 1) z44).f0 by omega) m.2 (show 0 ≤ (xs.getD (js.getD n 0).toNat z68).f1 by omega) d.2
  have f := Int.mul_pos (show 0 < mn (ps.getD n z44).f0 (ps.getD (n + 1) z44).f0 by omega) (show 0 < (xs.getD (js.getD n 0).toNat z68).f1 by omega)
  unfold jV
  omega
theorem impl_strengthAt_ev {xs : List S68} {ps : List S44} {js : List Int} (h : LineOk xs ps js) {n : Nat} (hn : n < js.length) : Ev (fun k => impl_strengthAt.f k xs ps js (n : Int)) (mkF (jV xs ps js n) 1000) := by
  have c := h.at_ n hn
  have b := jV_bd h hn
  have hj := h.joins
  have e1 : wrap64 ((n : Int) + 1) = ((n + 1 : Nat) : Int) := by rw [w64 (by omega) (by have := h.len; omega)]; omega
  simp only [impl_strengthAt.f, show (0 : Int) ≤ (n : Int) from Int.natCast_nonneg _, show (n : Int) < (ps.length : Int) by omega, if_true, e1, show (0 : Int) ≤ ((n + 1 : Nat) : Int) from Int.natCast_nonneg _, show ((n + 1 : Nat) : Int) < (ps.length : Int) by omega, show (n : Int) < (js.length : Int) by omega, rd, rd_T44, rd_T68, Int.toNat_natCast, c.1, c.2]
  show Ev (fun k => (impl_fraction.f k (wrap64 (jV xs ps js n)) 1000).bind _) _
  rw [w64 (n := jV xs ps js n) (by omega) (by omega)]
  exact Ev.bind (impl_fraction_ev _ _ (by omega) (by omega)) (ev_now _)

/-! ### fractions with thousandths -/
theorem mkF_thou (a : Int) : ∃ g : Int, 0 < g ∧ a = g * (mkF a 1000).1 ∧ 1000 = g * (mkF a 1000).2 := mkF_mul a 1000 (by decide)
theorem mkF_inj {a b : Int} (h : mkF a 1000 = mkF b 1000) : a = b := by
  obtain ⟨g, hg, e1, e2⟩ := mkF_thou a
  obtain ⟨g', hg', e1', e2'⟩ := mkF_thou b
  rw [h] at e1 e2
  generalize mkF b 1000 = r at *
  have : g * r.2 = g' * r.2 := by omega
  have hr : r.2 ≠ 0 := by intro h0; rw [h0] at e2; omega
  have : g = g' := Int.eq_of_mul_eq_mul_right hr this
  rw [e1, e1', this]
theorem mkF_whole (m : Int) : mkF (1000 * m) 1000 = (m, 1) := by
  have := mkF_scale 1000 m 1 (by decide)
  rw [Int.mul_one] at this
  rw [this]; unfold mkF; rw [Int.gcd_one]; simp
theorem mkF_one (p : Int) : mkF p 1 = (p, 1) := by
  unfold mkF; rw [Int.gcd_one]; simp
theorem mkF_lt {a b : Int} : (mkF a 1000).1 * (mkF b 1000).2 < (mkF b 1000).1 * (mkF a 1000).2 ↔ a < b := by
  obtain ⟨g, hg, e1, e2⟩ := mkF_thou a
  obtain ⟨g', hg', e1', e2'⟩ := mkF_thou b
  generalize mkF a 1000 = r at *
  generalize mkF b 1000 = s at *
  have hgg := Int.mul_pos hg hg'
  have z1 : (g * g') * (r.1 * s.2) = a * 1000 := by rw [e1, e2']; ac_rfl
  have z2 : (g * g') * (s.1 * r.2) = b * 1000 := by rw [e1', e2]; ac_rfl
  constructor
  · intro h
    have := Int.mul_lt_mul_of_pos_left h hgg
    rw [z1, z2] at this; omega
  · intro h
    refine Int.lt_of_mul_lt_mul_left (a := g * g') ?_ (Int.le_of_lt hgg)
    rw [z1, z2]; omega
/-! ### how two fractions are compared -/
theorem wrapU {n : Int} (h0 : 0 ≤ n) (h1 : n < 18446744073709551616) : IntKind.u64.wrap n = n := by
  simp only [IntKind.wrap, IntKind.bits, IntKind.signed]
  simp
  omega
theorem andU {x : Int} (h0 : 0 ≤ x) (h1 : x < 18446744073709551616) : Go.bits .and .u64 x 4294967295 = x % 4294967296 := by
  have := bits_mask .u64 64 (by decide) (fun n a b => wrapU a (by simpa using b)) 32 (by decide) x h0 (by simpa using h1)
  simpa using this
theorem mul64_small (a b : Int) (ha : 0 ≤ a ∧ a ≤ 4294967295) (hb : 0 ≤ b ∧ b ≤ 4294967295) : bits_Mul64.f a b = some (0, a * b) := by
  have m := mul_bd ha.1 ha.2 hb.1 hb.2
  have a0 : a / 4294967296 = 0 := by omega
  have b0 : b / 4294967296 = 0 := by omega
  simp only [bits_Mul64.f, a0, b0, andU ha.1 (by omega), andU hb.1 (by omega), Int.emod_eq_of_lt ha.1 (show a < 4294967296 by omega), Int.emod_eq_of_lt hb.1 (show b < 4294967296 by omega), Int.zero_mul, Int.mul_zero, Int.zero_add, Int.add_zero]
  have e0 : IntKind.u64.wrap 0 = 0 := wrapU (by decide) (by decide)
  have e1 : IntKind.u64.wrap (a * b) = a * b := wrapU m.1 (by omega)
  simp only [e0, e1, Int.zero_add, Int.add_zero]
  have e2 : IntKind.u64.wrap (a * b / 4294967296) = a * b / 4294967296 := wrapU (by omega) (by omega)
  have e3 : a * b / 4294967296 / 4294967296 = 0 := by omega
  simp only [e2, e3, andU (show 0 ≤ a * b / 4294967296 by omega) (by omega), Int.zero_add]
  have e4 : a * b / 4294967296 % 4294967296 / 4294967296 = 0 := by omega
  have e5 : IntKind.u64.wrap (a * b / 4294967296 % 4294967296) = a * b / 4294967296 % 4294967296 := wrapU (by omega) (by omega)
  simp only [e5, e4, Int.zero_add, e0]
def cmpV (a b : Int) : Int := if a < b then -1 else if a > b then 1 else 0
theorem cmpU_eq (a b : Int) : cmp_Compare_uint64.f a b = some (cmpV a b) := by
  simp only [cmp_Compare_uint64.f, cmp_isNaN_uint64.f, Option.bind_some, bne_self_eq_false, Bool.false_eq_true, if_false]
  unfold cmpV
  split <;> (try split) <;> rfl
theorem cmpI_eq (a b : Int) : cmp_Compare_int64.f a b = some (cmpV a b) := by
  simp only [cmp_Compare_int64.f, cmp_isNaN_int64.f, Option.bind_some, bne_self_eq_false, Bool.false_eq_true, if_false]
  unfold cmpV
  split <;> (try split) <;> rfl
theorem or_ev (b : Int) : Ev (fun k => cmp_Or_int.f k [0, b]) b := by
  simp only [cmp_Or_int.f]
  refine ev_succ (ev_to ?_ rfl)
  simp only [cmp_Or_int.l0, List.length_cons, List.length_nil, show (0 : Int) < ((0 + 1 + 1 : Nat) : Int) by decide, Int.le_refl, if_true, show rd [0, b] 0 = 0 from rfl, show wrap64 (0 + 1) = 1 by unfold wrap64; omega]
  refine ev_succ ?_
  simp only [cmp_Or_int.l0, List.length_cons, List.length_nil, show (1 : Int) < ((0 + 1 + 1 : Nat) : Int) by decide, show (0 : Int) ≤ 1 by decide, if_true, show rd [0, b] 1 = b from rfl, show wrap64 (1 + 1) = 2 by unfold wrap64; omega]
  by_cases h : b = 0
  · simp only [h, if_true]
    refine ev_succ ?_
    simp only [cmp_Or_int.l0, List.length_cons, List.length_nil, show ¬ (2 : Int) < ((0 + 1 + 1 : Nat) : Int) by decide, if_false]
    exact ev_now _
  · simp only [h, if_false]; exact ev_now _
theorem compare_ev (a b c d : Int) (ha : 1 ≤ a ∧ a ≤ 1000000000) (hb : 1 ≤ b ∧ b ≤ 1000000000) (hc : 1 ≤ c ∧ c ≤ 1000000000) (hd : 1 ≤ d ∧ d ≤ 1000000000) : Ev (fun k => impl_compareFractions.f k a b c d) (cmpV (a * d) (c * b)) := by
  have sz : ∀ x : Int, 1 ≤ x ∧ x ≤ 1000000000 → impl_size.f x = some x := by
    intro x hx
    simp only [impl_size.f, show ¬ x < 0 by omega, if_false, wrapU (show 0 ≤ x by omega) (show x < 18446744073709551616 by omega)]
  have sg : ∀ x : Int, 1 ≤ x ∧ x ≤ 1000000000 → impl_sign.f x = some 1 := by
    intro x hx
    simp only [impl_sign.f, show x > 0 by omega, if_true]
  have c0 : cmpV 1 1 = 0 := by decide
  have c1 : cmpV 0 0 = 0 := by decide
  have cb : -1 ≤ cmpV (a * d) (c * b) ∧ cmpV (a * d) (c * b) ≤ 1 := by unfold cmpV; split <;> (try split) <;> omega
  simp only [impl_compareFractions.f, sz a ha, sz b hb, sz c hc, sz d hd, sg a ha, sg c hc, Option.bind_some, cmpI_eq, c0]
  refine Ev.bind (a := cmpV (a * d) (c * b)) ?_ ?_
  · simp only [impl_compareProducts.f, mul64_small a d (by omega) (by omega), mul64_small c b (by omega) (by omega), Option.bind_some, cmpU_eq, c1]
    exact Ev.bind (or_ev _) (ev_now _)
  · rw [Int.one_mul, w64 (by omega) (by omega)]
    exact Ev.bind (or_ev _) (ev_now _)
/-! ### where a line is weakest -/
/-- A loop over the places from n0 on. -/
theorem ev_from {σ ρ : Type} {len n0 : Nat} {g : Nat → σ → Int → Option ρ} (Inv : Nat → σ → Prop) (Post : ρ → Prop) (h0 : n0 ≤ len)
    (round : ∀ n s, n < len → Inv n s → (∃ r, Ev (fun k => g k s (n : Int)) r ∧ Post r) ∨ ∃ s', Inv (n + 1) s' ∧ ∀ r, Ev (fun k => g k s' ((n + 1 : Nat) : Int)) r → Ev (fun k => g k s (n : Int)) r)
    (last : ∀ s, Inv len s → ∃ r, Ev (fun k => g k s (len : Int)) r ∧ Post r) (s : σ) (hi : Inv n0 s) : ∃ r, Ev (fun k => g k s (n0 : Int)) r ∧ Post r := by
  have key : ∀ d n s, n + d = len → Inv n s → ∃ r, Ev (fun k => g k s (n : Int)) r ∧ Post r := by
    intro d
    induction d with
    | zero => intro n s h hi; simp only [Nat.add_zero] at h; subst h; exact last s hi
    | succ d ih =>
      intro n s h hi
      rcases round n s (by omega) hi with h1 | ⟨s', hi', hg⟩
      · exact h1
      · obtain ⟨r, hr, hp⟩ := ih (n + 1) s' (by omega) hi'
        exact ⟨r, hg r hr, hp⟩
  exact key (len - n0) n0 s (by omega) hi
def pV (ps : List S44) (n : Nat) : Int := (ps.getD n z44).f0
def PInv (ps : List S44) (n p : Nat) : Prop := p < n ∧ (∀ j, j < n → pV ps p ≤ pV ps j) ∧ ∀ j, j < p → pV ps p < pV ps j
/-- What spec's search comes to: the kind, the place, the least. -/
def WeakP (xs : List S68) (ps : List S44) (js : List Int) (n : Nat) (r : ByteArray × Int × Int) : Prop :=
  ∃ p, PInv ps ps.length p ∧ ((r = ((⟨#[112, 105, 101, 99, 101]⟩ : ByteArray), (p : Int), 1000 * pV ps p) ∧ ∀ j, j < n → 1000 * pV ps p ≤ jV xs ps js j) ∨
    ∃ a, a < n ∧ r = ((⟨#[106, 111, 105, 110]⟩ : ByteArray), (a : Int), jV xs ps js a) ∧ jV xs ps js a < 1000 * pV ps p ∧ (∀ j, j < n → jV xs ps js a ≤ jV xs ps js j) ∧ ∀ j, j < a → jV xs ps js a < jV xs ps js j)
theorem spec_weak_l1 {xs : List S68} {ps : List S44} {js : List Int} (ok : LineOk xs ps js) (p : Nat) (hp : PInv ps ps.length p) :
    ∃ r, Ev (fun k => spec_l03WeakestAt.l1 k xs [(⟨ps, js⟩ : S37)] (⟨#[112, 105, 101, 99, 101]⟩ : ByteArray) (p : Int) (1000 * pV ps p) 0) r ∧ WeakP xs ps js js.length r := by
  have hj := ok.joins
  have hl := ok.len
  refine ev_loop (len := js.length) (g := fun k (s : ByteArray × Int × Int) i => spec_l03WeakestAt.l1 k xs [(⟨ps, js⟩ : S37)] s.1 s.2.1 s.2.2 i) (fun n s => WeakP xs ps js n s) (WeakP xs ps js js.length) ?_ ?_ ((⟨#[112, 105, 101, 99, 101]⟩ : ByteArray), (p : Int), 1000 * pV ps p) ⟨p, hp, .inl ⟨rfl, fun j h => absurd h (by omega)⟩⟩
  · rintro n ⟨kd, at_, least⟩ hn hw
    have c := ok.at_ n hn
    have b := jV_bd ok hn
    have e1 : wrap64 ((n : Int) + 1) = ((n + 1 : Nat) : Int) := by rw [w64 (by omega) (by omega)]; omega
    have r0 : rd_T37 [(⟨ps, js⟩ : S37)] 0 = ⟨ps, js⟩ := rfl
    have l0 : (0 : Int) < (([(⟨ps, js⟩ : S37)] : List S37).length : Int) := by simp
    have st : ∀ (s' : ByteArray × Int × Int) r, s' = (if jV xs ps js n < least then ((⟨#[106, 111, 105, 110]⟩ : ByteArray), (n : Int), jV xs ps js n) else (kd, at_, least)) → Ev (fun k => spec_l03WeakestAt.l1 k xs [(⟨ps, js⟩ : S37)] s'.1 s'.2.1 s'.2.2 ((n + 1 : Nat) : Int)) r → Ev (fun k => spec_l03WeakestAt.l1 k xs [(⟨ps, js⟩ : S37)] kd at_ least (n : Int)) r := by
      intro s' r hs hr
      refine ev_succ ?_
      simp only [spec_l03WeakestAt.l1, r0, l0, if_true, Int.ofNat_lt.2 hn, show (0 : Int) ≤ (n : Int) from Int.natCast_nonneg _, show (n : Int) < (ps.length : Int) by omega, e1, show (0 : Int) ≤ ((n + 1 : Nat) : Int) from Int.natCast_nonneg _, show ((n + 1 : Nat) : Int) < (ps.length : Int) by omega, rd, rd_T44, rd_T68, Int.toNat_natCast, c.1, c.2, spec_l03JoinedAt_eq, Option.bind_some]
      show Ev (fun k => if wrap64 (jV xs ps js n) < least then spec_l03WeakestAt.l1 k xs _ _ _ (wrap64 (jV xs ps js n)) _ else spec_l03WeakestAt.l1 k xs _ _ _ _ _) r
      rw [w64 (n := jV xs ps js n) (by omega) (by omega)]
      by_cases hc : jV xs ps js n < least
      · simp only [hc, if_true] at hs ⊢; subst hs; exact hr
      · simp only [hc, if_false] at hs ⊢; subst hs; exact hr
    refine .inr ⟨_, ?_, fun r hr => st _ r rfl hr⟩
    obtain ⟨p', hp', h | ⟨a, ha, h, h2, h3, h4⟩⟩ := hw
    · obtain ⟨he, hm⟩ := h
      simp only [Prod.mk.injEq] at he
      obtain ⟨rfl, rfl, rfl⟩ := he
      by_cases hc : jV xs ps js n < 1000 * pV ps p'
      · rw [if_pos hc]
        refine ⟨p', hp', .inr ⟨n, by omega, rfl, hc, fun j hj => ?_, fun j hj => ?_⟩⟩
        · by_cases hjn : j = n
          · subst hjn; exact Int.le_refl _
          · have := hm j (by omega); omega
        · have := hm j hj; omega
      · rw [if_neg hc]
        refine ⟨p', hp', .inl ⟨rfl, fun j hj => ?_⟩⟩
        by_cases hjn : j = n
        · subst hjn; omega
        · exact hm j (by omega)
    · simp only [Prod.mk.injEq] at h
      obtain ⟨rfl, rfl, rfl⟩ := h
      by_cases hc : jV xs ps js n < jV xs ps js a
      · rw [if_pos hc]
        refine ⟨p', hp', .inr ⟨n, by omega, rfl, by omega, fun j hj => ?_, fun j hj => ?_⟩⟩
        · by_cases hjn : j = n
          · subst hjn; exact Int.le_refl _
          · have := h3 j (by omega); omega
        · have := h3 j hj; omega
      · rw [if_neg hc]
        refine ⟨p', hp', .inr ⟨a, by omega, rfl, h2, fun j hj => ?_, h4⟩⟩
        by_cases hjn : j = n
        · subst hjn; omega
        · exact h3 j (by omega)
  · rintro ⟨kd, at_, least⟩ hw
    refine ⟨(kd, at_, least), ev_succ ?_, hw⟩
    have r0 : rd_T37 [(⟨ps, js⟩ : S37)] 0 = ⟨ps, js⟩ := rfl
    have l0 : (0 : Int) < (([(⟨ps, js⟩ : S37)] : List S37).length : Int) := by simp
    simp only [spec_l03WeakestAt.l1, r0, l0, if_true, Int.lt_irrefl, if_false]
    exact ev_now _
theorem spec_weak_ev {xs : List S68} {ps : List S44} {js : List Int} (ok : LineOk xs ps js) :
    ∃ r, Ev (fun k => spec_l03WeakestAt.f k xs [(⟨ps, js⟩ : S37)]) r ∧ WeakP xs ps js js.length r := by
  have hj := ok.joins
  have hl := ok.len
  have r0 : rd_T37 [(⟨ps, js⟩ : S37)] 0 = ⟨ps, js⟩ := rfl
  have l0 : (0 : Int) < (([(⟨ps, js⟩ : S37)] : List S37).length : Int) := by simp
  have s0 := ok.str 0 (by omega)
  have main : ∃ r, Ev (fun k => spec_l03WeakestAt.l0 k xs [(⟨ps, js⟩ : S37)] (⟨#[112, 105, 101, 99, 101]⟩ : ByteArray) ((0 : Nat) : Int) (1000 * pV ps 0) ((1 : Nat) : Int)) r ∧ WeakP xs ps js js.length r := by
    refine ev_from (len := ps.length) (n0 := 1) (g := fun k (s : Int × Int) i => spec_l03WeakestAt.l0 k xs [(⟨ps, js⟩ : S37)] (⟨#[112, 105, 101, 99, 101]⟩ : ByteArray) s.1 s.2 i) (fun n s => ∃ p : Nat, s = ((p : Int), 1000 * pV ps p) ∧ PInv ps n p) (WeakP xs ps js js.length) hl.1 ?_ ?_ (((0 : Nat) : Int), 1000 * pV ps 0) ⟨0, rfl, by omega, fun j hj => by rw [show j = 0 by omega]; exact Int.le_refl _, fun j hj => absurd hj (by omega)⟩
    · rintro n ⟨at_, least⟩ hn ⟨p, he, h1, h2, h3⟩
      simp only [Prod.mk.injEq] at he
      obtain ⟨rfl, rfl⟩ := he
      have sn := ok.str n hn
      have sp := ok.str p (by omega)
      have w1 : wrap64 (1000 * (ps.getD n z44).f0) = 1000 * pV ps n := w64 (by omega) (by omega)
      refine .inr ⟨if 1000 * pV ps n < 1000 * pV ps p then ((n : Int), 1000 * pV ps n) else ((p : Int), 1000 * pV ps p), ?_, fun r hr => ?_⟩
      · by_cases hc : 1000 * pV ps n < 1000 * pV ps p
        · rw [if_pos hc]
          refine ⟨n, rfl, by omega, fun j hj => ?_, fun j hj => ?_⟩
          · by_cases hjn : j = n
            · subst hjn; exact Int.le_refl _
            · have := h2 j (by omega); omega
          · have := h2 j hj; omega
        · rw [if_neg hc]
          refine ⟨p, rfl, by omega, fun j hj => ?_, h3⟩
          by_cases hjn : j = n
          · subst hjn; omega
          · exact h2 j (by omega)
      · refine ev_succ ?_
        simp only [spec_l03WeakestAt.l0, r0, l0, if_true, Int.ofNat_lt.2 hn, show (0 : Int) ≤ (n : Int) from Int.natCast_nonneg _, rd_T44, Int.toNat_natCast, w1, wnext hn (by omega : ps.length ≤ 9223372036854775807)]
        by_cases hc : 1000 * pV ps n < 1000 * pV ps p
        · simp only [hc, if_true] at hr ⊢; exact hr
        · simp only [hc, if_false] at hr ⊢; exact hr
    · rintro ⟨at_, least⟩ ⟨p, he, hp⟩
      simp only [Prod.mk.injEq] at he
      obtain ⟨rfl, rfl⟩ := he
      obtain ⟨r, hr, hw⟩ := spec_weak_l1 ok p hp
      refine ⟨r, ev_succ ?_, hw⟩
      simp only [spec_l03WeakestAt.l0, r0, l0, if_true, Int.lt_irrefl, if_false]
      exact hr
  obtain ⟨r, hr, hw⟩ := main
  refine ⟨r, ?_, hw⟩
  simp only [spec_l03WeakestAt.f, r0, l0, if_true, show (0 : Int) < (ps.length : Int) by omega, rd_T44]
  rw [w64 (n := 1000 * (ps.getD (0 : Int).toNat z44).f0) (by have : (0 : Int).toNat = 0 := rfl; rw [this]; omega) (by have : (0 : Int).toNat = 0 := rfl; rw [this]; omega)]
  exact hr
/-- The least of all, in thousandths. -/
def LeastP (xs : List S68) (ps : List S44) (js : List Int) (n : Nat) (v : Int) : Prop :=
  (∀ j, j < ps.length → v ≤ 1000 * pV ps j) ∧ (∀ j, j < n → v ≤ jV xs ps js j) ∧ ((∃ j, j < ps.length ∧ v = 1000 * pV ps j) ∨ ∃ j, j < n ∧ v = jV xs ps js j)
theorem leastP_uniq {xs : List S68} {ps : List S44} {js : List Int} {n : Nat} {v v' : Int} (h : LeastP xs ps js n v) (h' : LeastP xs ps js n v') : v = v' := by
  have le : ∀ {a b : Int}, LeastP xs ps js n a → LeastP xs ps js n b → a ≤ b := by
    rintro a b ⟨h1, h2, _⟩ ⟨_, _, ⟨j, hj, rfl⟩ | ⟨j, hj, rfl⟩⟩
    · exact h1 j hj
    · exact h2 j hj
  exact Int.le_antisymm (le h h') (le h' h)
theorem weakP_least {xs : List S68} {ps : List S44} {js : List Int} {n : Nat} {r : ByteArray × Int × Int} (h : WeakP xs ps js n r) : LeastP xs ps js n r.2.2 := by
  obtain ⟨p, ⟨h1, h2, h3⟩, ⟨rfl, hm⟩ | ⟨a, ha, rfl, k1, k2, k3⟩⟩ := h
  · exact ⟨fun j hj => by have := h2 j hj; simp only; omega, hm, .inl ⟨p, h1, rfl⟩⟩
  · exact ⟨fun j hj => by have := h2 j hj; simp only; omega, k2, .inr ⟨a, ha, rfl⟩⟩
theorem impl_lineStrength_ev {xs : List S68} {ps : List S44} {js : List Int} (ok : LineOk xs ps js) :
    ∃ v, Ev (fun k => impl_lineStrength.f k xs ps js) (mkF v 1000) ∧ LeastP xs ps js js.length v ∧ 1 ≤ v ∧ v ≤ 1000000000 := by
  have hj := ok.joins
  have hl := ok.len
  have s0 := ok.str 0 (by omega)
  have l1 : ∀ m j0 : Nat, j0 < ps.length → m = j0 → (∀ j, j < ps.length → pV ps m ≤ pV ps j) → ∃ r, Ev (fun k => impl_lineStrength.l1 k xs (js.length : Int) 0 ps js (pV ps m) 1) r ∧ ∃ v, r = mkF v 1000 ∧ LeastP xs ps js js.length v ∧ 1 ≤ v ∧ v ≤ 1000000000 := by
    intro m j0 h0 hm hmin
    subst hm
    have sm := ok.str m h0
    refine ev_loop (len := js.length) (g := fun k (s : Int × Int) i => impl_lineStrength.l1 k xs (js.length : Int) i ps js s.1 s.2) (fun n s => ∃ v, s = mkF v 1000 ∧ LeastP xs ps js n v ∧ 1 ≤ v ∧ v ≤ 1000000000) (fun r => ∃ v, r = mkF v 1000 ∧ LeastP xs ps js js.length v ∧ 1 ≤ v ∧ v ≤ 1000000000) ?_ ?_ (pV ps m, 1) ⟨1000 * pV ps m, (mkF_whole _).symm, ⟨fun j hj => by have := hmin j hj; omega, fun j hj => absurd hj (by omega), .inl ⟨m, h0, rfl⟩⟩, by unfold pV; omega, by unfold pV; omega⟩
    · rintro n s hn ⟨v, rfl, hv, hv1, hv2⟩
      have b := jV_bd ok hn
      have q1 := mkF_pos (jV xs ps js n) 1000 (by omega) (by decide)
      have q2 := mkF_pos v 1000 (by omega) (by decide)
      have f1 : 1 ≤ (mkF (jV xs ps js n) 1000).1 := by
        obtain ⟨g, hg, e1, e2⟩ := mkF_thou (jV xs ps js n)
        have := pos_of_mul hg (show 0 < g * (mkF (jV xs ps js n) 1000).1 by omega); omega
      have f2 : 1 ≤ (mkF v 1000).1 := by
        obtain ⟨g, hg, e1, e2⟩ := mkF_thou v
        have := pos_of_mul hg (show 0 < g * (mkF v 1000).1 by omega); omega
      have ce := compare_ev (mkF (jV xs ps js n) 1000).1 (mkF (jV xs ps js n) 1000).2 (mkF v 1000).1 (mkF v 1000).2 (by omega) (by omega) (by omega) (by omega)
      refine .inr ⟨if jV xs ps js n < v then mkF (jV xs ps js n) 1000 else mkF v 1000, ?_, fun r hr => ?_⟩
      · by_cases hc : jV xs ps js n < v
        · rw [if_pos hc]
          refine ⟨_, rfl, ⟨fun j hj => by have := hv.1 j hj; omega, fun j hj => ?_, .inr ⟨n, by omega, rfl⟩⟩, b.1, b.2⟩
          by_cases hjn : j = n
          · subst hjn; exact Int.le_refl _
          · have := hv.2.1 j (by omega); omega
        · rw [if_neg hc]
          refine ⟨v, rfl, ⟨hv.1, fun j hj => ?_, ?_⟩, hv1, hv2⟩
          · by_cases hjn : j = n
            · subst hjn; omega
            · exact hv.2.1 j (by omega)
          · rcases hv.2.2 with h | ⟨j, hj, h⟩
            · exact .inl h
            · exact .inr ⟨j, by omega, h⟩
      · refine ev_succ ?_
        simp only [impl_lineStrength.l1, Int.ofNat_lt.2 hn, if_true, wnext hn (by omega : js.length ≤ 9223372036854775807)]
        refine Ev.bind (impl_strengthAt_ev ok hn) (Ev.bind ce ?_)
        by_cases hc : jV xs ps js n < v
        · have hx := mkF_lt.2 hc
          simp only [hc, if_true] at hr
          simp only [show cmpV ((mkF (jV xs ps js n) 1000).1 * (mkF v 1000).2) ((mkF v 1000).1 * (mkF (jV xs ps js n) 1000).2) < 0 by unfold cmpV; rw [if_pos hx]; decide, if_true]
          exact hr
        · have hx : ¬ _ := fun h => hc (mkF_lt.1 h)
          simp only [hc, if_false] at hr
          simp only [show ¬ cmpV ((mkF (jV xs ps js n) 1000).1 * (mkF v 1000).2) ((mkF v 1000).1 * (mkF (jV xs ps js n) 1000).2) < 0 by unfold cmpV; rw [if_neg hx]; split <;> decide, if_false]
          exact hr
    · rintro s ⟨v, rfl, hv⟩
      refine ⟨mkF v 1000, ev_succ ?_, v, rfl, hv⟩
      simp only [impl_lineStrength.l1, Int.lt_irrefl, if_false]
      exact ev_now _
  have l0 : ∃ r, Ev (fun k => impl_lineStrength.l0 k xs ps (ps.length : Int) 0 ps js (pV ps 0) 1) r ∧ ∃ v, r = mkF v 1000 ∧ LeastP xs ps js js.length v ∧ 1 ≤ v ∧ v ≤ 1000000000 := by
    refine ev_loop (len := ps.length) (g := fun k (s : Int × Int) i => impl_lineStrength.l0 k xs ps (ps.length : Int) i ps js s.1 s.2) (fun n s => ∃ m, m < ps.length ∧ s = (pV ps m, 1) ∧ ∀ j, j < n → pV ps m ≤ pV ps j) (fun r => ∃ v, r = mkF v 1000 ∧ LeastP xs ps js js.length v ∧ 1 ≤ v ∧ v ≤ 1000000000) ?_ ?_ (pV ps 0, 1) ⟨0, by omega, rfl, fun j hj => absurd hj (by omega)⟩
    · rintro n s hn ⟨m, hm, rfl, hmin⟩
      have sn := ok.str n hn
      have sm := ok.str m hm
      refine .inr ⟨(mn (pV ps m) (pV ps n), 1), ?_, fun r hr => ?_⟩
      · by_cases hc : pV ps n < pV ps m
        · refine ⟨n, hn, by unfold mn; rw [if_pos hc], fun j hj => ?_⟩
          by_cases hjn : j = n
          · subst hjn; exact Int.le_refl _
          · have := hmin j (by omega); omega
        · refine ⟨m, hm, by unfold mn; rw [if_neg hc], fun j hj => ?_⟩
          by_cases hjn : j = n
          · subst hjn; omega
          · exact hmin j (by omega)
      · refine ev_succ ?_
        simp only [impl_lineStrength.l0, Int.ofNat_lt.2 hn, show (0 : Int) ≤ (n : Int) from Int.natCast_nonneg _, if_true, rd_T44, Int.toNat_natCast, wnext hn (by omega : ps.length ≤ 9223372036854775807)]
        have hm1 : -4611686018427387904 ≤ mn (pV ps m) (pV ps n) ∧ mn (pV ps m) (pV ps n) ≤ 4611686018427387904 := by unfold mn pV; split <;> omega
        refine Ev.bind (impl_fraction_ev (mn (pV ps m) (pV ps n)) 1 hm1 (by omega)) ?_
        rw [mkF_one]
        exact hr
    · rintro s ⟨m, hm, rfl, hmin⟩
      obtain ⟨r, hr, hv⟩ := l1 m m hm rfl hmin
      refine ⟨r, ev_succ ?_, hv⟩
      simp only [impl_lineStrength.l0, Int.lt_irrefl, if_false]
      exact hr
  obtain ⟨r, hr, v, rfl, hv⟩ := l0
  refine ⟨v, ?_, hv⟩
  simp only [impl_lineStrength.f, show (0 : Int) < (ps.length : Int) by omega, if_true, rd_T44]
  refine Ev.bind (impl_fraction_ev _ 1 (by have : (0 : Int).toNat = 0 := rfl; rw [this]; omega) (by omega)) ?_
  rw [mkF_one]
  exact hr

theorem laws_szJoinS_ev (xs : List S67) (hl : xs.length ≤ 9223372036854775807) (hs : ∀ x ∈ xs, x.f0.size ≤ 140737488351232) (m : Int := 1048576) (hm0 : 0 ≤ m := by omega) (hm : m ≤ 1048576 := by omega) :
    ∃ r, Ev (fun k => laws_szJoinS.f k xs m) r ∧ (r < 0 ∨ (0 ≤ r ∧ r ≤ 1048576 ∧ xs.length ≤ 1048576)) := by
  simp only [laws_szJoinS.f]
  by_cases h : wrap64 (m - (xs.length : Int)) < 0
  · simp only [h, if_true]; exact ⟨-1, ev_now _, .inl (by decide)⟩
  have hl' : xs.length ≤ 1048576 := by unfold wrap64 at h; omega
  have hl2 : (xs.length : Int) ≤ m := by unfold wrap64 at h; omega
  simp only [h, if_false]
  rw [w64 (by omega) (by omega)]
  refine ev_loop (len := xs.length) (g := fun k s i => laws_szJoinS.l0 k xs s i) (fun n s => 0 ≤ s ∧ s ≤ 1048576) (fun r => r < 0 ∨ (0 ≤ r ∧ r ≤ 1048576 ∧ xs.length ≤ 1048576)) ?_ ?_ _ (by omega)
  · intro n s hn ⟨h1, h2⟩
    have hsz : (xs.getD n z67).f0.size ≤ 140737488351232 := by rw [getD_lt xs _ hn]; exact hs _ (List.getElem_mem hn)
    by_cases c : wrap64 (s - ((xs.getD n z67).f0.size : Int)) < 0
    · refine .inl ⟨-1, ev_succ ?_, .inl (by decide)⟩
      simp only [laws_szJoinS.l0, laws_szJoin.f, Int.ofNat_lt.2 hn, show (0 : Int) ≤ (n : Int) from Int.natCast_nonneg _, if_true, rd_T67, Int.toNat_natCast, c, Option.bind_some, show (-1 : Int) < 0 by decide]
      exact ev_now _
    · refine .inr ⟨wrap64 (s - ((xs.getD n z67).f0.size : Int)), ?_, fun r hr => ev_succ ?_⟩
      · rw [w64 (by omega) (by omega)] at *; omega
      · simp only [laws_szJoinS.l0, laws_szJoin.f, Int.ofNat_lt.2 hn, show (0 : Int) ≤ (n : Int) from Int.natCast_nonneg _, if_true, rd_T67, Int.toNat_natCast, c, if_false, Option.bind_some, wnext hn (by omega : xs.length ≤ 9223372036854775807)]
        exact hr
  · intro s ⟨h1, h2⟩
    refine ⟨s, ev_succ ?_, .inr ⟨h1, h2, hl'⟩⟩
    simp only [laws_szJoinS.l0, Int.lt_irrefl, if_false]
    exact ev_now _

def conv_Join (x : S67) : S68 := ⟨x.f0, x.f1, x.f2⟩
theorem laws_toJoinS_ev (xs : List S67) (h : xs.length ≤ 1048576) : Ev (fun k => laws_toJoinS.f k xs) (xs.map conv_Join) := by
  simp only [laws_toJoinS.f, Int.toNat_natCast, show (0 : Int) ≤ (xs.length : Int) from Int.natCast_nonneg _, if_true]
  rw [if_pos_ev (by omega)]
  have e : List.replicate xs.length z68 = (xs.take 0).map conv_Join ++ List.replicate (xs.length - 0) z68 := by simp
  have e2 : xs.map conv_Join = (xs.take xs.length).map conv_Join ++ List.replicate (xs.length - xs.length) z68 := by simp
  rw [e, e2]
  refine ev_fold (len := xs.length) (g := fun k s i => laws_toJoinS.l0 k xs s i) (fun n s => s.set n (conv_Join (xs.getD n z67))) (fun n => (xs.take n).map conv_Join ++ List.replicate (xs.length - n) z68) _ ?_ ?_ ?_
  · intro n hn; exact (fill_step xs conv_Join _ _ hn).symm
  · intro n hn r hr
    refine ev_succ ?_
    have l1 : (n : Int) < (((xs.take n).map conv_Join ++ List.replicate (xs.length - n) z68).length : Int) := by simp; omega
    simp only [laws_toJoinS.l0, laws_toJoin.f, Option.bind_some, Int.ofNat_lt.2 hn, show (0 : Int) ≤ (n : Int) from Int.natCast_nonneg _, if_true, l1, wnext hn (by omega : xs.length ≤ 9223372036854775807), rd_T67, Int.toNat_natCast]
    exact hr
  · refine ev_succ ?_
    simp only [laws_toJoinS.l0, Int.lt_irrefl, if_false]
    exact ev_now _

theorem laws_eqJoinS_self (xs : List S68) (h : xs.length ≤ 9223372036854775807) : Ev (fun k => laws_eqJoinS.f k xs xs) true := by
  simp only [laws_eqJoinS.f, if_true]
  refine ev_to (ev_all (len := xs.length) (g := fun k i => laws_eqJoinS.l0 k xs xs i) (fun _ => true) true ?_ (fun n hn hp => by simp at hp) ?_) (by simp)
  · intro n hn hp r hr
    refine ev_succ ?_
    simp only [laws_eqJoinS.l0, laws_eqJoin.f, Option.bind_some, Int.ofNat_lt.2 hn, show (0 : Int) ≤ (n : Int) from Int.natCast_nonneg _, if_true, bne_self_eq_false, Bool.false_eq_true, if_false, wnext hn h]
    exact hr
  · refine ev_succ ?_
    simp only [laws_eqJoinS.l0, Int.lt_irrefl, if_false]
    exact ev_now _

def conv_LinePiece (x : S41) : S44 := ⟨x.f0, x.f1⟩
theorem laws_toLinePieceS_ev (xs : List S41) (h : xs.length ≤ 1048576) : Ev (fun k => laws_toLinePieceS.f k xs) (xs.map conv_LinePiece) := by
  simp only [laws_toLinePieceS.f, Int.toNat_natCast, show (0 : Int) ≤ (xs.length : Int) from Int.natCast_nonneg _, if_true]
  rw [if_pos_ev (by omega)]
  have e : List.replicate xs.length z44 = (xs.take 0).map conv_LinePiece ++ List.replicate (xs.length - 0) z44 := by simp
  have e2 : xs.map conv_LinePiece = (xs.take xs.length).map conv_LinePiece ++ List.replicate (xs.length - xs.length) z44 := by simp
  rw [e, e2]
  refine ev_fold (len := xs.length) (g := fun k s i => laws_toLinePieceS.l0 k xs s i) (fun n s => s.set n (conv_LinePiece (xs.getD n z41))) (fun n => (xs.take n).map conv_LinePiece ++ List.replicate (xs.length - n) z44) _ ?_ ?_ ?_
  · intro n hn; exact (fill_step xs conv_LinePiece _ _ hn).symm
  · intro n hn r hr
    refine ev_succ ?_
    have l1 : (n : Int) < (((xs.take n).map conv_LinePiece ++ List.replicate (xs.length - n) z44).length : Int) := by simp; omega
    simp only [laws_toLinePieceS.l0, laws_toLinePiece.f, Option.bind_some, Int.ofNat_lt.2 hn, show (0 : Int) ≤ (n : Int) from Int.natCast_nonneg _, if_true, l1, wnext hn (by omega : xs.length ≤ 9223372036854775807), rd_T41, Int.toNat_natCast]
    exact hr
  · refine ev_succ ?_
    simp only [laws_toLinePieceS.l0, Int.lt_irrefl, if_false]
    exact ev_now _

theorem laws_eqLinePieceS_self (xs : List S44) (h : xs.length ≤ 9223372036854775807) : Ev (fun k => laws_eqLinePieceS.f k xs xs) true := by
  simp only [laws_eqLinePieceS.f, if_true]
  refine ev_to (ev_all (len := xs.length) (g := fun k i => laws_eqLinePieceS.l0 k xs xs i) (fun _ => true) true ?_ (fun n hn hp => by simp at hp) ?_) (by simp)
  · intro n hn hp r hr
    refine ev_succ ?_
    simp only [laws_eqLinePieceS.l0, laws_eqLinePiece.f, Option.bind_some, Int.ofNat_lt.2 hn, show (0 : Int) ≤ (n : Int) from Int.natCast_nonneg _, if_true, bne_self_eq_false, Bool.false_eq_true, if_false, wnext hn h]
    exact hr
  · refine ev_succ ?_
    simp only [laws_eqLinePieceS.l0, Int.lt_irrefl, if_false]
    exact ev_now _

theorem laws_eqInt64S_self (xs : List Int) (h : xs.length ≤ 9223372036854775807) : Ev (fun k => laws_eqInt64S.f k xs xs) true := by
  simp only [laws_eqInt64S.f, if_true]
  refine ev_to (ev_all (len := xs.length) (g := fun k i => laws_eqInt64S.l0 k xs xs i) (fun _ => true) true ?_ (fun n hn hp => by simp at hp) ?_) (by simp)
  · intro n hn hp r hr
    refine ev_succ ?_
    simp only [laws_eqInt64S.l0, Int.ofNat_lt.2 hn, show (0 : Int) ≤ (n : Int) from Int.natCast_nonneg _, if_true, wnext hn h]
    exact hr
  · refine ev_succ ?_
    simp only [laws_eqInt64S.l0, Int.lt_irrefl, if_false]
    exact ev_now _

theorem laws_toInt64S_ev (xs : List Int) (h : xs.length ≤ 1048576) : Ev (fun k => laws_toInt64S.f k xs) xs := by
  simp only [laws_toInt64S.f, Int.toNat_natCast, show (0 : Int) ≤ (xs.length : Int) from Int.natCast_nonneg _, if_true]
  rw [if_pos_ev (by omega)]
  have e : List.replicate xs.length (0 : Int) = (xs.take 0).map id ++ List.replicate (xs.length - 0) 0 := by simp
  have e2 : xs = (xs.take xs.length).map id ++ List.replicate (xs.length - xs.length) 0 := by simp
  rw [e]
  refine ev_to ?_ e2.symm
  refine ev_fold (len := xs.length) (g := fun k s i => laws_toInt64S.l0 k xs s i) (fun n s => s.set n (xs.getD n 0)) (fun n => (xs.take n).map id ++ List.replicate (xs.length - n) 0) _ ?_ ?_ ?_
  · intro n hn; exact (fill_step xs id _ _ hn).symm
  · intro n hn r hr
    refine ev_succ ?_
    have l1 : (n : Int) < (((xs.take n).map id ++ List.replicate (xs.length - n) (0 : Int)).length : Int) := by simp; omega
    simp only [laws_toInt64S.l0, Int.ofNat_lt.2 hn, show (0 : Int) ≤ (n : Int) from Int.natCast_nonneg _, if_true, l1, wnext hn (by omega : xs.length ≤ 9223372036854775807), rd, Int.toNat_natCast]
    exact hr
  · refine ev_succ ?_
    simp only [laws_toInt64S.l0, Int.lt_irrefl, if_false]
    exact ev_now _

theorem laws_szLine_cases (ps : List S41) (js : List Int) (m : Int) (hp : ps.length ≤ 9223372036854775807) (hq : js.length ≤ 9223372036854775807) (h0 : 0 ≤ m) (h1 : m ≤ 1048576) :
    ∃ r, laws_szLine.f ps js m = some r ∧ (r < 0 ∨ (0 ≤ r ∧ r ≤ 1048576 ∧ ps.length ≤ 1048576 ∧ js.length ≤ 1048576)) := by
  simp only [laws_szLine.f, laws_szLinePieceS.f, laws_szInt64S.f]
  by_cases a : wrap64 (m - (ps.length : Int)) < 0
  · simp only [a, if_true, Option.bind_some, show (-1 : Int) < 0 by decide]; exact ⟨-1, rfl, .inl (by decide)⟩
  have hp' : (ps.length : Int) ≤ m := by unfold wrap64 at a; omega
  rw [w64 (n := m - (ps.length : Int)) (by omega) (by omega)] at *
  simp only [a, if_false, Option.bind_some]
  by_cases b : wrap64 (m - (ps.length : Int) - (js.length : Int)) < 0
  · simp only [b, if_true, Option.bind_some, show (-1 : Int) < 0 by decide]; exact ⟨-1, rfl, .inl (by decide)⟩
  have hq' : (js.length : Int) ≤ m - (ps.length : Int) := by unfold wrap64 at b; omega
  simp only [b, if_false, Option.bind_some]
  exact ⟨_, rfl, .inr (by rw [w64 (n := m - (ps.length : Int) - (js.length : Int)) (by omega) (by omega)] at *; omega)⟩
theorem laws_toLine_ev (ps : List S41) (js : List Int) (hp : ps.length ≤ 1048576) (hq : js.length ≤ 1048576) : Ev (fun k => laws_toLine.f k ps js) (ps.map conv_LinePiece, js) := by
  simp only [laws_toLine.f]
  exact Ev.bind (laws_toLinePieceS_ev ps hp) (Ev.bind (laws_toInt64S_ev js hq) (ev_now _))
theorem laws_eqLine_self (ps : List S44) (js : List Int) (hp : ps.length ≤ 1048576) (hq : js.length ≤ 1048576) : Ev (fun k => laws_eqLine.f k ps js ps js) true := by
  simp only [laws_eqLine.f]
  refine Ev.bind (laws_eqLinePieceS_self _ (by omega)) ?_
  simp only [if_true]
  refine Ev.bind (laws_eqInt64S_self _ (by omega)) ?_
  simp only [if_true]
  exact ev_now _

theorem eqF_iff (a : Int × Int) (b : Int × Int) : (a.1 == b.1 && (a.2 == b.2)) = true ↔ a = b := by
  rw [Bool.and_eq_true, beq_iff_eq, beq_iff_eq, Prod.ext_iff]
theorem impl_find {xs : List S68} {ps : List S44} {js : List Int} (ok : LineOk xs ps js) {w : ByteArray × Int × Int} (hw : WeakP xs ps js js.length w) :
    Ev (fun k => impl_WeakestPlace.l0 k xs ps (ps.length : Int) 0 ps js (mkF w.2.2 1000).1 (mkF w.2.2 1000).2) (w.1, w.2.1, 0) := by
  have hj := ok.joins
  have hl := ok.len
  obtain ⟨p, ⟨p1, p2, p3⟩, hc⟩ := hw
  have step : ∀ n, n < ps.length → w.2.2 ≠ 1000 * pV ps n → ∀ r, Ev (fun k => impl_WeakestPlace.l0 k xs ps (ps.length : Int) ((n + 1 : Nat) : Int) ps js (mkF w.2.2 1000).1 (mkF w.2.2 1000).2) r → Ev (fun k => impl_WeakestPlace.l0 k xs ps (ps.length : Int) (n : Int) ps js (mkF w.2.2 1000).1 (mkF w.2.2 1000).2) r := by
    intro n hn hne r hr
    have sn := ok.str n hn
    refine ev_succ ?_
    simp only [impl_WeakestPlace.l0, Int.ofNat_lt.2 hn, show (0 : Int) ≤ (n : Int) from Int.natCast_nonneg _, if_true, rd_T44, Int.toNat_natCast, wnext hn (by omega : ps.length ≤ 9223372036854775807)]
    refine Ev.bind (impl_fraction_ev _ 1 (by omega) (by omega)) ?_
    have hx : ¬ ((mkF (ps.getD n z44).f0 1).1 == (mkF w.2.2 1000).1 && ((mkF (ps.getD n z44).f0 1).2 == (mkF w.2.2 1000).2)) = true := by
      rw [eqF_iff, mkF_one]
      intro h
      rw [show ((ps.getD n z44).f0, (1 : Int)) = mkF (1000 * pV ps n) 1000 from (mkF_whole _).symm] at h
      exact hne (mkF_inj h).symm
    simp only [hx, if_false]
    exact hr
  have hit : ∀ n, n < ps.length → w.2.2 = 1000 * pV ps n → Ev (fun k => impl_WeakestPlace.l0 k xs ps (ps.length : Int) (n : Int) ps js (mkF w.2.2 1000).1 (mkF w.2.2 1000).2) ((⟨#[112, 105, 101, 99, 101]⟩ : ByteArray), (n : Int), 0) := by
    intro n hn he
    have sn := ok.str n hn
    refine ev_succ ?_
    simp only [impl_WeakestPlace.l0, Int.ofNat_lt.2 hn, show (0 : Int) ≤ (n : Int) from Int.natCast_nonneg _, if_true, rd_T44, Int.toNat_natCast]
    refine Ev.bind (impl_fraction_ev _ 1 (by omega) (by omega)) ?_
    have hx : ((mkF (ps.getD n z44).f0 1).1 == (mkF w.2.2 1000).1 && ((mkF (ps.getD n z44).f0 1).2 == (mkF w.2.2 1000).2)) = true := by
      rw [eqF_iff, mkF_one, he]
      exact (mkF_whole _).symm
    simp only [hx, if_true]
    exact ev_now _
  have stepJ : ∀ n, n < js.length → w.2.2 ≠ jV xs ps js n → ∀ r, Ev (fun k => impl_WeakestPlace.l1 k xs (js.length : Int) ((n + 1 : Nat) : Int) ps js (mkF w.2.2 1000).1 (mkF w.2.2 1000).2) r → Ev (fun k => impl_WeakestPlace.l1 k xs (js.length : Int) (n : Int) ps js (mkF w.2.2 1000).1 (mkF w.2.2 1000).2) r := by
    intro n hn hne r hr
    refine ev_succ ?_
    simp only [impl_WeakestPlace.l1, Int.ofNat_lt.2 hn, if_true, wnext hn (by omega : js.length ≤ 9223372036854775807)]
    refine Ev.bind (impl_strengthAt_ev ok hn) ?_
    have hx : ¬ ((mkF (jV xs ps js n) 1000).1 == (mkF w.2.2 1000).1 && ((mkF (jV xs ps js n) 1000).2 == (mkF w.2.2 1000).2)) = true := by
      rw [eqF_iff]
      intro h
      exact hne (mkF_inj h).symm
    simp only [hx, if_false]
    exact hr
  have hitJ : ∀ n, n < js.length → w.2.2 = jV xs ps js n → Ev (fun k => impl_WeakestPlace.l1 k xs (js.length : Int) (n : Int) ps js (mkF w.2.2 1000).1 (mkF w.2.2 1000).2) ((⟨#[106, 111, 105, 110]⟩ : ByteArray), (n : Int), 0) := by
    intro n hn he
    refine ev_succ ?_
    simp only [impl_WeakestPlace.l1, Int.ofNat_lt.2 hn, if_true]
    refine Ev.bind (impl_strengthAt_ev ok hn) ?_
    have hx : ((mkF (jV xs ps js n) 1000).1 == (mkF w.2.2 1000).1 && ((mkF (jV xs ps js n) 1000).2 == (mkF w.2.2 1000).2)) = true := by
      rw [eqF_iff, he]
    simp only [hx, if_true]
    exact ev_now _
  rcases hc with ⟨rfl, hm⟩ | ⟨a, ha, rfl, k1, k2, k3⟩
  · have go : ∀ d n, n + d = p → Ev (fun k => impl_WeakestPlace.l0 k xs ps (ps.length : Int) (n : Int) ps js (mkF (1000 * pV ps p) 1000).1 (mkF (1000 * pV ps p) 1000).2) ((⟨#[112, 105, 101, 99, 101]⟩ : ByteArray), (p : Int), 0) := by
      intro d
      induction d with
      | zero => intro n h; simp only [Nat.add_zero] at h; subst h; exact hit n p1 rfl
      | succ d ih => intro n h; exact step n (by omega) (by have := p3 n (by omega); simp only; omega) _ (ih (n + 1) (by omega))
    exact go p 0 (by omega)
  · have goJ : ∀ d n, n + d = a → Ev (fun k => impl_WeakestPlace.l1 k xs (js.length : Int) (n : Int) ps js (mkF (jV xs ps js a) 1000).1 (mkF (jV xs ps js a) 1000).2) ((⟨#[106, 111, 105, 110]⟩ : ByteArray), (a : Int), 0) := by
      intro d
      induction d with
      | zero => intro n h; simp only [Nat.add_zero] at h; subst h; exact hitJ n ha rfl
      | succ d ih => intro n h; exact stepJ n (by omega) (by have := k3 n (by omega); simp only; omega) _ (ih (n + 1) (by omega))
    have go : ∀ d n, n + d = ps.length → Ev (fun k => impl_WeakestPlace.l0 k xs ps (ps.length : Int) (n : Int) ps js (mkF (jV xs ps js a) 1000).1 (mkF (jV xs ps js a) 1000).2) ((⟨#[106, 111, 105, 110]⟩ : ByteArray), (a : Int), 0) := by
      intro d
      induction d with
      | zero =>
        intro n h
        simp only [Nat.add_zero] at h
        subst h
        refine ev_succ ?_
        simp only [impl_WeakestPlace.l0, Int.lt_irrefl, if_false]
        exact goJ a 0 (by omega)
      | succ d ih => intro n h; exact step n (by omega) (by have := p2 n (by omega); simp only; omega) _ (ih (n + 1) (by omega))
    exact go ps.length 0 (by omega)
theorem WeakestPlace_ev (xs : List S68) (hx : xs.length ≤ 1048576) (ps : List S44) (js : List Int) (hp : ps.length ≤ 1048576) (hq : js.length ≤ 1048576) :
    ∃ r, Ev (fun k => spec_WeakestPlace.f k xs ps js) r ∧ Ev (fun k => impl_WeakestPlace.f k xs ps js) r := by
  simp only [spec_WeakestPlace.f, impl_WeakestPlace.f]
  have bad : Ev (fun k => impl_WeakestPlace.j0 k xs true ps js) ((⟨#[]⟩ : ByteArray), 0, 1) := by refine ev_succ ?_; simp only [impl_WeakestPlace.j0, if_true]; exact ev_now _
  cases hb : joinsB xs
  · refine ⟨((⟨#[]⟩ : ByteArray), 0, 1), Ev.bind (spec_l03LineAt_ev xs hx ps js hp hq) ?_, Ev.bind (impl_ValidJoins_ev xs hx) ?_⟩
    · simp only [hb, Bool.false_and, Bool.false_eq_true, if_false]; exact ev_now _
    · simp only [hb, Bool.false_eq_true, if_false]; exact bad
  cases hc : lineB xs ps js
  · refine ⟨((⟨#[]⟩ : ByteArray), 0, 1), Ev.bind (spec_l03LineAt_ev xs hx ps js hp hq) ?_, Ev.bind (impl_ValidJoins_ev xs hx) ?_⟩
    · simp only [hc, Bool.and_false, Bool.false_eq_true, if_false]; exact ev_now _
    · simp only [hb, if_true]
      refine Ev.bind (impl_validLine_ev xs hx ps js hp hq) ?_
      simp only [hc, Bool.not_false]; exact bad
  have ok := lineOk_of hb hc
  obtain ⟨w, hw, hwp⟩ := spec_weak_ev ok
  obtain ⟨v, hv, hvp, v1, v2⟩ := impl_lineStrength_ev ok
  have e := leastP_uniq (weakP_least hwp) hvp
  refine ⟨(w.1, w.2.1, 0), Ev.bind (spec_l03LineAt_ev xs hx ps js hp hq) ?_, Ev.bind (impl_ValidJoins_ev xs hx) ?_⟩
  · simp only [hb, hc, Bool.and_self, if_true]
    exact Ev.bind hw (ev_now _)
  · simp only [hb, if_true]
    refine Ev.bind (impl_validLine_ev xs hx ps js hp hq) ?_
    simp only [hc, Bool.not_true]
    refine ev_succ ?_
    simp only [impl_WeakestPlace.j0, Bool.false_eq_true, if_false]
    refine Ev.bind hv ?_
    rw [← e]
    exact impl_find ok hwp
theorem FnExactWeakestPlace : laws_FnExactWeakestPlace.Pure := by
  intro xs ps js hx hp hq
  refine Ev.rounds ?_
  simp only [laws_FnExactWeakestPlace.f]
  obtain ⟨left, s1, s2⟩ := laws_szJoinS_ev xs (by have := hx.2.1; rw [maxLen_eq] at this; omega) (fun x h => (hx.2.2 x h).1)
  refine Ev.bind s1 ?_
  by_cases h : left < 0
  · simp only [h, if_true]; exact ev_now _
  have hl : xs.length ≤ 1048576 := by omega
  have hm : (xs.map conv_Join).length ≤ 1048576 := by simpa using hl
  simp only [h, if_false]
  obtain ⟨left', e1, e2⟩ := laws_szLine_cases ps js left (by have := hp.2.1; rw [maxLen_eq] at this; omega) (by have := hq.2.1; rw [maxLen_eq] at this; omega) (by omega) (by omega)
  simp only [e1, Option.bind_some]
  by_cases h' : left' < 0
  · simp only [h', if_true]; exact ev_now _
  simp only [h', if_false]
  have hp1 : ps.length ≤ 1048576 := by omega
  have hq1 : js.length ≤ 1048576 := by omega
  have hpm : (ps.map conv_LinePiece).length ≤ 1048576 := by simpa using hp1
  obtain ⟨r, k1, k2⟩ := WeakestPlace_ev _ hm _ js hpm hq1
  refine Ev.bind (laws_toJoinS_ev xs hl) (Ev.bind (laws_toLine_ev ps js hp1 hq1) (Ev.bind k1 (Ev.bind (laws_toJoinS_ev xs hl) (Ev.bind (laws_toLine_ev ps js hp1 hq1) (Ev.bind k2 ?_)))))
  simp only [if_true, bne_self_eq_false]
  refine ev_succ ?_
  simp only [laws_FnExactWeakestPlace.j0, Bool.false_eq_true, if_false]
  refine Ev.bind (laws_toJoinS_ev xs hl) (Ev.bind (laws_eqJoinS_self _ (by omega)) ?_)
  simp only [if_true]
  refine Ev.bind (laws_toLine_ev ps js hp1 hq1) (Ev.bind (laws_eqLine_self _ js hpm hq1) ?_)
  simp only [if_true]
  exact ev_now _

end Go.Proofs.Ytdgodlccejoibaa.Pure

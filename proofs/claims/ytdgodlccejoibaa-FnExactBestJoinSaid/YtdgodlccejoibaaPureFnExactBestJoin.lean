/- The pure statement of FnExactBestJoin: numbers and lists alone. No condition. -/
import Derived.Test.YtdgodlccejoibaaQFnExactBestJoinx7
import Derived.Test.YtdgodlccejoibaaAid
namespace Go.Proofs.Ytdgodlccejoibaa.Pure
open Go.RowKit Go.Proofs.Ytdgodlccejoibaa.QFnExactBestJoin Go.Proofs.YtdgodlccejoibaaW.PrintWords Go.Proofs.YtdgodlccejoibaaW.PrintLast Go.Proofs.YtdgodlccejoibaaW.PrintMore Go.Proofs.Ytdgodlccejoibaa.Aid
set_option linter.unusedVariables false
set_option linter.unusedSimpArgs false

theorem spec_l01Small_eq (c : Int) : spec_l01Small.f c = some (decide (97 ≤ c ∧ c ≤ 122)) := by
  unfold spec_l01Small.f
  by_cases h : c ≥ 97
  · rw [if_pos h]; congr 1; simp; omega
  · rw [if_neg h]; congr 1; simp; omega
theorem spec_l01Digit_eq (c : Int) : spec_l01Digit.f c = some (decide (48 ≤ c ∧ c ≤ 57)) := by
  unfold spec_l01Digit.f
  by_cases h : c ≥ 48
  · rw [if_pos h]; congr 1; simp; omega
  · rw [if_neg h]; congr 1; simp; omega
theorem spec_IsName_loop (s : ByteArray) (hs : s.size ≤ 12) : Ev (fun k => spec_IsName.l0 k s 0) ((List.range s.size).all fun i => nameCh (bt s i)) := by
  refine ev_to (ev_all (len := s.size) (g := fun k i => spec_IsName.l0 k s i) (fun i => nameCh (bt s i)) true ?_ ?_ ?_) (by simp)
  · intro n hn hp r hr
    refine ev_succ ?_
    simp only [spec_IsName.l0, spec_l01Small_eq, spec_l01Digit_eq, Option.bind_some]
    simp only [Int.ofNat_lt.2 hn, if_true, show (0 : Int) ≤ (n : Int) from Int.natCast_nonneg n, wnext hn (by omega : s.size ≤ 9223372036854775807)]
    unfold nameCh at hp
    by_cases c1 : 97 ≤ bt s n ∧ bt s n ≤ 122
    · simpa [c1] using hr
    · by_cases c2 : 48 ≤ bt s n ∧ bt s n ≤ 57
      · simpa [c1, c2] using hr
      · by_cases c3 : bt s n = 45
        · simpa [c3] using hr
        · simp [c1, c2, c3] at hp
  · intro n hn hp
    refine ev_succ ?_
    simp only [spec_IsName.l0, spec_l01Small_eq, spec_l01Digit_eq, Option.bind_some]
    unfold nameCh at hp
    simp only [Bool.or_eq_false_iff, decide_eq_false_iff_not] at hp
    simp only [hp.1.1, hp.1.2, hp.2, Int.ofNat_lt.2 hn, show (0 : Int) ≤ (n : Int) from Int.natCast_nonneg n, if_true, if_false, decide_false, Bool.false_eq_true]
    exact ev_now _
  · refine ev_succ ?_
    simp only [spec_IsName.l0, Int.lt_irrefl, if_false]
    exact ev_now _
theorem toList_nil_iff (s : ByteArray) : s.toList = ([] : List UInt8) ↔ s.size = 0 := by
  rw [← List.length_eq_zero_iff, ByteArray.toList_eq, Array.length_toList]
  exact Iff.rfl
theorem spec_IsName_ev (s : ByteArray) : Ev (fun k => spec_IsName.f k s) (isNameB s) := by
  unfold spec_IsName.f isNameB
  by_cases h0 : s.size = 0
  · simp only [(toList_nil_iff s).2 h0, if_true, h0]
    refine ev_succ ?_
    simp only [spec_IsName.j0, if_true]
    exact ev_now _
  · have h0' : ¬ s.toList = ([] : List UInt8) := fun h => h0 ((toList_nil_iff s).1 h)
    simp only [h0', if_false]
    by_cases h1 : s.size ≤ 12
    · have e1 : ¬ ((s.size : Int) > 12) := by omega
      have e2 : (0 : Int) < (s.size : Int) := by omega
      simp only [e1, e2, if_true, if_false, spec_l01Small_eq, Option.bind_some]
      refine ev_succ ?_
      simp only [spec_IsName.j0]
      by_cases h2 : 97 ≤ bt s 0 ∧ bt s 0 ≤ 122
      · simp only [h2, decide_true, Bool.not_true, Bool.false_eq_true, if_false, and_self]
        refine ev_to (spec_IsName_loop s h1) ?_
        simp [show 1 ≤ s.size by omega, h1]
      · simp only [h2, decide_false, Bool.not_false, if_true]
        exact ev_to (ev_now _) (by simp)
    · have e1 : ((s.size : Int) > 12) := by omega
      simp only [e1, if_true]
      refine ev_succ ?_
      simp only [spec_IsName.j0, if_true]
      exact ev_to (ev_now _) (by simp [h1])
theorem impl_IsName_loop (s : ByteArray) (hs : s.size ≤ 12) : Ev (fun k => impl_IsName.l0 k s 0) ((List.range s.size).all fun i => nameCh (bt s i)) := by
  refine ev_to (ev_all (len := s.size) (g := fun k i => impl_IsName.l0 k s i) (fun i => nameCh (bt s i)) true ?_ ?_ ?_) (by simp)
  · intro n hn hp r hr
    refine ev_succ ?_
    simp only [impl_IsName.l0]
    unfold nameCh at hp
    simp only [Bool.or_eq_true, decide_eq_true_eq] at hp
    have e0 : (n : Int) < (s.size : Int) := by omega
    simp only [e0, show (0 : Int) ≤ (n : Int) from Int.natCast_nonneg n, if_true, wnext hn (by omega : s.size ≤ 9223372036854775807)]
    by_cases d1 : bt s n < 97 <;> by_cases d2 : bt s n > 122 <;> by_cases d3 : bt s n < 48 <;> by_cases d4 : bt s n > 57 <;> by_cases d5 : bt s n = 45 <;>
      first | (exfalso; omega) | (simp only [d1, d2, d3, d4, d5, if_true, if_false]; exact hr)
  · intro n hn hp
    refine ev_succ ?_
    simp only [impl_IsName.l0]
    unfold nameCh at hp
    simp only [Bool.or_eq_false_iff, decide_eq_false_iff_not] at hp
    have e0 : (n : Int) < (s.size : Int) := by omega
    simp only [e0, show (0 : Int) ≤ (n : Int) from Int.natCast_nonneg n, if_true]
    by_cases d1 : bt s n < 97 <;> by_cases d2 : bt s n > 122 <;> by_cases d3 : bt s n < 48 <;> by_cases d4 : bt s n > 57 <;> by_cases d5 : bt s n = 45 <;>
      first | (exfalso; omega) | (simp only [d1, d2, d3, d4, d5, if_true, if_false]; exact ev_now _)
  · refine ev_succ ?_
    simp only [impl_IsName.l0, Int.lt_irrefl, if_false]
    exact ev_now _
theorem impl_IsName_ev (s : ByteArray) : Ev (fun k => impl_IsName.f k s) (isNameB s) := by
  unfold impl_IsName.f isNameB
  by_cases h0 : s.size = 0
  · simp only [h0]
    refine ev_succ ?_
    simp only [impl_IsName.j0, if_true]
    exact ev_now _
  · have e3 : ¬ ((s.size : Int) < 1) := by omega
    simp only [e3, if_false]
    by_cases h1 : s.size ≤ 12
    · have e1 : ¬ ((s.size : Int) > 12) := by omega
      have e2 : (0 : Int) < (s.size : Int) := by omega
      simp only [e1, e2, if_true, if_false]
      by_cases h2 : bt s 0 < 97
      · simp only [h2, if_true]
        refine ev_succ ?_
        simp only [impl_IsName.j0, if_true]
        exact ev_to (ev_now _) (by simp; omega)
      · simp only [h2, if_false]
        refine ev_succ ?_
        simp only [impl_IsName.j0]
        by_cases h3 : bt s 0 > 122
        · simp only [h3, decide_true, if_true]
          exact ev_to (ev_now _) (by simp; omega)
        · simp only [h3, decide_false, Bool.false_eq_true, if_false]
          refine ev_to (impl_IsName_loop s h1) ?_
          simp [show 1 ≤ s.size by omega, h1, show 97 ≤ bt s 0 by omega, show bt s 0 ≤ 122 by omega]
    · have e1 : ((s.size : Int) > 12) := by omega
      simp only [e1, if_true]
      refine ev_succ ?_
      simp only [impl_IsName.j0, if_true]
      exact ev_to (ev_now _) (by simp [h1])

theorem spec_l00In_eq (a b c : Int) : spec_l00In.f a b c = some (decide (b ≤ a ∧ a ≤ c)) := by
  unfold spec_l00In.f
  by_cases h : a ≥ b
  · rw [if_pos h]; congr 1; simp; omega
  · rw [if_neg h]; congr 1; simp; omega

theorem impl_within_eq (a b c : Int) : impl_within.f a b c = some (decide (b ≤ a ∧ a ≤ c)) := by
  unfold impl_within.f
  by_cases h : a ≥ b
  · rw [if_pos h]; congr 1; simp; omega
  · rw [if_neg h]; congr 1; simp; omega

def joinB (s : ByteArray) (a b : Int) : Bool := isNameB s && (decide (1 ≤ a ∧ a ≤ 1000) && decide (0 ≤ b ∧ b ≤ 1000))
def jB (x : S68) : Bool := joinB x.f0 x.f1 x.f2
theorem spec_l03OneAt_ev (x : S68) : Ev (fun k => spec_l03OneAt.f k [x]) (jB x) := by
  have e0 : rd_T68 [x] 0 = x := rfl
  have l0 : (0 : Int) < (([x] : List S68).length : Int) := by simp
  simp only [spec_l03OneAt.f, spec_l00In_eq, Option.bind_some, e0, l0, if_true]
  refine Ev.bind (spec_IsName_ev _) ?_
  unfold jB joinB
  cases isNameB x.f0
  · exact ev_now _
  · by_cases h1 : 1 ≤ x.f1 ∧ x.f1 ≤ 1000
    · simp only [h1, decide_true, if_true, Bool.true_and, and_self]; exact ev_now _
    · simp only [h1, decide_false, if_true, Bool.true_and, Bool.false_and, Bool.false_eq_true, if_false]; exact ev_now _
theorem impl_validJoin_ev (s : ByteArray) (a b : Int) : Ev (fun k => impl_validJoin.f k s a b) (joinB s a b) := by
  simp only [impl_validJoin.f, impl_within_eq, Option.bind_some]
  refine Ev.bind (impl_IsName_ev s) ?_
  unfold joinB
  cases isNameB s
  · exact ev_now _
  · by_cases h1 : 1 ≤ a ∧ a ≤ 1000
    · simp only [h1, decide_true, if_true, Bool.true_and, and_self]; exact ev_now _
    · simp only [h1, decide_false, if_true, Bool.true_and, Bool.false_and, Bool.false_eq_true, if_false]; exact ev_now _

def sameN (xs : List S68) (n j : Nat) : Bool := decide ((xs.getD j z68).f0.toList = (xs.getD n z68).f0.toList)
def joinsP (xs : List S68) (n : Nat) : Bool := jB (xs.getD n z68) && !((List.range n).any (sameN xs n))
def joinsB (xs : List S68) : Bool := (List.range xs.length).all (joinsP xs) && decide (xs.length ≤ 20)
theorem spec_l03Ok_l1 (xs : List S68) (h : xs.length ≤ 1048576) (n : Nat) (hn : n < xs.length) (r : Bool)
    (hr : (List.range n).any (sameN xs n) = false → Ev (fun k => spec_l03Ok.l0 k xs ((n + 1 : Nat) : Int)) r) (hf : (List.range n).any (sameN xs n) = true → r = false) : Ev (fun k => spec_l03Ok.l1 k xs (n : Int) 0) r := by
  suffices key : ∃ r', Ev (fun k => spec_l03Ok.l1 k xs (n : Int) 0) r' ∧ r' = r by obtain ⟨r', hr', e⟩ := key; exact e ▸ hr'
  refine ev_loop (len := n) (g := fun k (_ : Unit) j => spec_l03Ok.l1 k xs (n : Int) j) (fun j _ => (List.range j).any (sameN xs n) = false) (fun r' => r' = r) ?_ ?_ () rfl
  · intro j _ hj hi
    cases hb : sameN xs n j with
    | false =>
      refine .inr ⟨(), by rw [List.range_succ, List.any_append, hi, List.any_cons, List.any_nil, hb]; rfl, fun r' hr' => ev_succ ?_⟩
      simp only [sameN, decide_eq_false_iff_not] at hb
      simp only [spec_l03Ok.l1, Int.ofNat_lt.2 hj, Int.ofNat_lt.2 hn, Int.ofNat_lt.2 (Nat.lt_trans hj hn), show (0 : Int) ≤ (j : Int) from Int.natCast_nonneg _, show (0 : Int) ≤ (n : Int) from Int.natCast_nonneg _, if_true, rd_T68, Int.toNat_natCast, hb, if_false, wnext hj (by omega : n ≤ 9223372036854775807)]
      exact hr'
    | true =>
      have ht : (List.range n).any (sameN xs n) = true := by rw [List.any_eq_true]; exact ⟨j, List.mem_range.2 hj, hb⟩
      refine .inl ⟨r, ev_succ ?_, rfl⟩
      rw [hf ht]
      simp only [sameN, decide_eq_true_eq] at hb
      simp only [spec_l03Ok.l1, Int.ofNat_lt.2 hj, Int.ofNat_lt.2 hn, Int.ofNat_lt.2 (Nat.lt_trans hj hn), show (0 : Int) ≤ (j : Int) from Int.natCast_nonneg _, show (0 : Int) ≤ (n : Int) from Int.natCast_nonneg _, if_true, rd_T68, Int.toNat_natCast, hb]
      exact ev_now _
  · intro _ hi
    refine ⟨r, ev_succ ?_, rfl⟩
    simp only [spec_l03Ok.l1, Int.lt_irrefl, if_false, wnext hn (by omega : xs.length ≤ 9223372036854775807)]
    exact hr hi
theorem spec_l03Ok_ev (xs : List S68) (h : xs.length ≤ 1048576) : Ev (fun k => spec_l03Ok.f k xs) (joinsB xs) := by
  simp only [spec_l03Ok.f]
  refine ev_all (len := xs.length) (g := fun k i => spec_l03Ok.l0 k xs i) (joinsP xs) (decide (xs.length ≤ 20)) ?_ ?_ ?_
  · intro n hn hp r hr
    unfold joinsP at hp
    simp only [Bool.and_eq_true, Bool.not_eq_true'] at hp
    refine ev_succ ?_
    simp only [spec_l03Ok.l0, Int.ofNat_lt.2 hn, show (0 : Int) ≤ (n : Int) from Int.natCast_nonneg _, if_true, rd_T68, Int.toNat_natCast]
    refine Ev.bind (spec_l03OneAt_ev _) ?_
    simp only [hp.1, if_true]
    exact spec_l03Ok_l1 xs h n hn r (fun _ => hr) (fun ht => by rw [hp.2] at ht; cases ht)
  · intro n hn hp
    unfold joinsP at hp
    refine ev_succ ?_
    simp only [spec_l03Ok.l0, Int.ofNat_lt.2 hn, show (0 : Int) ≤ (n : Int) from Int.natCast_nonneg _, if_true, rd_T68, Int.toNat_natCast]
    refine Ev.bind (spec_l03OneAt_ev _) ?_
    cases h1 : jB (xs.getD n z68)
    · simp only [Bool.false_eq_true, if_false]; exact ev_now _
    · simp only [h1, Bool.true_and, Bool.not_eq_false'] at hp
      simp only [if_true]
      exact spec_l03Ok_l1 xs h n hn false (fun ht => by rw [hp] at ht; cases ht) (fun _ => rfl)
  · refine ev_succ ?_
    simp only [spec_l03Ok.l0, Int.lt_irrefl, if_false]
    exact ev_to (ev_now _) (by congr 1; simp; omega)
theorem impl_contains_ev (xs : List S68) (h : xs.length ≤ 1048576) (y : S68) : Ev (fun k => impl_Join_48.f k xs [y]) ((List.range xs.length).any fun j => decide ((xs.getD j z68).f0.toList = y.f0.toList)) := by
  have e0 : rd_T68 [y] 0 = y := rfl
  have l0 : (0 : Int) < (([y] : List S68).length : Int) := by simp
  simp only [impl_Join_48.f, impl_Join_86.f]
  refine Ev.bind (ev_find (len := xs.length) (g := fun k i => impl_Join_86.l0 k xs [y] (xs.length : Int) i) (fun j => decide ((xs.getD j z68).f0.toList = y.f0.toList)) (fun n => (n : Int)) (-1) ?_ ?_ ?_) (ev_to (ev_now _) ?_)
  · intro n hn hp r hr
    refine ev_succ ?_
    simp only [decide_eq_false_iff_not] at hp
    simp only [impl_Join_86.l0, impl_ValidJoins_1.f, e0, l0, Option.bind_some, Int.ofNat_lt.2 hn, show (0 : Int) ≤ (n : Int) from Int.natCast_nonneg _, if_true, rd_T68, Int.toNat_natCast, wnext hn (by omega : xs.length ≤ 9223372036854775807)]
    rw [show ((xs.getD n z68).f0.toList == (([y] : List S68).getD (0 : Int).toNat z68).f0.toList) = false from by rw [beq_eq_false_iff_ne]; exact hp]
    simp only [Bool.false_eq_true, if_false]
    exact hr
  · intro n hn hp
    refine ev_succ ?_
    simp only [decide_eq_true_eq] at hp
    simp only [impl_Join_86.l0, impl_ValidJoins_1.f, e0, l0, Option.bind_some, Int.ofNat_lt.2 hn, show (0 : Int) ≤ (n : Int) from Int.natCast_nonneg _, if_true, rd_T68, Int.toNat_natCast]
    rw [show ((xs.getD n z68).f0.toList == (([y] : List S68).getD (0 : Int).toNat z68).f0.toList) = true from by rw [beq_iff_eq]; exact hp]
    simp only [if_true]
    exact ev_now _
  · refine ev_succ ?_
    simp only [impl_Join_86.l0, Int.lt_irrefl, if_false]
    exact ev_now _
  · cases hf : (List.range xs.length).find? (fun j => decide ((xs.getD j z68).f0.toList = y.f0.toList)) with
    | none =>
      rw [List.find?_eq_none] at hf
      simp only
      symm
      rw [show decide ((-1 : Int) ≥ 0) = false from rfl, List.any_eq_false]
      exact hf
    | some n =>
      simp only
      symm
      rw [show decide ((n : Int) ≥ 0) = true by simp, List.any_eq_true]
      exact ⟨n, List.mem_of_find?_eq_some hf, by have h2 := List.find?_some hf; exact h2⟩
theorem impl_ValidJoins_ev (xs : List S68) (h : xs.length ≤ 1048576) : Ev (fun k => impl_ValidJoins.f k xs) (joinsB xs) := by
  simp only [impl_ValidJoins.f]
  by_cases hb : (xs.length : Int) > 20
  · simp only [hb, if_true]
    exact ev_to (ev_now _) (by unfold joinsB; rw [show decide (xs.length ≤ 20) = false by simp; omega, Bool.and_false])
  simp only [hb, if_false]
  have anyE : ∀ n, n < xs.length → ((List.range (xs.take n).length).any fun j => decide (((xs.take n).getD j z68).f0.toList = (xs.getD n z68).f0.toList)) = (List.range n).any (sameN xs n) := by
    intro n hn
    rw [List.length_take, Nat.min_eq_left (by omega), Bool.eq_iff_iff, List.any_eq_true, List.any_eq_true]
    have e : ∀ j, j < n → (xs.take n).getD j z68 = xs.getD j z68 := fun j hj => by simp [List.getD_eq_getElem?_getD, List.getElem?_take, hj]
    constructor <;> (rintro ⟨j, hj, hp⟩; refine ⟨j, hj, ?_⟩; have := e j (List.mem_range.1 hj); simp only [sameN] at *; first | (rw [this] at hp; exact hp) | (rw [this]; exact hp))
  refine ev_to (ev_all (len := xs.length) (g := fun k i => impl_ValidJoins.l0 k xs xs (xs.length : Int) i) (joinsP xs) true ?_ ?_ ?_) (by unfold joinsB; rw [show decide (xs.length ≤ 20) = true by simp; omega])
  · intro n hn hp r hr
    unfold joinsP at hp
    simp only [Bool.and_eq_true, Bool.not_eq_true'] at hp
    refine ev_succ ?_
    simp only [impl_ValidJoins.l0, Int.ofNat_lt.2 hn, show (0 : Int) ≤ (n : Int) from Int.natCast_nonneg _, if_true, rd_T68, Int.toNat_natCast, show (n : Int) ≤ (xs.length : Int) by omega, wnext hn (by omega : xs.length ≤ 9223372036854775807)]
    refine Ev.bind (impl_validJoin_ev _ _ _) ?_
    rw [show joinB _ _ _ = true from hp.1]
    simp only [if_true]
    refine Ev.bind (impl_contains_ev _ (by simp; omega) _) ?_
    rw [anyE n hn, hp.2]
    simp only [Bool.false_eq_true, if_false]
    exact hr
  · intro n hn hp
    unfold joinsP at hp
    refine ev_succ ?_
    simp only [impl_ValidJoins.l0, Int.ofNat_lt.2 hn, show (0 : Int) ≤ (n : Int) from Int.natCast_nonneg _, if_true, rd_T68, Int.toNat_natCast, show (n : Int) ≤ (xs.length : Int) by omega]
    refine Ev.bind (impl_validJoin_ev _ _ _) ?_
    cases h1 : jB (xs.getD n z68)
    · rw [show joinB _ _ _ = false from h1]; simp only [Bool.false_eq_true, if_false]; exact ev_now _
    · rw [show joinB _ _ _ = true from h1]
      simp only [h1, Bool.true_and, Bool.not_eq_false'] at hp
      simp only [if_true]
      refine Ev.bind (impl_contains_ev _ (by simp; omega) _) ?_
      rw [anyE n hn, hp]
      simp only [if_true]
      exact ev_now _
  · refine ev_succ ?_
    simp only [impl_ValidJoins.l0, Int.lt_irrefl, if_false]
    exact ev_now _

def pieceB (a b : Int) : Bool := decide (1 ≤ a ∧ a ≤ 1000000) && decide (1 ≤ b ∧ b ≤ 100000)
theorem spec_l03Piece_eq (a b : Int) : spec_l03Piece.f a b = some (pieceB a b) := by
  simp only [spec_l03Piece.f, spec_l00In_eq, Option.bind_some]
  unfold pieceB
  by_cases h1 : 1 ≤ a ∧ a ≤ 1000000
  · simp only [h1, decide_true, if_true, Bool.true_and, and_self]
  · simp only [h1, decide_false, Bool.false_and, Bool.false_eq_true, if_false]
theorem impl_validPiece_eq (a b : Int) : impl_validPiece.f a b = some (pieceB a b) := by
  simp only [impl_validPiece.f, impl_within_eq, Option.bind_some]
  unfold pieceB
  by_cases h1 : 1 ≤ a ∧ a ≤ 1000000
  · simp only [h1, decide_true, if_true, Bool.true_and, and_self]
  · simp only [h1, decide_false, Bool.false_and, Bool.false_eq_true, if_false]

theorem laws_szJoinS_ev (xs : List S67) (hl : xs.length ≤ 9223372036854775807) (hs : ∀ x ∈ xs, x.f0.size ≤ 140737488351232) (m : Int := 1048576) (hm0 : 0 ≤ m := by omega) (hm : m ≤ 1048576 := by omega) :
    ∃ r, Ev (fun k => laws_szJoinS.f k xs m) r ∧ (r < 0 ∨ (0 ≤ r ∧ r ≤ 1048576 ∧ xs.length ≤ 1048576)) := by
  simp only [laws_szJoinS.f]
  by_cases h : wrap64 (m - (xs.length : Int)) < 0
  · simp only [h, if_true]; exact ⟨-1, ev_now _, .inl (by decide)⟩
  have hl' : xs.length ≤ 1048576 := by unfold wrap64 at h; omega
  have hl2 : (xs.length : Int) ≤ m := by unfold wrap64 at h; omega
  simp only [h, if_false]
  rw [w64 (by omega) (by omega)]
  refine ev_loop (len := xs.length) (g := fun k s i => laws_szJoinS.l0 k xs s i) (fun n s => 0 ≤ s ∧ s ≤ 1048576) (fun r => r < 0 ∨ (0 ≤ r ∧ r ≤ 1048576 ∧ xs.length ≤ 1048576)) ?_ ?_ _ (by omega)
  · intro n s hn ⟨h1, h2⟩
    have hsz : (xs.getD n z67).f0.size ≤ 140737488351232 := by rw [getD_lt xs _ hn]; exact hs _ (List.getElem_mem hn)
    by_cases c : wrap64 (s - ((xs.getD n z67).f0.size : Int)) < 0
    · refine .inl ⟨-1, ev_succ ?_, .inl (by decide)⟩
      simp only [laws_szJoinS.l0, laws_szJoin.f, Int.ofNat_lt.2 hn, show (0 : Int) ≤ (n : Int) from Int.natCast_nonneg _, if_true, rd_T67, Int.toNat_natCast, c, Option.bind_some, show (-1 : Int) < 0 by decide]
      exact ev_now _
    · refine .inr ⟨wrap64 (s - ((xs.getD n z67).f0.size : Int)), ?_, fun r hr => ev_succ ?_⟩
      · rw [w64 (by omega) (by omega)] at *; omega
      · simp only [laws_szJoinS.l0, laws_szJoin.f, Int.ofNat_lt.2 hn, show (0 : Int) ≤ (n : Int) from Int.natCast_nonneg _, if_true, rd_T67, Int.toNat_natCast, c, if_false, Option.bind_some, wnext hn (by omega : xs.length ≤ 9223372036854775807)]
        exact hr
  · intro s ⟨h1, h2⟩
    refine ⟨s, ev_succ ?_, .inr ⟨h1, h2, hl'⟩⟩
    simp only [laws_szJoinS.l0, Int.lt_irrefl, if_false]
    exact ev_now _

def conv_Join (x : S67) : S68 := ⟨x.f0, x.f1, x.f2⟩
theorem laws_toJoinS_ev (xs : List S67) (h : xs.length ≤ 1048576) : Ev (fun k => laws_toJoinS.f k xs) (xs.map conv_Join) := by
  simp only [laws_toJoinS.f, Int.toNat_natCast, show (0 : Int) ≤ (xs.length : Int) from Int.natCast_nonneg _, if_true]
  rw [if_pos_ev (by omega)]
  have e : List.replicate xs.length z68 = (xs.take 0).map conv_Join ++ List.replicate (xs.length - 0) z68 := by simp
  have e2 : xs.map conv_Join = (xs.take xs.length).map conv_Join ++ List.replicate (xs.length - xs.length) z68 := by simp
  rw [e, e2]
  refine ev_fold (len := xs.length) (g := fun k s i => laws_toJoinS.l0 k xs s i) (fun n s => s.set n (conv_Join (xs.getD n z67))) (fun n => (xs.take n).map conv_Join ++ List.replicate (xs.length - n) z68) _ ?_ ?_ ?_
  · intro n hn; exact (fill_step xs conv_Join _ _ hn).symm
  · intro n hn r hr
    refine ev_succ ?_
    have l1 : (n : Int) < (((xs.take n).map conv_Join ++ List.replicate (xs.length - n) z68).length : Int) := by simp; omega
    simp only [laws_toJoinS.l0, laws_toJoin.f, Option.bind_some, Int.ofNat_lt.2 hn, show (0 : Int) ≤ (n : Int) from Int.natCast_nonneg _, if_true, l1, wnext hn (by omega : xs.length ≤ 9223372036854775807), rd_T67, Int.toNat_natCast]
    exact hr
  · refine ev_succ ?_
    simp only [laws_toJoinS.l0, Int.lt_irrefl, if_false]
    exact ev_now _

theorem laws_eqJoinS_self (xs : List S68) (h : xs.length ≤ 9223372036854775807) : Ev (fun k => laws_eqJoinS.f k xs xs) true := by
  simp only [laws_eqJoinS.f, if_true]
  refine ev_to (ev_all (len := xs.length) (g := fun k i => laws_eqJoinS.l0 k xs xs i) (fun _ => true) true ?_ (fun n hn hp => by simp at hp) ?_) (by simp)
  · intro n hn hp r hr
    refine ev_succ ?_
    simp only [laws_eqJoinS.l0, laws_eqJoin.f, Option.bind_some, Int.ofNat_lt.2 hn, show (0 : Int) ≤ (n : Int) from Int.natCast_nonneg _, if_true, bne_self_eq_false, Bool.false_eq_true, if_false, wnext hn h]
    exact hr
  · refine ev_succ ?_
    simp only [laws_eqJoinS.l0, Int.lt_irrefl, if_false]
    exact ev_now _

theorem min_eq (a b : Int) : spec_l00Min.f a b = some (mn a b) := by
  unfold spec_l00Min.f mn
  by_cases h : a < b
  · rw [if_pos h, if_neg (by omega)]
  · rw [if_neg h]
    by_cases h2 : b < a
    · rw [if_pos h2]
    · rw [if_neg h2]; congr 1; omega
theorem spec_l03JoinedAt_eq (x : S68) (a b c d : Int) : spec_l03JoinedAt.f [x] a b c d = some (wrap64 (mn a c * x.f1)) := by
  have e0 : rd_T68 [x] 0 = x := rfl
  have l0 : (0 : Int) < (([x] : List S68).length : Int) := by simp
  simp only [spec_l03JoinedAt.f, e0, l0, if_true, min_eq, Option.bind_some, Int.mul_comm]
def bestStep (xs : List S68) (m need : Int) (n : Nat) (b : Int) : Int :=
  if wrap64 (m * (xs.getD n z68).f1) ≥ wrap64 (1000 * need) then (if b < 0 then (n : Int) else if (xs.getD n z68).f2 < (xs.getD b.toNat z68).f2 then (n : Int) else b) else b
def bestS (xs : List S68) (m need : Int) : Nat → Int
  | 0 => -1
  | n + 1 => bestStep xs m need n (bestS xs m need n)
theorem bestS_lt (xs : List S68) (m need : Int) (n : Nat) : bestS xs m need n < (n : Int) := by
  induction n with
  | zero => show (-1 : Int) < 0; decide
  | succ n ih =>
    show bestStep xs m need n (bestS xs m need n) < _
    unfold bestStep
    repeat' split
    all_goals omega
def bestV (xs : List S68) (m need : Int) : Int × Int := if bestS xs m need xs.length < 0 then (0, 3) else (bestS xs m need xs.length, 0)
theorem spec_best_loop (xs : List S68) (h : xs.length ≤ 1048576) (need a b c d : Int) : Ev (fun k => spec_BestJoin.l0 k xs need (-1) 0 a b c d) (bestV xs (mn a c) need) := by
  refine ev_fold (len := xs.length) (g := fun k s i => spec_BestJoin.l0 k xs need s i a b c d) (bestStep xs (mn a c) need) (bestS xs (mn a c) need) _ (fun n hn => rfl) ?_ ?_
  · intro n hn r hr
    have hb := bestS_lt xs (mn a c) need n
    refine ev_succ ?_
    unfold bestStep at hr
    generalize bestS xs (mn a c) need n = s at hb hr ⊢
    simp only [spec_BestJoin.l0, spec_l03JoinedAt_eq, Option.bind_some, Int.ofNat_lt.2 hn, show (0 : Int) ≤ (n : Int) from Int.natCast_nonneg _, if_true, rd_T68, Int.toNat_natCast, wnext hn (by omega : xs.length ≤ 9223372036854775807)]
    by_cases h1 : wrap64 (mn a c * (xs.getD n z68).f1) ≥ wrap64 (1000 * need)
    · simp only [h1, if_true] at hr
      simp only [show ¬ wrap64 (mn a c * (xs.getD n z68).f1) < wrap64 (1000 * need) by omega, if_false]
      by_cases h2 : s < 0
      · simp only [h2, if_true] at hr ⊢; exact hr
      · simp only [h2, if_false] at hr
        simp only [h2, if_false, show 0 ≤ s by omega, show s < (xs.length : Int) by omega, if_true]
        by_cases h3 : (xs.getD n z68).f2 < (xs.getD s.toNat z68).f2
        · simp only [h3, if_true] at hr ⊢; exact hr
        · simp only [h3, if_false] at hr ⊢; exact hr
    · simp only [h1, if_false] at hr
      simp only [show wrap64 (mn a c * (xs.getD n z68).f1) < wrap64 (1000 * need) by omega, if_true]
      exact hr
  · refine ev_succ ?_
    unfold bestV
    by_cases h2 : bestS xs (mn a c) need xs.length < 0
    · simp only [spec_BestJoin.l0, Int.lt_irrefl, if_false, h2, if_true]; exact ev_now _
    · simp only [spec_BestJoin.l0, Int.lt_irrefl, if_false, h2]; exact ev_now _
theorem impl_best_loop (xs : List S68) (h : xs.length ≤ 1048576) (need a b c d : Int) : Ev (fun k => impl_bestJoin.f k xs a b c d need) (bestS xs (mn a c) need xs.length) := by
  simp only [impl_bestJoin.f]
  refine ev_fold (len := xs.length) (g := fun k s i => impl_bestJoin.l0 k xs need s xs (xs.length : Int) i a b c d) (bestStep xs (mn a c) need) (bestS xs (mn a c) need) _ (fun n hn => rfl) ?_ ?_
  · intro n hn r hr
    have hb := bestS_lt xs (mn a c) need n
    refine ev_succ ?_
    unfold bestStep at hr
    generalize bestS xs (mn a c) need n = s at hb hr ⊢
    simp only [impl_bestJoin.l0, Int.ofNat_lt.2 hn, show (0 : Int) ≤ (n : Int) from Int.natCast_nonneg _, if_true, rd_T68, Int.toNat_natCast, wnext hn (by omega : xs.length ≤ 9223372036854775807)]
    by_cases h1 : wrap64 (mn a c * (xs.getD n z68).f1) ≥ wrap64 (1000 * need)
    · simp only [h1, if_true] at hr ⊢
      by_cases h2 : s < 0
      · simp only [h2, if_true] at hr ⊢; exact hr
      · simp only [h2, if_false] at hr
        simp only [h2, if_false, show 0 ≤ s by omega, show s < (xs.length : Int) by omega, if_true]
        by_cases h3 : (xs.getD n z68).f2 < (xs.getD s.toNat z68).f2
        · simp only [h3, if_true] at hr ⊢; exact hr
        · simp only [h3, if_false] at hr ⊢; exact hr
    · simp only [h1, if_false] at hr ⊢
      exact hr
  · refine ev_succ ?_
    simp only [impl_bestJoin.l0, Int.lt_irrefl, if_false]; exact ev_now _
theorem BestJoin_ev (xs : List S68) (h : xs.length ≤ 1048576) (a b c d need : Int) : ∃ r, Ev (fun k => spec_BestJoin.f k xs a b c d need) r ∧ Ev (fun k => impl_BestJoin.f k xs a b c d need) r := by
  simp only [spec_BestJoin.f, impl_BestJoin.f, spec_l03Piece_eq, impl_validPiece_eq, Option.bind_some]
  have bad : Ev (fun k => spec_BestJoin.j0 k xs need true a b c d) (0, 1) := by refine ev_succ ?_; simp only [spec_BestJoin.j0, if_true]; exact ev_now _
  have bad' : Ev (fun k => impl_BestJoin.j0 k xs need true a b c d) (0, 1) := by refine ev_succ ?_; simp only [impl_BestJoin.j0, if_true]; exact ev_now _
  cases hb : joinsB xs
  · refine ⟨(0, 1), Ev.bind (spec_l03Ok_ev xs h) ?_, Ev.bind (impl_ValidJoins_ev xs h) ?_⟩
    · simp only [hb, Bool.false_eq_true, if_false]; exact bad
    · simp only [hb, Bool.false_eq_true, if_false]; exact bad'
  cases hp : pieceB a b
  · refine ⟨(0, 1), Ev.bind (spec_l03Ok_ev xs h) ?_, Ev.bind (impl_ValidJoins_ev xs h) ?_⟩
    · simp only [hb, Bool.false_eq_true, if_true, if_false]; exact bad
    · simp only [hb, Bool.false_eq_true, if_true, if_false]; exact bad'
  cases hq : pieceB c d
  · refine ⟨(0, 1), Ev.bind (spec_l03Ok_ev xs h) ?_, Ev.bind (impl_ValidJoins_ev xs h) ?_⟩
    · simp only [hb, if_true, Bool.not_false]; exact bad
    · simp only [hb, if_true, Bool.not_false]; exact bad'
  by_cases hn : 0 ≤ need ∧ need ≤ 1000000
  · refine ⟨bestV xs (mn a c) need, Ev.bind (spec_l03Ok_ev xs h) ?_, Ev.bind (impl_ValidJoins_ev xs h) ?_⟩
    · simp only [hb, if_true, Bool.not_true]
      refine ev_succ ?_
      simp only [spec_BestJoin.j0, Bool.false_eq_true, if_false, spec_l03Need.f, spec_l00In_eq, Option.bind_some, hn, and_self, decide_true, if_true]
      exact spec_best_loop xs h need a b c d
    · simp only [hb, if_true, Bool.not_true]
      refine ev_succ ?_
      simp only [impl_BestJoin.j0, Bool.false_eq_true, if_false, impl_within_eq, Option.bind_some, hn, and_self, decide_true, if_true]
      refine Ev.bind (impl_best_loop xs h need a b c d) ?_
      unfold bestV
      by_cases h2 : bestS xs (mn a c) need xs.length < 0
      · simp only [h2, if_true]; exact ev_now _
      · simp only [h2, if_false]; exact ev_now _
  · refine ⟨(0, 2), Ev.bind (spec_l03Ok_ev xs h) ?_, Ev.bind (impl_ValidJoins_ev xs h) ?_⟩
    · simp only [hb, if_true, Bool.not_true]
      refine ev_succ ?_
      simp only [spec_BestJoin.j0, Bool.false_eq_true, if_false, spec_l03Need.f, spec_l00In_eq, Option.bind_some, hn, decide_false]
      exact ev_now _
    · simp only [hb, if_true, Bool.not_true]
      refine ev_succ ?_
      simp only [impl_BestJoin.j0, Bool.false_eq_true, if_false, impl_within_eq, Option.bind_some, hn, decide_false]
      exact ev_now _
theorem FnExactBestJoin : laws_FnExactBestJoin.Pure := by
  intro xs a b c d need hx ha hb hc hd hn
  refine Ev.rounds ?_
  simp only [laws_FnExactBestJoin.f, laws_toLinePiece.f, Option.bind_some]
  obtain ⟨left, s1, s2⟩ := laws_szJoinS_ev xs (by have := hx.2.1; rw [maxLen_eq] at this; omega) (fun x h => (hx.2.2 x h).1)
  refine Ev.bind s1 ?_
  by_cases h : left < 0
  · simp only [h, if_true]; exact ev_now _
  have hl : xs.length ≤ 1048576 := by omega
  have hm : (xs.map conv_Join).length ≤ 1048576 := by simpa using hl
  simp only [h, if_false]
  obtain ⟨r, k1, k2⟩ := BestJoin_ev _ hm a b c d need
  refine Ev.bind (laws_toJoinS_ev xs hl) (Ev.bind k1 (Ev.bind (laws_toJoinS_ev xs hl) (Ev.bind k2 ?_)))
  simp only [if_true, bne_self_eq_false]
  refine ev_succ ?_
  simp only [laws_FnExactBestJoin.j0, Bool.false_eq_true, if_false]
  refine Ev.bind (laws_toJoinS_ev xs hl) (Ev.bind (laws_eqJoinS_self _ (by omega)) ?_)
  simp only [if_true]
  exact ev_now _

end Go.Proofs.Ytdgodlccejoibaa.Pure

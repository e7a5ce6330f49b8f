/- The pure statement of FnBestJoins: numbers and lists alone. No condition. -/
import Derived.Test.YtginmioklkcgbaaVQFnBestJoinsx24
import Derived.Test.YtginmioklkcgbaaVAid
namespace Go.Proofs.Ytginmioklkcgbaa.Pure
open Go.RowKit Go.Proofs.Ytginmioklkcgbaa.QFnBestJoins Go.Proofs.YtginmioklkcgbaaW.PrintWords Go.Proofs.YtginmioklkcgbaaW.PrintLast Go.Proofs.YtginmioklkcgbaaW.PrintMore Go.Proofs.Ytginmioklkcgbaa.Aid
set_option linter.unusedVariables false
set_option linter.unusedSimpArgs false

theorem spec_l00Gcd_ev (m : Nat) : ∀ a b : Int, b.toNat = m → 0 ≤ a → 0 ≤ b → Ev (fun k => spec_l00Gcd.l0 k a b) (Nat.gcd a.toNat b.toNat : Nat) := by
  induction m using Nat.strongRecOn with
  | _ m ih =>
    intro a b hm ha hb
    refine ev_succ ?_
    by_cases h : b = 0
    · subst h
      simp only [spec_l00Gcd.l0, if_true]
      exact ev_to (ev_now _) (by simp; omega)
    · obtain ⟨h1, h2, h3⟩ := gcd_step (a := a) (b := b) ha (by omega)
      simp only [spec_l00Gcd.l0, h, if_false]
      exact ev_to (ih _ (by omega) b _ rfl hb h1) (by rw [h3])
theorem spec_l01Make_ev (n d : Int) (hn : -4611686018427387904 ≤ n ∧ n ≤ 4611686018427387904) (hd : 0 < d ∧ d ≤ 4611686018427387904) : Ev (fun k => spec_l01Make.f k n d) (mkF n d) := by
  have e0 : spec_l00Size.f n = some (n.natAbs : Int) := by
    unfold spec_l00Size.f
    by_cases h : n < 0
    · rw [if_pos h, w64 (by omega) (by omega)]; congr 1; omega
    · rw [if_neg h]; congr 1; omega
  simp only [spec_l01Make.f, spec_l00Gcd.f, e0, Option.bind_some]
  have g := spec_l00Gcd_ev d.toNat (n.natAbs : Int) d rfl (by omega) (by omega)
  have eg : Nat.gcd ((n.natAbs : Int)).toNat d.toNat = Int.gcd n d := by rw [Int.gcd, Int.toNat_natCast]; congr 1; omega
  rw [eg] at g
  have pos : 0 < Int.gcd n d := Int.gcd_pos_of_ne_zero_right n (by omega)
  refine Ev.bind g ?_
  have b1 := tdiv_bound n (Int.gcd n d)
  have b2 := tdiv_bound d (Int.gcd n d)
  simp only [show ¬ ((Int.gcd n d : Nat) : Int) = 0 by omega, if_false, w64 (n := Int.tdiv n (Int.gcd n d : Nat)) (by omega) (by omega), w64 (n := Int.tdiv d (Int.gcd n d : Nat)) (by omega) (by omega)]
  exact ev_now _

theorem spec_l01Small_eq (c : Int) : spec_l01Small.f c = some (decide (97 ≤ c ∧ c ≤ 122)) := by
  unfold spec_l01Small.f
  by_cases h : c ≥ 97
  · rw [if_pos h]; congr 1; simp; omega
  · rw [if_neg h]; congr 1; simp; omega
theorem spec_l01Digit_eq (c : Int) : spec_l01Digit.f c = some (decide (48 ≤ c ∧ c ≤ 57)) := by
  unfold spec_l01Digit.f
  by_cases h : c ≥ 48
  · rw [if_pos h]; congr 1; simp; omega
  · rw [if_neg h]; congr 1; simp; omega
theorem spec_IsName_loop (s : ByteArray) (hs : s.size ≤ 12) : Ev (fun k => spec_IsName.l0 k s 0) ((List.range s.size).all fun i => nameCh (bt s i)) := by
  refine ev_to (ev_all (len := s.size) (g := fun k i => spec_IsName.l0 k s i) (fun i => nameCh (bt s i)) true ?_ ?_ ?_) (by simp)
  · intro n hn hp r hr
    refine ev_succ ?_
    simp only [spec_IsName.l0, spec_l01Small_eq, spec_l01Digit_eq, Option.bind_some]
    simp only [Int.ofNat_lt.2 hn, if_true, show (0 : Int) ≤ (n : Int) from Int.natCast_nonneg n, wnext hn (by omega : s.size ≤ 9223372036854775807)]
    unfold nameCh at hp
    by_cases c1 : 97 ≤ bt s n ∧ bt s n ≤ 122
    · simpa [c1] using hr
    · by_cases c2 : 48 ≤ bt s n ∧ bt s n ≤ 57
      · simpa [c1, c2] using hr
      · by_cases c3 : bt s n = 45
        · simpa [c3] using hr
        · simp [c1, c2, c3] at hp
  · intro n hn hp
    refine ev_succ ?_
    simp only [spec_IsName.l0, spec_l01Small_eq, spec_l01Digit_eq, Option.bind_some]
    unfold nameCh at hp
    simp only [Bool.or_eq_false_iff, decide_eq_false_iff_not] at hp
    simp only [hp.1.1, hp.1.2, hp.2, Int.ofNat_lt.2 hn, show (0 : Int) ≤ (n : Int) from Int.natCast_nonneg n, if_true, if_false, decide_false, Bool.false_eq_true]
    exact ev_now _
  · refine ev_succ ?_
    simp only [spec_IsName.l0, Int.lt_irrefl, if_false]
    exact ev_now _
theorem toList_nil_iff (s : ByteArray) : s.toList = ([] : List UInt8) ↔ s.size = 0 := by
  rw [← List.length_eq_zero_iff, ByteArray.toList_eq, Array.length_toList]
  exact Iff.rfl
theorem spec_IsName_ev (s : ByteArray) : Ev (fun k => spec_IsName.f k s) (isNameB s) := by
  unfold spec_IsName.f isNameB
  by_cases h0 : s.size = 0
  · simp only [(toList_nil_iff s).2 h0, if_true, h0]
    refine ev_succ ?_
    simp only [spec_IsName.j0, if_true]
    exact ev_now _
  · have h0' : ¬ s.toList = ([] : List UInt8) := fun h => h0 ((toList_nil_iff s).1 h)
    simp only [h0', if_false]
    by_cases h1 : s.size ≤ 12
    · have e1 : ¬ ((s.size : Int) > 12) := by omega
      have e2 : (0 : Int) < (s.size : Int) := by omega
      simp only [e1, e2, if_true, if_false, spec_l01Small_eq, Option.bind_some]
      refine ev_succ ?_
      simp only [spec_IsName.j0]
      by_cases h2 : 97 ≤ bt s 0 ∧ bt s 0 ≤ 122
      · simp only [h2, decide_true, Bool.not_true, Bool.false_eq_true, if_false, and_self]
        refine ev_to (spec_IsName_loop s h1) ?_
        simp [show 1 ≤ s.size by omega, h1]
      · simp only [h2, decide_false, Bool.not_false, if_true]
        exact ev_to (ev_now _) (by simp)
    · have e1 : ((s.size : Int) > 12) := by omega
      simp only [e1, if_true]
      refine ev_succ ?_
      simp only [spec_IsName.j0, if_true]
      exact ev_to (ev_now _) (by simp [h1])
theorem impl_IsName_loop (s : ByteArray) (hs : s.size ≤ 12) : Ev (fun k => impl_IsName.l0 k s 0) ((List.range s.size).all fun i => nameCh (bt s i)) := by
  refine ev_to (ev_all (len := s.size) (g := fun k i => impl_IsName.l0 k s i) (fun i => nameCh (bt s i)) true ?_ ?_ ?_) (by simp)
  · intro n hn hp r hr
    refine ev_succ ?_
    simp only [impl_IsName.l0]
    unfold nameCh at hp
    simp only [Bool.or_eq_true, decide_eq_true_eq] at hp
    have e0 : (n : Int) < (s.size : Int) := by omega
    simp only [e0, show (0 : Int) ≤ (n : Int) from Int.natCast_nonneg n, if_true, wnext hn (by omega : s.size ≤ 9223372036854775807)]
    by_cases d1 : bt s n < 97 <;> by_cases d2 : bt s n > 122 <;> by_cases d3 : bt s n < 48 <;> by_cases d4 : bt s n > 57 <;> by_cases d5 : bt s n = 45 <;>
      first | (exfalso; omega) | (simp only [d1, d2, d3, d4, d5, if_true, if_false]; exact hr)
  · intro n hn hp
    refine ev_succ ?_
    simp only [impl_IsName.l0]
    unfold nameCh at hp
    simp only [Bool.or_eq_false_iff, decide_eq_false_iff_not] at hp
    have e0 : (n : Int) < (s.size : Int) := by omega
    simp only [e0, show (0 : Int) ≤ (n : Int) from Int.natCast_nonneg n, if_true]
    by_cases d1 : bt s n < 97 <;> by_cases d2 : bt s n > 122 <;> by_cases d3 : bt s n < 48 <;> by_cases d4 : bt s n > 57 <;> by_cases d5 : bt s n = 45 <;>
      first | (exfalso; omega) | (simp only [d1, d2, d3, d4, d5, if_true, if_false]; exact ev_now _)
  · refine ev_succ ?_
    simp only [impl_IsName.l0, Int.lt_irrefl, if_false]
    exact ev_now _
theorem impl_IsName_ev (s : ByteArray) : Ev (fun k => impl_IsName.f k s) (isNameB s) := by
  unfold impl_IsName.f isNameB
  by_cases h0 : s.size = 0
  · simp only [h0]
    refine ev_succ ?_
    simp only [impl_IsName.j0, if_true]
    exact ev_now _
  · have e3 : ¬ ((s.size : Int) < 1) := by omega
    simp only [e3, if_false]
    by_cases h1 : s.size ≤ 12
    · have e1 : ¬ ((s.size : Int) > 12) := by omega
      have e2 : (0 : Int) < (s.size : Int) := by omega
      simp only [e1, e2, if_true, if_false]
      by_cases h2 : bt s 0 < 97
      · simp only [h2, if_true]
        refine ev_succ ?_
        simp only [impl_IsName.j0, if_true]
        exact ev_to (ev_now _) (by simp; omega)
      · simp only [h2, if_false]
        refine ev_succ ?_
        simp only [impl_IsName.j0]
        by_cases h3 : bt s 0 > 122
        · simp only [h3, decide_true, if_true]
          exact ev_to (ev_now _) (by simp; omega)
        · simp only [h3, decide_false, Bool.false_eq_true, if_false]
          refine ev_to (impl_IsName_loop s h1) ?_
          simp [show 1 ≤ s.size by omega, h1, show 97 ≤ bt s 0 by omega, show bt s 0 ≤ 122 by omega]
    · have e1 : ((s.size : Int) > 12) := by omega
      simp only [e1, if_true]
      refine ev_succ ?_
      simp only [impl_IsName.j0, if_true]
      exact ev_to (ev_now _) (by simp [h1])

theorem spec_l00In_eq (a b c : Int) : spec_l00In.f a b c = some (decide (b ≤ a ∧ a ≤ c)) := by
  unfold spec_l00In.f
  by_cases h : a ≥ b
  · rw [if_pos h]; congr 1; simp; omega
  · rw [if_neg h]; congr 1; simp; omega

theorem impl_within_eq (a b c : Int) : impl_within.f a b c = some (decide (b ≤ a ∧ a ≤ c)) := by
  unfold impl_within.f
  by_cases h : a ≥ b
  · rw [if_pos h]; congr 1; simp; omega
  · rw [if_neg h]; congr 1; simp; omega

def joinB (s : ByteArray) (a b : Int) : Bool := isNameB s && (decide (1 ≤ a ∧ a ≤ 1000) && decide (0 ≤ b ∧ b ≤ 1000))
def jB (x : S61) : Bool := joinB x.f0 x.f1 x.f2
theorem spec_l03OneAt_ev (x : S61) : Ev (fun k => spec_l03OneAt.f k [x]) (jB x) := by
  have e0 : rd_T61 [x] 0 = x := rfl
  have l0 : (0 : Int) < (([x] : List S61).length : Int) := by simp
  simp only [spec_l03OneAt.f, spec_l00In_eq, Option.bind_some, e0, l0, if_true]
  refine Ev.bind (spec_IsName_ev _) ?_
  unfold jB joinB
  cases isNameB x.f0
  · exact ev_now _
  · by_cases h1 : 1 ≤ x.f1 ∧ x.f1 ≤ 1000
    · simp only [h1, decide_true, if_true, Bool.true_and, and_self]; exact ev_now _
    · simp only [h1, decide_false, if_true, Bool.true_and, Bool.false_and, Bool.false_eq_true, if_false]; exact ev_now _
theorem impl_validJoin_ev (s : ByteArray) (a b : Int) : Ev (fun k => impl_validJoin.f k s a b) (joinB s a b) := by
  simp only [impl_validJoin.f, impl_within_eq, Option.bind_some]
  refine Ev.bind (impl_IsName_ev s) ?_
  unfold joinB
  cases isNameB s
  · exact ev_now _
  · by_cases h1 : 1 ≤ a ∧ a ≤ 1000
    · simp only [h1, decide_true, if_true, Bool.true_and, and_self]; exact ev_now _
    · simp only [h1, decide_false, if_true, Bool.true_and, Bool.false_and, Bool.false_eq_true, if_false]; exact ev_now _

def sameN (xs : List S61) (n j : Nat) : Bool := decide ((xs.getD j z61).f0.toList = (xs.getD n z61).f0.toList)
def joinsP (xs : List S61) (n : Nat) : Bool := jB (xs.getD n z61) && !((List.range n).any (sameN xs n))
def joinsB (xs : List S61) : Bool := (List.range xs.length).all (joinsP xs) && decide (xs.length ≤ 20)
theorem spec_l03Ok_l1 (xs : List S61) (h : xs.length ≤ 1048576) (n : Nat) (hn : n < xs.length) (r : Bool)
    (hr : (List.range n).any (sameN xs n) = false → Ev (fun k => spec_l03Ok.l0 k xs ((n + 1 : Nat) : Int)) r) (hf : (List.range n).any (sameN xs n) = true → r = false) : Ev (fun k => spec_l03Ok.l1 k xs (n : Int) 0) r := by
  suffices key : ∃ r', Ev (fun k => spec_l03Ok.l1 k xs (n : Int) 0) r' ∧ r' = r by obtain ⟨r', hr', e⟩ := key; exact e ▸ hr'
  refine ev_loop (len := n) (g := fun k (_ : Unit) j => spec_l03Ok.l1 k xs (n : Int) j) (fun j _ => (List.range j).any (sameN xs n) = false) (fun r' => r' = r) ?_ ?_ () rfl
  · intro j _ hj hi
    cases hb : sameN xs n j with
    | false =>
      refine .inr ⟨(), by rw [List.range_succ, List.any_append, hi, List.any_cons, List.any_nil, hb]; rfl, fun r' hr' => ev_succ ?_⟩
      simp only [sameN, decide_eq_false_iff_not] at hb
      simp only [spec_l03Ok.l1, Int.ofNat_lt.2 hj, Int.ofNat_lt.2 hn, Int.ofNat_lt.2 (Nat.lt_trans hj hn), show (0 : Int) ≤ (j : Int) from Int.natCast_nonneg _, show (0 : Int) ≤ (n : Int) from Int.natCast_nonneg _, if_true, rd_T61, Int.toNat_natCast, hb, if_false, wnext hj (by omega : n ≤ 9223372036854775807)]
      exact hr'
    | true =>
      have ht : (List.range n).any (sameN xs n) = true := by rw [List.any_eq_true]; exact ⟨j, List.mem_range.2 hj, hb⟩
      refine .inl ⟨r, ev_succ ?_, rfl⟩
      rw [hf ht]
      simp only [sameN, decide_eq_true_eq] at hb
      simp only [spec_l03Ok.l1, Int.ofNat_lt.2 hj, Int.ofNat_lt.2 hn, Int.ofNat_lt.2 (Nat.lt_trans hj hn), show (0 : Int) ≤ (j : Int) from Int.natCast_nonneg _, show (0 : Int) ≤ (n : Int) from Int.natCast_nonneg _, if_true, rd_T61, Int.toNat_natCast, hb]
      exact ev_now _
  · intro _ hi
    refine ⟨r, ev_succ ?_, rfl⟩
    simp only [spec_l03Ok.l1, Int.lt_irrefl, if_false, wnext hn (by omega : xs.length ≤ 9223372036854775807)]
    exact hr hi
theorem spec_l03Ok_ev (xs : List S61) (h : xs.length ≤ 1048576) : Ev (fun k => spec_l03Ok.f k xs) (joinsB xs) := by
  simp only [spec_l03Ok.f]
  refine ev_all (len := xs.length) (g := fun k i => spec_l03Ok.l0 k xs i) (joinsP xs) (decide (xs.length ≤ 20)) ?_ ?_ ?_
  · intro n hn hp r hr
    unfold joinsP at hp
    simp only [Bool.and_eq_true, Bool.not_eq_true'] at hp
    refine ev_succ ?_
    simp only [spec_l03Ok.l0, Int.ofNat_lt.2 hn, show (0 : Int) ≤ (n : Int) from Int.natCast_nonneg _, if_true, rd_T61, Int.toNat_natCast]
    refine Ev.bind (spec_l03OneAt_ev _) ?_
    simp only [hp.1, if_true]
    exact spec_l03Ok_l1 xs h n hn r (fun _ => hr) (fun ht => by rw [hp.2] at ht; cases ht)
  · intro n hn hp
    unfold joinsP at hp
    refine ev_succ ?_
    simp only [spec_l03Ok.l0, Int.ofNat_lt.2 hn, show (0 : Int) ≤ (n : Int) from Int.natCast_nonneg _, if_true, rd_T61, Int.toNat_natCast]
    refine Ev.bind (spec_l03OneAt_ev _) ?_
    cases h1 : jB (xs.getD n z61)
    · simp only [Bool.false_eq_true, if_false]; exact ev_now _
    · simp only [h1, Bool.true_and, Bool.not_eq_false'] at hp
      simp only [if_true]
      exact spec_l03Ok_l1 xs h n hn false (fun ht => by rw [hp] at ht; cases ht) (fun _ => rfl)
  · refine ev_succ ?_
    simp only [spec_l03Ok.l0, Int.lt_irrefl, if_false]
    exact ev_to (ev_now _) (by congr 1; simp; omega)
theorem impl_contains_ev (xs : List S61) (h : xs.length ≤ 1048576) (y : S61) : Ev (fun k => impl_Join_89.f k xs [y]) ((List.range xs.length).any fun j => decide ((xs.getD j z61).f0.toList = y.f0.toList)) := by
  have e0 : rd_T61 [y] 0 = y := rfl
  have l0 : (0 : Int) < (([y] : List S61).length : Int) := by simp
  simp only [impl_Join_89.f, impl_Join_113.f]
  refine Ev.bind (ev_find (len := xs.length) (g := fun k i => impl_Join_113.l0 k xs [y] (xs.length : Int) i) (fun j => decide ((xs.getD j z61).f0.toList = y.f0.toList)) (fun n => (n : Int)) (-1) ?_ ?_ ?_) (ev_to (ev_now _) ?_)
  · intro n hn hp r hr
    refine ev_succ ?_
    simp only [decide_eq_false_iff_not] at hp
    simp only [impl_Join_113.l0, impl_ValidJoins_1.f, e0, l0, Option.bind_some, Int.ofNat_lt.2 hn, show (0 : Int) ≤ (n : Int) from Int.natCast_nonneg _, if_true, rd_T61, Int.toNat_natCast, wnext hn (by omega : xs.length ≤ 9223372036854775807)]
    rw [show ((xs.getD n z61).f0.toList == (([y] : List S61).getD (0 : Int).toNat z61).f0.toList) = false from by rw [beq_eq_false_iff_ne]; exact hp]
    simp only [Bool.false_eq_true, if_false]
    exact hr
  · intro n hn hp
    refine ev_succ ?_
    simp only [decide_eq_true_eq] at hp
    simp only [impl_Join_113.l0, impl_ValidJoins_1.f, e0, l0, Option.bind_some, Int.ofNat_lt.2 hn, show (0 : Int) ≤ (n : Int) from Int.natCast_nonneg _, if_true, rd_T61, Int.toNat_natCast]
    rw [show ((xs.getD n z61).f0.toList == (([y] : List S61).getD (0 : Int).toNat z61).f0.toList) = true from by rw [beq_iff_eq]; exact hp]
    simp only [if_true]
    exact ev_now _
  · refine ev_succ ?_
    simp only [impl_Join_113.l0, Int.lt_irrefl, if_false]
    exact ev_now _
  · cases hf : (List.range xs.length).find? (fun j => decide ((xs.getD j z61).f0.toList = y.f0.toList)) with
    | none =>
      rw [List.find?_eq_none] at hf
      simp only
      symm
      rw [show decide ((-1 : Int) ≥ 0) = false from rfl, List.any_eq_false]
      exact hf
    | some n =>
      simp only
      symm
      rw [show decide ((n : Int) ≥ 0) = true by simp, List.any_eq_true]
      exact ⟨n, List.mem_of_find?_eq_some hf, by have h2 := List.find?_some hf; exact h2⟩
theorem impl_ValidJoins_ev (xs : List S61) (h : xs.length ≤ 1048576) : Ev (fun k => impl_ValidJoins.f k xs) (joinsB xs) := by
  simp only [impl_ValidJoins.f]
  by_cases hb : (xs.length : Int) > 20
  · simp only [hb, if_true]
    exact ev_to (ev_now _) (by unfold joinsB; rw [show decide (xs.length ≤ 20) = false by simp; omega, Bool.and_false])
  simp only [hb, if_false]
  have anyE : ∀ n, n < xs.length → ((List.range (xs.take n).length).any fun j => decide (((xs.take n).getD j z61).f0.toList = (xs.getD n z61).f0.toList)) = (List.range n).any (sameN xs n) := by
    intro n hn
    rw [List.length_take, Nat.min_eq_left (by omega), Bool.eq_iff_iff, List.any_eq_true, List.any_eq_true]
    have e : ∀ j, j < n → (xs.take n).getD j z61 = xs.getD j z61 := fun j hj => by simp [List.getD_eq_getElem?_getD, List.getElem?_take, hj]
    constructor <;> (rintro ⟨j, hj, hp⟩; refine ⟨j, hj, ?_⟩; have := e j (List.mem_range.1 hj); simp only [sameN] at *; first | (rw [this] at hp; exact hp) | (rw [this]; exact hp))
  refine ev_to (ev_all (len := xs.length) (g := fun k i => impl_ValidJoins.l0 k xs xs (xs.length : Int) i) (joinsP xs) true ?_ ?_ ?_) (by unfold joinsB; rw [show decide (xs.length ≤ 20) = true by simp; omega])
  · intro n hn hp r hr
    unfold joinsP at hp
    simp only [Bool.and_eq_true, Bool.not_eq_true'] at hp
    refine ev_succ ?_
    simp only [impl_ValidJoins.l0, Int.ofNat_lt.2 hn, show (0 : Int) ≤ (n : Int) from Int.natCast_nonneg _, if_true, rd_T61, Int.toNat_natCast, show (n : Int) ≤ (xs.length : Int) by omega, wnext hn (by omega : xs.length ≤ 9223372036854775807)]
    refine Ev.bind (impl_validJoin_ev _ _ _) ?_
    rw [show joinB _ _ _ = true from hp.1]
    simp only [if_true]
    refine Ev.bind (impl_contains_ev _ (by simp; omega) _) ?_
    rw [anyE n hn, hp.2]
    simp only [Bool.false_eq_true, if_false]
    exact hr
  · intro n hn hp
    unfold joinsP at hp
    refine ev_succ ?_
    simp only [impl_ValidJoins.l0, Int.ofNat_lt.2 hn, show (0 : Int) ≤ (n : Int) from Int.natCast_nonneg _, if_true, rd_T61, Int.toNat_natCast, show (n : Int) ≤ (xs.length : Int) by omega]
    refine Ev.bind (impl_validJoin_ev _ _ _) ?_
    cases h1 : jB (xs.getD n z61)
    · rw [show joinB _ _ _ = false from h1]; simp only [Bool.false_eq_true, if_false]; exact ev_now _
    · rw [show joinB _ _ _ = true from h1]
      simp only [h1, Bool.true_and, Bool.not_eq_false'] at hp
      simp only [if_true]
      refine Ev.bind (impl_contains_ev _ (by simp; omega) _) ?_
      rw [anyE n hn, hp]
      simp only [if_true]
      exact ev_now _
  · refine ev_succ ?_
    simp only [impl_ValidJoins.l0, Int.lt_irrefl, if_false]
    exact ev_now _

def pieceB (a b : Int) : Bool := decide (1 ≤ a ∧ a ≤ 1000000) && decide (1 ≤ b ∧ b ≤ 100000)
theorem spec_l03Piece_eq (a b : Int) : spec_l03Piece.f a b = some (pieceB a b) := by
  simp only [spec_l03Piece.f, spec_l00In_eq, Option.bind_some]
  unfold pieceB
  by_cases h1 : 1 ≤ a ∧ a ≤ 1000000
  · simp only [h1, decide_true, if_true, Bool.true_and, and_self]
  · simp only [h1, decide_false, Bool.false_and, Bool.false_eq_true, if_false]
theorem impl_validPiece_eq (a b : Int) : impl_validPiece.f a b = some (pieceB a b) := by
  simp only [impl_validPiece.f, impl_within_eq, Option.bind_some]
  unfold pieceB
  by_cases h1 : 1 ≤ a ∧ a ≤ 1000000
  · simp only [h1, decide_true, if_true, Bool.true_and, and_self]
  · simp only [h1, decide_false, Bool.false_and, Bool.false_eq_true, if_false]

theorem min_eq (a b : Int) : spec_l00Min.f a b = some (mn a b) := by
  unfold spec_l00Min.f mn
  by_cases h : a < b
  · rw [if_pos h, if_neg (by omega)]
  · rw [if_neg h]
    by_cases h2 : b < a
    · rw [if_pos h2]
    · rw [if_neg h2]; congr 1; omega
theorem spec_l03JoinedAt_eq (x : S61) (a b c d : Int) : spec_l03JoinedAt.f [x] a b c d = some (wrap64 (mn a c * x.f1)) := by
  have e0 : rd_T61 [x] 0 = x := rfl
  have l0 : (0 : Int) < (([x] : List S61).length : Int) := by simp
  simp only [spec_l03JoinedAt.f, e0, l0, if_true, min_eq, Option.bind_some, Int.mul_comm]

def bestStep (xs : List S61) (m need : Int) (n : Nat) (b : Int) : Int :=
  if wrap64 (m * (xs.getD n z61).f1) ≥ wrap64 (1000 * need) then (if b < 0 then (n : Int) else if (xs.getD n z61).f2 < (xs.getD b.toNat z61).f2 then (n : Int) else b) else b
def bestS (xs : List S61) (m need : Int) : Nat → Int
  | 0 => -1
  | n + 1 => bestStep xs m need n (bestS xs m need n)
theorem bestS_lt (xs : List S61) (m need : Int) (n : Nat) : bestS xs m need n < (n : Int) := by
  induction n with
  | zero => show (-1 : Int) < 0; decide
  | succ n ih =>
    show bestStep xs m need n (bestS xs m need n) < _
    unfold bestStep
    repeat' split
    all_goals omega
def bestV (xs : List S61) (m need : Int) : Int × Int := if bestS xs m need xs.length < 0 then (0, 3) else (bestS xs m need xs.length, 0)
theorem spec_best_loop (xs : List S61) (h : xs.length ≤ 1048576) (need a b c d : Int) : Ev (fun k => spec_BestJoin.l0 k xs need (-1) 0 a b c d) (bestV xs (mn a c) need) := by
  refine ev_fold (len := xs.length) (g := fun k s i => spec_BestJoin.l0 k xs need s i a b c d) (bestStep xs (mn a c) need) (bestS xs (mn a c) need) _ (fun n hn => rfl) ?_ ?_
  · intro n hn r hr
    have hb := bestS_lt xs (mn a c) need n
    refine ev_succ ?_
    unfold bestStep at hr
    generalize bestS xs (mn a c) need n = s at hb hr ⊢
    simp only [spec_BestJoin.l0, spec_l03JoinedAt_eq, Option.bind_some, Int.ofNat_lt.2 hn, show (0 : Int) ≤ (n : Int) from Int.natCast_nonneg _, if_true, rd_T61, Int.toNat_natCast, wnext hn (by omega : xs.length ≤ 9223372036854775807)]
    by_cases h1 : wrap64 (mn a c * (xs.getD n z61).f1) ≥ wrap64 (1000 * need)
    · simp only [h1, if_true] at hr
      simp only [show ¬ wrap64 (mn a c * (xs.getD n z61).f1) < wrap64 (1000 * need) by omega, if_false]
      by_cases h2 : s < 0
      · simp only [h2, if_true] at hr ⊢; exact hr
      · simp only [h2, if_false] at hr
        simp only [h2, if_false, show 0 ≤ s by omega, show s < (xs.length : Int) by omega, if_true]
        by_cases h3 : (xs.getD n z61).f2 < (xs.getD s.toNat z61).f2
        · simp only [h3, if_true] at hr ⊢; exact hr
        · simp only [h3, if_false] at hr ⊢; exact hr
    · simp only [h1, if_false] at hr
      simp only [show wrap64 (mn a c * (xs.getD n z61).f1) < wrap64 (1000 * need) by omega, if_true]
      exact hr
  · refine ev_succ ?_
    unfold bestV
    by_cases h2 : bestS xs (mn a c) need xs.length < 0
    · simp only [spec_BestJoin.l0, Int.lt_irrefl, if_false, h2, if_true]; exact ev_now _
    · simp only [spec_BestJoin.l0, Int.lt_irrefl, if_false, h2]; exact ev_now _
theorem impl_best_loop (xs : List S61) (h : xs.length ≤ 1048576) (need a b c d : Int) : Ev (fun k => impl_bestJoin.f k xs a b c d need) (bestS xs (mn a c) need xs.length) := by
  simp only [impl_bestJoin.f]
  refine ev_fold (len := xs.length) (g := fun k s i => impl_bestJoin.l0 k xs need s xs (xs.length : Int) i a b c d) (bestStep xs (mn a c) need) (bestS xs (mn a c) need) _ (fun n hn => rfl) ?_ ?_
  · intro n hn r hr
    have hb := bestS_lt xs (mn a c) need n
    refine ev_succ ?_
    unfold bestStep at hr
    generalize bestS xs (mn a c) need n = s at hb hr ⊢
    simp only [impl_bestJoin.l0, Int.ofNat_lt.2 hn, show (0 : Int) ≤ (n : Int) from Int.natCast_nonneg _, if_true, rd_T61, Int.toNat_natCast, wnext hn (by omega : xs.length ≤ 9223372036854775807)]
    by_cases h1 : wrap64 (mn a c * (xs.getD n z61).f1) ≥ wrap64 (1000 * need)
    · simp only [h1, if_true] at hr ⊢
      by_cases h2 : s < 0
      · simp only [h2, if_true] at hr ⊢; exact hr
      · simp only [h2, if_false] at hr
        simp only [h2, if_false, show 0 ≤ s by omega, show s < (xs.length : Int) by omega, if_true]
        by_cases h3 : (xs.getD n z61).f2 < (xs.getD s.toNat z61).f2
        · simp only [h3, if_true] at hr ⊢; exact hr
        · simp only [h3, if_false] at hr ⊢; exact hr
    · simp only [h1, if_false] at hr ⊢
      exact hr
  · refine ev_succ ?_
    simp only [impl_bestJoin.l0, Int.lt_irrefl, if_false]; exact ev_now _
theorem spec_BestJoin_ok (xs : List S61) (h : xs.length ≤ 1048576) (hb : joinsB xs = true) (a b c d need : Int) (hp : pieceB a b = true) (hq : pieceB c d = true) (hn : 0 ≤ need ∧ need ≤ 1000000) : Ev (fun k => spec_BestJoin.f k xs a b c d need) (bestV xs (mn a c) need) := by
  simp only [spec_BestJoin.f, spec_l03Piece_eq, Option.bind_some]
  refine Ev.bind (spec_l03Ok_ev xs h) ?_
  simp only [hb, hp, hq, if_true, Bool.not_true]
  refine ev_succ ?_
  simp only [spec_BestJoin.j0, Bool.false_eq_true, if_false, spec_l03Need.f, spec_l00In_eq, Option.bind_some, hn, and_self, decide_true, if_true]
  exact spec_best_loop xs h need a b c d

/-! ### pieces, the stronger (then the longer) first -/
def bfP (x y : S45) : Bool := decide (y.f0 < x.f0 ∨ (y.f0 = x.f0 ∧ y.f1 < x.f1))
def posP (out : List S45) (x : S45) : Nat → Nat
  | 0 => 0
  | k + 1 => if bfP x (out.getD k z45) = true then posP out x k else k + 1
theorem posP_le (out : List S45) (x : S45) : ∀ k, posP out x k ≤ k
  | 0 => Nat.le_refl _
  | k + 1 => by
    unfold posP
    split
    · have := posP_le out x k; omega
    · exact Nat.le_refl _
def insP (out : List S45) (x : S45) : List S45 := (out.take (posP out x out.length) ++ [x]) ++ out.drop (posP out x out.length)
theorem insP_length (out : List S45) (x : S45) : (insP out x).length = out.length + 1 := by
  have := posP_le out x out.length
  unfold insP
  simp only [List.length_append, List.length_take, List.length_singleton, List.length_drop]
  omega
theorem insP_mem {out : List S45} {x y : S45} (h : y ∈ insP out x) : y = x ∨ y ∈ out := by
  unfold insP at h
  rcases List.mem_append.1 h with h | h
  · rcases List.mem_append.1 h with h | h
    · exact .inr (List.mem_of_mem_take h)
    · exact .inl (by simpa using h)
  · exact .inr (List.mem_of_mem_drop h)
theorem foldP_length (xs : List S45) : ∀ out : List S45, (xs.foldl insP out).length = out.length + xs.length := by
  induction xs with
  | nil => intro out; rfl
  | cons x xs ih => intro out; rw [List.foldl_cons, ih, insP_length, List.length_cons]; omega
theorem foldP_mem {y : S45} (xs : List S45) : ∀ out : List S45, y ∈ xs.foldl insP out → y ∈ xs ∨ y ∈ out := by
  induction xs with
  | nil => intro out h; exact .inr h
  | cons x xs ih =>
    intro out h
    rcases ih _ h with h | h
    · exact .inl (List.mem_cons_of_mem _ h)
    · rcases insP_mem h with rfl | h
      · exact .inl List.mem_cons_self
      · exact .inr h
def sortP (xs : List S45) (n : Nat) : List S45 := (xs.take n).foldl insP []
theorem sortP_length (xs : List S45) {n : Nat} (h : n ≤ xs.length) : (sortP xs n).length = n := by
  unfold sortP; rw [foldP_length, List.length_take, List.length_nil]; omega
theorem cmpP (x y : S45) : ∃ r, Ev (fun k => impl_LongestLine_1.f k x.f0 x.f1 y.f0 y.f1) r ∧ (r < 0 ↔ bfP x y = true) := by
  have c : ∀ a b : Int, cmp_Compare_int64.f a b = some (if a < b then -1 else if a > b then 1 else 0) := by
    intro a b
    simp only [cmp_Compare_int64.f, cmp_isNaN_int64.f, Option.bind_some, bne_self_eq_false, Bool.false_eq_true, if_false]
    by_cases h : a < b
    · simp only [h, if_true]
    · by_cases h2 : a > b
      · simp only [h, h2, if_true, if_false]
      · simp only [h, h2, if_false]
  have o : ∀ a b : Int, Ev (fun k => cmp_Or_int.f k [a, b]) (if a = 0 then b else a) := by
    intro a b
    simp only [cmp_Or_int.f]
    refine ev_succ ?_
    simp only [cmp_Or_int.l0, List.length_cons, List.length_nil, rd, show ((0 : Int)).toNat = 0 from rfl, List.getD_cons_zero, show (0 : Int) < ((0 + 1 + 1 : Nat) : Int) by omega, show (0 : Int) ≤ 0 by omega, if_true]
    by_cases h : a = 0
    · simp only [h, if_true]
      rw [show wrap64 (0 + 1) = 1 by unfold wrap64; omega]
      refine ev_succ ?_
      simp only [cmp_Or_int.l0, List.length_cons, List.length_nil, rd, show ((1 : Int)).toNat = 1 from rfl, List.getD_cons_succ, List.getD_cons_zero, show (1 : Int) < ((0 + 1 + 1 : Nat) : Int) by omega, show (0 : Int) ≤ 1 by omega, if_true]
      by_cases h2 : b = 0
      · simp only [h2, if_true]
        rw [show wrap64 (1 + 1) = 2 by unfold wrap64; omega]
        refine ev_succ ?_
        simp only [cmp_Or_int.l0, List.length_cons, List.length_nil, show ¬ (2 : Int) < ((0 + 1 + 1 : Nat) : Int) by omega, if_false]
        exact ev_now _
      · simp only [h2, if_false]; exact ev_now _
    · simp only [h, if_false]; exact ev_now _
  simp only [impl_LongestLine_1.f, c, Option.bind_some]
  refine ⟨_, Ev.bind (o _ _) (ev_now _), ?_⟩
  unfold bfP
  rw [decide_eq_true_eq]
  by_cases a1 : y.f0 < x.f0
  · simp [a1]
  · by_cases a2 : y.f0 > x.f0
    · simp [a1, a2]; omega
    · have a3 : y.f0 = x.f0 := by omega
      by_cases b1 : y.f1 < x.f1
      · simp [a3, b1]
      · by_cases b2 : y.f1 > x.f1 <;> simp [a3, b1, b2]
theorem swapP_at {α : Type} (z : α) (A B : List α) (y x : α) : (A ++ y :: x :: B).getD (A.length + 1) z = x ∧ (A ++ y :: x :: B).getD A.length z = y ∧ ((A ++ y :: x :: B).set (A.length + 1) y).set A.length x = A ++ x :: y :: B := by
  refine ⟨by simp [List.getD_eq_getElem?_getD], by simp [List.getD_eq_getElem?_getD], ?_⟩
  rw [List.set_append_right _ _ (by omega), List.set_append_right _ _ (by omega)]
  simp
theorem impl_insertP_loop (s B : List S45) (x : S45) (i : Int) (b : Int) (hl : s.length + 1 + B.length ≤ 1048576) {r : List S45}
    (hr : Ev (fun k => impl_LinePiece_114.l0 k (insP s x ++ B) 0 b (wrap64 (i + 1))) r) : ∀ m, m ≤ s.length → posP s x m = posP s x s.length →
    Ev (fun k => impl_LinePiece_114.l1 k ((s.take m ++ x :: s.drop m) ++ B) 0 b i (m : Int)) r := by
  have fin : ∀ m : Nat, m ≤ s.length → m = posP s x s.length → Ev (fun k => impl_LinePiece_114.l0 k ((s.take m ++ x :: s.drop m) ++ B) 0 b (wrap64 (i + 1))) r := by
    intro m hm he
    have : insP s x = s.take m ++ x :: s.drop m := by unfold insP; rw [← he]; simp
    rw [← this]; exact hr
  intro m
  induction m with
  | zero =>
    intro hm he
    refine ev_succ ?_
    simp only [impl_LinePiece_114.l1, show ¬ (((0 : Nat) : Int) > 0) by omega, if_false]
    exact fin 0 hm (by rw [← he]; rfl)
  | succ m ih =>
    intro hm he
    have hs : s.take (m + 1) = s.take m ++ [s.getD m z45] := by rw [List.take_succ_eq_append_getElem (by omega), getD_lt _ _ (by omega)]
    have hd : s.drop m = s.getD m z45 :: s.drop (m + 1) := by rw [List.drop_eq_getElem_cons (by omega), getD_lt _ _ (by omega)]
    have tl : (s.take m).length = m := by rw [List.length_take]; omega
    have e0 : (s.take (m + 1) ++ x :: s.drop (m + 1)) ++ B = s.take m ++ s.getD m z45 :: x :: (s.drop (m + 1) ++ B) := by rw [hs]; simp
    have w1 : wrap64 (((m + 1 : Nat) : Int) - 1) = (m : Int) := by rw [w64 (by omega) (by omega)]; omega
    have len : (s.take m ++ s.getD m z45 :: x :: (s.drop (m + 1) ++ B)).length = s.length + 1 + B.length := by simp; omega
    obtain ⟨g1, g2, g3⟩ := swapP_at z45 (s.take m) (s.drop (m + 1) ++ B) (s.getD m z45) x
    rw [tl] at g1 g2 g3
    obtain ⟨c, hc1, hc2⟩ := cmpP x (s.getD m z45)
    rw [e0]
    refine ev_succ ?_
    simp only [impl_LinePiece_114.l1, w1, show ((m + 1 : Nat) : Int) > 0 by omega, show (0 : Int) ≤ ((m + 1 : Nat) : Int) by omega, len, show ((m + 1 : Nat) : Int) < ((s.length + 1 + B.length : Nat) : Int) by omega, show (0 : Int) ≤ (m : Int) by omega, show (m : Int) < ((s.length + 1 + B.length : Nat) : Int) by omega, if_true, rd_T45, Int.toNat_natCast, g1, g2]
    refine Ev.bind hc1 ?_
    by_cases h : bfP x (s.getD m z45) = true
    · have e2 : posP s x m = posP s x s.length := by rw [← he]; show _ = (if _ then _ else _); rw [if_pos h]
      have i1 := ih (by omega) e2
      have e3 : (s.take m ++ x :: s.drop m) ++ B = s.take m ++ x :: s.getD m z45 :: (s.drop (m + 1) ++ B) := by rw [hd]; simp
      rw [e3] at i1
      simp only [show c < 0 from hc2.2 h, if_true]
      show Ev (fun k => impl_LinePiece_114.l1 k (((s.take m ++ s.getD m z45 :: x :: (s.drop (m + 1) ++ B)).set (m + 1) (s.getD m z45)).set m x) 0 b i (m : Int)) r
      rw [g3]
      exact i1
    · have e2 : m + 1 = posP s x s.length := by rw [← he]; show _ = (if _ then _ else _); rw [if_neg h]
      have f := fin (m + 1) hm e2
      rw [e0] at f
      simp only [show ¬ c < 0 from fun q => h (hc2.1 q), if_false]
      exact f
theorem impl_isortP_ev (xs : List S45) (h1 : 1 ≤ xs.length) (h : xs.length ≤ 1048576) : Ev (fun k => impl_LinePiece_114.f k xs 0 (xs.length : Int) 0) (sortP xs xs.length) := by
  simp only [impl_LinePiece_114.f]
  have key : ∀ d n, n + d = xs.length → 1 ≤ n → Ev (fun k => impl_LinePiece_114.l0 k (sortP xs n ++ xs.drop n) 0 (xs.length : Int) (n : Int)) (sortP xs xs.length) := by
    intro d
    induction d with
    | zero =>
      intro n hn _
      simp only [Nat.add_zero] at hn
      subst hn
      refine ev_succ ?_
      simp only [impl_LinePiece_114.l0, Int.lt_irrefl, if_false, List.drop_length, List.append_nil]
      exact ev_now _
    | succ d ih =>
      intro n hn h0
      have hl := sortP_length xs (show n ≤ xs.length by omega)
      have e1 : sortP xs (n + 1) = insP (sortP xs n) (xs.getD n z45) := foldl_take_succ xs _ _ _ (by omega)
      have hd : xs.drop n = xs.getD n z45 :: xs.drop (n + 1) := by rw [List.drop_eq_getElem_cons (by omega), getD_lt _ _ (by omega)]
      have i1 := ih (n + 1) (by omega) (by omega)
      rw [e1, show ((n + 1 : Nat) : Int) = wrap64 ((n : Int) + 1) by rw [w64 (by omega) (by omega)]; omega] at i1
      have l := impl_insertP_loop (sortP xs n) (xs.drop (n + 1)) (xs.getD n z45) (n : Int) (xs.length : Int) (by rw [hl, List.length_drop]; omega) i1 (sortP xs n).length (Nat.le_refl _) rfl
      rw [List.take_length, List.drop_length, hl] at l
      refine ev_succ ?_
      simp only [impl_LinePiece_114.l0, show (n : Int) < (xs.length : Int) by omega, if_true]
      rw [hd]
      simpa using l
  have e0 : xs = sortP xs 1 ++ xs.drop 1 := by
    cases xs with
    | nil => simp at h1
    | cons x xs => simp [sortP, insP, posP]
  have := key (xs.length - 1) 1 (by omega) (by omega)
  rw [← e0] at this
  rw [show wrap64 (0 + 1) = ((1 : Nat) : Int) by unfold wrap64; omega]
  exact this
theorem impl_sortP_ev (xs : List S45) (h : 1 ≤ xs.length ∧ xs.length ≤ 12) : Ev (fun k => impl_LinePiece_51.f k xs 0) (sortP xs xs.length) := by
  simp only [impl_LinePiece_51.f, impl_LinePiece_91.f]
  refine Ev.bind (a := sortP xs xs.length) (ev_succ ?_) (ev_now _)
  simp only [impl_LinePiece_91.l0, show ¬ (20 : Int) ≤ (xs.length : Int) by omega, if_false]
  refine Ev.bind (impl_isortP_ev xs h.1 (by omega)) (ev_succ ?_)
  simp only [impl_LinePiece_91.l1, show ¬ (20 : Int) < (xs.length : Int) by omega, if_false]
  exact ev_now _

theorem lt_lim {n m : Nat} (h : n ≤ m) (hm : m ≤ 1048576) : n < 8796093022208 ∧ n < 17592186044416 := ⟨by omega, by omega⟩
def okP (x : S45) : Bool := pieceB x.f0 x.f1
def strong (need : Int) (x : S45) : Bool := decide (need ≤ x.f0)
/-- One more piece, if a join bears it. -/
def chainS (xs : List S61) (need : Int) (s : List S45 × List Int) (y : S45) : List S45 × List Int :=
  if 0 ≤ bestS xs (mn (s.1.getD (s.1.length - 1) z45).f0 y.f0) need xs.length ∧ (xs.getD (bestS xs (mn (s.1.getD (s.1.length - 1) z45).f0 y.f0) need xs.length).toNat z61).f2 < y.f1
  then (s.1 ++ [y], s.2 ++ [bestS xs (mn (s.1.getD (s.1.length - 1) z45).f0 y.f0) need xs.length]) else s
def chainV (xs : List S61) (need : Int) (o : List S45) : List S45 × List Int := (o.drop 1).foldl (chainS xs need) ([o.getD 0 z45], [])
def orderV (need : Int) (ps : List S45) : List S45 := (ps.filter (strong need)).foldl insP []
def longV (xs : List S61) (ps : List S45) (need : Int) : List S45 × List Int × Int :=
  if joinsB xs = true ∧ ps.all okP = true then
    if ps.length ≤ 12 ∧ 0 ≤ need ∧ need ≤ 1000000 then
      if (ps.filter (strong need)).length = 0 then ([], [], 3) else ((chainV xs need (orderV need ps)).1, (chainV xs need (orderV need ps)).2, 0)
    else ([], [], 2)
  else ([], [], 1)
theorem chainS_len (xs : List S61) (need : Int) (s : List S45 × List Int) (y : S45) : (chainS xs need s y).1.length ≤ s.1.length + 1 ∧ (chainS xs need s y).2.length ≤ s.2.length + 1 ∧ s.1.length ≤ (chainS xs need s y).1.length := by
  unfold chainS; split <;> simp
theorem chain_go (xs : List S61) (need : Int) : ∀ (o : List S45) (s : List S45 × List Int), (o.foldl (chainS xs need) s).1.length ≤ s.1.length + o.length ∧ (o.foldl (chainS xs need) s).2.length ≤ s.2.length + o.length ∧ s.1.length ≤ (o.foldl (chainS xs need) s).1.length
  | [], s => ⟨Nat.le_refl _, Nat.le_refl _, Nat.le_refl _⟩
  | y :: o, s => by
    have i := chain_go xs need o (chainS xs need s y)
    have c := chainS_len xs need s y
    rw [List.foldl_cons, List.length_cons]
    omega
theorem chain_mem (xs : List S61) (need : Int) (P : S45 → Prop) : ∀ (o : List S45) (s : List S45 × List Int), (∀ y ∈ o, P y) → (∀ y ∈ s.1, P y) → ∀ y ∈ (o.foldl (chainS xs need) s).1, P y
  | [], _, _, h => h
  | y :: o, s, ho, h => by
    rw [List.foldl_cons]
    refine chain_mem xs need P o _ (fun z hz => ho z (List.mem_cons_of_mem _ hz)) ?_
    intro z hz
    unfold chainS at hz
    split at hz
    · rcases List.mem_append.1 hz with hz | hz
      · exact h z hz
      · rw [List.mem_singleton] at hz; rw [hz]; exact ho y List.mem_cons_self
    · exact h z hz
theorem order_len (need : Int) (ps : List S45) : (orderV need ps).length = (ps.filter (strong need)).length := by
  unfold orderV; rw [foldP_length]; simp
theorem order_mem (need : Int) {ps : List S45} {y : S45} (h : y ∈ orderV need ps) : y ∈ ps := by
  rcases foldP_mem _ _ h with h | h
  · exact (List.mem_filter.1 h).1
  · simp at h
theorem longV_len (xs : List S61) (ps : List S45) (need : Int) : (longV xs ps need).1.length ≤ 1048576 ∧ (longV xs ps need).2.1.length ≤ 1048576 := by
  unfold longV
  split
  · split
    · rename_i h
      split
      · simp
      · have c := chain_go xs need ((orderV need ps).drop 1) ([(orderV need ps).getD 0 z45], [])
        have o := order_len need ps
        have f := List.length_filter_le (strong need) ps
        rw [List.length_drop] at c
        simp only [List.length_singleton, List.length_nil] at c
        unfold chainV
        dsimp only
        exact ⟨by omega, by omega⟩
    · simp
  · simp
theorem bst_lt (xs : List S61) (m need : Int) : bestS xs m need xs.length < (xs.length : Int) := bestS_lt xs m need xs.length
/-! ### the specification -/
theorem spec_chain_ev (xs : List S61) (hx : xs.length ≤ 1048576) (hb : joinsB xs = true) (need : Int) (hn : 0 ≤ need ∧ need ≤ 1000000) (o : List S45) (ho : ∀ y ∈ o, okP y = true) (h1 : 1 ≤ o.length ∧ o.length ≤ 1048576) :
    Ev (fun k => spec_LongestLine.l3 k xs need o 1 [o.getD 0 z45] []) ((chainV xs need o).1, (chainV xs need o).2, 0) := by
  have key : ∀ (rest : List S45) (pre : List S45) (s : List S45 × List Int), o = pre ++ rest → 1 ≤ s.1.length → s.1.length ≤ pre.length → s.2.length ≤ pre.length → (∀ y ∈ s.1, okP y = true) →
      Ev (fun k => spec_LongestLine.l3 k xs need o (pre.length : Int) s.1 s.2) ((rest.foldl (chainS xs need) s).1, (rest.foldl (chainS xs need) s).2, 0) := by
    intro rest
    induction rest with
    | nil =>
      intro pre s e _ _ _ _
      have : (pre.length : Int) = (o.length : Int) := by rw [e]; simp
      refine ev_succ ?_
      simp only [spec_LongestLine.l3, this, Int.lt_irrefl, if_false, List.foldl_nil]
      exact ev_now _
    | cons y rest ih =>
      intro pre s e l1 l2 l3 hs
      have ol : o.length = pre.length + (rest.length + 1) := by rw [e]; simp
      have gy : o.getD pre.length z45 = y := by rw [e]; simp [List.getD_eq_getElem?_getD]
      have q1 := lt_lim (show s.1.length ≤ o.length by omega) (by omega)
      have q2 := lt_lim (show s.2.length ≤ o.length by omega) (by omega)
      have cs := chainS_len xs need s y
      have cm := chain_mem xs need (fun y => okP y = true) [y] s (fun z hz => by rw [List.mem_singleton] at hz; subst hz; exact ho z (by rw [e]; simp)) hs
      have i := ih (pre ++ [y]) (chainS xs need s y) (by rw [e]; simp) (by omega) (by rw [List.length_append, List.length_singleton]; omega) (by rw [List.length_append, List.length_singleton]; omega) cm
      rw [List.length_append, List.length_singleton] at i
      have w1 : wrap64 ((s.1.length : Int) - 1) = ((s.1.length - 1 : Nat) : Int) := by rw [w64 (by omega) (by omega)]; omega
      have w2 : wrap64 ((pre.length : Int) + 1) = ((pre.length + 1 : Nat) : Int) := by rw [w64 (by omega) (by omega)]; omega
      have oy : okP y = true := ho y (by rw [e]; simp)
      have ol1 : okP (s.1.getD (s.1.length - 1) z45) = true := hs _ (by rw [getD_lt _ _ (by omega)]; exact List.getElem_mem _)
      have bj := spec_BestJoin_ok xs hx hb (s.1.getD (s.1.length - 1) z45).f0 (s.1.getD (s.1.length - 1) z45).f1 y.f0 y.f1 need ol1 oy hn
      have bl := bst_lt xs (mn (s.1.getD (s.1.length - 1) z45).f0 y.f0) need
      rw [List.foldl_cons]
      refine ev_succ ?_
      simp only [spec_LongestLine.l3, show (pre.length : Int) < (o.length : Int) by omega, w1, show (0 : Int) ≤ ((s.1.length - 1 : Nat) : Int) from Int.natCast_nonneg _, show ((s.1.length - 1 : Nat) : Int) < (s.1.length : Int) by omega, show (0 : Int) ≤ (pre.length : Int) from Int.natCast_nonneg _, if_true, rd_T45, rd_T61, Int.toNat_natCast, gy, w2, q1.1, q2.2]
      refine Ev.bind bj ?_
      unfold chainS at i ⊢
      unfold bestV
      generalize bestS xs (mn (s.1.getD (s.1.length - 1) z45).f0 y.f0) need xs.length = b at bl i ⊢
      by_cases h : b < 0
      · simp only [show ¬ 0 ≤ b by omega, false_and, if_false] at i
        simp only [h, if_true, show ¬ (3 : Int) = 0 by decide, if_false, show ¬ 0 ≤ b by omega, false_and]
        exact i
      · by_cases h2 : (xs.getD b.toNat z61).f2 < y.f1
        · simp only [show 0 ≤ b by omega, h2, and_self, if_true] at i
          simp only [h, if_false, if_true, show 0 ≤ b by omega, bl, h2, and_self]
          exact i
        · simp only [h2, and_false, if_false] at i
          simp only [h, if_false, if_true, show 0 ≤ b by omega, bl, h2, and_false]
          exact i
  have e : o = [o.getD 0 z45] ++ o.drop 1 := by
    cases o with
    | nil => simp at h1
    | cons x o => simp
  have := key (o.drop 1) [o.getD 0 z45] ([o.getD 0 z45], []) e (by simp) (by simp) (by simp) (fun y hy => ho y (by rw [e]; simp at hy ⊢; exact .inl hy))
  exact this
theorem spec_ins_loop (xs : List S61) (ps : List S45) (need : Int) (out : List S45) (n : Nat) (hn : n < ps.length) (hp : ps.length ≤ 12) (hl : out.length ≤ 12) {r : List S45 × List Int × Int}
    (hr : Ev (fun k => spec_LongestLine.l1 k xs ps need (insP out (ps.getD n z45)) ((n + 1 : Nat) : Int)) r) : ∀ m, m ≤ out.length → posP out (ps.getD n z45) m = posP out (ps.getD n z45) out.length →
    Ev (fun k => spec_LongestLine.l2 k xs ps need out (n : Int) (m : Int)) r := by
  have fin : ∀ m : Nat, m ≤ out.length → m = posP out (ps.getD n z45) out.length → Ev (fun k => spec_LongestLine.j4 k xs ps need out (n : Int) (m : Int) false) r := by
    intro m hm he
    have e : insP out (ps.getD n z45) = out.take m ++ [ps.getD n z45] ++ out.drop m := by unfold insP; rw [← he]
    rw [e] at hr
    refine ev_succ ?_
    simp only [spec_LongestLine.j4, Bool.false_eq_true, if_false, Option.bind_some, List.length_nil, List.nil_append, show (0 : Int) ≤ (m : Int) from Int.natCast_nonneg _, show (m : Int) ≤ (out.length : Int) by omega, show (0 : Int) ≤ (n : Int) from Int.natCast_nonneg _, Int.ofNat_lt.2 hn, if_true, Int.toNat_natCast, rd_T45, wnext hn (by omega : ps.length ≤ 9223372036854775807)]
    simp only [List.length_append, List.length_take, List.length_drop, List.length_singleton, show 0 + min m out.length < 8796093022208 by omega, show min m out.length < 8796093022208 by omega, show min m out.length + 1 + (out.length - m) < 8796093022208 by omega, if_true]
    exact hr
  intro m
  induction m with
  | zero =>
    intro hm he
    refine ev_succ ?_
    simp only [spec_LongestLine.l2, show ¬ (((0 : Nat) : Int) > 0) by omega, if_false]
    exact fin 0 hm (by rw [← he]; rfl)
  | succ m ih =>
    intro hm he
    have w1 : wrap64 (((m + 1 : Nat) : Int) - 1) = (m : Int) := by rw [w64 (by omega) (by omega)]; omega
    refine ev_succ ?_
    simp only [spec_LongestLine.l2, w1, show ((m + 1 : Nat) : Int) > 0 by omega, show (0 : Int) ≤ (m : Int) from Int.natCast_nonneg _, show (m : Int) < (out.length : Int) by omega, show (0 : Int) ≤ (n : Int) from Int.natCast_nonneg _, Int.ofNat_lt.2 hn, if_true, rd_T45, Int.toNat_natCast]
    have yes : bfP (ps.getD n z45) (out.getD m z45) = true → Ev (fun k => spec_LongestLine.j4 k xs ps need out (n : Int) ((m + 1 : Nat) : Int) true) r := by
      intro h
      have e2 : posP out (ps.getD n z45) m = posP out (ps.getD n z45) out.length := by rw [← he]; show _ = (if _ then _ else _); rw [if_pos h]
      refine ev_succ ?_
      simp only [spec_LongestLine.j4, if_true, w1]
      exact ih (by omega) e2
    have no : ¬ bfP (ps.getD n z45) (out.getD m z45) = true → Ev (fun k => spec_LongestLine.j4 k xs ps need out (n : Int) ((m + 1 : Nat) : Int) false) r := by
      intro h
      exact fin (m + 1) hm (by rw [← he]; show _ = (if _ then _ else _); rw [if_neg h])
    unfold bfP at yes no
    by_cases h1 : (out.getD m z45).f0 < (ps.getD n z45).f0
    · simp only [h1, if_true]; exact yes (by rw [decide_eq_true_eq]; omega)
    · simp only [h1, if_false]
      by_cases h2 : (out.getD m z45).f0 = (ps.getD n z45).f0
      · simp only [h2, if_true]
        by_cases h3 : (out.getD m z45).f1 < (ps.getD n z45).f1
        · simp only [h3, decide_true]; exact yes (by rw [decide_eq_true_eq]; omega)
        · simp only [h3, decide_false]; exact no (by rw [decide_eq_true_eq]; omega)
      · simp only [h2, if_false]; exact no (by rw [decide_eq_true_eq]; omega)
theorem filter_take_succ {α : Type} (p : α → Bool) (xs : List α) (z : α) {n : Nat} (h : n < xs.length) : (xs.take (n + 1)).filter p = if p (xs.getD n z) = true then (xs.take n).filter p ++ [xs.getD n z] else (xs.take n).filter p := by
  rw [List.take_succ_eq_append_getElem h, List.filter_append, getD_lt _ _ h]
  by_cases hb : p xs[n] = true
  · rw [if_pos hb]; simp [hb]
  · rw [if_neg hb]; simp [hb]
theorem spec_order_ev (xs : List S61) (hx : xs.length ≤ 1048576) (hb : joinsB xs = true) (ps : List S45) (hp : ps.length ≤ 12) (hv : ps.all okP = true) (need : Int) (hn : 0 ≤ need ∧ need ≤ 1000000) :
    Ev (fun k => spec_LongestLine.l1 k xs ps need [] 0) (if (ps.filter (strong need)).length = 0 then ([], [], 3) else ((chainV xs need (orderV need ps)).1, (chainV xs need (orderV need ps)).2, 0)) := by
  refine ev_fold (len := ps.length) (g := fun k (s : List S45) i => spec_LongestLine.l1 k xs ps need s i) (fun n s => if strong need (ps.getD n z45) = true then insP s (ps.getD n z45) else s) (fun n => ((ps.take n).filter (strong need)).foldl insP []) _ ?_ ?_ ?_
  · intro n hn'
    rw [filter_take_succ _ _ z45 hn']
    split
    · rw [List.foldl_append]; rfl
    · rfl
  · intro n hn' r hr
    refine ev_succ ?_
    simp only [spec_LongestLine.l1, Int.ofNat_lt.2 hn', show (0 : Int) ≤ (n : Int) from Int.natCast_nonneg _, if_true, rd_T45, Int.toNat_natCast, wnext hn' (by omega : ps.length ≤ 9223372036854775807)]
    by_cases h : (ps.getD n z45).f0 < need
    · have hs : ¬ strong need (ps.getD n z45) = true := by unfold strong; rw [decide_eq_true_eq]; omega
      simp only [hs, Bool.false_eq_true, if_false] at hr
      simp only [h, if_true]
      exact hr
    · have hs : strong need (ps.getD n z45) = true := by unfold strong; rw [decide_eq_true_eq]; omega
      simp only [hs, if_true] at hr
      simp only [h, if_false]
      have fl := foldP_length ((ps.take n).filter (strong need)) []
      have f2 := List.length_filter_le (strong need) (ps.take n)
      rw [List.length_take] at f2
      rw [List.length_nil] at fl
      exact spec_ins_loop xs ps need _ n hn' hp (by omega) hr _ (Nat.le_refl _) rfl
  · refine ev_succ ?_
    rw [List.take_length]
    show Ev (fun k => spec_LongestLine.l1 (k + 1) xs ps need (orderV need ps) (ps.length : Int)) _
    have ol := order_len need ps
    simp only [spec_LongestLine.l1, Int.lt_irrefl, if_false]
    by_cases h : (ps.filter (strong need)).length = 0
    · simp only [h, if_true, show ((orderV need ps).length : Int) = 0 by omega]; exact ev_now _
    · have f := List.length_filter_le (strong need) ps
      simp only [h, if_false, show ¬ ((orderV need ps).length : Int) = 0 by omega, show (0 : Int) < ((orderV need ps).length : Int) by omega, if_true, rd_T45, show ((0 : Int)).toNat = 0 from rfl]
      exact spec_chain_ev xs hx hb need hn _ (fun y hy => List.all_eq_true.1 hv y (order_mem need hy)) (by omega)
theorem all_drop {α : Type} (p : α → Bool) (xs : List α) (z : α) {n : Nat} (h : n < xs.length) : (xs.drop n).all p = (p (xs.getD n z) && (xs.drop (n + 1)).all p) := by
  rw [List.drop_eq_getElem_cons h, List.all_cons, getD_lt _ _ h]
theorem spec_LongestLine_ev (xs : List S61) (hx : xs.length ≤ 1048576) (ps : List S45) (hp : ps.length ≤ 1048576) (need : Int) : Ev (fun k => spec_LongestLine.f k xs ps need) (longV xs ps need) := by
  simp only [spec_LongestLine.f]
  refine Ev.bind (spec_l03Ok_ev xs hx) ?_
  unfold longV
  cases hb : joinsB xs
  · simp only [Bool.false_eq_true, false_and, if_false]; exact ev_now _
  · simp only [if_true, true_and]
    have key : ∀ d n, n + d = ps.length → ∀ R, (((ps.drop n).all okP = true) → Ev (fun k => spec_LongestLine.l0 k xs ps need (ps.length : Int)) R) → Ev (fun k => spec_LongestLine.l0 k xs ps need (n : Int)) (if (ps.drop n).all okP = true then R else ([], [], 1)) := by
      intro d
      induction d with
      | zero =>
        intro n hn R hR
        simp only [Nat.add_zero] at hn
        subst hn
        rw [List.drop_length] at hR ⊢
        rw [if_pos (by rfl)]
        exact hR rfl
      | succ d ih =>
        intro n hn R hR
        have hl : n < ps.length := by omega
        rw [all_drop _ _ z45 hl] at hR ⊢
        refine ev_succ ?_
        simp only [spec_LongestLine.l0, Int.ofNat_lt.2 hl, show (0 : Int) ≤ (n : Int) from Int.natCast_nonneg _, if_true, rd_T45, Int.toNat_natCast, spec_l03Piece_eq, Option.bind_some, wnext hl (by omega : ps.length ≤ 9223372036854775807)]
        unfold okP at hR ⊢
        cases hq : pieceB (ps.getD n z45).f0 (ps.getD n z45).f1
        · simp only [Bool.false_eq_true, if_false, Bool.false_and]; exact ev_now _
        · simp only [hq, if_true, Bool.true_and] at hR ⊢
          exact ih (n + 1) (by omega) R hR
    have last : ps.all okP = true → Ev (fun k => spec_LongestLine.l0 k xs ps need (ps.length : Int)) (if ps.length ≤ 12 ∧ 0 ≤ need ∧ need ≤ 1000000 then if (ps.filter (strong need)).length = 0 then ([], [], 3) else ((chainV xs need (orderV need ps)).1, (chainV xs need (orderV need ps)).2, 0) else ([], [], 2)) := by
      intro hv
      refine ev_succ ?_
      simp only [spec_LongestLine.l0, Int.lt_irrefl, if_false]
      by_cases h1 : ps.length ≤ 12
      · simp only [show ¬ (ps.length : Int) > 12 by omega, if_false, spec_l03Need.f, spec_l00In_eq, Option.bind_some]
        by_cases h2 : 0 ≤ need ∧ need ≤ 1000000
        · simp only [h1, h2, and_self, decide_true, Bool.not_true, if_true]
          refine ev_succ ?_
          simp only [spec_LongestLine.j1, Bool.false_eq_true, if_false]
          exact spec_order_ev xs hx hb ps h1 hv need h2
        · simp only [h1, h2, decide_false, Bool.not_false, and_false, if_false]
          refine ev_succ ?_
          simp only [spec_LongestLine.j1, if_true]
          exact ev_now _
      · simp only [show (ps.length : Int) > 12 by omega, if_true, h1, false_and, if_false]
        refine ev_succ ?_
        simp only [spec_LongestLine.j1, if_true]
        exact ev_now _
    have := key ps.length 0 (by omega) _ (by rw [List.drop_zero]; exact last)
    rw [List.drop_zero] at this
    exact this
/-! ### the program -/
theorem impl_chain_ev (xs : List S61) (hx : xs.length ≤ 1048576) (need : Int) (o : List S45) (h1 : o.length ≤ 1048576) (z0 : S45) :
    Ev (fun k => impl_LongestLine.l1 k xs need o (o.length : Int) 0 [z0] []) ((o.foldl (chainS xs need) ([z0], [])).1, (o.foldl (chainS xs need) ([z0], [])).2, 0) := by
  have key : ∀ (rest : List S45) (pre : List S45) (s : List S45 × List Int), o = pre ++ rest → 1 ≤ s.1.length → s.1.length ≤ pre.length + 1 → s.2.length ≤ pre.length →
      Ev (fun k => impl_LongestLine.l1 k xs need o (o.length : Int) (pre.length : Int) s.1 s.2) ((rest.foldl (chainS xs need) s).1, (rest.foldl (chainS xs need) s).2, 0) := by
    intro rest
    induction rest with
    | nil =>
      intro pre s e _ _ _
      have : (pre.length : Int) = (o.length : Int) := by rw [e]; simp
      refine ev_succ ?_
      simp only [impl_LongestLine.l1, this, Int.lt_irrefl, if_false, List.foldl_nil]
      exact ev_now _
    | cons y rest ih =>
      intro pre s e l1 l2 l3
      have ol : o.length = pre.length + (rest.length + 1) := by rw [e]; simp
      have gy : o.getD pre.length z45 = y := by rw [e]; simp [List.getD_eq_getElem?_getD]
      have q1 := lt_lim (show s.1.length ≤ o.length by omega) (by omega)
      have q2 := lt_lim (show s.2.length ≤ o.length by omega) (by omega)
      have cs := chainS_len xs need s y
      have i := ih (pre ++ [y]) (chainS xs need s y) (by rw [e]; simp) (by omega) (by rw [List.length_append, List.length_singleton]; omega) (by rw [List.length_append, List.length_singleton]; omega)
      rw [List.length_append, List.length_singleton] at i
      have w1 : wrap64 ((s.1.length : Int) - 1) = ((s.1.length - 1 : Nat) : Int) := by rw [w64 (by omega) (by omega)]; omega
      have w2 : wrap64 ((pre.length : Int) + 1) = ((pre.length + 1 : Nat) : Int) := by rw [w64 (by omega) (by omega)]; omega
      have bj := impl_best_loop xs hx need (s.1.getD (s.1.length - 1) z45).f0 (s.1.getD (s.1.length - 1) z45).f1 y.f0 y.f1
      have bl := bst_lt xs (mn (s.1.getD (s.1.length - 1) z45).f0 y.f0) need
      rw [List.foldl_cons]
      refine ev_succ ?_
      simp only [impl_LongestLine.l1, show (pre.length : Int) < (o.length : Int) by omega, w1, show (0 : Int) ≤ ((s.1.length - 1 : Nat) : Int) from Int.natCast_nonneg _, show ((s.1.length - 1 : Nat) : Int) < (s.1.length : Int) by omega, show (0 : Int) ≤ (pre.length : Int) from Int.natCast_nonneg _, if_true, rd_T45, rd_T61, Int.toNat_natCast, gy, w2, q1.1, q2.2]
      refine Ev.bind bj ?_
      unfold chainS at i ⊢
      generalize bestS xs (mn (s.1.getD (s.1.length - 1) z45).f0 y.f0) need xs.length = b at bl i ⊢
      by_cases h : b ≥ 0
      · by_cases h2 : (xs.getD b.toNat z61).f2 < y.f1
        · simp only [show 0 ≤ b by omega, h2, and_self, if_true] at i
          simp only [h, if_true, show 0 ≤ b by omega, bl, h2, and_self]
          exact i
        · simp only [h2, and_false, if_false] at i
          simp only [h, if_false, if_true, show 0 ≤ b by omega, bl, h2, and_false]
          exact i
      · simp only [show ¬ 0 ≤ b by omega, false_and, if_false] at i
        simp only [h, if_false, show ¬ 0 ≤ b by omega, false_and]
        exact i
  exact key o [] ([z0], []) rfl (by simp) (by simp) (by simp)
theorem impl_rest_ev (xs : List S61) (hx : xs.length ≤ 1048576) (need : Int) (q : List S45) (hq : q.length ≤ 12) :
    Ev (fun k => impl_LongestLine.j1 k xs need q false) (if q.length = 0 then ([], [], 3) else ((chainV xs need (q.foldl insP [])).1, (chainV xs need (q.foldl insP [])).2, 0)) := by
  refine ev_succ ?_
  simp only [impl_LongestLine.j1, Bool.false_eq_true, if_false]
  by_cases h : q.length = 0
  · simp only [h, if_true, show ((0 : Nat) : Int) = 0 from rfl]; exact ev_now _
  · simp only [h, if_false, show ¬ (q.length : Int) = 0 by omega]
    have so := impl_sortP_ev q (by omega)
    have sl := sortP_length q (Nat.le_refl _)
    have se : sortP q q.length = q.foldl insP [] := by unfold sortP; rw [List.take_length]
    rw [se] at so sl
    refine Ev.bind so ?_
    simp only [show (0 : Int) < (q.length : Int) by omega, show (1 : Int) ≤ (q.length : Int) by omega, if_true, Option.bind_some, rd_T45, show ((0 : Int)).toNat = 0 from rfl]
    exact impl_chain_ev xs hx need _ (by rw [List.length_drop]; omega) _
theorem impl_LongestLine_ev (xs : List S61) (hx : xs.length ≤ 1048576) (ps : List S45) (hp : ps.length ≤ 1048576) (need : Int) : Ev (fun k => impl_LongestLine.f k xs ps need) (longV xs ps need) := by
  simp only [impl_LongestLine.f]
  refine Ev.bind (impl_ValidJoins_ev xs hx) ?_
  unfold longV
  cases hb : joinsB xs
  · simp only [Bool.false_eq_true, false_and, if_false]; exact ev_now _
  · simp only [if_true, true_and]
    have key : ∀ d n, n + d = ps.length → ∀ R, (((ps.drop n).all okP = true) → Ev (fun k => impl_LongestLine.l0 k xs ps need (ps.filter (strong need)) ps (ps.length : Int) (ps.length : Int)) R) → Ev (fun k => impl_LongestLine.l0 k xs ps need ((ps.take n).filter (strong need)) ps (ps.length : Int) (n : Int)) (if (ps.drop n).all okP = true then R else ([], [], 1)) := by
      intro d
      induction d with
      | zero =>
        intro n hn R hR
        simp only [Nat.add_zero] at hn
        subst hn
        rw [List.drop_length] at hR ⊢
        rw [if_pos (by rfl), List.take_length]
        exact hR rfl
      | succ d ih =>
        intro n hn R hR
        have hl : n < ps.length := by omega
        have fl := List.length_filter_le (strong need) (ps.take n)
        rw [List.length_take] at fl
        rw [all_drop _ _ z45 hl] at hR ⊢
        have i := fun h => ih (n + 1) (by omega) R h
        rw [filter_take_succ _ _ z45 hl] at i
        refine ev_succ ?_
        simp only [impl_LongestLine.l0, Int.ofNat_lt.2 hl, show (0 : Int) ≤ (n : Int) from Int.natCast_nonneg _, if_true, rd_T45, Int.toNat_natCast, impl_validPiece_eq, Option.bind_some, wnext hl (by omega : ps.length ≤ 9223372036854775807), show ((ps.take n).filter (strong need)).length < 8796093022208 by omega]
        unfold okP at hR i ⊢
        cases hq : pieceB (ps.getD n z45).f0 (ps.getD n z45).f1
        · simp only [Bool.false_eq_true, if_false, Bool.false_and]; exact ev_now _
        · simp only [hq, if_true, Bool.true_and] at hR ⊢
          by_cases hs : (ps.getD n z45).f0 ≥ need
          · have h2 : strong need (ps.getD n z45) = true := by unfold strong; rw [decide_eq_true_eq]; omega
            rw [if_pos h2] at i
            simp only [hs, if_true]
            exact i hR
          · have h2 : ¬ strong need (ps.getD n z45) = true := by unfold strong; rw [decide_eq_true_eq]; omega
            rw [if_neg h2] at i
            simp only [hs, if_false]
            exact i hR
    have last : Ev (fun k => impl_LongestLine.l0 k xs ps need (ps.filter (strong need)) ps (ps.length : Int) (ps.length : Int)) (if ps.length ≤ 12 ∧ 0 ≤ need ∧ need ≤ 1000000 then if (ps.filter (strong need)).length = 0 then ([], [], 3) else ((chainV xs need (orderV need ps)).1, (chainV xs need (orderV need ps)).2, 0) else ([], [], 2)) := by
      have fl := List.length_filter_le (strong need) ps
      refine ev_succ ?_
      simp only [impl_LongestLine.l0, Int.lt_irrefl, if_false, impl_within_eq, Option.bind_some]
      by_cases h2 : 0 ≤ need ∧ need ≤ 1000000
      · by_cases h1 : ps.length ≤ 12
        · simp only [h1, h2, and_self, decide_true, if_true, show decide ((ps.length : Int) > 12) = false from decide_eq_false (by omega)]
          exact impl_rest_ev xs hx need _ (by omega)
        · simp only [h1, h2, and_self, decide_true, if_true, false_and, if_false, show decide ((ps.length : Int) > 12) = true from decide_eq_true (by omega)]
          refine ev_succ ?_
          simp only [impl_LongestLine.j1, if_true]
          exact ev_now _
      · simp only [h2, decide_false, Bool.false_eq_true, and_false, if_false]
        refine ev_succ ?_
        simp only [impl_LongestLine.j1, if_true]
        exact ev_now _
    have := key ps.length 0 (by omega) _ (fun _ => last)
    rw [List.drop_zero] at this
    exact this

def addP (s : Int) (p : S45) : Int := wrap64 (s + p.f1)
def subJ (xs : List S61) (s : Int) (j : Int) : Int := wrap64 (s - (xs.getD j.toNat z61).f2)
def lenV (xs : List S61) (ps : List S45) (js : List Int) : Int := js.foldl (subJ xs) (ps.foldl addP 0)
def inJ (xs : List S61) (j : Int) : Bool := decide (0 ≤ j ∧ j ≤ (xs.length : Int) - 1)
def lineB (xs : List S61) (ps : List S45) (js : List Int) : Bool :=
  decide (1 ≤ ps.length ∧ ps.length ≤ 12) && (decide ((js.length : Int) = (ps.length : Int) - 1) && (ps.all (fun p => pieceB p.f0 p.f1) && (js.all (inJ xs) && decide (lenV xs ps js ≥ 1))))
theorem inJ_of (xs : List S61) (js : List Int) (h : (js.all (inJ xs)) = true) {n : Nat} (hn : n < js.length) : 0 ≤ js.getD n 0 ∧ js.getD n 0 < (xs.length : Int) := by
  rw [List.all_eq_true] at h
  have := h (js[n]) (List.getElem_mem hn)
  rw [getD_lt js 0 hn]
  simp only [inJ, decide_eq_true_eq] at this
  omega
theorem spec_l03LengthAt_ev (xs : List S61) (ps : List S45) (js : List Int) (hp : ps.length ≤ 1048576) (hq : js.length ≤ 1048576) (h : (js.all (inJ xs)) = true) :
    Ev (fun k => spec_l03LengthAt.f k xs [(⟨ps, js⟩ : S29)]) (lenV xs ps js) := by
  have e0 : rd_T29 [(⟨ps, js⟩ : S29)] 0 = ⟨ps, js⟩ := rfl
  have l0 : (0 : Int) < (([(⟨ps, js⟩ : S29)]).length : Int) := by simp
  simp only [spec_l03LengthAt.f]
  refine ev_foldl ps z45 addP 0 (g := fun k s i => spec_l03LengthAt.l0 k xs [(⟨ps, js⟩ : S29)] s i) (fun s => js.foldl (subJ xs) s) ?_ ?_
  · intro n hn s hs r hr
    refine ev_succ ?_
    simp only [spec_l03LengthAt.l0, e0, l0, Int.ofNat_lt.2 hn, show (0 : Int) ≤ (n : Int) from Int.natCast_nonneg _, if_true, rd_T45, Int.toNat_natCast, wnext hn (by omega : ps.length ≤ 9223372036854775807)]
    exact hr
  · refine ev_succ ?_
    simp only [spec_l03LengthAt.l0, e0, l0, Int.lt_irrefl, if_true, if_false]
    refine ev_foldl js 0 (subJ xs) _ (g := fun k s i => spec_l03LengthAt.l1 k xs [(⟨ps, js⟩ : S29)] s i) (fun s => s) ?_ ?_
    · intro n hn s hs r hr
      have hj := inJ_of xs js h hn
      refine ev_succ ?_
      simp only [spec_l03LengthAt.l1, e0, l0, Int.ofNat_lt.2 hn, show (0 : Int) ≤ (n : Int) from Int.natCast_nonneg _, if_true, rd, rd_T61, Int.toNat_natCast, hj.1, hj.2, wnext hn (by omega : js.length ≤ 9223372036854775807)]
      exact hr
    · refine ev_succ ?_
      simp only [spec_l03LengthAt.l1, e0, l0, Int.lt_irrefl, if_true, if_false]
      exact ev_now _
theorem impl_lineLength_ev (xs : List S61) (ps : List S45) (js : List Int) (hp : ps.length ≤ 1048576) (hq : js.length ≤ 1048576) (h : (js.all (inJ xs)) = true) :
    Ev (fun k => impl_lineLength.f k xs ps js) (lenV xs ps js) := by
  simp only [impl_lineLength.f]
  refine ev_foldl ps z45 addP 0 (g := fun k s i => impl_lineLength.l0 k xs s ps (ps.length : Int) i ps js) (fun s => js.foldl (subJ xs) s) ?_ ?_
  · intro n hn s hs r hr
    refine ev_succ ?_
    simp only [impl_lineLength.l0, Int.ofNat_lt.2 hn, show (0 : Int) ≤ (n : Int) from Int.natCast_nonneg _, if_true, rd_T45, Int.toNat_natCast, wnext hn (by omega : ps.length ≤ 9223372036854775807)]
    exact hr
  · refine ev_succ ?_
    simp only [impl_lineLength.l0, Int.lt_irrefl, if_false]
    refine ev_foldl js 0 (subJ xs) _ (g := fun k s i => impl_lineLength.l1 k xs s js (js.length : Int) i) (fun s => s) ?_ ?_
    · intro n hn s hs r hr
      have hj := inJ_of xs js h hn
      refine ev_succ ?_
      simp only [impl_lineLength.l1, Int.ofNat_lt.2 hn, show (0 : Int) ≤ (n : Int) from Int.natCast_nonneg _, if_true, rd, rd_T61, Int.toNat_natCast, hj.1, hj.2, wnext hn (by omega : js.length ≤ 9223372036854775807)]
      exact hr
    · refine ev_succ ?_
      simp only [impl_lineLength.l1, Int.lt_irrefl, if_false]
      exact ev_now _
theorem spec_l03LineAt_ev (xs : List S61) (hx : xs.length ≤ 1048576) (ps : List S45) (js : List Int) (hp : ps.length ≤ 1048576) (hq : js.length ≤ 1048576) :
    Ev (fun k => spec_l03LineAt.f k xs [(⟨ps, js⟩ : S29)]) (joinsB xs && lineB xs ps js) := by
  have e0 : rd_T29 [(⟨ps, js⟩ : S29)] 0 = ⟨ps, js⟩ := rfl
  have l0 : (0 : Int) < (([(⟨ps, js⟩ : S29)]).length : Int) := by simp
  simp only [spec_l03LineAt.f, e0, l0, if_true, spec_l00In_eq, Option.bind_some]
  refine Ev.bind (spec_l03Ok_ev xs hx) ?_
  cases hj : joinsB xs
  · simp only [Bool.false_eq_true, if_false, Bool.false_and]
    refine ev_succ ?_; simp only [spec_l03LineAt.j0, if_true]; exact ev_now _
  simp only [if_true, Bool.true_and]
  unfold lineB
  by_cases h1 : 1 ≤ ps.length ∧ ps.length ≤ 12
  · simp only [show (1 : Int) ≤ (ps.length : Int) ∧ (ps.length : Int) ≤ 12 by omega, h1, and_self, decide_true, if_true, Bool.true_and, w64 (show -9223372036854775808 ≤ (ps.length : Int) - 1 by omega) (show (ps.length : Int) - 1 ≤ 9223372036854775807 by omega)]
    refine ev_succ ?_
    by_cases h2 : (js.length : Int) = (ps.length : Int) - 1
    · simp only [spec_l03LineAt.j0, h2, bne_self_eq_false, Bool.false_eq_true, if_false, decide_true, Bool.true_and]
      have pe : (ps.all fun p => pieceB p.f0 p.f1) = (List.range ps.length).all fun n => pieceB (ps.getD n z45).f0 (ps.getD n z45).f1 := (range_all ps z45 fun p => pieceB p.f0 p.f1).symm
      have je : (js.all (inJ xs)) = (List.range js.length).all fun n => inJ xs (js.getD n 0) := (range_all js 0 (inJ xs)).symm
      rw [pe]
      refine ev_all (len := ps.length) (g := fun k i => spec_l03LineAt.l0 k xs [(⟨ps, js⟩ : S29)] i) _ (js.all (inJ xs) && decide (lenV xs ps js ≥ 1)) ?_ ?_ ?_
      · intro n hn hb r hr
        refine ev_succ ?_
        simp only [spec_l03LineAt.l0, e0, l0, spec_l03Piece_eq, Option.bind_some, Int.ofNat_lt.2 hn, show (0 : Int) ≤ (n : Int) from Int.natCast_nonneg _, if_true, rd_T45, Int.toNat_natCast, hb, wnext hn (by omega : ps.length ≤ 9223372036854775807)]
        exact hr
      · intro n hn hb
        refine ev_succ ?_
        simp only [spec_l03LineAt.l0, e0, l0, spec_l03Piece_eq, Option.bind_some, Int.ofNat_lt.2 hn, show (0 : Int) ≤ (n : Int) from Int.natCast_nonneg _, if_true, rd_T45, Int.toNat_natCast, hb, Bool.false_eq_true, if_false]
        exact ev_now _
      · refine ev_succ ?_
        simp only [spec_l03LineAt.l0, e0, l0, Int.lt_irrefl, if_true, if_false]
        rw [je]
        refine ev_all2 (len := js.length) (g := fun k i => spec_l03LineAt.l1 k xs [(⟨ps, js⟩ : S29)] i) (fun n => inJ xs (js.getD n 0)) _ ?_ ?_ ?_
        · intro n hn hb r hr
          refine ev_succ ?_
          simp only [inJ, decide_eq_true_eq] at hb
          simp only [spec_l03LineAt.l1, e0, l0, spec_l00In_eq, Option.bind_some, Int.ofNat_lt.2 hn, show (0 : Int) ≤ (n : Int) from Int.natCast_nonneg _, if_true, rd, Int.toNat_natCast, w64 (show -9223372036854775808 ≤ (xs.length : Int) - 1 by omega) (show (xs.length : Int) - 1 ≤ 9223372036854775807 by omega), hb, decide_true, and_self, wnext hn (by omega : js.length ≤ 9223372036854775807)]
          exact hr
        · intro n hn hb
          refine ev_succ ?_
          simp only [inJ, decide_eq_false_iff_not] at hb
          simp only [spec_l03LineAt.l1, e0, l0, spec_l00In_eq, Option.bind_some, Int.ofNat_lt.2 hn, show (0 : Int) ≤ (n : Int) from Int.natCast_nonneg _, if_true, rd, Int.toNat_natCast, w64 (show -9223372036854775808 ≤ (xs.length : Int) - 1 by omega) (show (xs.length : Int) - 1 ≤ 9223372036854775807 by omega), hb, decide_false, Bool.false_eq_true, if_false]
          exact ev_now _
        · intro hall
          rw [← je] at hall
          refine ev_succ ?_
          simp only [spec_l03LineAt.l1, e0, l0, spec_l00In_eq, Int.lt_irrefl, if_true, if_false]
          exact Ev.bind (spec_l03LengthAt_ev xs ps js hp hq hall) (ev_now _)
    · rw [show ((js.length : Int) != (ps.length : Int) - 1) = true by rw [bne_iff_ne]; exact h2]
      simp only [spec_l03LineAt.j0, h2, if_true, decide_false, Bool.false_and]; exact ev_now _
  · simp only [show ¬ ((1 : Int) ≤ (ps.length : Int) ∧ (ps.length : Int) ≤ 12) by omega, h1, decide_false, Bool.false_eq_true, if_false, Bool.false_and]
    refine ev_succ ?_; simp only [spec_l03LineAt.j0, if_true]; exact ev_now _
theorem impl_validLine_ev (xs : List S61) (hx : xs.length ≤ 1048576) (ps : List S45) (js : List Int) (hp : ps.length ≤ 1048576) (hq : js.length ≤ 1048576) :
    Ev (fun k => impl_validLine.f k xs ps js) (lineB xs ps js) := by
  simp only [impl_validLine.f]
  unfold lineB
  by_cases h1 : 1 ≤ ps.length ∧ ps.length ≤ 12
  · simp only [show ¬ (ps.length : Int) < 1 by omega, show ¬ (ps.length : Int) > 12 by omega, if_false, h1, and_self, decide_true, Bool.true_and, w64 (show -9223372036854775808 ≤ (ps.length : Int) - 1 by omega) (show (ps.length : Int) - 1 ≤ 9223372036854775807 by omega)]
    refine ev_succ ?_
    by_cases h2 : (js.length : Int) = (ps.length : Int) - 1
    · simp only [impl_validLine.j0, h2, bne_self_eq_false, Bool.false_eq_true, if_false, decide_true, Bool.true_and]
      have pe : (ps.all fun p => pieceB p.f0 p.f1) = (List.range ps.length).all fun n => pieceB (ps.getD n z45).f0 (ps.getD n z45).f1 := (range_all ps z45 fun p => pieceB p.f0 p.f1).symm
      have je : (js.all (inJ xs)) = (List.range js.length).all fun n => inJ xs (js.getD n 0) := (range_all js 0 (inJ xs)).symm
      rw [pe]
      refine ev_all (len := ps.length) (g := fun k i => impl_validLine.l0 k xs ps (ps.length : Int) i ps js) _ (js.all (inJ xs) && decide (lenV xs ps js ≥ 1)) ?_ ?_ ?_
      · intro n hn hb r hr
        refine ev_succ ?_
        simp only [impl_validLine.l0, impl_validPiece_eq, Option.bind_some, Int.ofNat_lt.2 hn, show (0 : Int) ≤ (n : Int) from Int.natCast_nonneg _, if_true, rd_T45, Int.toNat_natCast, hb, wnext hn (by omega : ps.length ≤ 9223372036854775807)]
        exact hr
      · intro n hn hb
        refine ev_succ ?_
        simp only [impl_validLine.l0, impl_validPiece_eq, Option.bind_some, Int.ofNat_lt.2 hn, show (0 : Int) ≤ (n : Int) from Int.natCast_nonneg _, if_true, rd_T45, Int.toNat_natCast, hb, Bool.false_eq_true, if_false]
        exact ev_now _
      · refine ev_succ ?_
        simp only [impl_validLine.l0, Int.lt_irrefl, if_false]
        rw [je]
        refine ev_all2 (len := js.length) (g := fun k i => impl_validLine.l1 k xs js (js.length : Int) i ps js) (fun n => inJ xs (js.getD n 0)) _ ?_ ?_ ?_
        · intro n hn hb r hr
          refine ev_succ ?_
          simp only [inJ, decide_eq_true_eq] at hb
          simp only [impl_validLine.l1, impl_within_eq, Option.bind_some, Int.ofNat_lt.2 hn, show (0 : Int) ≤ (n : Int) from Int.natCast_nonneg _, if_true, rd, Int.toNat_natCast, w64 (show -9223372036854775808 ≤ (xs.length : Int) - 1 by omega) (show (xs.length : Int) - 1 ≤ 9223372036854775807 by omega), hb, decide_true, and_self, wnext hn (by omega : js.length ≤ 9223372036854775807)]
          exact hr
        · intro n hn hb
          refine ev_succ ?_
          simp only [inJ, decide_eq_false_iff_not] at hb
          simp only [impl_validLine.l1, impl_within_eq, Option.bind_some, Int.ofNat_lt.2 hn, show (0 : Int) ≤ (n : Int) from Int.natCast_nonneg _, if_true, rd, Int.toNat_natCast, w64 (show -9223372036854775808 ≤ (xs.length : Int) - 1 by omega) (show (xs.length : Int) - 1 ≤ 9223372036854775807 by omega), hb, decide_false, Bool.false_eq_true, if_false]
          exact ev_now _
        · intro hall
          rw [← je] at hall
          refine ev_succ ?_
          simp only [impl_validLine.l1, impl_within_eq, Int.lt_irrefl, if_true, if_false]
          exact Ev.bind (impl_lineLength_ev xs ps js hp hq hall) (ev_now _)
    · rw [show ((js.length : Int) != (ps.length : Int) - 1) = true by rw [bne_iff_ne]; exact h2]
      simp only [impl_validLine.j0, h2, if_true, decide_false, Bool.false_and]; exact ev_now _
  · simp only [h1, decide_false, Bool.false_and]
    by_cases h3 : (ps.length : Int) < 1
    · simp only [h3, if_true]
      refine ev_succ ?_; simp only [impl_validLine.j0, if_true]; exact ev_now _
    · simp only [h3, show (ps.length : Int) > 12 by omega, if_true, if_false]
      refine ev_succ ?_; simp only [impl_validLine.j0, if_true]; exact ev_now _

theorem impl_gcd_loop (m : Nat) : ∀ a b : Int, b.toNat = m → 0 ≤ a → 0 ≤ b → Ev (fun k => impl_gcd.l0 k a b) (Nat.gcd a.toNat b.toNat : Nat) := by
  induction m using Nat.strongRecOn with
  | _ m ih =>
    intro a b hm ha hb
    refine ev_succ ?_
    by_cases h : b = 0
    · subst h
      simp only [impl_gcd.l0, if_true]
      exact ev_to (ev_now _) (by simp; omega)
    · obtain ⟨h1, h2, h3⟩ := gcd_step (a := a) (b := b) ha (by omega)
      simp only [impl_gcd.l0, h, if_false]
      exact ev_to (ih _ (by omega) b _ rfl hb h1) (by rw [h3])
theorem impl_gcd_ev (n d : Int) (hn : -4611686018427387904 ≤ n ∧ n ≤ 4611686018427387904) (hd : 0 ≤ d) : Ev (fun k => impl_gcd.f k n d) (Int.gcd n d : Nat) := by
  have g := impl_gcd_loop d.toNat (n.natAbs : Int) d rfl (by omega) (by omega)
  have eg : Nat.gcd ((n.natAbs : Int)).toNat d.toNat = Int.gcd n d := by rw [Int.gcd, Int.toNat_natCast]; congr 1; omega
  rw [eg] at g
  simp only [impl_gcd.f]
  by_cases h : n < 0
  · simp only [h, if_true]
    refine ev_succ ?_
    simp only [impl_gcd.j0]
    rw [w64 (by omega) (by omega), show -n = (n.natAbs : Int) by omega]
    exact g
  · simp only [h, if_false]
    refine ev_succ ?_
    simp only [impl_gcd.j0]
    rw [show (n : Int) = (n.natAbs : Int) by omega]
    rw [show ((n.natAbs : Int)).gcd d = n.gcd d by simp [Int.gcd]]
    exact g
theorem impl_fraction_ev (n d : Int) (hn : -4611686018427387904 ≤ n ∧ n ≤ 4611686018427387904) (hd : 0 < d ∧ d ≤ 4611686018427387904) : Ev (fun k => impl_fraction.f k n d) (mkF n d) := by
  simp only [impl_fraction.f, show ¬ d < 0 by omega, if_false]
  have pos : 0 < Int.gcd n d := Int.gcd_pos_of_ne_zero_right n (by omega)
  refine Ev.bind (impl_gcd_ev n d hn (by omega)) ?_
  have b1 := tdiv_bound n (Int.gcd n d)
  have b2 := tdiv_bound d (Int.gcd n d)
  simp only [show ¬ ((Int.gcd n d : Nat) : Int) = 0 by omega, if_false, w64 (n := Int.tdiv n (Int.gcd n d : Nat)) (by omega) (by omega), w64 (n := Int.tdiv d (Int.gcd n d : Nat)) (by omega) (by omega)]
  exact ev_now _

theorem mkF_scale (c n d : Int) (hc : 0 < c) : mkF (c * n) (c * d) = mkF n d := by
  unfold mkF
  have e : (Int.gcd (c * n) (c * d) : Int) = c * (Int.gcd n d : Int) := by
    rw [Int.gcd_mul_left]; push_cast; rw [Int.natAbs_of_nonneg (by omega)]
  rw [e, Int.mul_tdiv_mul_of_pos _ _ hc, Int.mul_tdiv_mul_of_pos _ _ hc]
theorem mkF_mul (n d : Int) (hd : 0 < d) : ∃ g : Int, 0 < g ∧ n = g * (mkF n d).1 ∧ d = g * (mkF n d).2 := by
  have pos : 0 < Int.gcd n d := Int.gcd_pos_of_ne_zero_right n (by omega)
  exact ⟨(Int.gcd n d : Nat), by omega, (Int.mul_tdiv_cancel' (Int.gcd_dvd_left ..)).symm, (Int.mul_tdiv_cancel' (Int.gcd_dvd_right ..)).symm⟩
theorem pos_of_mul {g x : Int} (hg : 0 < g) (h : 0 < g * x) : 0 < x := by
  rcases Int.lt_or_le 0 x with q | q
  · exact q
  · have := Int.mul_le_mul_of_nonneg_left q (Int.le_of_lt hg); omega
theorem nonneg_of_mul {g x : Int} (hg : 0 < g) (h : 0 ≤ g * x) : 0 ≤ x := by
  rcases Int.lt_or_le x 0 with q | q
  · have := Int.mul_lt_mul_of_pos_left q hg; omega
  · exact q
theorem le_mul_pos {g x : Int} (hg : 0 < g) (hx : 0 ≤ x) : x ≤ g * x := by
  have := Int.mul_le_mul_of_nonneg_right (show (1 : Int) ≤ g by omega) hx; omega
theorem mul_bd {a b A B : Int} (h0 : 0 ≤ a) (h1 : a ≤ A) (h2 : 0 ≤ b) (h3 : b ≤ B) : 0 ≤ a * b ∧ a * b ≤ A * B :=
  ⟨Int.mul_nonneg h0 h2, Int.mul_le_mul h1 h3 h2 (by omega)⟩
theorem mkF_pos (n d : Int) (hn : 0 ≤ n) (hd : 0 < d) : 0 ≤ (mkF n d).1 ∧ (mkF n d).1 ≤ n ∧ 0 < (mkF n d).2 ∧ (mkF n d).2 ≤ d := by
  obtain ⟨g, hg, e1, e2⟩ := mkF_mul n d hd
  have a := nonneg_of_mul hg (show 0 ≤ g * (mkF n d).1 by omega)
  have b := pos_of_mul hg (show 0 < g * (mkF n d).2 by omega)
  have c := le_mul_pos hg a
  have e := le_mul_pos hg (Int.le_of_lt b)
  exact ⟨a, by omega, b, by omega⟩

/-- What a valid line is made of. -/
structure LineOk (xs : List S61) (ps : List S45) (js : List Int) : Prop where
  len : 1 ≤ ps.length ∧ ps.length ≤ 12
  joins : js.length + 1 = ps.length
  str : ∀ n, n < ps.length → 1 ≤ (ps.getD n z45).f0 ∧ (ps.getD n z45).f0 ≤ 1000000
  at_ : ∀ n, n < js.length → 0 ≤ js.getD n 0 ∧ js.getD n 0 < (xs.length : Int)
  share : ∀ n, n < xs.length → 1 ≤ (xs.getD n z61).f1 ∧ (xs.getD n z61).f1 ≤ 1000
theorem lineOk_of {xs : List S61} {ps : List S45} {js : List Int} (h1 : joinsB xs = true) (h2 : lineB xs ps js = true) : LineOk xs ps js := by
  unfold lineB at h2
  simp only [Bool.and_eq_true, decide_eq_true_eq, List.all_eq_true] at h2
  obtain ⟨a, b, c, d, e⟩ := h2
  unfold joinsB at h1
  simp only [Bool.and_eq_true, List.all_eq_true] at h1
  refine ⟨a, by omega, fun n hn => ?_, fun n hn => inJ_of xs js (List.all_eq_true.2 d) hn, fun n hn => ?_⟩
  · have := c _ (List.getElem_mem hn)
    rw [getD_lt _ _ hn]
    unfold pieceB at this
    simp only [Bool.and_eq_true, decide_eq_true_eq] at this
    exact this.1
  · have := h1.1 n (List.mem_range.2 hn)
    unfold joinsP at this
    simp only [Bool.and_eq_true] at this
    have := this.1
    unfold jB joinB at this
    simp only [Bool.and_eq_true, decide_eq_true_eq] at this
    exact this.2.1
/-- A thousand times the strength of join n. -/
def jV (xs : List S61) (ps : List S45) (js : List Int) (n : Nat) : Int := mn (ps.getD n z45).f0 (ps.getD (n + 1) z45).f0 * (xs.getD (js.getD n 0).toNat z61).f1
theorem jV_bd {xs : List S61} {ps : List S45} {js : List Int} (h : LineOk xs ps js) {n : Nat} (hn : n < js.length) : 1 ≤ jV xs ps js n ∧ jV xs ps js n ≤ 1000000000 := by
  have a := h.str n (by have := h.joins; omega)
  have b := h.str (n + 1) (by have := h.joins; omega)
  have c := h.at_ n hn
  have d := h.share (js.getD n 0).toNat (by omega)
  have m : 1 ≤ mn (ps.getD n z45).f0 (ps.getD (n + 1) z45).f0 ∧ mn (ps.getD n z45).f0 (ps.getD (n + 1) z45).f0 ≤ 1000000 := by unfold mn; split <;> omega
  have e := mul_bd (show 0 ≤ mn (ps.getD n z45).f0 (ps.getD (n + 1) z45).f0 by omega) m.2 (show 0 ≤ (xs.getD (js.getD n 0).toNat z61).f1 by omega) d.2
  have f := Int.mul_pos (show 0 < mn (ps.getD n z45).f0 (ps.getD (n + 1) z45).f0 by omega) (show 0 < (xs.getD (js.getD n 0).toNat z61).f1 by omega)
  unfold jV
  omega
theorem impl_strengthAt_ev {xs : List S61} {ps : List S45} {js : List Int} (h : LineOk xs ps js) {n : Nat} (hn : n < js.length) : Ev (fun k => impl_strengthAt.f k xs ps js (n : Int)) (mkF (jV xs ps js n) 1000) := by
  have c := h.at_ n hn
  have b := jV_bd h hn
  have hj := h.joins
  have e1 : wrap64 ((n : Int) + 1) = ((n + 1 : Nat) : Int) := by rw [w64 (by omega) (by have := h.len; omega)]; omega
  simp only [impl_strengthAt.f, show (0 : Int) ≤ (n : Int) from Int.natCast_nonneg _, show (n : Int) < (ps.length : Int) by omega, if_true, e1, show (0 : Int) ≤ ((n + 1 : Nat) : Int) from Int.natCast_nonneg _, show ((n + 1 : Nat) : Int) < (ps.length : Int) by omega, show (n : Int) < (js.length : Int) by omega, rd, rd_T45, rd_T61, Int.toNat_natCast, c.1, c.2]
  show Ev (fun k => (impl_fraction.f k (wrap64 (jV xs ps js n)) 1000).bind _) _
  rw [w64 (n := jV xs ps js n) (by omega) (by omega)]
  exact Ev.bind (impl_fraction_ev _ _ (by omega) (by omega)) (ev_now _)

/-! ### fractions with thousandths -/
theorem mkF_thou (a : Int) : ∃ g : Int, 0 < g ∧ a = g * (mkF a 1000).1 ∧ 1000 = g * (mkF a 1000).2 := mkF_mul a 1000 (by decide)
theorem mkF_inj {a b : Int} (h : mkF a 1000 = mkF b 1000) : a = b := by
  obtain ⟨g, hg, e1, e2⟩ := mkF_thou a
  obtain ⟨g', hg', e1', e2'⟩ := mkF_thou b
  rw [h] at e1 e2
  generalize mkF b 1000 = r at *
  have : g * r.2 = g' * r.2 := by omega
  have hr : r.2 ≠ 0 := by intro h0; rw [h0] at e2; omega
  have : g = g' := Int.eq_of_mul_eq_mul_right hr this
  rw [e1, e1', this]
theorem mkF_whole (m : Int) : mkF (1000 * m) 1000 = (m, 1) := by
  have := mkF_scale 1000 m 1 (by decide)
  rw [Int.mul_one] at this
  rw [this]; unfold mkF; rw [Int.gcd_one]; simp
theorem mkF_one (p : Int) : mkF p 1 = (p, 1) := by
  unfold mkF; rw [Int.gcd_one]; simp
theorem mkF_lt {a b : Int} : (mkF a 1000).1 * (mkF b 1000).2 < (mkF b 1000).1 * (mkF a 1000).2 ↔ a < b := by
  obtain ⟨g, hg, e1, e2⟩ := mkF_thou a
  obtain ⟨g', hg', e1', e2'⟩ := mkF_thou b
  generalize mkF a 1000 = r at *
  generalize mkF b 1000 = s at *
  have hgg := Int.mul_pos hg hg'
  have z1 : (g * g') * (r.1 * s.2) = a * 1000 := by rw [e1, e2']; ac_rfl
  have z2 : (g * g') * (s.1 * r.2) = b * 1000 := by rw [e1', e2]; ac_rfl
  constructor
  · intro h
    have := Int.mul_lt_mul_of_pos_left h hgg
    rw [z1, z2] at this; omega
  · intro h
    refine Int.lt_of_mul_lt_mul_left (a := g * g') ?_ (Int.le_of_lt hgg)
    rw [z1, z2]; omega
/-! ### how two fractions are compared -/
theorem wrapU {n : Int} (h0 : 0 ≤ n) (h1 : n < 18446744073709551616) : IntKind.u64.wrap n = n := by
  simp only [IntKind.wrap, IntKind.bits, IntKind.signed]
  simp
  omega
theorem andU {x : Int} (h0 : 0 ≤ x) (h1 : x < 18446744073709551616) : Go.bits .and .u64 x 4294967295 = x % 4294967296 := by
  have := bits_mask .u64 64 (by decide) (fun n a b => wrapU a (by simpa using b)) 32 (by decide) x h0 (by simpa using h1)
  simpa using this
theorem mul64_small (a b : Int) (ha : 0 ≤ a ∧ a ≤ 4294967295) (hb : 0 ≤ b ∧ b ≤ 4294967295) : bits_Mul64.f a b = some (0, a * b) := by
  have m := mul_bd ha.1 ha.2 hb.1 hb.2
  have a0 : a / 4294967296 = 0 := by omega
  have b0 : b / 4294967296 = 0 := by omega
  simp only [bits_Mul64.f, a0, b0, andU ha.1 (by omega), andU hb.1 (by omega), Int.emod_eq_of_lt ha.1 (show a < 4294967296 by omega), Int.emod_eq_of_lt hb.1 (show b < 4294967296 by omega), Int.zero_mul, Int.mul_zero, Int.zero_add, Int.add_zero]
  have e0 : IntKind.u64.wrap 0 = 0 := wrapU (by decide) (by decide)
  have e1 : IntKind.u64.wrap (a * b) = a * b := wrapU m.1 (by omega)
  simp only [e0, e1, Int.zero_add, Int.add_zero]
  have e2 : IntKind.u64.wrap (a * b / 4294967296) = a * b / 4294967296 := wrapU (by omega) (by omega)
  have e3 : a * b / 4294967296 / 4294967296 = 0 := by omega
  simp only [e2, e3, andU (show 0 ≤ a * b / 4294967296 by omega) (by omega), Int.zero_add]
  have e4 : a * b / 4294967296 % 4294967296 / 4294967296 = 0 := by omega
  have e5 : IntKind.u64.wrap (a * b / 4294967296 % 4294967296) = a * b / 4294967296 % 4294967296 := wrapU (by omega) (by omega)
  simp only [e5, e4, Int.zero_add, e0]
def cmpV (a b : Int) : Int := if a < b then -1 else if a > b then 1 else 0
theorem cmpU_eq (a b : Int) : cmp_Compare_uint64.f a b = some (cmpV a b) := by
  simp only [cmp_Compare_uint64.f, cmp_isNaN_uint64.f, Option.bind_some, bne_self_eq_false, Bool.false_eq_true, if_false]
  unfold cmpV
  split <;> (try split) <;> rfl
theorem cmpI_eq (a b : Int) : cmp_Compare_int64.f a b = some (cmpV a b) := by
  simp only [cmp_Compare_int64.f, cmp_isNaN_int64.f, Option.bind_some, bne_self_eq_false, Bool.false_eq_true, if_false]
  unfold cmpV
  split <;> (try split) <;> rfl
theorem or_ev (b : Int) : Ev (fun k => cmp_Or_int.f k [0, b]) b := by
  simp only [cmp_Or_int.f]
  refine ev_succ (ev_to ?_ rfl)
  simp only [cmp_Or_int.l0, List.length_cons, List.length_nil, show (0 : Int) < ((0 + 1 + 1 : Nat) : Int) by decide, Int.le_refl, if_true, show rd [0, b] 0 = 0 from rfl, show wrap64 (0 + 1) = 1 by unfold wrap64; omega]
  refine ev_succ ?_
  simp only [cmp_Or_int.l0, List.length_cons, List.length_nil, show (1 : Int) < ((0 + 1 + 1 : Nat) : Int) by decide, show (0 : Int) ≤ 1 by decide, if_true, show rd [0, b] 1 = b from rfl, show wrap64 (1 + 1) = 2 by unfold wrap64; omega]
  by_cases h : b = 0
  · simp only [h, if_true]
    refine ev_succ ?_
    simp only [cmp_Or_int.l0, List.length_cons, List.length_nil, show ¬ (2 : Int) < ((0 + 1 + 1 : Nat) : Int) by decide, if_false]
    exact ev_now _
  · simp only [h, if_false]; exact ev_now _
theorem compare_ev (a b c d : Int) (ha : 1 ≤ a ∧ a ≤ 1000000000) (hb : 1 ≤ b ∧ b ≤ 1000000000) (hc : 1 ≤ c ∧ c ≤ 1000000000) (hd : 1 ≤ d ∧ d ≤ 1000000000) : Ev (fun k => impl_compareFractions.f k a b c d) (cmpV (a * d) (c * b)) := by
  have sz : ∀ x : Int, 1 ≤ x ∧ x ≤ 1000000000 → impl_size.f x = some x := by
    intro x hx
    simp only [impl_size.f, show ¬ x < 0 by omega, if_false, wrapU (show 0 ≤ x by omega) (show x < 18446744073709551616 by omega)]
  have sg : ∀ x : Int, 1 ≤ x ∧ x ≤ 1000000000 → impl_sign.f x = some 1 := by
    intro x hx
    simp only [impl_sign.f, show x > 0 by omega, if_true]
  have c0 : cmpV 1 1 = 0 := by decide
  have c1 : cmpV 0 0 = 0 := by decide
  have cb : -1 ≤ cmpV (a * d) (c * b) ∧ cmpV (a * d) (c * b) ≤ 1 := by unfold cmpV; split <;> (try split) <;> omega
  simp only [impl_compareFractions.f, sz a ha, sz b hb, sz c hc, sz d hd, sg a ha, sg c hc, Option.bind_some, cmpI_eq, c0]
  refine Ev.bind (a := cmpV (a * d) (c * b)) ?_ ?_
  · simp only [impl_compareProducts.f, mul64_small a d (by omega) (by omega), mul64_small c b (by omega) (by omega), Option.bind_some, cmpU_eq, c1]
    exact Ev.bind (or_ev _) (ev_now _)
  · rw [Int.one_mul, w64 (by omega) (by omega)]
    exact Ev.bind (or_ev _) (ev_now _)
/-! ### where a line is weakest -/
/-- A loop over the places from n0 on. -/
theorem ev_from {σ ρ : Type} {len n0 : Nat} {g : Nat → σ → Int → Option ρ} (Inv : Nat → σ → Prop) (Post : ρ → Prop) (h0 : n0 ≤ len)
    (round : ∀ n s, n < len → Inv n s → (∃ r, Ev (fun k => g k s (n : Int)) r ∧ Post r) ∨ ∃ s', Inv (n + 1) s' ∧ ∀ r, Ev (fun k => g k s' ((n + 1 : Nat) : Int)) r → Ev (fun k => g k s (n : Int)) r)
    (last : ∀ s, Inv len s → ∃ r, Ev (fun k => g k s (len : Int)) r ∧ Post r) (s : σ) (hi : Inv n0 s) : ∃ r, Ev (fun k => g k s (n0 : Int)) r ∧ Post r := by
  have key : ∀ d n s, n + d = len → Inv n s → ∃ r, Ev (fun k => g k s (n : Int)) r ∧ Post r := by
    intro d
    induction d with
    | zero => intro n s h hi; simp only [Nat.add_zero] at h; subst h; exact last s hi
    | succ d ih =>
      intro n s h hi
      rcases round n s (by omega) hi with h1 | ⟨s', hi', hg⟩
      · exact h1
      · obtain ⟨r, hr, hp⟩ := ih (n + 1) s' (by omega) hi'
        exact ⟨r, hg r hr, hp⟩
  exact key (len - n0) n0 s (by omega) hi
def pV (ps : List S45) (n : Nat) : Int := (ps.getD n z45).f0
def PInv (ps : List S45) (n p : Nat) : Prop := p < n ∧ (∀ j, j < n → pV ps p ≤ pV ps j) ∧ ∀ j, j < p → pV ps p < pV ps j
/-- What spec's search comes to: the kind, the place, the least. -/
def WeakP (xs : List S61) (ps : List S45) (js : List Int) (n : Nat) (r : ByteArray × Int × Int) : Prop :=
  ∃ p, PInv ps ps.length p ∧ ((r = ((⟨#[112, 105, 101, 99, 101]⟩ : ByteArray), (p : Int), 1000 * pV ps p) ∧ ∀ j, j < n → 1000 * pV ps p ≤ jV xs ps js j) ∨
    ∃ a, a < n ∧ r = ((⟨#[106, 111, 105, 110]⟩ : ByteArray), (a : Int), jV xs ps js a) ∧ jV xs ps js a < 1000 * pV ps p ∧ (∀ j, j < n → jV xs ps js a ≤ jV xs ps js j) ∧ ∀ j, j < a → jV xs ps js a < jV xs ps js j)
/-- The least of all, in thousandths. -/
def LeastP (xs : List S61) (ps : List S45) (js : List Int) (n : Nat) (v : Int) : Prop :=
  (∀ j, j < ps.length → v ≤ 1000 * pV ps j) ∧ (∀ j, j < n → v ≤ jV xs ps js j) ∧ ((∃ j, j < ps.length ∧ v = 1000 * pV ps j) ∨ ∃ j, j < n ∧ v = jV xs ps js j)
theorem leastP_uniq {xs : List S61} {ps : List S45} {js : List Int} {n : Nat} {v v' : Int} (h : LeastP xs ps js n v) (h' : LeastP xs ps js n v') : v = v' := by
  have le : ∀ {a b : Int}, LeastP xs ps js n a → LeastP xs ps js n b → a ≤ b := by
    rintro a b ⟨h1, h2, _⟩ ⟨_, _, ⟨j, hj, rfl⟩ | ⟨j, hj, rfl⟩⟩
    · exact h1 j hj
    · exact h2 j hj
  exact Int.le_antisymm (le h h') (le h' h)
theorem weakP_least {xs : List S61} {ps : List S45} {js : List Int} {n : Nat} {r : ByteArray × Int × Int} (h : WeakP xs ps js n r) : LeastP xs ps js n r.2.2 := by
  obtain ⟨p, ⟨h1, h2, h3⟩, ⟨rfl, hm⟩ | ⟨a, ha, rfl, k1, k2, k3⟩⟩ := h
  · exact ⟨fun j hj => by have := h2 j hj; simp only; omega, hm, .inl ⟨p, h1, rfl⟩⟩
  · exact ⟨fun j hj => by have := h2 j hj; simp only; omega, k2, .inr ⟨a, ha, rfl⟩⟩
theorem impl_lineStrength_ev {xs : List S61} {ps : List S45} {js : List Int} (ok : LineOk xs ps js) :
    ∃ v, Ev (fun k => impl_lineStrength.f k xs ps js) (mkF v 1000) ∧ LeastP xs ps js js.length v ∧ 1 ≤ v ∧ v ≤ 1000000000 := by
  have hj := ok.joins
  have hl := ok.len
  have s0 := ok.str 0 (by omega)
  have l1 : ∀ m j0 : Nat, j0 < ps.length → m = j0 → (∀ j, j < ps.length → pV ps m ≤ pV ps j) → ∃ r, Ev (fun k => impl_lineStrength.l1 k xs (js.length : Int) 0 ps js (pV ps m) 1) r ∧ ∃ v, r = mkF v 1000 ∧ LeastP xs ps js js.length v ∧ 1 ≤ v ∧ v ≤ 1000000000 := by
    intro m j0 h0 hm hmin
    subst hm
    have sm := ok.str m h0
    refine ev_loop (len := js.length) (g := fun k (s : Int × Int) i => impl_lineStrength.l1 k xs (js.length : Int) i ps js s.1 s.2) (fun n s => ∃ v, s = mkF v 1000 ∧ LeastP xs ps js n v ∧ 1 ≤ v ∧ v ≤ 1000000000) (fun r => ∃ v, r = mkF v 1000 ∧ LeastP xs ps js js.length v ∧ 1 ≤ v ∧ v ≤ 1000000000) ?_ ?_ (pV ps m, 1) ⟨1000 * pV ps m, (mkF_whole _).symm, ⟨fun j hj => by have := hmin j hj; omega, fun j hj => absurd hj (by omega), .inl ⟨m, h0, rfl⟩⟩, by unfold pV; omega, by unfold pV; omega⟩
    · rintro n s hn ⟨v, rfl, hv, hv1, hv2⟩
      have b := jV_bd ok hn
      have q1 := mkF_pos (jV xs ps js n) 1000 (by omega) (by decide)
      have q2 := mkF_pos v 1000 (by omega) (by decide)
      have f1 : 1 ≤ (mkF (jV xs ps js n) 1000).1 := by
        obtain ⟨g, hg, e1, e2⟩ := mkF_thou (jV xs ps js n)
        have := pos_of_mul hg (show 0 < g * (mkF (jV xs ps js n) 1000).1 by omega); omega
      have f2 : 1 ≤ (mkF v 1000).1 := by
        obtain ⟨g, hg, e1, e2⟩ := mkF_thou v
        have := pos_of_mul hg (show 0 < g * (mkF v 1000).1 by omega); omega
      have ce := compare_ev (mkF (jV xs ps js n) 1000).1 (mkF (jV xs ps js n) 1000).2 (mkF v 1000).1 (mkF v 1000).2 (by omega) (by omega) (by omega) (by omega)
      refine .inr ⟨if jV xs ps js n < v then mkF (jV xs ps js n) 1000 else mkF v 1000, ?_, fun r hr => ?_⟩
      · by_cases hc : jV xs ps js n < v
        · rw [if_pos hc]
          refine ⟨_, rfl, ⟨fun j hj => by have := hv.1 j hj; omega, fun j hj => ?_, .inr ⟨n, by omega, rfl⟩⟩, b.1, b.2⟩
          by_cases hjn : j = n
          · subst hjn; exact Int.le_refl _
          · have := hv.2.1 j (by omega); omega
        · rw [if_neg hc]
          refine ⟨v, rfl, ⟨hv.1, fun j hj => ?_, ?_⟩, hv1, hv2⟩
          · by_cases hjn : j = n
            · subst hjn; omega
            · exact hv.2.1 j (by omega)
          · rcases hv.2.2 with h | ⟨j, hj, h⟩
            · exact .inl h
            · exact .inr ⟨j, by omega, h⟩
      · refine ev_succ ?_
        simp only [impl_lineStrength.l1, Int.ofNat_lt.2 hn, if_true, wnext hn (by omega : js.length ≤ 9223372036854775807)]
        refine Ev.bind (impl_strengthAt_ev ok hn) (Ev.bind ce ?_)
        by_cases hc : jV xs ps js n < v
        · have hx := mkF_lt.2 hc
          simp only [hc, if_true] at hr
          simp only [show cmpV ((mkF (jV xs ps js n) 1000).1 * (mkF v 1000).2) ((mkF v 1000).1 * (mkF (jV xs ps js n) 1000).2) < 0 by unfold cmpV; rw [if_pos hx]; decide, if_true]
          exact hr
        · have hx : ¬ _ := fun h => hc (mkF_lt.1 h)
          simp only [hc, if_false] at hr
          simp only [show ¬ cmpV ((mkF (jV xs ps js n) 1000).1 * (mkF v 1000).2) ((mkF v 1000).1 * (mkF (jV xs ps js n) 1000).2) < 0 by unfold cmpV; rw [if_neg hx]; split <;> decide, if_false]
          exact hr
    · rintro s ⟨v, rfl, hv⟩
      refine ⟨mkF v 1000, ev_succ ?_, v, rfl, hv⟩
      simp only [impl_lineStrength.l1, Int.lt_irrefl, if_false]
      exact ev_now _
  have l0 : ∃ r, Ev (fun k => impl_lineStrength.l0 k xs ps (ps.length : Int) 0 ps js (pV ps 0) 1) r ∧ ∃ v, r = mkF v 1000 ∧ LeastP xs ps js js.length v ∧ 1 ≤ v ∧ v ≤ 1000000000 := by
    refine ev_loop (len := ps.length) (g := fun k (s : Int × Int) i => impl_lineStrength.l0 k xs ps (ps.length : Int) i ps js s.1 s.2) (fun n s => ∃ m, m < ps.length ∧ s = (pV ps m, 1) ∧ ∀ j, j < n → pV ps m ≤ pV ps j) (fun r => ∃ v, r = mkF v 1000 ∧ LeastP xs ps js js.length v ∧ 1 ≤ v ∧ v ≤ 1000000000) ?_ ?_ (pV ps 0, 1) ⟨0, by omega, rfl, fun j hj => absurd hj (by omega)⟩
    · rintro n s hn ⟨m, hm, rfl, hmin⟩
      have sn := ok.str n hn
      have sm := ok.str m hm
      refine .inr ⟨(mn (pV ps m) (pV ps n), 1), ?_, fun r hr => ?_⟩
      · by_cases hc : pV ps n < pV ps m
        · refine ⟨n, hn, by unfold mn; rw [if_pos hc], fun j hj => ?_⟩
          by_cases hjn : j = n
          · subst hjn; exact Int.le_refl _
          · have := hmin j (by omega); omega
        · refine ⟨m, hm, by unfold mn; rw [if_neg hc], fun j hj => ?_⟩
          by_cases hjn : j = n
          · subst hjn; omega
          · exact hmin j (by omega)
      · refine ev_succ ?_
        simp only [impl_lineStrength.l0, Int.ofNat_lt.2 hn, show (0 : Int) ≤ (n : Int) from Int.natCast_nonneg _, if_true, rd_T45, Int.toNat_natCast, wnext hn (by omega : ps.length ≤ 9223372036854775807)]
        have hm1 : -4611686018427387904 ≤ mn (pV ps m) (pV ps n) ∧ mn (pV ps m) (pV ps n) ≤ 4611686018427387904 := by unfold mn pV; split <;> omega
        refine Ev.bind (impl_fraction_ev (mn (pV ps m) (pV ps n)) 1 hm1 (by omega)) ?_
        rw [mkF_one]
        exact hr
    · rintro s ⟨m, hm, rfl, hmin⟩
      obtain ⟨r, hr, hv⟩ := l1 m m hm rfl hmin
      refine ⟨r, ev_succ ?_, hv⟩
      simp only [impl_lineStrength.l0, Int.lt_irrefl, if_false]
      exact hr
  obtain ⟨r, hr, v, rfl, hv⟩ := l0
  refine ⟨v, ?_, hv⟩
  simp only [impl_lineStrength.f, show (0 : Int) < (ps.length : Int) by omega, if_true, rd_T45]
  refine Ev.bind (impl_fraction_ev _ 1 (by have : (0 : Int).toNat = 0 := rfl; rw [this]; omega) (by omega)) ?_
  rw [mkF_one]
  exact hr

/-! ### what the longest line is -/
def sumP : List S45 → Int
  | [] => 0
  | p :: ps => p.f1 + sumP ps
def sumJ (xs : List S61) : List Int → Int
  | [] => 0
  | j :: js => (xs.getD j.toNat z61).f2 + sumJ xs js
theorem sumP_app (a : List S45) (y : S45) : sumP (a ++ [y]) = sumP a + y.f1 := by
  induction a with
  | nil => show y.f1 + 0 = 0 + y.f1; omega
  | cons p a ih => show p.f1 + sumP (a ++ [y]) = p.f1 + sumP a + y.f1; omega
theorem sumJ_app (xs : List S61) (a : List Int) (j : Int) : sumJ xs (a ++ [j]) = sumJ xs a + (xs.getD j.toNat z61).f2 := by
  induction a with
  | nil => show (xs.getD j.toNat z61).f2 + 0 = 0 + (xs.getD j.toNat z61).f2; omega
  | cons p a ih => show (xs.getD p.toNat z61).f2 + sumJ xs (a ++ [j]) = (xs.getD p.toNat z61).f2 + sumJ xs a + (xs.getD j.toNat z61).f2; omega
theorem fold_addP : ∀ (ps : List S45) (s : Int), (∀ y ∈ ps, 1 ≤ y.f1 ∧ y.f1 ≤ 100000) → 0 ≤ s → s + 100000 * (ps.length : Int) ≤ 1000000000 → ps.foldl addP s = s + sumP ps ∧ 0 ≤ sumP ps ∧ sumP ps ≤ 100000 * (ps.length : Int)
  | [], s, _, _, _ => ⟨by show s = s + 0; omega, Int.le_refl _, by show (0 : Int) ≤ _; simp⟩
  | p :: ps, s, h, h0, hs => by
    have hp := h p List.mem_cons_self
    rw [List.length_cons] at hs
    obtain ⟨a, b, c⟩ := fold_addP ps (s + p.f1) (fun y hy => h y (List.mem_cons_of_mem _ hy)) (by omega) (by omega)
    have e : addP s p = s + p.f1 := w64 (by omega) (by omega)
    rw [List.foldl_cons, e, a, List.length_cons]
    exact ⟨by show s + p.f1 + sumP ps = s + (p.f1 + sumP ps); omega, by show 0 ≤ p.f1 + sumP ps; omega, by show p.f1 + sumP ps ≤ _; omega⟩
theorem fold_subJ (xs : List S61) (hx : ∀ n, n < xs.length → 0 ≤ (xs.getD n z61).f2 ∧ (xs.getD n z61).f2 ≤ 1000) : ∀ (js : List Int) (s : Int), (∀ j ∈ js, 0 ≤ j ∧ j < (xs.length : Int)) → s ≤ 1000000000 → -1000000000 ≤ s - 1000 * (js.length : Int) → js.foldl (subJ xs) s = s - sumJ xs js
  | [], s, _, _, _ => by show s = s - 0; omega
  | j :: js, s, h, h0, hs => by
    have hj := h j List.mem_cons_self
    have t := hx j.toNat (by omega)
    rw [List.length_cons] at hs
    have i := fold_subJ xs hx js (s - (xs.getD j.toNat z61).f2) (fun y hy => h y (List.mem_cons_of_mem _ hy)) (by omega) (by omega)
    have e : subJ xs s j = s - (xs.getD j.toNat z61).f2 := w64 (by omega) (by omega)
    rw [List.foldl_cons, e, i]
    show s - (xs.getD j.toNat z61).f2 - sumJ xs js = s - ((xs.getD j.toNat z61).f2 + sumJ xs js)
    omega
theorem joins_at {xs : List S61} (h : joinsB xs = true) {n : Nat} (hn : n < xs.length) : (1 ≤ (xs.getD n z61).f1 ∧ (xs.getD n z61).f1 ≤ 1000) ∧ 0 ≤ (xs.getD n z61).f2 ∧ (xs.getD n z61).f2 ≤ 1000 := by
  unfold joinsB at h
  simp only [Bool.and_eq_true, List.all_eq_true] at h
  have := h.1 n (List.mem_range.2 hn)
  unfold joinsP at this
  simp only [Bool.and_eq_true] at this
  have := this.1
  unfold jB joinB at this
  simp only [Bool.and_eq_true, decide_eq_true_eq] at this
  exact this.2
/-- A join bears the strength. -/
def bears (xs : List S61) (m need : Int) (n : Nat) : Prop := 1000 * need ≤ m * (xs.getD n z61).f1
theorem bears_iff {xs : List S61} (h : joinsB xs = true) {m need : Int} (hm : 1 ≤ m ∧ m ≤ 1000000) (hn : 0 ≤ need ∧ need ≤ 1000000) {n : Nat} (hl : n < xs.length) :
    (wrap64 (m * (xs.getD n z61).f1) ≥ wrap64 (1000 * need) ↔ bears xs m need n) ∧ 0 ≤ m * (xs.getD n z61).f1 ∧ m * (xs.getD n z61).f1 ≤ 1000000000 := by
  have j := joins_at h hl
  have b := mul_bd (show 0 ≤ m by omega) hm.2 (show 0 ≤ (xs.getD n z61).f1 by omega) j.1.2
  rw [w64 (n := m * (xs.getD n z61).f1) (by omega) (by omega), w64 (n := 1000 * need) (by omega) (by omega)]
  exact ⟨Iff.rfl, by omega⟩
theorem bestS_is {xs : List S61} (h : joinsB xs = true) {m need : Int} (hm : 1 ≤ m ∧ m ≤ 1000000) (hn : 0 ≤ need ∧ need ≤ 1000000) : ∀ n, n ≤ xs.length →
    (0 ≤ bestS xs m need n → bears xs m need (bestS xs m need n).toNat) ∧ ∀ i, i < n → bears xs m need i → 0 ≤ bestS xs m need n ∧ (xs.getD (bestS xs m need n).toNat z61).f2 ≤ (xs.getD i z61).f2
  | 0, _ => ⟨fun h0 => absurd h0 (by show ¬ (0 : Int) ≤ -1; decide), fun i hi => absurd hi (Nat.not_lt_zero i)⟩
  | n + 1, hl => by
    obtain ⟨a, b⟩ := bestS_is h hm hn n (by omega)
    have w := (bears_iff h hm hn (show n < xs.length by omega)).1
    show (0 ≤ bestStep xs m need n (bestS xs m need n) → bears xs m need (bestStep xs m need n (bestS xs m need n)).toNat) ∧ ∀ i, i < n + 1 → bears xs m need i → 0 ≤ bestStep xs m need n (bestS xs m need n) ∧ (xs.getD (bestStep xs m need n (bestS xs m need n)).toNat z61).f2 ≤ (xs.getD i z61).f2
    generalize bestS xs m need n = q at a b
    unfold bestStep
    by_cases hb : bears xs m need n
    · rw [if_pos (w.2 hb)]
      by_cases h0 : q < 0
      · rw [if_pos h0]
        refine ⟨fun _ => by simpa using hb, fun i hi hs => ?_⟩
        by_cases e : i = n
        · subst e; exact ⟨by omega, by simp⟩
        · exact absurd (b i (by omega) hs).1 (by omega)
      · rw [if_neg h0]
        by_cases h1 : (xs.getD n z61).f2 < (xs.getD q.toNat z61).f2
        · rw [if_pos h1]
          refine ⟨fun _ => by simpa using hb, fun i hi hs => ?_⟩
          rw [Int.toNat_natCast]
          by_cases e : i = n
          · subst e; exact ⟨by omega, Int.le_refl _⟩
          · have := (b i (by omega) hs).2; exact ⟨by omega, by omega⟩
        · rw [if_neg h1]
          refine ⟨a, fun i hi hs => ?_⟩
          by_cases e : i = n
          · subst e; exact ⟨by omega, by omega⟩
          · exact b i (by omega) hs
    · rw [if_neg (fun z => hb (w.1 z))]
      refine ⟨a, fun i hi hs => ?_⟩
      by_cases e : i = n
      · subst e; exact absurd hs hb
      · exact b i (by omega) hs
structure ChainI (xs : List S61) (need : Int) (s : List S45 × List Int) : Prop where
  len : s.2.length + 1 = s.1.length
  ok : ∀ y ∈ s.1, okP y = true ∧ need ≤ y.f0
  js : ∀ j ∈ s.2, 0 ≤ j ∧ j < (xs.length : Int)
  str : ∀ n, n < s.2.length → 1000 * need ≤ jV xs s.1 s.2 n
  sum : 1 ≤ sumP s.1 - sumJ xs s.2
theorem okP_iff (y : S45) : okP y = true ↔ (1 ≤ y.f0 ∧ y.f0 ≤ 1000000) ∧ 1 ≤ y.f1 ∧ y.f1 ≤ 100000 := by
  unfold okP pieceB; simp only [Bool.and_eq_true, decide_eq_true_eq]
theorem getD_app_l {α : Type} (a : List α) (y z : α) {n : Nat} (h : n < a.length) : (a ++ [y]).getD n z = a.getD n z := by
  simp only [List.getD_eq_getElem?_getD, List.getElem?_append_left h]
theorem getD_app_r {α : Type} (a : List α) (y z : α) : (a ++ [y]).getD a.length z = y := by
  simp [List.getD_eq_getElem?_getD]
theorem mn_bd {a b l h : Int} (ha : l ≤ a ∧ a ≤ h) (hb : l ≤ b ∧ b ≤ h) : l ≤ mn a b ∧ mn a b ≤ h := by unfold mn; split <;> omega
theorem chain_step {xs : List S61} (h : joinsB xs = true) {need : Int} (hn : 0 ≤ need ∧ need ≤ 1000000) {s : List S45 × List Int} (I : ChainI xs need s) {y : S45} (hy : okP y = true) (hs : need ≤ y.f0) : ChainI xs need (chainS xs need s y) := by
  unfold chainS
  have l := I.len
  have lm : s.1.getD (s.1.length - 1) z45 ∈ s.1 := by rw [getD_lt _ _ (show s.1.length - 1 < s.1.length by omega)]; exact List.getElem_mem _
  have la := (okP_iff _).1 (I.ok _ lm).1
  have lb := (I.ok _ lm).2
  have ya := (okP_iff _).1 hy
  have bd := mn_bd (l := 1) (h := 1000000) la.1 ya.1
  have bi := (bestS_is h bd hn xs.length (Nat.le_refl _)).1
  have bl := bestS_lt xs (mn (s.1.getD (s.1.length - 1) z45).f0 y.f0) need xs.length
  generalize bestS xs (mn (s.1.getD (s.1.length - 1) z45).f0 y.f0) need xs.length = b at bi bl
  by_cases hc : 0 ≤ b ∧ (xs.getD b.toNat z61).f2 < y.f1
  · rw [if_pos hc]
    refine ⟨by simp; omega, fun z hz => ?_, fun j hj => ?_, fun n hl => ?_, ?_⟩
    · rcases List.mem_append.1 hz with hz | hz
      · exact I.ok z hz
      · rw [List.mem_singleton] at hz; subst hz; exact ⟨hy, hs⟩
    · rcases List.mem_append.1 hj with hj | hj
      · exact I.js j hj
      · rw [List.mem_singleton] at hj; subst hj; exact ⟨hc.1, bl⟩
    · simp only [List.length_append, List.length_singleton] at hl
      unfold jV
      simp only
      by_cases e : n < s.2.length
      · rw [getD_app_l _ _ _ (show n < s.1.length by omega), getD_app_l _ _ _ (show n + 1 < s.1.length by omega), getD_app_l _ _ _ e]
        exact I.str n e
      · have en : n = s.2.length := by omega
        have em : n + 1 = s.1.length := by omega
        rw [getD_app_l _ _ _ (show n < s.1.length by omega), em, getD_app_r, en, getD_app_r, show s.2.length = s.1.length - 1 by omega]
        exact bi hc.1
    · have := I.sum
      simp only [sumP_app, sumJ_app]
      omega
  · rw [if_neg hc]; exact I
theorem chain_all {xs : List S61} (h : joinsB xs = true) {need : Int} (hn : 0 ≤ need ∧ need ≤ 1000000) : ∀ (o : List S45) (s : List S45 × List Int), ChainI xs need s → (∀ y ∈ o, okP y = true ∧ need ≤ y.f0) → ChainI xs need (o.foldl (chainS xs need) s)
  | [], _, I, _ => I
  | y :: o, s, I, ho => by
    rw [List.foldl_cons]
    exact chain_all h hn o _ (chain_step h hn I (ho y List.mem_cons_self).1 (ho y List.mem_cons_self).2) (fun z hz => ho z (List.mem_cons_of_mem _ hz))
theorem order_ok {need : Int} {ps : List S45} (hp : ps.all okP = true) {y : S45} (h : y ∈ orderV need ps) : okP y = true ∧ need ≤ y.f0 := by
  rcases foldP_mem _ _ h with h | h
  · have := List.mem_filter.1 h
    exact ⟨List.all_eq_true.1 hp y this.1, by have := this.2; unfold strong at this; simpa using this⟩
  · simp at h
/-- The longest line is a line, has no more pieces than there are, and bears the strength. -/
theorem long_is {xs : List S61} {ps : List S45} {need : Int} (h0 : (longV xs ps need).2.2 = 0) :
    joinsB xs = true ∧ lineB xs (longV xs ps need).1 (longV xs ps need).2.1 = true ∧ (longV xs ps need).1.length ≤ ps.length ∧ (0 ≤ need ∧ need ≤ 1000000) ∧
    (∀ n, n < (longV xs ps need).1.length → need ≤ pV (longV xs ps need).1 n) ∧ ∀ n, n < (longV xs ps need).2.1.length → 1000 * need ≤ jV xs (longV xs ps need).1 (longV xs ps need).2.1 n := by
  unfold longV at h0 ⊢
  by_cases h1 : joinsB xs = true ∧ ps.all okP = true
  · rw [if_pos h1] at h0 ⊢
    by_cases h2 : ps.length ≤ 12 ∧ 0 ≤ need ∧ need ≤ 1000000
    · rw [if_pos h2] at h0 ⊢
      by_cases h3 : (ps.filter (strong need)).length = 0
      · rw [if_pos h3] at h0; exact absurd h0 (by decide)
      · rw [if_neg h3] at h0 ⊢
        have ol := order_len need ps
        have fl := List.length_filter_le (strong need) ps
        have om := @order_ok need ps h1.2
        unfold chainV
        generalize orderV need ps = o at ol om
        have e0 : o.getD 0 z45 ∈ o := by rw [getD_lt _ _ (show 0 < o.length by omega)]; exact List.getElem_mem _
        have g := chain_go xs need (o.drop 1) ([o.getD 0 z45], [])
        have I := chain_all h1.1 h2.2 (o.drop 1) ([o.getD 0 z45], []) ⟨rfl, fun y hy => by rw [List.mem_singleton] at hy; subst hy; exact om e0, fun j hj => by simp at hj, fun n hl => by simp at hl, by
          have := (okP_iff _).1 (om e0).1
          show 1 ≤ ((o.getD 0 z45).f1 + 0) - 0
          omega⟩ (fun y hy => om (List.mem_of_mem_drop hy))
        rw [List.length_drop] at g
        simp only [List.length_singleton, List.length_nil] at g
        generalize (o.drop 1).foldl (chainS xs need) ([o.getD 0 z45], []) = s at g I
        have l := I.len
        obtain ⟨a, b, c⟩ := fold_addP s.1 0 (fun y hy => ((okP_iff _).1 (I.ok y hy).1).2) (Int.le_refl _) (by omega)
        have d := fold_subJ xs (fun n hl => (joins_at h1.1 hl).2) s.2 (0 + sumP s.1) I.js (by omega) (by omega)
        refine ⟨h1.1, ?_, by show s.1.length ≤ ps.length; omega, h2.2, fun n hl => ?_, I.str⟩
        · unfold lineB
          simp only [Bool.and_eq_true, decide_eq_true_eq, List.all_eq_true]
          refine ⟨by omega, by omega, fun y hy => (I.ok y hy).1, fun j hj => ?_, ?_⟩
          · unfold inJ; rw [decide_eq_true_eq]; have := I.js j hj; omega
          · have := I.sum
            unfold lenV
            rw [a, d]
            omega
        · unfold pV
          rw [getD_lt _ _ hl]
          exact (I.ok _ (List.getElem_mem _)).2
    · rw [if_neg h2] at h0; exact absurd h0 (by decide)
  · rw [if_neg h1] at h0; exact absurd h0 (by decide)
/-- A fraction that is at least a whole number. -/
theorem mkF_ge {v need : Int} (hv : 0 ≤ v) (h : 1000 * need ≤ v) : 1 ≤ (mkF v 1000).2 ∧ (mkF v 1000).2 ≤ 1000 ∧ need * (mkF v 1000).2 ≤ (mkF v 1000).1 := by
  obtain ⟨g, hg, e1, e2⟩ := mkF_thou v
  have p := mkF_pos v 1000 hv (by decide)
  have l : (mkF v 1000).2 ≤ 1000 := by
    have := Int.mul_le_mul_of_nonneg_right (show 1 ≤ g by omega) (show 0 ≤ (mkF v 1000).2 by omega)
    omega
  refine ⟨by omega, l, ?_⟩
  generalize mkF v 1000 = q at e1 e2
  refine Int.le_of_mul_le_mul_left (?_ : g * (need * q.2) ≤ g * q.1) hg
  rw [← e1, Int.mul_left_comm, ← e2]
  omega

theorem StrengthAt_ev (xs : List S61) (hx : xs.length ≤ 1048576) (ps : List S45) (js : List Int) (hp : ps.length ≤ 1048576) (hq : js.length ≤ 1048576) (a : Int) :
    ∃ r, Ev (fun k => spec_StrengthAt.f k xs ps js a) r ∧ Ev (fun k => impl_StrengthAt.f k xs ps js a) r := by
  simp only [spec_StrengthAt.f, impl_StrengthAt.f]
  have bad : Ev (fun k => impl_StrengthAt.j0 k xs a true ps js) (0, 0, 1) := by refine ev_succ ?_; simp only [impl_StrengthAt.j0, if_true]; exact ev_now _
  cases hb : joinsB xs
  · refine ⟨(0, 0, 1), Ev.bind (spec_l03LineAt_ev xs hx ps js hp hq) ?_, Ev.bind (impl_ValidJoins_ev xs hx) ?_⟩
    · simp only [hb, Bool.false_and, Bool.false_eq_true, if_false]; exact ev_now _
    · simp only [hb, Bool.false_eq_true, if_false]; exact bad
  cases hc : lineB xs ps js
  · refine ⟨(0, 0, 1), Ev.bind (spec_l03LineAt_ev xs hx ps js hp hq) ?_, Ev.bind (impl_ValidJoins_ev xs hx) ?_⟩
    · simp only [hc, Bool.and_false, Bool.false_eq_true, if_false]; exact ev_now _
    · simp only [hb, if_true]
      refine Ev.bind (impl_validLine_ev xs hx ps js hp hq) ?_
      simp only [hc, Bool.not_false]; exact bad
  have ok := lineOk_of hb hc
  have hj := ok.joins
  have hl := ok.len
  have wj : wrap64 ((js.length : Int) - 1) = (js.length : Int) - 1 := w64 (by omega) (by omega)
  by_cases ha : 0 ≤ a ∧ a ≤ (js.length : Int) - 1
  · obtain ⟨n, rfl⟩ : ∃ n : Nat, a = (n : Int) := ⟨a.toNat, by omega⟩
    have hn : n < js.length := by omega
    have c := ok.at_ n hn
    have b := jV_bd ok hn
    have e1 : wrap64 ((n : Int) + 1) = ((n + 1 : Nat) : Int) := by rw [w64 (by omega) (by omega)]; omega
    refine ⟨((mkF (jV xs ps js n) 1000).1, (mkF (jV xs ps js n) 1000).2, 0), Ev.bind (spec_l03LineAt_ev xs hx ps js hp hq) ?_, Ev.bind (impl_ValidJoins_ev xs hx) ?_⟩
    · simp only [hb, hc, Bool.and_self, if_true, wj, spec_l00In_eq, Option.bind_some, ha, and_self, decide_true]
      simp only [show (0 : Int) ≤ (n : Int) from Int.natCast_nonneg _, show (n : Int) < (js.length : Int) by omega, show (n : Int) < (ps.length : Int) by omega, if_true, e1, show (0 : Int) ≤ ((n + 1 : Nat) : Int) from Int.natCast_nonneg _, show ((n + 1 : Nat) : Int) < (ps.length : Int) by omega, rd, rd_T45, rd_T61, Int.toNat_natCast, c.1, c.2, spec_l03JoinedAt_eq, Option.bind_some]
      show Ev (fun k => (spec_l01Make.f k (wrap64 (jV xs ps js n)) 1000).bind _) _
      rw [w64 (n := jV xs ps js n) (by omega) (by omega)]
      exact Ev.bind (spec_l01Make_ev _ _ (by omega) (by omega)) (ev_now _)
    · simp only [hb, if_true]
      refine Ev.bind (impl_validLine_ev xs hx ps js hp hq) ?_
      simp only [hc, Bool.not_true]
      refine ev_succ ?_
      simp only [impl_StrengthAt.j0, Bool.false_eq_true, if_false, impl_within_eq, Option.bind_some, wj, ha, and_self, decide_true, if_true]
      exact Ev.bind (impl_strengthAt_ev ok hn) (ev_now _)
  · refine ⟨(0, 0, 2), Ev.bind (spec_l03LineAt_ev xs hx ps js hp hq) ?_, Ev.bind (impl_ValidJoins_ev xs hx) ?_⟩
    · simp only [hb, hc, Bool.and_self, if_true, wj, spec_l00In_eq, Option.bind_some, ha, decide_false, Bool.false_eq_true, if_false]; exact ev_now _
    · simp only [hb, if_true]
      refine Ev.bind (impl_validLine_ev xs hx ps js hp hq) ?_
      simp only [hc, Bool.not_true]
      refine ev_succ ?_
      simp only [impl_StrengthAt.j0, Bool.false_eq_true, if_false, impl_within_eq, Option.bind_some, wj, ha, decide_false]
      exact ev_now _

theorem piece_step (x y : S45) : (!(x.f0 == y.f0) || (!(x.f1 == y.f1))) = !(decide (x.f0 = y.f0) && decide (x.f1 = y.f1)) := by
  by_cases h1 : x.f0 = y.f0 <;> by_cases h2 : x.f1 = y.f1 <;> simp [h1, h2]
def sameP (xs ys : List S45) (n : Nat) : Bool := decide ((xs.getD n z45).f0 = (ys.getD n z45).f0) && decide ((xs.getD n z45).f1 = (ys.getD n z45).f1)
def sameI (xs ys : List Int) (n : Nat) : Bool := decide (xs.getD n 0 = ys.getD n 0)
def piecesV (xs ys : List S45) : Bool := decide (xs.length = ys.length) && ((List.range xs.length).all (sameP xs ys) && true)
def intsV (xs ys : List Int) : Bool := decide (xs.length = ys.length) && ((List.range xs.length).all (sameI xs ys) && true)
theorem spec_l00Same_ev (xs ys : List Int) (h : xs.length ≤ 1048576) : Ev (fun k => spec_l00Same.f k xs ys) (intsV xs ys) := by
  simp only [spec_l00Same.f, intsV]
  by_cases e : xs.length = ys.length
  · simp only [show (xs.length : Int) = (ys.length : Int) by omega, e, if_true, decide_true, Bool.true_and]
    rw [← e]
    refine ev_all (len := xs.length) (g := fun k i => spec_l00Same.l0 k xs ys i) (sameI xs ys) true ?_ ?_ ?_
    · intro n hn hp r hr
      refine ev_succ ?_
      simp only [sameI, decide_eq_true_eq] at hp
      simp only [spec_l00Same.l0, Int.ofNat_lt.2 hn, show (n : Int) < (ys.length : Int) by omega, show (0 : Int) ≤ (n : Int) from Int.natCast_nonneg _, if_true, rd, Int.toNat_natCast, wnext hn (by omega : xs.length ≤ 9223372036854775807), hp]
      exact hr
    · intro n hn hp
      refine ev_succ ?_
      simp only [sameI, decide_eq_false_iff_not] at hp
      simp only [spec_l00Same.l0, Int.ofNat_lt.2 hn, show (n : Int) < (ys.length : Int) by omega, show (0 : Int) ≤ (n : Int) from Int.natCast_nonneg _, if_true, rd, Int.toNat_natCast, hp, if_false]
      exact ev_now _
    · refine ev_succ ?_
      simp only [spec_l00Same.l0, Int.lt_irrefl, if_false]
      exact ev_now _
  · simp only [show ¬ ((xs.length : Int) = (ys.length : Int)) by omega, e, if_false, decide_false, Bool.false_and]
    exact ev_now _
theorem spec_pieces_loop (xs ys : List S45) (a b : List Int) (h : xs.length ≤ 1048576) (e : xs.length = ys.length) : Ev (fun k => spec_SameLine.l0 k 0 xs a ys b) ((List.range xs.length).all (sameP xs ys) && true) := by
  refine ev_all (len := xs.length) (g := fun k i => spec_SameLine.l0 k i xs a ys b) (sameP xs ys) true ?_ ?_ ?_
  · intro n hn hp r hr
    refine ev_succ ?_
    simp only [sameP] at hp
    simp only [spec_SameLine.l0, Int.ofNat_lt.2 hn, show (n : Int) < (ys.length : Int) by omega, show (0 : Int) ≤ (n : Int) from Int.natCast_nonneg _, if_true, rd_T45, Int.toNat_natCast, wnext hn (by omega : xs.length ≤ 9223372036854775807), piece_step, hp, Bool.not_true, Bool.false_eq_true, if_false]
    exact hr
  · intro n hn hp
    refine ev_succ ?_
    simp only [sameP] at hp
    simp only [spec_SameLine.l0, Int.ofNat_lt.2 hn, show (n : Int) < (ys.length : Int) by omega, show (0 : Int) ≤ (n : Int) from Int.natCast_nonneg _, if_true, rd_T45, Int.toNat_natCast, piece_step, hp, Bool.not_false, if_true]
    exact ev_now _
  · refine ev_succ ?_
    simp only [spec_SameLine.l0, Int.lt_irrefl, if_false]
    exact ev_now _

/-! ### the drawn source -/
def byteL (l : List Int) : Prop := ∀ y ∈ l, 0 ≤ y ∧ y ≤ 255
theorem u8_range {a : Int} (h : (Lit.int .u8 a).wf = true) : 0 ≤ a ∧ a ≤ 255 := by
  simp only [Lit.wf, IntKind.min, IntKind.max, IntKind.signed, IntKind.bits, Bool.and_eq_true, decide_eq_true_eq, Bool.false_eq_true, if_false] at h
  omega
theorem and255 (a : Int) : 0 ≤ Go.bits .and .u64 a 255 ∧ Go.bits .and .u64 a 255 ≤ 255 := by
  show 0 ≤ IntKind.u64.wrap ((BitVec.ofInt 64 a &&& BitVec.ofInt 64 255).toNat : Int) ∧ IntKind.u64.wrap ((BitVec.ofInt 64 a &&& BitVec.ofInt 64 255).toNat : Int) ≤ 255
  have h : (BitVec.ofInt 64 a &&& BitVec.ofInt 64 255).toNat ≤ 255 := by rw [BitVec.toNat_and]; exact Nat.le_trans Nat.and_le_right (by decide)
  rw [IntKind.wrap_u64]
  omega
theorem rd_byte {l : List Int} (hl : byteL l) (i : Int) : 0 ≤ rd l i ∧ rd l i ≤ 255 := by
  unfold rd
  rw [List.getD_eq_getElem?_getD]
  cases e : l[i.toNat]? with
  | none => exact ⟨Int.le_refl _, by decide⟩
  | some v => exact hl v (List.mem_of_getElem? e)
theorem src_next_ev {l : List Int} (hl : byteL l) (p s : Int) (hp : 0 ≤ p ∧ p ≤ 1000000) : ∃ v s', spec_l00Src_next.f l p s = some (v, p + 1, s') ∧ 0 ≤ v ∧ v ≤ 255 := by
  have w1 : wrap64 (p + 1) = p + 1 := w64 (by omega) (by omega)
  have r := rd_byte hl p
  have w2 : wrap64 (rd l p) = rd l p := w64 (by omega) (by omega)
  simp only [spec_l00Src_next.f, w1]
  by_cases a : p < (l.length : Int)
  · simp only [a, hp.1, show p + 1 ≤ (l.length : Int) by omega, if_true, w2]
    exact ⟨_, _, rfl, r⟩
  · simp only [a, show ¬ p + 1 ≤ (l.length : Int) by omega, if_false]
    refine ⟨_, _, rfl, ?_⟩
    have := and255 ((IntKind.u64.wrap ((IntKind.u64.wrap ((IntKind.u64.wrap (s * 6364136223846793005)) + 0)) + 1442695040888963407)) / 1099511627776)
    rw [w64 (by omega) (by omega)]
    exact this
theorem src_pick_ev {l : List Int} (hl : byteL l) (p s n : Int) (hp : 0 ≤ p ∧ p ≤ 1000000) (hn : 2 ≤ n ∧ n ≤ 200) : ∃ v s', spec_l00Src_pick.f l p s n = some (v, p + 1, s') ∧ 0 ≤ v ∧ v < n := by
  obtain ⟨v, s', h, h1, h2⟩ := src_next_ev hl p s hp
  simp only [spec_l00Src_pick.f, show ¬ n ≤ 1 by omega, show ¬ n > 200 by omega, show ¬ n = 0 by omega, if_false, h, Option.bind_some]
  exact ⟨_, _, rfl, Int.tmod_nonneg _ h1, Int.tmod_lt_of_pos _ (by omega)⟩

/-! ### drawn joins and pieces -/
def okp (p : Int) (B : Nat) : Prop := 0 ≤ p ∧ p ≤ (B : Int)
theorem okp.up {p : Int} {B C : Nat} (h : okp p B) (hc : B ≤ C) : okp p C := ⟨h.1, by have := h.2; omega⟩
theorem pickD {l : List Int} (hl : byteL l) {p : Int} (s : Int) {B : Nat} (hp : okp p B) (hB : B ≤ 100000) (n : Int) (hn : n ≤ 200) : ∃ v p' s', spec_l00Src_pick.f l p s n = some (v, p', s') ∧ okp p' (B + 1) ∧ 0 ≤ v ∧ (1 ≤ n → v < n) := by
  have h1 := hp.1
  have h2 := hp.2
  by_cases h : n ≤ 1
  · refine ⟨0, p, s, ?_, ⟨h1, by omega⟩, Int.le_refl _, fun _ => by omega⟩
    simp only [spec_l00Src_pick.f, h, if_true]
  · obtain ⟨v, s', e, v0, v1⟩ := src_pick_ev hl p s n ⟨h1, by omega⟩ ⟨by omega, hn⟩
    exact ⟨v, p + 1, s', e, ⟨by omega, by omega⟩, v0, fun _ => v1⟩
theorem oneD {l : List Int} (hl : byteL l) {p : Int} (s : Int) {B : Nat} (hp : okp p B) (hB : B ≤ 100000) (n : Int) (hn : n ≤ 200) : ∃ v p' s', spec_l00Src_one.f l p s n = some (v, p', s') ∧ okp p' (B + 1) := by
  obtain ⟨v, p', s', e, h, _⟩ := pickD hl s hp hB n hn
  exact ⟨v == 0, p', s', by simp only [spec_l00Src_one.f, e, Option.bind_some], h⟩
theorem amongD {l : List Int} (hl : byteL l) {p : Int} (s : Int) {B : Nat} (hp : okp p B) (hB : B ≤ 100000) (xs : List Int) (h1 : 1 ≤ xs.length) (hn : xs.length ≤ 200) : ∃ v p' s', spec_l00Src_among.f l p s xs = some (v, p', s') ∧ okp p' (B + 1) := by
  obtain ⟨v, p', s', e, h, v0, v1⟩ := pickD hl s hp hB xs.length (by omega)
  exact ⟨rd xs v, p', s', by simp only [spec_l00Src_among.f, e, Option.bind_some, v0, v1 (by omega), if_true], h⟩
theorem textD {l : List Int} (hl : byteL l) {p : Int} (s : Int) {B : Nat} (hp : okp p B) (hB : B ≤ 100000) (xs : List ByteArray) (h1 : 1 ≤ xs.length) (hn : xs.length ≤ 200) : ∃ v p' s', spec_l00Src_text.f l p s xs = some (v, p', s') ∧ okp p' (B + 1) := by
  obtain ⟨v, p', s', e, h, v0, v1⟩ := pickD hl s hp hB xs.length (by omega)
  exact ⟨rdOf ByteArray.empty xs v, p', s', by simp only [spec_l00Src_text.f, e, Option.bind_some, v0, v1 (by omega), if_true], h⟩
theorem newD {l : List Int} (hl : byteL l) {p : Int} (s : Int) {B : Nat} (hp : okp p B) (hB : B ≤ 90000) (nm : ByteArray) : ∃ a b p' s', spec_l03New.f l p s nm = some (nm, a, b, p', s') ∧ okp p' (B + 2) := by
  obtain ⟨v, p1, s1, e1, h1, _⟩ := pickD hl s hp (by omega) 13 (by omega)
  obtain ⟨u, p2, s2, e2, h2, _⟩ := pickD hl s1 h1 (by omega) 12 (by omega)
  exact ⟨wrap64 (400 + (wrap64 (50 * v))), wrap64 (10 * u), p2, s2, by simp only [spec_l03New.f, e1, e2, Option.bind_some], h2⟩
theorem drawJ_loop {l : List Int} (hl : byteL l) (nms : List ByteArray) : ∀ (d : Nat) (xs : List S61) (p s : Int) (B : Nat), okp p B → B + 2 * d ≤ 90000 → xs.length + d ≤ nms.length → nms.length ≤ 100 →
    ∃ r, Ev (fun k => spec_l03Draw.l0 k nms xs (d : Int) l p s) r ∧ r.1.length = xs.length + d ∧ okp r.2.1 (B + 2 * d) := by
  intro d
  induction d with
  | zero =>
    intro xs p s B hp _ _ _
    refine ⟨(xs, p, s), ev_succ ?_, rfl, hp⟩
    simp only [spec_l03Draw.l0, show ¬ (((0 : Nat) : Int) > 0) by omega, if_false]
    exact ev_now _
  | succ d ih =>
    intro xs p s B hp hB hx hn
    obtain ⟨a, b, p1, s1, e1, h1⟩ := newD hl s hp (by omega) (rdOf ByteArray.empty nms (xs.length : Int))
    obtain ⟨r, i1, i2, i3⟩ := ih (xs ++ [(⟨rdOf ByteArray.empty nms (xs.length : Int), a, b⟩ : S61)]) p1 s1 (B + 2) h1 (by omega) (by simp; omega) hn
    have w : wrap64 (((d + 1 : Nat) : Int) - 1) = (d : Int) := by rw [w64 (by omega) (by omega)]; omega
    refine ⟨r, ev_succ ?_, by rw [i2]; simp; omega, i3.up (by omega)⟩
    simp only [spec_l03Draw.l0, show ((d + 1 : Nat) : Int) > 0 by omega, show (0 : Int) ≤ (xs.length : Int) from Int.natCast_nonneg _, show (xs.length : Int) < (nms.length : Int) by omega, show xs.length < 4398046511104 by omega, if_true, e1, Option.bind_some, w]
    exact i1
theorem bentJ_end {l : List Int} (hl : byteL l) (xs : List S61) (hx : xs.length ≤ 100) {p : Int} (s : Int) {B : Nat} (hp : okp p B) (hB : B ≤ 90000) :
    ∃ r, Ev (fun k => spec_l03Bent.j1 k xs l p s) r ∧ r.1.length = xs.length ∧ okp r.2.1 (B + 3) := by
  by_cases h : (xs.length : Int) = 0
  · refine ⟨(xs, p, s), ev_succ ?_, rfl, hp.up (by omega)⟩
    simp only [spec_l03Bent.j1, h, if_true]; exact ev_now _
  obtain ⟨v, p1, s1, e1, h1, v0, v1⟩ := pickD hl s hp (by omega) xs.length (by omega)
  have v1 := v1 (by omega)
  obtain ⟨u, p2, s2, e2, h2, u0, u1⟩ := pickD hl s1 h1 (by omega) 24 (by omega)
  obtain ⟨t, p3, s3, e3, h3⟩ := textD hl s2 h2 (by omega) [(⟨#[]⟩ : ByteArray), (⟨#[69, 121, 101]⟩ : ByteArray), (⟨#[108, 111, 110, 103]⟩ : ByteArray)] (by decide) (by decide)
  obtain ⟨a, p4, s4, e4, h4⟩ := amongD hl s2 h2 (by omega) [(-1), 0, 1, 1000, 1001, (-9223372036854775808)] (by decide) (by decide)
  obtain ⟨c, p5, s5, e5, h5⟩ := amongD hl s2 h2 (by omega) [(-1), 0, 1000, 1001] (by decide) (by decide)
  by_cases k0 : u = 0
  · refine ⟨(xs.set (v : Int).toNat (⟨t, (rd_T61 xs v).f1, (rd_T61 xs v).f2⟩ : S61), p3, s3), ev_succ ?_, ?_, h3⟩
    · simp only [spec_l03Bent.j1, h, if_false, e1, Option.bind_some, v0, v1, if_true, e2, k0, e3]; exact ev_now _
    · simp
  by_cases k1 : u = 1
  · refine ⟨(xs.set (v : Int).toNat (⟨(rd_T61 xs v).f0, a, (rd_T61 xs v).f2⟩ : S61), p4, s4), ev_succ ?_, ?_, h4⟩
    · simp only [spec_l03Bent.j1, h, if_false, e1, Option.bind_some, v0, v1, if_true, e2, k1, show ¬ (1 : Int) = 0 by decide, e4]; exact ev_now _
    · simp
  by_cases k2 : u = 2
  · refine ⟨(xs.set (v : Int).toNat (⟨(rd_T61 xs v).f0, (rd_T61 xs v).f1, c⟩ : S61), p5, s5), ev_succ ?_, ?_, h5⟩
    · simp only [spec_l03Bent.j1, h, if_false, e1, Option.bind_some, v0, v1, if_true, e2, k2, show ¬ (2 : Int) = 0 by decide, show ¬ (2 : Int) = 1 by decide, e5]; exact ev_now _
    · simp
  refine ⟨(xs, p2, s2), ev_succ ?_, rfl, h2.up (by omega)⟩
  simp only [spec_l03Bent.j1, h, if_false, e1, Option.bind_some, v0, v1, if_true, e2, k0, k1, k2]; exact ev_now _
theorem bentJ_loop {l : List Int} (hl : byteL l) : ∀ (d : Nat) (xs : List S61) (p s : Int) (B : Nat), okp p B → B + 2 * d ≤ 80000 → xs.length + d ≤ 100 →
    ∃ r, Ev (fun k => spec_l03Bent.l0 k xs (d : Int) l p s) r ∧ r.1.length ≤ 100 ∧ okp r.2.1 (B + 2 * d + 3) := by
  intro d
  induction d with
  | zero =>
    intro xs p s B hp hB hx
    obtain ⟨r, e, h1, h2⟩ := bentJ_end hl xs (by omega) s hp (by omega)
    refine ⟨r, ev_succ ?_, by omega, h2⟩
    simp only [spec_l03Bent.l0, show ¬ (((0 : Nat) : Int) > 0) by omega, if_false]
    exact e
  | succ d ih =>
    intro xs p s B hp hB hx
    obtain ⟨a, b, p1, s1, e1, h1⟩ := newD hl s hp (by omega) ((⟨#[106]⟩ : ByteArray) ++ strOfNums [(97 + (((xs.length : Int)) % 256)) % 256])
    obtain ⟨r, i1, i2, i3⟩ := ih (xs ++ [(⟨(⟨#[106]⟩ : ByteArray) ++ strOfNums [(97 + (((xs.length : Int)) % 256)) % 256], a, b⟩ : S61)]) p1 s1 (B + 2) h1 (by omega) (by simp; omega)
    have w : wrap64 (((d + 1 : Nat) : Int) - 1) = (d : Int) := by rw [w64 (by omega) (by omega)]; omega
    have z : 1 + (strOfNums [(97 + (((xs.length : Int)) % 256)) % 256]).size ≤ 9223372036854775807 := by
      rw [show (strOfNums [(97 + (((xs.length : Int)) % 256)) % 256]).size = 1 from rfl]; decide
    refine ⟨r, ev_succ ?_, i2, i3.up (by omega)⟩
    simp only [spec_l03Bent.l0, show ((d + 1 : Nat) : Int) > 0 by omega, if_true, Option.bind_some, z, e1, show xs.length < 4398046511104 by omega, w]
    exact i1
theorem bentJ_ev {l : List Int} (hl : byteL l) {p : Int} (s : Int) {B : Nat} (hp : okp p B) (hB : B ≤ 50000) : ∃ r, Ev (fun k => spec_l03Bent.f k l p s) r ∧ r.1.length ≤ 100 ∧ okp r.2.1 (B + 100) := by
  obtain ⟨n, p1, s1, e1, h1, n0, n1⟩ := pickD hl s hp (by omega) 6 (by omega)
  have n1 := n1 (by omega)
  obtain ⟨m, rfl⟩ : ∃ m : Nat, n = (m : Int) := ⟨n.toNat, by omega⟩
  obtain ⟨r, e2, l2, h2⟩ := drawJ_loop hl [(⟨#[108, 111, 110, 103]⟩ : ByteArray), (⟨#[115, 104, 111, 114, 116]⟩ : ByteArray), (⟨#[101, 121, 101]⟩ : ByteArray), (⟨#[98, 101, 110, 100]⟩ : ByteArray), (⟨#[99, 97, 114, 114, 105, 99, 107, 45, 50]⟩ : ByteArray), (⟨#[114, 101, 101, 102]⟩ : ByteArray)] m [] p1 s1 (B + 1) h1 (by omega) (by simp; omega) (by decide)
  have e3 : Ev (fun k => spec_l03Draw.f k l p s) r := by simp only [spec_l03Draw.f, e1, Option.bind_some]; exact e2
  obtain ⟨b, p4, s4, e4, h4⟩ := oneD hl r.2.2 h2 (by omega) 24 (by omega)
  simp only [List.length_nil, Nat.zero_add] at l2
  cases b
  · obtain ⟨q, e5, l5, h5⟩ := bentJ_end hl r.1 (by omega) s4 h4 (by omega)
    refine ⟨q, ?_, by omega, h5.up (by omega)⟩
    simp only [spec_l03Bent.f]
    refine Ev.bind e3 ?_
    simp only [e4, Option.bind_some, Bool.false_eq_true, if_false]
    exact e5
  · obtain ⟨v, p5, s5, e5, h5, v0, v1⟩ := pickD hl s4 h4 (by omega) 2 (by omega)
    have v1 := v1 (by omega)
    have w : wrap64 (20 + v) = ((20 + v.toNat : Nat) : Int) := by rw [w64 (by omega) (by omega)]; omega
    obtain ⟨q, e6, l6, h6⟩ := bentJ_loop hl (20 + v.toNat) [] p5 s5 _ h5 (by omega) (by simp; omega)
    refine ⟨q, ?_, by omega, h6.up (by omega)⟩
    simp only [spec_l03Bent.f]
    refine Ev.bind e3 ?_
    simp only [e4, e5, Option.bind_some, if_true, w]
    exact e6
theorem pieceD {l : List Int} (hl : byteL l) {p : Int} (s : Int) {B : Nat} (hp : okp p B) (hB : B ≤ 90000) : ∃ a b p' s', spec_l03DrawPiece.f l p s = some (a, b, p', s') ∧ okp p' (B + 2) := by
  obtain ⟨v, p1, s1, e1, h1, _⟩ := pickD hl s hp (by omega) 12 (by omega)
  obtain ⟨u, p2, s2, e2, h2, _⟩ := pickD hl s1 h1 (by omega) 60 (by omega)
  exact ⟨wrap64 (500 * (wrap64 (1 + v))), wrap64 (50 + (wrap64 (10 * u))), p2, s2, by simp only [spec_l03DrawPiece.f, e1, e2, Option.bind_some], h2⟩
theorem spoilD {l : List Int} (hl : byteL l) {p : Int} (s : Int) {B : Nat} (hp : okp p B) (hB : B ≤ 90000) (a b : Int) : ∃ u v p' s', spec_l03SpoilPiece.f l p s a b = some (u, v, p', s') ∧ okp p' (B + 2) := by
  obtain ⟨c, p1, s1, e1, h1⟩ := oneD hl s hp (by omega) 2 (by omega)
  cases c
  · obtain ⟨v, p2, s2, e2, h2⟩ := amongD hl s1 h1 (by omega) [(-1), 0, 1, 100000, 100001] (by decide) (by decide)
    exact ⟨a, v, p2, s2, by simp only [spec_l03SpoilPiece.f, e1, e2, Option.bind_some, Bool.false_eq_true, if_false], h2⟩
  · obtain ⟨v, p2, s2, e2, h2⟩ := amongD hl s1 h1 (by omega) [(-1), 0, 1, 1000000, 1000001, (-9223372036854775808)] (by decide) (by decide)
    exact ⟨v, b, p2, s2, by simp only [spec_l03SpoilPiece.f, e1, e2, Option.bind_some, if_true], h2⟩
theorem needD {l : List Int} (hl : byteL l) {p : Int} (s : Int) {B : Nat} (hp : okp p B) (hB : B ≤ 90000) : ∃ v p' s', spec_l03DrawNeed.f l p s = some (v, p', s') ∧ okp p' (B + 2) := by
  obtain ⟨c, p1, s1, e1, h1⟩ := oneD hl s hp (by omega) 10 (by omega)
  cases c
  · obtain ⟨v, p2, s2, e2, h2, _⟩ := pickD hl s1 h1 (by omega) 20 (by omega)
    exact ⟨wrap64 (250 * v), p2, s2, by simp only [spec_l03DrawNeed.f, e1, e2, Option.bind_some, Bool.false_eq_true, if_false], h2⟩
  · obtain ⟨v, p2, s2, e2, h2⟩ := amongD hl s1 h1 (by omega) [(-1), 0, 1000000, 1000001] (by decide) (by decide)
    exact ⟨v, p2, s2, by simp only [spec_l03DrawNeed.f, e1, e2, Option.bind_some, if_true], h2⟩

/-! ### drawn lines -/
theorem drawL_end {l : List Int} (hl : byteL l) (xs : List S61) (hx : xs.length ≤ 100) (d : Int) (ps : List S45) (js : List Int) (hp1 : 1 ≤ ps.length) (hp2 : ps.length ≤ 99) (hq : js.length ≤ 99) {p : Int} (s : Int) {B : Nat} (hp : okp p B) (hB : B ≤ 85000) :
    ∃ r, Ev (fun k => spec_l03DrawLine.j2 k xs d false l p s ps js) r ∧ r.1.length ≤ 100 ∧ r.2.1.length ≤ 100 ∧ okp r.2.2.1 (B + 5) := by
  obtain ⟨u, p1, s1, e1, h1, u0, u1⟩ := pickD hl s hp (by omega) 24 (by omega)
  by_cases k0 : u = 0
  · obtain ⟨v, p2, s2, e2, h2, v0, v1⟩ := pickD hl s1 h1 (by omega) ps.length (by omega)
    have v1 := v1 (by omega)
    obtain ⟨a, b, p3, s3, e3, h3⟩ := spoilD hl s2 h2 (by omega) (rd_T45 ps v).f0 (rd_T45 ps v).f1
    refine ⟨(ps.set (v : Int).toNat (⟨a, b⟩ : S45), js, p3, s3), ev_succ ?_, ?_, ?_, h3.up (by omega)⟩
    · simp only [spec_l03DrawLine.j2, Bool.false_eq_true, if_false, e1, Option.bind_some, k0, if_true, e2, v0, v1, e3]; exact ev_now _
    · simp; omega
    · show js.length ≤ 100; omega
  by_cases k1 : u = 1
  · obtain ⟨v, p2, s2, e2, h2⟩ := amongD hl s1 h1 (by omega) [(-1), 0, (xs.length : Int)] (by simp) (by simp)
    refine ⟨(ps, js ++ [v], p2, s2), ev_succ ?_, ?_, ?_, h2.up (by omega)⟩
    · simp only [spec_l03DrawLine.j2, Bool.false_eq_true, if_false, e1, Option.bind_some, k1, show ¬ (1 : Int) = 0 by decide, if_true, e2, show js.length < 17592186044416 by omega]; exact ev_now _
    · show ps.length ≤ 100; omega
    · simp; omega
  by_cases k2 : u = 2
  · obtain ⟨a, b, p2, s2, e2, h2⟩ := pieceD hl s1 h1 (by omega)
    obtain ⟨v, p3, s3, e3, h3⟩ := amongD hl s2 h2 (by omega) [(-1), 0, (xs.length : Int)] (by simp) (by simp)
    refine ⟨(ps ++ [(⟨a, b⟩ : S45)], js ++ [v], p3, s3), ev_succ ?_, ?_, ?_, h3.up (by omega)⟩
    · simp only [spec_l03DrawLine.j2, Bool.false_eq_true, if_false, e1, Option.bind_some, k2, show ¬ (2 : Int) = 0 by decide, show ¬ (2 : Int) = 1 by decide, if_true, e2, show ps.length < 8796093022208 by omega, e3, show js.length < 17592186044416 by omega]; exact ev_now _
    · simp; omega
    · simp; omega
  refine ⟨(ps, js, p1, s1), ev_succ ?_, ?_, ?_, h1.up (by omega)⟩
  · simp only [spec_l03DrawLine.j2, Bool.false_eq_true, if_false, e1, Option.bind_some, k0, k1, k2]; exact ev_now _
  · show ps.length ≤ 100; omega
  · show js.length ≤ 100; omega
theorem drawL_loop {l : List Int} (hl : byteL l) (xs : List S61) (hx : xs.length ≤ 100) : ∀ (d : Nat) (ps : List S45) (js : List Int) (p s : Int) (B : Nat), 1 ≤ ps.length → ps.length + d ≤ 99 → js.length + d ≤ 99 → okp p B → B + 3 * d ≤ 80000 →
    ∃ r, Ev (fun k => spec_l03DrawLine.l0 k xs (d : Int) l p s ps js) r ∧ r.1.length ≤ 100 ∧ r.2.1.length ≤ 100 ∧ okp r.2.2.1 (B + 3 * d + 5) := by
  intro d
  induction d with
  | zero =>
    intro ps js p s B h1 h2 h3 hp hB
    obtain ⟨r, e, a, b, c⟩ := drawL_end hl xs hx ((0 : Nat) : Int) ps js h1 (by omega) (by omega) s hp (by omega)
    refine ⟨r, ev_succ ?_, a, b, c⟩
    simp only [spec_l03DrawLine.l0, show ¬ (((0 : Nat) : Int) > 0) by omega, if_false]
    exact e
  | succ d ih =>
    intro ps js p s B h1 h2 h3 hp hB
    by_cases hz : (xs.length : Int) > 0
    · obtain ⟨a, b, p1, s1, e1, i1⟩ := pieceD hl s hp (by omega)
      obtain ⟨v, p2, s2, e2, i2, _⟩ := pickD hl s1 i1 (by omega) xs.length (by omega)
      obtain ⟨r, e, x, y, z⟩ := ih (ps ++ [(⟨a, b⟩ : S45)]) (js ++ [v]) p2 s2 _ (by simp) (by simp; omega) (by simp; omega) i2 (by omega)
      have w : wrap64 (((d + 1 : Nat) : Int) - 1) = (d : Int) := by rw [w64 (by omega) (by omega)]; omega
      refine ⟨r, ev_succ ?_, x, y, z.up (by omega)⟩
      simp only [spec_l03DrawLine.l0, show ((d + 1 : Nat) : Int) > 0 by omega, if_true, hz, decide_true]
      refine ev_succ ?_
      simp only [spec_l03DrawLine.j2, if_true, e1, Option.bind_some, show ps.length < 8796093022208 by omega, e2, show js.length < 17592186044416 by omega, w]
      exact e
    · obtain ⟨r, e, x, y, z⟩ := drawL_end hl xs hx ((d + 1 : Nat) : Int) ps js h1 (by omega) (by omega) s hp (by omega)
      refine ⟨r, ev_succ ?_, x, y, z.up (by omega)⟩
      simp only [spec_l03DrawLine.l0, show ((d + 1 : Nat) : Int) > 0 by omega, if_true, hz, decide_false]
      exact e
theorem drawL_ev {l : List Int} (hl : byteL l) (xs : List S61) (hx : xs.length ≤ 100) {p : Int} (s : Int) {B : Nat} (hp : okp p B) (hB : B ≤ 50000) :
    ∃ r, Ev (fun k => spec_l03DrawLine.f k l p s xs) r ∧ r.1.length ≤ 100 ∧ r.2.1.length ≤ 100 ∧ okp r.2.2.1 (B + 100) := by
  obtain ⟨a, b, p1, s1, e1, h1⟩ := pieceD hl s hp (by omega)
  obtain ⟨n, p2, s2, e2, h2, n0, n1⟩ := pickD hl s1 h1 (by omega) 5 (by omega)
  have n1 := n1 (by omega)
  obtain ⟨c, p3, s3, e3, h3⟩ := oneD hl s2 h2 (by omega) 20 (by omega)
  cases c
  · obtain ⟨m, rfl⟩ : ∃ m : Nat, n = (m : Int) := ⟨n.toNat, by omega⟩
    obtain ⟨r, e, x, y, z⟩ := drawL_loop hl xs hx m [(⟨a, b⟩ : S45)] [] p3 s3 _ (by simp) (by simp; omega) (by simp; omega) h3 (by omega)
    refine ⟨r, ?_, x, y, z.up (by omega)⟩
    simp only [spec_l03DrawLine.f, e1, e2, e3, Option.bind_some, Bool.false_eq_true, if_false]
    refine ev_succ ?_
    simp only [spec_l03DrawLine.j0]
    exact e
  · obtain ⟨v, p4, s4, e4, h4, v0, v1⟩ := pickD hl s3 h3 (by omega) 2 (by omega)
    have v1 := v1 (by omega)
    have w : wrap64 (11 + v) = ((11 + v.toNat : Nat) : Int) := by rw [w64 (by omega) (by omega)]; omega
    obtain ⟨r, e, x, y, z⟩ := drawL_loop hl xs hx (11 + v.toNat) [(⟨a, b⟩ : S45)] [] p4 s4 _ (by simp) (by simp; omega) (by simp; omega) h4 (by omega)
    refine ⟨r, ?_, x, y, z.up (by omega)⟩
    simp only [spec_l03DrawLine.f, e1, e2, e3, e4, Option.bind_some, if_true, w]
    refine ev_succ ?_
    simp only [spec_l03DrawLine.j0]
    exact e

theorem all_self_p (xs : List S45) : ((List.range xs.length).all (sameP xs xs) && true) = true := by
  rw [Bool.and_true, List.all_eq_true]; intro n _; simp [sameP]
theorem all_self_i (xs : List Int) : intsV xs xs = true := by
  simp [intsV, sameI]
theorem spec_SameLine_self (ps : List S45) (js : List Int) (hp : ps.length ≤ 1048576) (hq : js.length ≤ 1048576) : Ev (fun k => spec_SameLine.f k ps js ps js) true := by
  simp only [spec_SameLine.f, if_true]
  refine Ev.bind (spec_l00Same_ev js js hq) ?_
  rw [all_self_i, Bool.not_true]
  refine ev_succ ?_
  simp only [spec_SameLine.j0, Bool.false_eq_true, if_false]
  exact ev_to (spec_pieces_loop ps ps js js hp rfl) (all_self_p ps)
theorem BestJoin_is (xs : List S61) (h : xs.length ≤ 1048576) (a b c d need : Int) : ∃ r, Ev (fun k => spec_BestJoin.f k xs a b c d need) r ∧ Ev (fun k => impl_BestJoin.f k xs a b c d need) r ∧
    (r.2 = 0 → joinsB xs = true ∧ pieceB a b = true ∧ pieceB c d = true ∧ (0 ≤ need ∧ need ≤ 1000000) ∧ r.1 = bestS xs (mn a c) need xs.length ∧ 0 ≤ r.1) := by
  simp only [spec_BestJoin.f, impl_BestJoin.f, spec_l03Piece_eq, impl_validPiece_eq, Option.bind_some]
  have bad : Ev (fun k => spec_BestJoin.j0 k xs need true a b c d) (0, 1) := by refine ev_succ ?_; simp only [spec_BestJoin.j0, if_true]; exact ev_now _
  have bad' : Ev (fun k => impl_BestJoin.j0 k xs need true a b c d) (0, 1) := by refine ev_succ ?_; simp only [impl_BestJoin.j0, if_true]; exact ev_now _
  cases hb : joinsB xs
  · refine ⟨(0, 1), Ev.bind (spec_l03Ok_ev xs h) ?_, Ev.bind (impl_ValidJoins_ev xs h) ?_, fun e => absurd e (by decide)⟩
    · simp only [hb, Bool.false_eq_true, if_false]; exact bad
    · simp only [hb, Bool.false_eq_true, if_false]; exact bad'
  cases hp : pieceB a b
  · refine ⟨(0, 1), Ev.bind (spec_l03Ok_ev xs h) ?_, Ev.bind (impl_ValidJoins_ev xs h) ?_, fun e => absurd e (by decide)⟩
    · simp only [hb, Bool.false_eq_true, if_true, if_false]; exact bad
    · simp only [hb, Bool.false_eq_true, if_true, if_false]; exact bad'
  cases hq : pieceB c d
  · refine ⟨(0, 1), Ev.bind (spec_l03Ok_ev xs h) ?_, Ev.bind (impl_ValidJoins_ev xs h) ?_, fun e => absurd e (by decide)⟩
    · simp only [hb, if_true, Bool.not_false]; exact bad
    · simp only [hb, if_true, Bool.not_false]; exact bad'
  by_cases hn : 0 ≤ need ∧ need ≤ 1000000
  · refine ⟨bestV xs (mn a c) need, Ev.bind (spec_l03Ok_ev xs h) ?_, Ev.bind (impl_ValidJoins_ev xs h) ?_, fun e => ?_⟩
    · simp only [hb, if_true, Bool.not_true]
      refine ev_succ ?_
      simp only [spec_BestJoin.j0, Bool.false_eq_true, if_false, spec_l03Need.f, spec_l00In_eq, Option.bind_some, hn, and_self, decide_true, if_true]
      exact spec_best_loop xs h need a b c d
    · simp only [hb, if_true, Bool.not_true]
      refine ev_succ ?_
      simp only [impl_BestJoin.j0, Bool.false_eq_true, if_false, impl_within_eq, Option.bind_some, hn, and_self, decide_true, if_true]
      refine Ev.bind (impl_best_loop xs h need a b c d) ?_
      unfold bestV
      by_cases h2 : bestS xs (mn a c) need xs.length < 0
      · simp only [h2, if_true]; exact ev_now _
      · simp only [h2, if_false]; exact ev_now _
    · unfold bestV at e ⊢
      by_cases h2 : bestS xs (mn a c) need xs.length < 0
      · rw [if_pos h2] at e; exact absurd e (by decide)
      · rw [if_neg h2]; exact ⟨rfl, rfl, rfl, hn, rfl, by show 0 ≤ bestS xs (mn a c) need xs.length; omega⟩
  · refine ⟨(0, 2), Ev.bind (spec_l03Ok_ev xs h) ?_, Ev.bind (impl_ValidJoins_ev xs h) ?_, fun e => absurd e (by decide)⟩
    · simp only [hb, if_true, Bool.not_true]
      refine ev_succ ?_
      simp only [spec_BestJoin.j0, Bool.false_eq_true, if_false, spec_l03Need.f, spec_l00In_eq, Option.bind_some, hn, decide_false]
      exact ev_now _
    · simp only [hb, if_true, Bool.not_true]
      refine ev_succ ?_
      simp only [impl_BestJoin.j0, Bool.false_eq_true, if_false, impl_within_eq, Option.bind_some, hn, decide_false]
      exact ev_now _
/-! ### the draws -/
theorem okp0 : okp 0 0 := ⟨Int.le_refl _, Int.le_refl _⟩
theorem DrawBestJoin_ev {l : List Int} (hl : byteL l) : ∃ r, Ev (fun k => spec_DrawBestJoin.f k l) r ∧ r.1.length ≤ 100 := by
  obtain ⟨x, e1, l1, h1⟩ := bentJ_ev hl 0 okp0 (by omega)
  obtain ⟨a, b, p2, s2, e2, h2⟩ := pieceD hl x.2.2 h1 (by omega)
  obtain ⟨c, d, p3, s3, e3, h3⟩ := pieceD hl s2 h2 (by omega)
  obtain ⟨o, p4, s4, e4, h4⟩ := oneD hl s3 h3 (by omega) 16 (by omega)
  have rest : ∀ (p s u v : Int), okp p 1000 → ∃ r, Ev (fun k => spec_DrawBestJoin.j0 k x.1 l p s u v c d) r ∧ r.1 = x.1 := by
    intro p s u v hp
    obtain ⟨o, p5, s5, e5, h5⟩ := oneD hl s hp (by omega) 16 (by omega)
    cases o
    · obtain ⟨n, p6, s6, e6, h6⟩ := needD hl s5 h5 (by omega)
      refine ⟨(x.1, u, v, c, d, n), ev_succ ?_, rfl⟩
      simp only [spec_DrawBestJoin.j0, e5, e6, Option.bind_some, Bool.false_eq_true, if_false]; exact ev_now _
    · obtain ⟨u', v', p6, s6, e6, h6⟩ := spoilD hl s5 h5 (by omega) c d
      obtain ⟨n, p7, s7, e7, h7⟩ := needD hl s6 h6 (by omega)
      refine ⟨(x.1, u, v, u', v', n), ev_succ ?_, rfl⟩
      simp only [spec_DrawBestJoin.j0, e5, e6, e7, Option.bind_some, if_true]; exact ev_now _
  cases o
  · obtain ⟨r, e, hr⟩ := rest p4 s4 a b (h4.up (by omega))
    refine ⟨r, ?_, by rw [hr]; exact l1⟩
    simp only [spec_DrawBestJoin.f, spec_l00From.f, Option.bind_some]
    refine Ev.bind e1 ?_
    simp only [e2, e3, e4, Option.bind_some, Bool.false_eq_true, if_false]
    exact e
  · obtain ⟨u, v, p5, s5, e5, h5⟩ := spoilD hl s4 h4 (by omega) a b
    obtain ⟨r, e, hr⟩ := rest p5 s5 u v (h5.up (by omega))
    refine ⟨r, ?_, by rw [hr]; exact l1⟩
    simp only [spec_DrawBestJoin.f, spec_l00From.f, Option.bind_some]
    refine Ev.bind e1 ?_
    simp only [e2, e3, e4, e5, Option.bind_some, if_true]
    exact e
theorem longest_loop {l : List Int} (hl : byteL l) (xs : List S61) (n : Nat) : ∀ (d : Nat) (ps : List S45) (p s : Int) (B : Nat), okp p B → B + 2 * d ≤ 80000 → ps.length + d = n → n ≤ 100 →
    ∃ r, Ev (fun k => spec_DrawLongestLine.l0 k xs ps (n : Int) (d : Int) l p s) r ∧ r.1 = xs ∧ r.2.1.length ≤ 100 := by
  intro d
  induction d with
  | zero =>
    intro ps p s B hp hB hd hn
    have plain : ∀ (p s : Int), okp p 81000 → ∃ r, Ev (fun k => spec_DrawLongestLine.j2 k xs ps false l p s) r ∧ r.1 = xs ∧ r.2.1.length ≤ 100 := by
      intro p s hp
      obtain ⟨v, p1, s1, e1, h1⟩ := needD hl s hp (by omega)
      refine ⟨(xs, ps, v), ev_succ ?_, rfl, by show ps.length ≤ 100; omega⟩
      simp only [spec_DrawLongestLine.j2, Bool.false_eq_true, if_false, e1, Option.bind_some]; exact ev_now _
    by_cases hz : (n : Int) > 0
    · obtain ⟨o, p1, s1, e1, h1⟩ := oneD hl s hp (by omega) 16 (by omega)
      cases o
      · obtain ⟨r, e, x, y⟩ := plain p1 s1 (h1.up (by omega))
        refine ⟨r, ev_succ ?_, x, y⟩
        simp only [spec_DrawLongestLine.l0, show ¬ (((0 : Nat) : Int) > 0) by omega, if_false, hz, if_true, e1, Option.bind_some]
        exact e
      · obtain ⟨u, v, p2, s2, e2, h2⟩ := spoilD hl s1 h1 (by omega) (rd_T45 ps 0).f0 (rd_T45 ps 0).f1
        obtain ⟨w, p3, s3, e3, h3⟩ := needD hl s2 h2 (by omega)
        refine ⟨(xs, ps.set (0 : Int).toNat (⟨u, v⟩ : S45), w), ev_succ ?_, rfl, ?_⟩
        · simp only [spec_DrawLongestLine.l0, show ¬ (((0 : Nat) : Int) > 0) by omega, if_false, hz, if_true, e1, Option.bind_some]
          refine ev_succ ?_
          simp only [spec_DrawLongestLine.j2, if_true, show 0 < (ps.length : Int) by omega, e2, e3, Option.bind_some]
          exact ev_now _
        · simp; omega
    · obtain ⟨r, e, x, y⟩ := plain p s (hp.up (by omega))
      refine ⟨r, ev_succ ?_, x, y⟩
      simp only [spec_DrawLongestLine.l0, show ¬ (((0 : Nat) : Int) > 0) by omega, if_false, hz]
      exact e
  | succ d ih =>
    intro ps p s B hp hB hd hn
    obtain ⟨a, b, p1, s1, e1, h1⟩ := pieceD hl s hp (by omega)
    obtain ⟨r, e, x, y⟩ := ih (ps ++ [(⟨a, b⟩ : S45)]) p1 s1 _ h1 (by omega) (by simp; omega) hn
    have w : wrap64 (((d + 1 : Nat) : Int) - 1) = (d : Int) := by rw [w64 (by omega) (by omega)]; omega
    refine ⟨r, ev_succ ?_, x, y⟩
    simp only [spec_DrawLongestLine.l0, show ((d + 1 : Nat) : Int) > 0 by omega, if_true, e1, Option.bind_some, show ps.length < 8796093022208 by omega, w]
    exact e
theorem DrawLongestLine_ev {l : List Int} (hl : byteL l) : ∃ r, Ev (fun k => spec_DrawLongestLine.f k l) r ∧ r.1.length ≤ 100 ∧ r.2.1.length ≤ 100 := by
  obtain ⟨x, e1, l1, h1⟩ := bentJ_ev hl 0 okp0 (by omega)
  obtain ⟨n, p2, s2, e2, h2, n0, n1⟩ := pickD hl x.2.2 h1 (by omega) 7 (by omega)
  have n1 := n1 (by omega)
  obtain ⟨o, p3, s3, e3, h3⟩ := oneD hl s2 h2 (by omega) 20 (by omega)
  cases o
  · obtain ⟨m, rfl⟩ : ∃ m : Nat, n = (m : Int) := ⟨n.toNat, by omega⟩
    obtain ⟨r, e, hx, hy⟩ := longest_loop hl x.1 m m [] p3 s3 _ h3 (by omega) (by simp) (by omega)
    refine ⟨r, ?_, by rw [hx]; exact l1, hy⟩
    simp only [spec_DrawLongestLine.f, spec_l00From.f, Option.bind_some]
    refine Ev.bind e1 ?_
    simp only [e2, e3, Option.bind_some, Bool.false_eq_true, if_false]
    refine ev_succ ?_
    simp only [spec_DrawLongestLine.j0]
    exact e
  · obtain ⟨v, p4, s4, e4, h4, v0, v1⟩ := pickD hl s3 h3 (by omega) 2 (by omega)
    have v1 := v1 (by omega)
    have w : wrap64 (12 + v) = ((12 + v.toNat : Nat) : Int) := by rw [w64 (by omega) (by omega)]; omega
    obtain ⟨r, e, hx, hy⟩ := longest_loop hl x.1 (12 + v.toNat) (12 + v.toNat) [] p4 s4 _ h4 (by omega) (by simp) (by omega)
    refine ⟨r, ?_, by rw [hx]; exact l1, hy⟩
    simp only [spec_DrawLongestLine.f, spec_l00From.f, Option.bind_some]
    refine Ev.bind e1 ?_
    simp only [e2, e3, e4, Option.bind_some, if_true, w]
    refine ev_succ ?_
    simp only [spec_DrawLongestLine.j0]
    exact e
theorem DrawStrengthAt_ev {l : List Int} (hl : byteL l) : ∃ r, Ev (fun k => spec_DrawStrengthAt.f k l) r ∧ r.1.length ≤ 100 ∧ r.2.1.length ≤ 100 ∧ r.2.2.1.length ≤ 100 := by
  obtain ⟨x, e1, l1, h1⟩ := bentJ_ev hl 0 okp0 (by omega)
  obtain ⟨y, e2, l2, l3, h2⟩ := drawL_ev hl x.1 l1 x.2.2 h1 (by omega)
  have w : wrap64 ((y.2.1.length : Int) + 1) = (y.2.1.length : Int) + 1 := w64 (by omega) (by omega)
  obtain ⟨v, p3, s3, e3, h3, _⟩ := pickD hl y.2.2.2 h2 (by omega) ((y.2.1.length : Int) + 1) (by omega)
  obtain ⟨u, p4, s4, e4, h4, _⟩ := pickD hl s3 h3 (by omega) 16 (by omega)
  refine ⟨(x.1, y.1, y.2.1, wrap64 (v - (wrap64 (Int.tdiv u 15)))), ?_, l1, l2, l3⟩
  · simp only [spec_DrawStrengthAt.f, spec_l00From.f, Option.bind_some]
    refine Ev.bind e1 (Ev.bind e2 ?_)
    simp only [w, e3, e4, Option.bind_some]
    exact ev_now _
/-! ### the rest of the law: of the best join -/
theorem best_at {xs : List S61} (hx : xs.length ≤ 1048576) (hb : joinsB xs = true) {a b c d : Int} (hp : pieceB a b = true) (hq : pieceB c d = true) {n : Nat} (hn : n < xs.length) :
    Ev (fun k => impl_StrengthAt.f k xs [(⟨a, 100000⟩ : S45), (⟨c, 100000⟩ : S45)] [(n : Int)] 0) ((mkF (mn a c * (xs.getD n z61).f1) 1000).1, (mkF (mn a c * (xs.getD n z61).f1) 1000).2, 0) := by
  have p1 := (okP_iff (⟨a, b⟩ : S45)).1 hp
  have p2 := (okP_iff (⟨c, d⟩ : S45)).1 hq
  have t := (joins_at hb hn).2
  have hc : lineB xs [(⟨a, 100000⟩ : S45), (⟨c, 100000⟩ : S45)] [(n : Int)] = true := by
    have q1 := (okP_iff (⟨a, 100000⟩ : S45)).2 ⟨p1.1, by show (1 : Int) ≤ 100000; decide, by show (100000 : Int) ≤ 100000; decide⟩
    have q2 := (okP_iff (⟨c, 100000⟩ : S45)).2 ⟨p2.1, by show (1 : Int) ≤ 100000; decide, by show (100000 : Int) ≤ 100000; decide⟩
    unfold okP at q1 q2
    unfold lineB
    have e : lenV xs [(⟨a, 100000⟩ : S45), (⟨c, 100000⟩ : S45)] [(n : Int)] = 200000 - (xs.getD n z61).f2 := by
      show wrap64 (wrap64 (wrap64 (0 + 100000) + 100000) - (xs.getD ((n : Int)).toNat z61).f2) = _
      rw [Int.toNat_natCast, show wrap64 (wrap64 (0 + 100000) + 100000) = 200000 from by unfold wrap64; omega, w64 (by omega) (by omega)]
    have i : inJ xs (n : Int) = true := by unfold inJ; rw [decide_eq_true_eq]; omega
    rw [e]
    simp only [List.all_cons, List.all_nil, q1, q2, i, Bool.and_true, Bool.true_and, List.length_cons, List.length_nil, Bool.and_eq_true, decide_eq_true_eq]
    omega
  have ok := lineOk_of hb hc
  have v := impl_strengthAt_ev ok (n := 0) (by simp)
  have ej : jV xs [(⟨a, 100000⟩ : S45), (⟨c, 100000⟩ : S45)] [(n : Int)] 0 = mn a c * (xs.getD n z61).f1 := by
    show mn a c * (xs.getD ((n : Int)).toNat z61).f1 = _
    rw [Int.toNat_natCast]
  rw [ej] at v
  simp only [impl_StrengthAt.f]
  refine Ev.bind (impl_ValidJoins_ev xs hx) ?_
  simp only [hb, if_true]
  refine Ev.bind (impl_validLine_ev xs hx _ _ (by simp) (by simp)) ?_
  simp only [hc, Bool.not_true]
  refine ev_succ ?_
  simp only [impl_StrengthAt.j0, Bool.false_eq_true, if_false, impl_within_eq, Option.bind_some, List.length_singleton, show wrap64 (((1 : Nat) : Int) - 1) = 0 from by unfold wrap64; omega, Int.le_refl, and_self, decide_true, if_true]
  exact Ev.bind v (ev_now _)
theorem best_rest {xs : List S61} (hx : xs.length ≤ 1048576) {a b c d need : Int} {r : Int × Int}
    (P : r.2 = 0 → joinsB xs = true ∧ pieceB a b = true ∧ pieceB c d = true ∧ (0 ≤ need ∧ need ≤ 1000000) ∧ r.1 = bestS xs (mn a c) need xs.length ∧ 0 ≤ r.1) :
    Ev (fun k => laws_FnBestJoins.j1 k xs need r.2 r.1 a b c d) true := by
  refine ev_succ ?_
  by_cases h0 : r.2 = 0
  · obtain ⟨hb, hp, hq, hn, e, h1⟩ := P h0
    have p1 := (okP_iff (⟨a, b⟩ : S45)).1 hp
    have p2 := (okP_iff (⟨c, d⟩ : S45)).1 hq
    have bd := mn_bd (l := 1) (h := 1000000) p1.1 p2.1
    have bi := bestS_is hb bd hn xs.length (Nat.le_refl _)
    have bl := bestS_lt xs (mn a c) need xs.length
    rw [← e] at bi bl
    simp only [laws_FnBestJoins.j1, h0, if_true]
    refine ev_fold (len := xs.length) (g := fun k (_ : Unit) i => laws_FnBestJoins.l0 k xs need r.1 i a b c d) (fun _ _ => ()) (fun _ => ()) true (fun _ _ => rfl) ?_ ?_
    · intro n hl v hv
      have m := bears_iff hb bd hn hl
      have ps := mkF_pos (mn a c * (xs.getD n z61).f1) 1000 m.2.1 (by decide)
      have ge : bears xs (mn a c) need n ↔ need * (mkF (mn a c * (xs.getD n z61).f1) 1000).2 ≤ (mkF (mn a c * (xs.getD n z61).f1) 1000).1 := by
        obtain ⟨g, hg, e1, e2⟩ := mkF_thou (mn a c * (xs.getD n z61).f1)
        generalize mkF (mn a c * (xs.getD n z61).f1) 1000 = q at e1 e2
        unfold bears
        rw [e1, e2, show g * q.2 * need = g * (need * q.2) from by rw [Int.mul_assoc, Int.mul_comm q.2 need]]
        exact ⟨fun z => Int.le_of_mul_le_mul_left z hg, fun z => Int.mul_le_mul_of_nonneg_left z (Int.le_of_lt hg)⟩
      have wm := mul_bd (show 0 ≤ need by omega) hn.2 (show 0 ≤ (mkF (mn a c * (xs.getD n z61).f1) 1000).2 by omega) ps.2.2.2
      refine ev_succ ?_
      simp only [laws_FnBestJoins.l0, Int.ofNat_lt.2 hl, if_true]
      refine Ev.bind (best_at hx hb hp hq hl) ?_
      generalize mkF (mn a c * (xs.getD n z61).f1) 1000 = q at ps ge wm
      simp only [if_true, show ¬ q.2 < 1 by omega, if_false, show decide (q.2 > 1000) = false from decide_eq_false (by omega)]
      refine ev_succ ?_
      simp only [laws_FnBestJoins.j3, Bool.false_eq_true, if_false, w64 (n := need * q.2) (by omega) (by omega), show (0 : Int) ≤ (n : Int) from Int.natCast_nonneg _, Int.ofNat_lt.2 hl, h1, bl, if_true, wnext hl (by omega : xs.length ≤ 9223372036854775807)]
      by_cases hi : (n : Int) = r.1
      · have g : q.1 ≥ need * q.2 := by
          have := bi.1 h1
          rw [← hi, Int.toNat_natCast] at this
          exact ge.1 this
        simp only [hi, if_true, g, Int.lt_irrefl, if_false]
        exact hv
      · simp only [hi, if_false]
        by_cases g : q.1 ≥ need * q.2
        · have := (bi.2 n hl (ge.2 g)).2
          simp only [g, if_true, rd_T61, Int.toNat_natCast, show ¬ (xs.getD n z61).f2 < (xs.getD r.1.toNat z61).f2 by omega, if_false]
          exact hv
        · simp only [g, if_false]
          exact hv
    · refine ev_succ ?_
      simp only [laws_FnBestJoins.l0, Int.lt_irrefl, if_false]
      exact ev_now _
  · simp only [laws_FnBestJoins.j1, h0, if_false]; exact ev_now _
theorem FnBestJoins : laws_FnBestJoins.Pure := by
  intro l0 h0
  refine Ev.rounds ?_
  have b0 : byteL l0 := fun y hy => u8_range (h0.2.2 y hy)
  simp only [laws_FnBestJoins.f, laws_f6big.f, Option.bind_some]
  by_cases hb : (l0.length : Int) > 4096
  · simp only [hb, decide_true, if_true]; exact ev_now _
  simp only [hb, decide_false, Bool.false_eq_true, if_false]
  obtain ⟨d1, e1, x1⟩ := DrawBestJoin_ev b0
  obtain ⟨d2, e2, x2, y2⟩ := DrawLongestLine_ev b0
  obtain ⟨d3, e3, x3, y3, z3⟩ := DrawStrengthAt_ev b0
  obtain ⟨r, sb, ib, P⟩ := BestJoin_is d1.1 (by omega) d1.2.1 d1.2.2.1 d1.2.2.2.1 d1.2.2.2.2.1 d1.2.2.2.2.2
  have sl := spec_LongestLine_ev d2.1 (by omega) d2.2.1 (by omega) d2.2.2
  have il := impl_LongestLine_ev d2.1 (by omega) d2.2.1 (by omega) d2.2.2
  have ll := longV_len d2.1 d2.2.1 d2.2.2
  have li := @long_is d2.1 d2.2.1 d2.2.2
  obtain ⟨t, sa, ia⟩ := StrengthAt_ev d3.1 (by omega) d3.2.1 d3.2.2.1 (by omega) (by omega) d3.2.2.2
  generalize longV d2.1 d2.2.1 d2.2.2 = q at sl il ll li
  refine Ev.bind e1 (Ev.bind ib (Ev.bind sb (Ev.bind e2 (Ev.bind il (Ev.bind sl (Ev.bind e3 (Ev.bind ia (Ev.bind sa ?_))))))))
  simp only [if_true]
  refine Ev.bind (spec_SameLine_self q.1 q.2.1 ll.1 ll.2) ?_
  simp only [if_true, beq_self_eq_true, Bool.not_true, Bool.or_self]
  refine ev_succ ?_
  have rest := best_rest (xs := d1.1) (by omega) P
  simp only [laws_FnBestJoins.j0, Bool.false_eq_true, if_false]
  by_cases hq : q.2.2 = 0
  · obtain ⟨hj, hc, hn, nd, h1, h2⟩ := li hq
    have ok := lineOk_of hj hc
    obtain ⟨v, hv, lv, v1, v2⟩ := impl_lineStrength_ev ok
    have ge : 1000 * d2.2.2 ≤ v := by
      rcases lv.2.2 with ⟨j, hl, e⟩ | ⟨j, hl, e⟩
      · have := h1 j hl; omega
      · have := h2 j hl; omega
    have mg := mkF_ge (by omega) ge
    have wm := mul_bd nd.1 nd.2 (show 0 ≤ (mkF v 1000).2 by omega) mg.2.1
    have str : Ev (fun k => impl_LineStrength.f k d2.1 q.1 q.2.1) ((mkF v 1000).1, (mkF v 1000).2, 0) := by
      simp only [impl_LineStrength.f]
      refine Ev.bind (impl_ValidJoins_ev d2.1 (by omega)) ?_
      simp only [hj, if_true]
      refine Ev.bind (impl_validLine_ev d2.1 (by omega) q.1 q.2.1 ll.1 ll.2) ?_
      simp only [hc, if_true]
      exact Ev.bind hv (ev_now _)
    have vl : Ev (fun k => impl_ValidLine.f k d2.1 q.1 q.2.1) true := by
      simp only [impl_ValidLine.f]
      refine Ev.bind (impl_ValidJoins_ev d2.1 (by omega)) ?_
      simp only [hj, if_true]
      exact Ev.bind (impl_validLine_ev d2.1 (by omega) q.1 q.2.1 ll.1 ll.2) (ev_to (ev_now _) hc)
    simp only [hq, if_true]
    refine Ev.bind str (Ev.bind vl ?_)
    simp only [if_true, show ¬ (mkF v 1000).2 < 1 by omega, show ¬ (mkF v 1000).2 > 1000 by omega, if_false, w64 (n := d2.2.2 * (mkF v 1000).2) (by omega) (by omega), show ¬ (mkF v 1000).1 < d2.2.2 * (mkF v 1000).2 by omega, show ¬ (q.1.length : Int) > (d2.2.1.length : Int) by omega]
    exact rest
  · simp only [hq, if_false]
    exact rest

end Go.Proofs.Ytginmioklkcgbaa.Pure

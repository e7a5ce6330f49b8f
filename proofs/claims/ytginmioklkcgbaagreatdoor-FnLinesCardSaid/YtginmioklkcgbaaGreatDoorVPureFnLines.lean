import Derived.Test.YtginmioklkcgbaaGreatDoorVQFnLinesx6
import Derived.Test.YtginmioklkcgbaaGreatDoorVAid
namespace Go.Proofs.YtginmioklkcgbaaGreatDoor.Pure
open Go.RowKit Go.Proofs.YtginmioklkcgbaaGreatDoor.QFnLines Go.Proofs.YtginmioklkcgbaaGreatDoorW.PrintWords Go.Proofs.YtginmioklkcgbaaGreatDoorW.PrintLast Go.Proofs.YtginmioklkcgbaaGreatDoorW.PrintMore Go.Proofs.YtginmioklkcgbaaGreatDoor.Aid
set_option linter.unusedVariables false
set_option linter.unusedSimpArgs false
theorem spec_l00Gcd_ev (m : Nat) : ∀ a b : Int, b.toNat = m → 0 ≤ a → 0 ≤ b → Ev (fun k => spec_l00Gcd.l0 k a b) (Nat.gcd a.toNat b.toNat : Nat) := by
  induction m using Nat.strongRecOn with
  | _ m ih =>
    intro a b hm ha hb
    refine ev_succ ?_
    by_cases h : b = 0
    · subst h
      simp only [spec_l00Gcd.l0, if_true]
      exact ev_to (ev_now _) (by simp; omega)
    · obtain ⟨h1, h2, h3⟩ := gcd_step (a := a) (b := b) ha (by omega)
      simp only [spec_l00Gcd.l0, h, if_false]
      exact ev_to (ih _ (by omega) b _ rfl hb h1) (by rw [h3])
theorem spec_l01Make_ev (n d : Int) (hn : -4611686018427387904 ≤ n ∧ n ≤ 4611686018427387904) (hd : 0 < d ∧ d ≤ 4611686018427387904) : Ev (fun k => spec_l01Make.f k n d) (mkF n d) := by
  have e0 : spec_l00Size.f n = some (n.natAbs : Int) := by
    unfold spec_l00Size.f
    by_cases h : n < 0
    · rw [if_pos h, w64 (by omega) (by omega)]; congr 1; omega
    · rw [if_neg h]; congr 1; omega
  simp only [spec_l01Make.f, spec_l00Gcd.f, e0, Option.bind_some]
  have g := spec_l00Gcd_ev d.toNat (n.natAbs : Int) d rfl (by omega) (by omega)
  have eg : Nat.gcd ((n.natAbs : Int)).toNat d.toNat = Int.gcd n d := by rw [Int.gcd, Int.toNat_natCast]; congr 1; omega
  rw [eg] at g
  have pos : 0 < Int.gcd n d := Int.gcd_pos_of_ne_zero_right n (by omega)
  refine Ev.bind g ?_
  have b1 := tdiv_bound n (Int.gcd n d)
  have b2 := tdiv_bound d (Int.gcd n d)
  simp only [show ¬ ((Int.gcd n d : Nat) : Int) = 0 by omega, if_false, w64 (n := Int.tdiv n (Int.gcd n d : Nat)) (by omega) (by omega), w64 (n := Int.tdiv d (Int.gcd n d : Nat)) (by omega) (by omega)]
  exact ev_now _
theorem spec_l01Small_eq (c : Int) : spec_l01Small.f c = some (decide (97 ≤ c ∧ c ≤ 122)) := by
  unfold spec_l01Small.f
  by_cases h : c ≥ 97
  · rw [if_pos h]; congr 1; simp; omega
  · rw [if_neg h]; congr 1; simp; omega
theorem spec_l01Digit_eq (c : Int) : spec_l01Digit.f c = some (decide (48 ≤ c ∧ c ≤ 57)) := by
  unfold spec_l01Digit.f
  by_cases h : c ≥ 48
  · rw [if_pos h]; congr 1; simp; omega
  · rw [if_neg h]; congr 1; simp; omega
theorem spec_IsName_loop (s : ByteArray) (hs : s.size ≤ 12) : Ev (fun k => spec_IsName.l0 k s 0) ((List.range s.size).all fun i => nameCh (bt s i)) := by
  refine ev_to (ev_all (len := s.size) (g := fun k i => spec_IsName.l0 k s i) (fun i => nameCh (bt s i)) true ?_ ?_ ?_) (by simp)
  · intro n hn hp r hr
    refine ev_succ ?_
    simp only [spec_IsName.l0, spec_l01Small_eq, spec_l01Digit_eq, Option.bind_some]
    simp only [Int.ofNat_lt.2 hn, if_true, show (0 : Int) ≤ (n : Int) from Int.natCast_nonneg n, wnext hn (by omega : s.size ≤ 9223372036854775807)]
    unfold nameCh at hp
    have j2 : Ev (fun k => spec_IsName.j2 k s (n : Int) false) r := by
      refine ev_succ ?_
      simp only [spec_IsName.j2, Bool.false_eq_true, if_false, wnext hn (by omega : s.size ≤ 9223372036854775807)]
      exact hr
    by_cases c1 : 97 ≤ bt s n ∧ bt s n ≤ 122
    · simpa [c1] using j2
    · by_cases c2 : 48 ≤ bt s n ∧ bt s n ≤ 57
      · simpa [c1, c2] using j2
      · by_cases c3 : bt s n = 45
        · simpa [c3] using j2
        · simp [c1, c2, c3] at hp
  · intro n hn hp
    refine ev_succ ?_
    simp only [spec_IsName.l0, spec_l01Small_eq, spec_l01Digit_eq, Option.bind_some]
    unfold nameCh at hp
    simp only [Bool.or_eq_false_iff, decide_eq_false_iff_not] at hp
    have ne : (bt s n != 45) = true := by rw [bne_iff_ne]; exact hp.2
    simp only [hp.1.1, hp.1.2, ne, Int.ofNat_lt.2 hn, show (0 : Int) ≤ (n : Int) from Int.natCast_nonneg n, if_true, if_false, decide_false, Bool.false_eq_true]
    refine ev_succ ?_
    simp only [spec_IsName.j2, if_true]
    exact ev_now _
  · refine ev_succ ?_
    simp only [spec_IsName.l0, Int.lt_irrefl, if_false]
    exact ev_now _
theorem toList_nil_iff (s : ByteArray) : s.toList = ([] : List UInt8) ↔ s.size = 0 := by
  rw [← List.length_eq_zero_iff, ByteArray.toList_eq, Array.length_toList]
  exact Iff.rfl
theorem spec_IsName_ev (s : ByteArray) : Ev (fun k => spec_IsName.f k s) (isNameB s) := by
  unfold spec_IsName.f isNameB
  by_cases h0 : s.size = 0
  · simp only [(toList_nil_iff s).2 h0, if_true, h0]
    refine ev_succ ?_
    simp only [spec_IsName.j0, if_true]
    exact ev_now _
  · have h0' : ¬ s.toList = ([] : List UInt8) := fun h => h0 ((toList_nil_iff s).1 h)
    simp only [h0', if_false]
    by_cases h1 : s.size ≤ 12
    · have e1 : ¬ ((s.size : Int) > 12) := by omega
      have e2 : (0 : Int) < (s.size : Int) := by omega
      simp only [e1, e2, if_true, if_false, spec_l01Small_eq, Option.bind_some]
      refine ev_succ ?_
      simp only [spec_IsName.j0]
      by_cases h2 : 97 ≤ bt s 0 ∧ bt s 0 ≤ 122
      · simp only [h2, decide_true, Bool.not_true, Bool.false_eq_true, if_false, and_self]
        refine ev_to (spec_IsName_loop s h1) ?_
        simp [show 1 ≤ s.size by omega, h1]
      · simp only [h2, decide_false, Bool.not_false, if_true]
        exact ev_to (ev_now _) (by simp)
    · have e1 : ((s.size : Int) > 12) := by omega
      simp only [e1, if_true]
      refine ev_succ ?_
      simp only [spec_IsName.j0, if_true]
      exact ev_to (ev_now _) (by simp [h1])
theorem impl_IsName_loop (s : ByteArray) (hs : s.size ≤ 12) : Ev (fun k => impl_IsName.l0 k s 0) ((List.range s.size).all fun i => nameCh (bt s i)) := by
  refine ev_to (ev_all (len := s.size) (g := fun k i => impl_IsName.l0 k s i) (fun i => nameCh (bt s i)) true ?_ ?_ ?_) (by simp)
  · intro n hn hp r hr
    refine ev_succ ?_
    simp only [impl_IsName.l0]
    unfold nameCh at hp
    simp only [Bool.or_eq_true, decide_eq_true_eq] at hp
    have e0 : (n : Int) < (s.size : Int) := by omega
    simp only [e0, show (0 : Int) ≤ (n : Int) from Int.natCast_nonneg n, if_true]
    have j2 : Ev (fun k => impl_IsName.j2 k s (n : Int) false) r := by
      refine ev_succ ?_
      simp only [impl_IsName.j2, Bool.false_eq_true, if_false, wnext hn (by omega : s.size ≤ 9223372036854775807)]
      exact hr
    have j3 : bt s n = 45 → Ev (fun k => impl_IsName.j2 k s (n : Int) (bt s n != 45)) r := by intro e; rw [show (bt s n != 45) = false from by rw [e]; rfl]; exact j2
    by_cases d1 : bt s n < 97 <;> by_cases d2 : bt s n > 122 <;> by_cases d3 : bt s n < 48 <;> by_cases d4 : bt s n > 57 <;> by_cases d5 : bt s n = 45 <;>
      first | (exfalso; omega) | (simp only [d1, d2, d3, d4, if_true, if_false]; exact j2) | (simp only [d1, d2, d3, d4, if_true, if_false]; exact j3 d5)
  · intro n hn hp
    refine ev_succ ?_
    simp only [impl_IsName.l0]
    unfold nameCh at hp
    simp only [Bool.or_eq_false_iff, decide_eq_false_iff_not] at hp
    have e0 : (n : Int) < (s.size : Int) := by omega
    simp only [e0, show (0 : Int) ≤ (n : Int) from Int.natCast_nonneg n, if_true]
    have j3 : bt s n ≠ 45 → Ev (fun k => impl_IsName.j2 k s (n : Int) (bt s n != 45)) false := by
      intro e
      rw [show (bt s n != 45) = true from by rw [bne_iff_ne]; exact e]
      refine ev_succ ?_
      simp only [impl_IsName.j2, if_true]; exact ev_now _
    by_cases d1 : bt s n < 97 <;> by_cases d2 : bt s n > 122 <;> by_cases d3 : bt s n < 48 <;> by_cases d4 : bt s n > 57 <;> by_cases d5 : bt s n = 45 <;>
      first | (exfalso; omega) | (simp only [d1, d2, d3, d4, if_true, if_false]; exact j3 d5)
  · refine ev_succ ?_
    simp only [impl_IsName.l0, Int.lt_irrefl, if_false]
    exact ev_now _
theorem impl_IsName_ev (s : ByteArray) : Ev (fun k => impl_IsName.f k s) (isNameB s) := by
  unfold impl_IsName.f isNameB
  by_cases h0 : s.size = 0
  · simp only [h0]
    refine ev_succ ?_
    simp only [impl_IsName.j0, if_true]
    exact ev_now _
  · have e3 : ¬ ((s.size : Int) < 1) := by omega
    simp only [e3, if_false]
    by_cases h1 : s.size ≤ 12
    · have e1 : ¬ ((s.size : Int) > 12) := by omega
      have e2 : (0 : Int) < (s.size : Int) := by omega
      simp only [e1, e2, if_true, if_false]
      by_cases h2 : bt s 0 < 97
      · simp only [h2, if_true]
        refine ev_succ ?_
        simp only [impl_IsName.j0, if_true]
        exact ev_to (ev_now _) (by simp; omega)
      · simp only [h2, if_false]
        refine ev_succ ?_
        simp only [impl_IsName.j0]
        by_cases h3 : bt s 0 > 122
        · simp only [h3, decide_true, if_true]
          exact ev_to (ev_now _) (by simp; omega)
        · simp only [h3, decide_false, Bool.false_eq_true, if_false]
          refine ev_to (impl_IsName_loop s h1) ?_
          simp [show 1 ≤ s.size by omega, h1, show 97 ≤ bt s 0 by omega, show bt s 0 ≤ 122 by omega]
    · have e1 : ((s.size : Int) > 12) := by omega
      simp only [e1, if_true]
      refine ev_succ ?_
      simp only [impl_IsName.j0, if_true]
      exact ev_to (ev_now _) (by simp [h1])
theorem spec_l00In_eq (a b c : Int) : spec_l00In.f a b c = some (decide (b ≤ a ∧ a ≤ c)) := by
  unfold spec_l00In.f
  by_cases h : a ≥ b
  · rw [if_pos h]; congr 1; simp; omega
  · rw [if_neg h]; congr 1; simp; omega
theorem impl_within_eq (a b c : Int) : impl_within.f a b c = some (decide (b ≤ a ∧ a ≤ c)) := by
  unfold impl_within.f
  by_cases h : a ≥ b
  · rw [if_pos h]; congr 1; simp; omega
  · rw [if_neg h]; congr 1; simp; omega
def joinB (s : ByteArray) (a b : Int) : Bool := isNameB s && (decide (1 ≤ a ∧ a ≤ 1000) && decide (0 ≤ b ∧ b ≤ 1000))
def jB (x : S47) : Bool := joinB x.f0 x.f1 x.f2
theorem spec_l03OneAt_ev (x : S47) : Ev (fun k => spec_l03OneAt.f k [x]) (jB x) := by
  have e0 : rd_T47 [x] 0 = x := rfl
  have l0 : (0 : Int) < (([x] : List S47).length : Int) := by simp
  simp only [spec_l03OneAt.f, spec_l00In_eq, Option.bind_some, e0, l0, if_true]
  refine Ev.bind (spec_IsName_ev _) ?_
  unfold jB joinB
  cases isNameB x.f0
  · exact ev_now _
  · by_cases h1 : 1 ≤ x.f1 ∧ x.f1 ≤ 1000
    · simp only [h1, decide_true, if_true, Bool.true_and, and_self]; exact ev_now _
    · simp only [h1, decide_false, if_true, Bool.true_and, Bool.false_and, Bool.false_eq_true, if_false]; exact ev_now _
theorem impl_validJoin_ev (s : ByteArray) (a b : Int) : Ev (fun k => impl_validJoin.f k s a b) (joinB s a b) := by
  simp only [impl_validJoin.f, impl_within_eq, Option.bind_some]
  refine Ev.bind (impl_IsName_ev s) ?_
  unfold joinB
  cases isNameB s
  · exact ev_now _
  · by_cases h1 : 1 ≤ a ∧ a ≤ 1000
    · simp only [h1, decide_true, if_true, Bool.true_and, and_self]; exact ev_now _
    · simp only [h1, decide_false, if_true, Bool.true_and, Bool.false_and, Bool.false_eq_true, if_false]; exact ev_now _
def sameN (xs : List S47) (n j : Nat) : Bool := decide ((xs.getD j z47).f0.toList = (xs.getD n z47).f0.toList)
def joinsP (xs : List S47) (n : Nat) : Bool := jB (xs.getD n z47) && !((List.range n).any (sameN xs n))
def joinsB (xs : List S47) : Bool := (List.range xs.length).all (joinsP xs) && decide (xs.length ≤ 20)
theorem spec_l03Ok_l1 (xs : List S47) (h : xs.length ≤ 1048576) (n : Nat) (hn : n < xs.length) (r : Bool)
    (hr : (List.range n).any (sameN xs n) = false → Ev (fun k => spec_l03Ok.l0 k xs ((n + 1 : Nat) : Int)) r) (hf : (List.range n).any (sameN xs n) = true → r = false) : Ev (fun k => spec_l03Ok.l1 k xs (n : Int) 0) r := by
  suffices key : ∃ r', Ev (fun k => spec_l03Ok.l1 k xs (n : Int) 0) r' ∧ r' = r by obtain ⟨r', hr', e⟩ := key; exact e ▸ hr'
  refine ev_loop (len := n) (g := fun k (_ : Unit) j => spec_l03Ok.l1 k xs (n : Int) j) (fun j _ => (List.range j).any (sameN xs n) = false) (fun r' => r' = r) ?_ ?_ () rfl
  · intro j _ hj hi
    cases hb : sameN xs n j with
    | false =>
      refine .inr ⟨(), by rw [List.range_succ, List.any_append, hi, List.any_cons, List.any_nil, hb]; rfl, fun r' hr' => ev_succ ?_⟩
      simp only [sameN, decide_eq_false_iff_not] at hb
      simp only [spec_l03Ok.l1, Int.ofNat_lt.2 hj, Int.ofNat_lt.2 hn, Int.ofNat_lt.2 (Nat.lt_trans hj hn), show (0 : Int) ≤ (j : Int) from Int.natCast_nonneg _, show (0 : Int) ≤ (n : Int) from Int.natCast_nonneg _, if_true, rd_T47, Int.toNat_natCast, hb, if_false, wnext hj (by omega : n ≤ 9223372036854775807)]
      exact hr'
    | true =>
      have ht : (List.range n).any (sameN xs n) = true := by rw [List.any_eq_true]; exact ⟨j, List.mem_range.2 hj, hb⟩
      refine .inl ⟨r, ev_succ ?_, rfl⟩
      rw [hf ht]
      simp only [sameN, decide_eq_true_eq] at hb
      simp only [spec_l03Ok.l1, Int.ofNat_lt.2 hj, Int.ofNat_lt.2 hn, Int.ofNat_lt.2 (Nat.lt_trans hj hn), show (0 : Int) ≤ (j : Int) from Int.natCast_nonneg _, show (0 : Int) ≤ (n : Int) from Int.natCast_nonneg _, if_true, rd_T47, Int.toNat_natCast, hb]
      exact ev_now _
  · intro _ hi
    refine ⟨r, ev_succ ?_, rfl⟩
    simp only [spec_l03Ok.l1, Int.lt_irrefl, if_false, wnext hn (by omega : xs.length ≤ 9223372036854775807)]
    exact hr hi
theorem spec_l03Ok_ev (xs : List S47) (h : xs.length ≤ 1048576) : Ev (fun k => spec_l03Ok.f k xs) (joinsB xs) := by
  simp only [spec_l03Ok.f]
  refine ev_all (len := xs.length) (g := fun k i => spec_l03Ok.l0 k xs i) (joinsP xs) (decide (xs.length ≤ 20)) ?_ ?_ ?_
  · intro n hn hp r hr
    unfold joinsP at hp
    simp only [Bool.and_eq_true, Bool.not_eq_true'] at hp
    refine ev_succ ?_
    simp only [spec_l03Ok.l0, Int.ofNat_lt.2 hn, show (0 : Int) ≤ (n : Int) from Int.natCast_nonneg _, if_true, rd_T47, Int.toNat_natCast]
    refine Ev.bind (spec_l03OneAt_ev _) ?_
    simp only [hp.1, if_true]
    exact spec_l03Ok_l1 xs h n hn r (fun _ => hr) (fun ht => by rw [hp.2] at ht; cases ht)
  · intro n hn hp
    unfold joinsP at hp
    refine ev_succ ?_
    simp only [spec_l03Ok.l0, Int.ofNat_lt.2 hn, show (0 : Int) ≤ (n : Int) from Int.natCast_nonneg _, if_true, rd_T47, Int.toNat_natCast]
    refine Ev.bind (spec_l03OneAt_ev _) ?_
    cases h1 : jB (xs.getD n z47)
    · simp only [Bool.false_eq_true, if_false]; exact ev_now _
    · simp only [h1, Bool.true_and, Bool.not_eq_false'] at hp
      simp only [if_true]
      exact spec_l03Ok_l1 xs h n hn false (fun ht => by rw [hp] at ht; cases ht) (fun _ => rfl)
  · refine ev_succ ?_
    simp only [spec_l03Ok.l0, Int.lt_irrefl, if_false]
    exact ev_to (ev_now _) (by congr 1; simp; omega)
theorem impl_contains_ev (xs : List S47) (h : xs.length ≤ 1048576) (y : S47) : Ev (fun k => impl_Join_66.f k xs [y]) ((List.range xs.length).any fun j => decide ((xs.getD j z47).f0.toList = y.f0.toList)) := by
  have e0 : rd_T47 [y] 0 = y := rfl
  have l0 : (0 : Int) < (([y] : List S47).length : Int) := by simp
  simp only [impl_Join_66.f, impl_Join_90.f]
  refine Ev.bind (ev_find (len := xs.length) (g := fun k i => impl_Join_90.l0 k xs [y] (xs.length : Int) i) (fun j => decide ((xs.getD j z47).f0.toList = y.f0.toList)) (fun n => (n : Int)) (-1) ?_ ?_ ?_) (ev_to (ev_now _) ?_)
  · intro n hn hp r hr
    refine ev_succ ?_
    simp only [decide_eq_false_iff_not] at hp
    simp only [impl_Join_90.l0, impl_ValidJoins_1.f, e0, l0, Option.bind_some, Int.ofNat_lt.2 hn, show (0 : Int) ≤ (n : Int) from Int.natCast_nonneg _, if_true, rd_T47, Int.toNat_natCast, wnext hn (by omega : xs.length ≤ 9223372036854775807)]
    rw [show ((xs.getD n z47).f0.toList == (([y] : List S47).getD (0 : Int).toNat z47).f0.toList) = false from by rw [beq_eq_false_iff_ne]; exact hp]
    simp only [Bool.false_eq_true, if_false]
    exact hr
  · intro n hn hp
    refine ev_succ ?_
    simp only [decide_eq_true_eq] at hp
    simp only [impl_Join_90.l0, impl_ValidJoins_1.f, e0, l0, Option.bind_some, Int.ofNat_lt.2 hn, show (0 : Int) ≤ (n : Int) from Int.natCast_nonneg _, if_true, rd_T47, Int.toNat_natCast]
    rw [show ((xs.getD n z47).f0.toList == (([y] : List S47).getD (0 : Int).toNat z47).f0.toList) = true from by rw [beq_iff_eq]; exact hp]
    simp only [if_true]
    exact ev_now _
  · refine ev_succ ?_
    simp only [impl_Join_90.l0, Int.lt_irrefl, if_false]
    exact ev_now _
  · cases hf : (List.range xs.length).find? (fun j => decide ((xs.getD j z47).f0.toList = y.f0.toList)) with
    | none =>
      rw [List.find?_eq_none] at hf
      simp only
      symm
      rw [show decide ((-1 : Int) ≥ 0) = false from rfl, List.any_eq_false]
      exact hf
    | some n =>
      simp only
      symm
      rw [show decide ((n : Int) ≥ 0) = true by simp, List.any_eq_true]
      exact ⟨n, List.mem_of_find?_eq_some hf, by have h2 := List.find?_some hf; exact h2⟩
theorem impl_ValidJoins_ev (xs : List S47) (h : xs.length ≤ 1048576) : Ev (fun k => impl_ValidJoins.f k xs) (joinsB xs) := by
  simp only [impl_ValidJoins.f]
  by_cases hb : (xs.length : Int) > 20
  · simp only [hb, if_true]
    exact ev_to (ev_now _) (by unfold joinsB; rw [show decide (xs.length ≤ 20) = false by simp; omega, Bool.and_false])
  simp only [hb, if_false]
  have anyE : ∀ n, n < xs.length → ((List.range (xs.take n).length).any fun j => decide (((xs.take n).getD j z47).f0.toList = (xs.getD n z47).f0.toList)) = (List.range n).any (sameN xs n) := by
    intro n hn
    rw [List.length_take, Nat.min_eq_left (by omega), Bool.eq_iff_iff, List.any_eq_true, List.any_eq_true]
    have e : ∀ j, j < n → (xs.take n).getD j z47 = xs.getD j z47 := fun j hj => by simp [List.getD_eq_getElem?_getD, List.getElem?_take, hj]
    constructor <;> (rintro ⟨j, hj, hp⟩; refine ⟨j, hj, ?_⟩; have := e j (List.mem_range.1 hj); simp only [sameN] at *; first | (rw [this] at hp; exact hp) | (rw [this]; exact hp))
  refine ev_to (ev_all (len := xs.length) (g := fun k i => impl_ValidJoins.l0 k xs xs (xs.length : Int) i) (joinsP xs) true ?_ ?_ ?_) (by unfold joinsB; rw [show decide (xs.length ≤ 20) = true by simp; omega])
  · intro n hn hp r hr
    unfold joinsP at hp
    simp only [Bool.and_eq_true, Bool.not_eq_true'] at hp
    refine ev_succ ?_
    simp only [impl_ValidJoins.l0, Int.ofNat_lt.2 hn, show (0 : Int) ≤ (n : Int) from Int.natCast_nonneg _, if_true, rd_T47, Int.toNat_natCast, show (n : Int) ≤ (xs.length : Int) by omega, wnext hn (by omega : xs.length ≤ 9223372036854775807)]
    refine Ev.bind (impl_validJoin_ev _ _ _) ?_
    rw [show joinB _ _ _ = true from hp.1]
    simp only [if_true]
    refine Ev.bind (impl_contains_ev _ (by simp; omega) _) ?_
    rw [anyE n hn, hp.2]
    simp only [Bool.false_eq_true, if_false]
    exact hr
  · intro n hn hp
    unfold joinsP at hp
    refine ev_succ ?_
    simp only [impl_ValidJoins.l0, Int.ofNat_lt.2 hn, show (0 : Int) ≤ (n : Int) from Int.natCast_nonneg _, if_true, rd_T47, Int.toNat_natCast, show (n : Int) ≤ (xs.length : Int) by omega]
    refine Ev.bind (impl_validJoin_ev _ _ _) ?_
    cases h1 : jB (xs.getD n z47)
    · rw [show joinB _ _ _ = false from h1]; simp only [Bool.false_eq_true, if_false]; exact ev_now _
    · rw [show joinB _ _ _ = true from h1]
      simp only [h1, Bool.true_and, Bool.not_eq_false'] at hp
      simp only [if_true]
      refine Ev.bind (impl_contains_ev _ (by simp; omega) _) ?_
      rw [anyE n hn, hp]
      simp only [if_true]
      exact ev_now _
  · refine ev_succ ?_
    simp only [impl_ValidJoins.l0, Int.lt_irrefl, if_false]
    exact ev_now _
def pieceB (a b : Int) : Bool := decide (1 ≤ a ∧ a ≤ 1000000) && decide (1 ≤ b ∧ b ≤ 100000)
theorem spec_l03Piece_eq (a b : Int) : spec_l03Piece.f a b = some (pieceB a b) := by
  simp only [spec_l03Piece.f, spec_l00In_eq, Option.bind_some]
  unfold pieceB
  by_cases h1 : 1 ≤ a ∧ a ≤ 1000000
  · simp only [h1, decide_true, if_true, Bool.true_and, and_self]
  · simp only [h1, decide_false, Bool.false_and, Bool.false_eq_true, if_false]
theorem impl_validPiece_eq (a b : Int) : impl_validPiece.f a b = some (pieceB a b) := by
  simp only [impl_validPiece.f, impl_within_eq, Option.bind_some]
  unfold pieceB
  by_cases h1 : 1 ≤ a ∧ a ≤ 1000000
  · simp only [h1, decide_true, if_true, Bool.true_and, and_self]
  · simp only [h1, decide_false, Bool.false_and, Bool.false_eq_true, if_false]
def addP (s : Int) (p : S58) : Int := wrap64 (s + p.f1)
def subJ (xs : List S47) (s : Int) (j : Int) : Int := wrap64 (s - (xs.getD j.toNat z47).f2)
def lenV (xs : List S47) (ps : List S58) (js : List Int) : Int := js.foldl (subJ xs) (ps.foldl addP 0)
def inJ (xs : List S47) (j : Int) : Bool := decide (0 ≤ j ∧ j ≤ (xs.length : Int) - 1)
def lineB (xs : List S47) (ps : List S58) (js : List Int) : Bool :=
  decide (1 ≤ ps.length ∧ ps.length ≤ 12) && (decide ((js.length : Int) = (ps.length : Int) - 1) && (ps.all (fun p => pieceB p.f0 p.f1) && (js.all (inJ xs) && decide (lenV xs ps js ≥ 1))))
theorem inJ_of (xs : List S47) (js : List Int) (h : (js.all (inJ xs)) = true) {n : Nat} (hn : n < js.length) : 0 ≤ js.getD n 0 ∧ js.getD n 0 < (xs.length : Int) := by
  rw [List.all_eq_true] at h
  have := h (js[n]) (List.getElem_mem hn)
  rw [getD_lt js 0 hn]
  simp only [inJ, decide_eq_true_eq] at this
  omega
theorem spec_l03LengthAt_ev (xs : List S47) (ps : List S58) (js : List Int) (hp : ps.length ≤ 1048576) (hq : js.length ≤ 1048576) (h : (js.all (inJ xs)) = true) :
    Ev (fun k => spec_l03LengthAt.f k xs [(⟨ps, js⟩ : S28)]) (lenV xs ps js) := by
  have e0 : rd_T28 [(⟨ps, js⟩ : S28)] 0 = ⟨ps, js⟩ := rfl
  have l0 : (0 : Int) < (([(⟨ps, js⟩ : S28)]).length : Int) := by simp
  simp only [spec_l03LengthAt.f]
  refine ev_foldl ps z58 addP 0 (g := fun k s i => spec_l03LengthAt.l0 k xs [(⟨ps, js⟩ : S28)] s i) (fun s => js.foldl (subJ xs) s) ?_ ?_
  · intro n hn s hs r hr
    refine ev_succ ?_
    simp only [spec_l03LengthAt.l0, e0, l0, Int.ofNat_lt.2 hn, show (0 : Int) ≤ (n : Int) from Int.natCast_nonneg _, if_true, rd_T58, Int.toNat_natCast, wnext hn (by omega : ps.length ≤ 9223372036854775807)]
    exact hr
  · refine ev_succ ?_
    simp only [spec_l03LengthAt.l0, e0, l0, Int.lt_irrefl, if_true, if_false]
    refine ev_foldl js 0 (subJ xs) _ (g := fun k s i => spec_l03LengthAt.l1 k xs [(⟨ps, js⟩ : S28)] s i) (fun s => s) ?_ ?_
    · intro n hn s hs r hr
      have hj := inJ_of xs js h hn
      refine ev_succ ?_
      simp only [spec_l03LengthAt.l1, e0, l0, Int.ofNat_lt.2 hn, show (0 : Int) ≤ (n : Int) from Int.natCast_nonneg _, if_true, rd, rd_T47, Int.toNat_natCast, hj.1, hj.2, wnext hn (by omega : js.length ≤ 9223372036854775807)]
      exact hr
    · refine ev_succ ?_
      simp only [spec_l03LengthAt.l1, e0, l0, Int.lt_irrefl, if_true, if_false]
      exact ev_now _
theorem impl_lineLength_ev (xs : List S47) (ps : List S58) (js : List Int) (hp : ps.length ≤ 1048576) (hq : js.length ≤ 1048576) (h : (js.all (inJ xs)) = true) :
    Ev (fun k => impl_lineLength.f k xs ps js) (lenV xs ps js) := by
  simp only [impl_lineLength.f]
  refine ev_foldl ps z58 addP 0 (g := fun k s i => impl_lineLength.l0 k xs s ps (ps.length : Int) i ps js) (fun s => js.foldl (subJ xs) s) ?_ ?_
  · intro n hn s hs r hr
    refine ev_succ ?_
    simp only [impl_lineLength.l0, Int.ofNat_lt.2 hn, show (0 : Int) ≤ (n : Int) from Int.natCast_nonneg _, if_true, rd_T58, Int.toNat_natCast, wnext hn (by omega : ps.length ≤ 9223372036854775807)]
    exact hr
  · refine ev_succ ?_
    simp only [impl_lineLength.l0, Int.lt_irrefl, if_false]
    refine ev_foldl js 0 (subJ xs) _ (g := fun k s i => impl_lineLength.l1 k xs s js (js.length : Int) i) (fun s => s) ?_ ?_
    · intro n hn s hs r hr
      have hj := inJ_of xs js h hn
      refine ev_succ ?_
      simp only [impl_lineLength.l1, Int.ofNat_lt.2 hn, show (0 : Int) ≤ (n : Int) from Int.natCast_nonneg _, if_true, rd, rd_T47, Int.toNat_natCast, hj.1, hj.2, wnext hn (by omega : js.length ≤ 9223372036854775807)]
      exact hr
    · refine ev_succ ?_
      simp only [impl_lineLength.l1, Int.lt_irrefl, if_false]
      exact ev_now _
theorem spec_l03LineAt_ev (xs : List S47) (hx : xs.length ≤ 1048576) (ps : List S58) (js : List Int) (hp : ps.length ≤ 1048576) (hq : js.length ≤ 1048576) :
    Ev (fun k => spec_l03LineAt.f k xs [(⟨ps, js⟩ : S28)]) (joinsB xs && lineB xs ps js) := by
  have e0 : rd_T28 [(⟨ps, js⟩ : S28)] 0 = ⟨ps, js⟩ := rfl
  have l0 : (0 : Int) < (([(⟨ps, js⟩ : S28)]).length : Int) := by simp
  simp only [spec_l03LineAt.f, e0, l0, if_true, spec_l00In_eq, Option.bind_some]
  refine Ev.bind (spec_l03Ok_ev xs hx) ?_
  cases hj : joinsB xs
  · simp only [Bool.false_eq_true, if_false, Bool.false_and]
    refine ev_succ ?_; simp only [spec_l03LineAt.j0, if_true]; exact ev_now _
  simp only [if_true, Bool.true_and]
  unfold lineB
  by_cases h1 : 1 ≤ ps.length ∧ ps.length ≤ 12
  · simp only [show (1 : Int) ≤ (ps.length : Int) ∧ (ps.length : Int) ≤ 12 by omega, h1, and_self, decide_true, if_true, Bool.true_and, w64 (show -9223372036854775808 ≤ (ps.length : Int) - 1 by omega) (show (ps.length : Int) - 1 ≤ 9223372036854775807 by omega)]
    refine ev_succ ?_
    by_cases h2 : (js.length : Int) = (ps.length : Int) - 1
    · simp only [spec_l03LineAt.j0, h2, bne_self_eq_false, Bool.false_eq_true, if_false, decide_true, Bool.true_and]
      have pe : (ps.all fun p => pieceB p.f0 p.f1) = (List.range ps.length).all fun n => pieceB (ps.getD n z58).f0 (ps.getD n z58).f1 := (range_all ps z58 fun p => pieceB p.f0 p.f1).symm
      have je : (js.all (inJ xs)) = (List.range js.length).all fun n => inJ xs (js.getD n 0) := (range_all js 0 (inJ xs)).symm
      rw [pe]
      refine ev_all (len := ps.length) (g := fun k i => spec_l03LineAt.l0 k xs [(⟨ps, js⟩ : S28)] i) _ (js.all (inJ xs) && decide (lenV xs ps js ≥ 1)) ?_ ?_ ?_
      · intro n hn hb r hr
        refine ev_succ ?_
        simp only [spec_l03LineAt.l0, e0, l0, spec_l03Piece_eq, Option.bind_some, Int.ofNat_lt.2 hn, show (0 : Int) ≤ (n : Int) from Int.natCast_nonneg _, if_true, rd_T58, Int.toNat_natCast, hb, wnext hn (by omega : ps.length ≤ 9223372036854775807)]
        exact hr
      · intro n hn hb
        refine ev_succ ?_
        simp only [spec_l03LineAt.l0, e0, l0, spec_l03Piece_eq, Option.bind_some, Int.ofNat_lt.2 hn, show (0 : Int) ≤ (n : Int) from Int.natCast_nonneg _, if_true, rd_T58, Int.toNat_natCast, hb, Bool.false_eq_true, if_false]
        exact ev_now _
      · refine ev_succ ?_
        simp only [spec_l03LineAt.l0, e0, l0, Int.lt_irrefl, if_true, if_false]
        rw [je]
        refine ev_all2 (len := js.length) (g := fun k i => spec_l03LineAt.l1 k xs [(⟨ps, js⟩ : S28)] i) (fun n => inJ xs (js.getD n 0)) _ ?_ ?_ ?_
        · intro n hn hb r hr
          refine ev_succ ?_
          simp only [inJ, decide_eq_true_eq] at hb
          simp only [spec_l03LineAt.l1, e0, l0, spec_l00In_eq, Option.bind_some, Int.ofNat_lt.2 hn, show (0 : Int) ≤ (n : Int) from Int.natCast_nonneg _, if_true, rd, Int.toNat_natCast, w64 (show -9223372036854775808 ≤ (xs.length : Int) - 1 by omega) (show (xs.length : Int) - 1 ≤ 9223372036854775807 by omega), hb, decide_true, and_self, wnext hn (by omega : js.length ≤ 9223372036854775807)]
          exact hr
        · intro n hn hb
          refine ev_succ ?_
          simp only [inJ, decide_eq_false_iff_not] at hb
          simp only [spec_l03LineAt.l1, e0, l0, spec_l00In_eq, Option.bind_some, Int.ofNat_lt.2 hn, show (0 : Int) ≤ (n : Int) from Int.natCast_nonneg _, if_true, rd, Int.toNat_natCast, w64 (show -9223372036854775808 ≤ (xs.length : Int) - 1 by omega) (show (xs.length : Int) - 1 ≤ 9223372036854775807 by omega), hb, decide_false, Bool.false_eq_true, if_false]
          exact ev_now _
        · intro hall
          rw [← je] at hall
          refine ev_succ ?_
          simp only [spec_l03LineAt.l1, e0, l0, spec_l00In_eq, Int.lt_irrefl, if_true, if_false]
          exact Ev.bind (spec_l03LengthAt_ev xs ps js hp hq hall) (ev_now _)
    · rw [show ((js.length : Int) != (ps.length : Int) - 1) = true by rw [bne_iff_ne]; exact h2]
      simp only [spec_l03LineAt.j0, h2, if_true, decide_false, Bool.false_and]; exact ev_now _
  · simp only [show ¬ ((1 : Int) ≤ (ps.length : Int) ∧ (ps.length : Int) ≤ 12) by omega, h1, decide_false, Bool.false_eq_true, if_false, Bool.false_and]
    refine ev_succ ?_; simp only [spec_l03LineAt.j0, if_true]; exact ev_now _
theorem impl_validLine_ev (xs : List S47) (hx : xs.length ≤ 1048576) (ps : List S58) (js : List Int) (hp : ps.length ≤ 1048576) (hq : js.length ≤ 1048576) :
    Ev (fun k => impl_validLine.f k xs ps js) (lineB xs ps js) := by
  simp only [impl_validLine.f]
  unfold lineB
  by_cases h1 : 1 ≤ ps.length ∧ ps.length ≤ 12
  · simp only [show ¬ (ps.length : Int) < 1 by omega, show ¬ (ps.length : Int) > 12 by omega, if_false, h1, and_self, decide_true, Bool.true_and, w64 (show -9223372036854775808 ≤ (ps.length : Int) - 1 by omega) (show (ps.length : Int) - 1 ≤ 9223372036854775807 by omega)]
    refine ev_succ ?_
    by_cases h2 : (js.length : Int) = (ps.length : Int) - 1
    · simp only [impl_validLine.j0, h2, bne_self_eq_false, Bool.false_eq_true, if_false, decide_true, Bool.true_and]
      have pe : (ps.all fun p => pieceB p.f0 p.f1) = (List.range ps.length).all fun n => pieceB (ps.getD n z58).f0 (ps.getD n z58).f1 := (range_all ps z58 fun p => pieceB p.f0 p.f1).symm
      have je : (js.all (inJ xs)) = (List.range js.length).all fun n => inJ xs (js.getD n 0) := (range_all js 0 (inJ xs)).symm
      rw [pe]
      refine ev_all (len := ps.length) (g := fun k i => impl_validLine.l0 k xs ps (ps.length : Int) i ps js) _ (js.all (inJ xs) && decide (lenV xs ps js ≥ 1)) ?_ ?_ ?_
      · intro n hn hb r hr
        refine ev_succ ?_
        simp only [impl_validLine.l0, impl_validPiece_eq, Option.bind_some, Int.ofNat_lt.2 hn, show (0 : Int) ≤ (n : Int) from Int.natCast_nonneg _, if_true, rd_T58, Int.toNat_natCast, hb, wnext hn (by omega : ps.length ≤ 9223372036854775807)]
        exact hr
      · intro n hn hb
        refine ev_succ ?_
        simp only [impl_validLine.l0, impl_validPiece_eq, Option.bind_some, Int.ofNat_lt.2 hn, show (0 : Int) ≤ (n : Int) from Int.natCast_nonneg _, if_true, rd_T58, Int.toNat_natCast, hb, Bool.false_eq_true, if_false]
        exact ev_now _
      · refine ev_succ ?_
        simp only [impl_validLine.l0, Int.lt_irrefl, if_false]
        rw [je]
        refine ev_all2 (len := js.length) (g := fun k i => impl_validLine.l1 k xs js (js.length : Int) i ps js) (fun n => inJ xs (js.getD n 0)) _ ?_ ?_ ?_
        · intro n hn hb r hr
          refine ev_succ ?_
          simp only [inJ, decide_eq_true_eq] at hb
          simp only [impl_validLine.l1, impl_within_eq, Option.bind_some, Int.ofNat_lt.2 hn, show (0 : Int) ≤ (n : Int) from Int.natCast_nonneg _, if_true, rd, Int.toNat_natCast, w64 (show -9223372036854775808 ≤ (xs.length : Int) - 1 by omega) (show (xs.length : Int) - 1 ≤ 9223372036854775807 by omega), hb, decide_true, and_self, wnext hn (by omega : js.length ≤ 9223372036854775807)]
          exact hr
        · intro n hn hb
          refine ev_succ ?_
          simp only [inJ, decide_eq_false_iff_not] at hb
          simp only [impl_validLine.l1, impl_within_eq, Option.bind_some, Int.ofNat_lt.2 hn, show (0 : Int) ≤ (n : Int) from Int.natCast_nonneg _, if_true, rd, Int.toNat_natCast, w64 (show -9223372036854775808 ≤ (xs.length : Int) - 1 by omega) (show (xs.length : Int) - 1 ≤ 9223372036854775807 by omega), hb, decide_false, Bool.false_eq_true, if_false]
          exact ev_now _
        · intro hall
          rw [← je] at hall
          refine ev_succ ?_
          simp only [impl_validLine.l1, impl_within_eq, Int.lt_irrefl, if_true, if_false]
          exact Ev.bind (impl_lineLength_ev xs ps js hp hq hall) (ev_now _)
    · rw [show ((js.length : Int) != (ps.length : Int) - 1) = true by rw [bne_iff_ne]; exact h2]
      simp only [impl_validLine.j0, h2, if_true, decide_false, Bool.false_and]; exact ev_now _
  · simp only [h1, decide_false, Bool.false_and]
    by_cases h3 : (ps.length : Int) < 1
    · simp only [h3, if_true]
      refine ev_succ ?_; simp only [impl_validLine.j0, if_true]; exact ev_now _
    · simp only [h3, show (ps.length : Int) > 12 by omega, if_true, if_false]
      refine ev_succ ?_; simp only [impl_validLine.j0, if_true]; exact ev_now _
theorem impl_gcd_loop (m : Nat) : ∀ a b : Int, b.toNat = m → 0 ≤ a → 0 ≤ b → Ev (fun k => impl_gcd.l0 k a b) (Nat.gcd a.toNat b.toNat : Nat) := by
  induction m using Nat.strongRecOn with
  | _ m ih =>
    intro a b hm ha hb
    refine ev_succ ?_
    by_cases h : b = 0
    · subst h
      simp only [impl_gcd.l0, if_true]
      exact ev_to (ev_now _) (by simp; omega)
    · obtain ⟨h1, h2, h3⟩ := gcd_step (a := a) (b := b) ha (by omega)
      simp only [impl_gcd.l0, h, if_false]
      exact ev_to (ih _ (by omega) b _ rfl hb h1) (by rw [h3])
theorem impl_gcd_ev (n d : Int) (hn : -4611686018427387904 ≤ n ∧ n ≤ 4611686018427387904) (hd : 0 ≤ d) : Ev (fun k => impl_gcd.f k n d) (Int.gcd n d : Nat) := by
  have g := impl_gcd_loop d.toNat (n.natAbs : Int) d rfl (by omega) (by omega)
  have eg : Nat.gcd ((n.natAbs : Int)).toNat d.toNat = Int.gcd n d := by rw [Int.gcd, Int.toNat_natCast]; congr 1; omega
  rw [eg] at g
  simp only [impl_gcd.f]
  by_cases h : n < 0
  · simp only [h, if_true]
    refine ev_succ ?_
    simp only [impl_gcd.j0]
    rw [w64 (by omega) (by omega), show -n = (n.natAbs : Int) by omega]
    exact g
  · simp only [h, if_false]
    refine ev_succ ?_
    simp only [impl_gcd.j0]
    rw [show (n : Int) = (n.natAbs : Int) by omega]
    rw [show ((n.natAbs : Int)).gcd d = n.gcd d by simp [Int.gcd]]
    exact g
theorem impl_fraction_ev (n d : Int) (hn : -4611686018427387904 ≤ n ∧ n ≤ 4611686018427387904) (hd : 0 < d ∧ d ≤ 4611686018427387904) : Ev (fun k => impl_fraction.f k n d) (mkF n d) := by
  simp only [impl_fraction.f, show ¬ d < 0 by omega, if_false]
  have pos : 0 < Int.gcd n d := Int.gcd_pos_of_ne_zero_right n (by omega)
  refine ev_succ ?_
  simp only [impl_fraction.j0]
  refine Ev.bind (impl_gcd_ev n d hn (by omega)) ?_
  have b1 := tdiv_bound n (Int.gcd n d)
  have b2 := tdiv_bound d (Int.gcd n d)
  simp only [show ¬ ((Int.gcd n d : Nat) : Int) = 0 by omega, if_false, w64 (n := Int.tdiv n (Int.gcd n d : Nat)) (by omega) (by omega), w64 (n := Int.tdiv d (Int.gcd n d : Nat)) (by omega) (by omega)]
  exact ev_now _
theorem mkF_scale (c n d : Int) (hc : 0 < c) : mkF (c * n) (c * d) = mkF n d := by
  unfold mkF
  have e : (Int.gcd (c * n) (c * d) : Int) = c * (Int.gcd n d : Int) := by
    rw [Int.gcd_mul_left]; push_cast; rw [Int.natAbs_of_nonneg (by omega)]
  rw [e, Int.mul_tdiv_mul_of_pos _ _ hc, Int.mul_tdiv_mul_of_pos _ _ hc]
theorem mkF_mul (n d : Int) (hd : 0 < d) : ∃ g : Int, 0 < g ∧ n = g * (mkF n d).1 ∧ d = g * (mkF n d).2 := by
  have pos : 0 < Int.gcd n d := Int.gcd_pos_of_ne_zero_right n (by omega)
  exact ⟨(Int.gcd n d : Nat), by omega, (Int.mul_tdiv_cancel' (Int.gcd_dvd_left ..)).symm, (Int.mul_tdiv_cancel' (Int.gcd_dvd_right ..)).symm⟩
theorem pos_of_mul {g x : Int} (hg : 0 < g) (h : 0 < g * x) : 0 < x := by
  rcases Int.lt_or_le 0 x with q | q
  · exact q
  · have := Int.mul_le_mul_of_nonneg_left q (Int.le_of_lt hg); omega
theorem nonneg_of_mul {g x : Int} (hg : 0 < g) (h : 0 ≤ g * x) : 0 ≤ x := by
  rcases Int.lt_or_le x 0 with q | q
  · have := Int.mul_lt_mul_of_pos_left q hg; omega
  · exact q
theorem le_mul_pos {g x : Int} (hg : 0 < g) (hx : 0 ≤ x) : x ≤ g * x := by
  have := Int.mul_le_mul_of_nonneg_right (show (1 : Int) ≤ g by omega) hx; omega
theorem mul_bd {a b A B : Int} (h0 : 0 ≤ a) (h1 : a ≤ A) (h2 : 0 ≤ b) (h3 : b ≤ B) : 0 ≤ a * b ∧ a * b ≤ A * B :=
  ⟨Int.mul_nonneg h0 h2, Int.mul_le_mul h1 h3 h2 (by omega)⟩
theorem mkF_pos (n d : Int) (hn : 0 ≤ n) (hd : 0 < d) : 0 ≤ (mkF n d).1 ∧ (mkF n d).1 ≤ n ∧ 0 < (mkF n d).2 ∧ (mkF n d).2 ≤ d := by
  obtain ⟨g, hg, e1, e2⟩ := mkF_mul n d hd
  have a := nonneg_of_mul hg (show 0 ≤ g * (mkF n d).1 by omega)
  have b := pos_of_mul hg (show 0 < g * (mkF n d).2 by omega)
  have c := le_mul_pos hg a
  have e := le_mul_pos hg (Int.le_of_lt b)
  exact ⟨a, by omega, b, by omega⟩
theorem min_eq (a b : Int) : spec_l00Min.f a b = some (mn a b) := by
  unfold spec_l00Min.f mn
  by_cases h : a < b
  · rw [if_pos h, if_neg (by omega)]
  · rw [if_neg h]
    by_cases h2 : b < a
    · rw [if_pos h2]
    · rw [if_neg h2]; congr 1; omega
theorem spec_l03JoinedAt_eq (x : S47) (a b c d : Int) : spec_l03JoinedAt.f [x] a b c d = some (wrap64 (mn a c * x.f1)) := by
  have e0 : rd_T47 [x] 0 = x := rfl
  have l0 : (0 : Int) < (([x] : List S47).length : Int) := by simp
  simp only [spec_l03JoinedAt.f, e0, l0, if_true, min_eq, Option.bind_some, Int.mul_comm]
structure LineOk (xs : List S47) (ps : List S58) (js : List Int) : Prop where
  len : 1 ≤ ps.length ∧ ps.length ≤ 12
  joins : js.length + 1 = ps.length
  str : ∀ n, n < ps.length → 1 ≤ (ps.getD n z58).f0 ∧ (ps.getD n z58).f0 ≤ 1000000
  at_ : ∀ n, n < js.length → 0 ≤ js.getD n 0 ∧ js.getD n 0 < (xs.length : Int)
  share : ∀ n, n < xs.length → 1 ≤ (xs.getD n z47).f1 ∧ (xs.getD n z47).f1 ≤ 1000
theorem lineOk_of {xs : List S47} {ps : List S58} {js : List Int} (h1 : joinsB xs = true) (h2 : lineB xs ps js = true) : LineOk xs ps js := by
  unfold lineB at h2
  simp only [Bool.and_eq_true, decide_eq_true_eq, List.all_eq_true] at h2
  obtain ⟨a, b, c, d, e⟩ := h2
  unfold joinsB at h1
  simp only [Bool.and_eq_true, List.all_eq_true] at h1
  refine ⟨a, by omega, fun n hn => ?_, fun n hn => inJ_of xs js (List.all_eq_true.2 d) hn, fun n hn => ?_⟩
  · have := c _ (List.getElem_mem hn)
    rw [getD_lt _ _ hn]
    unfold pieceB at this
    simp only [Bool.and_eq_true, decide_eq_true_eq] at this
    exact this.1
  · have := h1.1 n (List.mem_range.2 hn)
    unfold joinsP at this
    simp only [Bool.and_eq_true] at this
    have := this.1
    unfold jB joinB at this
    simp only [Bool.and_eq_true, decide_eq_true_eq] at this
    exact this.2.1
def jV (xs : List S47) (ps : List S58) (js : List Int) (n : Nat) : Int := mn (ps.getD n z58).f0 (ps.getD (n + 1) z58).f0 * (xs.getD (js.getD n 0).toNat z47).f1
theorem jV_bd {xs : List S47} {ps : List S58} {js : List Int} (h : LineOk xs ps js) {n : Nat} (hn : n < js.length) : 1 ≤ jV xs ps js n ∧ jV xs ps js n ≤ 1000000000 := by
  have a := h.str n (by have := h.joins; omega)
  have b := h.str (n + 1) (by have := h.joins; omega)
  have c := h.at_ n hn
  have d := h.share (js.getD n 0).toNat (by omega)
  have m : 1 ≤ mn (ps.getD n z58).f0 (ps.getD (n + 1) z58).f0 ∧ mn (ps.getD n z58).f0 (ps.getD (n + 1) z58).f0 ≤ 1000000 := by unfold mn; split <;> omega
  have e := mul_bd (show 0 ≤ mn (ps.getD n z58).f0 (ps.getD (n + 1) z58).f0 by omega) m.2 (show 0 ≤ (xs.getD (js.getD n 0).toNat z47).f1 by omega) d.2
  have f := Int.mul_pos (show 0 < mn (ps.getD n z58).f0 (ps.getD (n + 1) z58).f0 by omega) (show 0 < (xs.getD (js.getD n 0).toNat z47).f1 by omega)
  unfold jV
  omega
theorem impl_strengthAt_ev {xs : List S47} {ps : List S58} {js : List Int} (h : LineOk xs ps js) {n : Nat} (hn : n < js.length) : Ev (fun k => impl_strengthAt.f k xs ps js (n : Int)) (mkF (jV xs ps js n) 1000) := by
  have c := h.at_ n hn
  have b := jV_bd h hn
  have hj := h.joins
  have e1 : wrap64 ((n : Int) + 1) = ((n + 1 : Nat) : Int) := by rw [w64 (by omega) (by have := h.len; omega)]; omega
  simp only [impl_strengthAt.f, show (0 : Int) ≤ (n : Int) from Int.natCast_nonneg _, show (n : Int) < (ps.length : Int) by omega, if_true, e1, show (0 : Int) ≤ ((n + 1 : Nat) : Int) from Int.natCast_nonneg _, show ((n + 1 : Nat) : Int) < (ps.length : Int) by omega, show (n : Int) < (js.length : Int) by omega, rd, rd_T58, rd_T47, Int.toNat_natCast, c.1, c.2]
  show Ev (fun k => (impl_fraction.f k (wrap64 (jV xs ps js n)) 1000).bind _) _
  rw [w64 (n := jV xs ps js n) (by omega) (by omega)]
  exact Ev.bind (impl_fraction_ev _ _ (by omega) (by omega)) (ev_now _)
theorem mkF_thou (a : Int) : ∃ g : Int, 0 < g ∧ a = g * (mkF a 1000).1 ∧ 1000 = g * (mkF a 1000).2 := mkF_mul a 1000 (by decide)
theorem mkF_inj {a b : Int} (h : mkF a 1000 = mkF b 1000) : a = b := by
  obtain ⟨g, hg, e1, e2⟩ := mkF_thou a
  obtain ⟨g', hg', e1', e2'⟩ := mkF_thou b
  rw [h] at e1 e2
  generalize mkF b 1000 = r at *
  have : g * r.2 = g' * r.2 := by omega
  have hr : r.2 ≠ 0 := by intro h0; rw [h0] at e2; omega
  have : g = g' := Int.eq_of_mul_eq_mul_right hr this
  rw [e1, e1', this]
theorem mkF_whole (m : Int) : mkF (1000 * m) 1000 = (m, 1) := by
  have := mkF_scale 1000 m 1 (by decide)
  rw [Int.mul_one] at this
  rw [this]; unfold mkF; rw [Int.gcd_one]; simp
theorem mkF_one (p : Int) : mkF p 1 = (p, 1) := by
  unfold mkF; rw [Int.gcd_one]; simp
theorem mkF_lt {a b : Int} : (mkF a 1000).1 * (mkF b 1000).2 < (mkF b 1000).1 * (mkF a 1000).2 ↔ a < b := by
  obtain ⟨g, hg, e1, e2⟩ := mkF_thou a
  obtain ⟨g', hg', e1', e2'⟩ := mkF_thou b
  generalize mkF a 1000 = r at *
  generalize mkF b 1000 = s at *
  have hgg := Int.mul_pos hg hg'
  have z1 : (g * g') * (r.1 * s.2) = a * 1000 := by rw [e1, e2']; ac_rfl
  have z2 : (g * g') * (s.1 * r.2) = b * 1000 := by rw [e1', e2]; ac_rfl
  constructor
  · intro h
    have := Int.mul_lt_mul_of_pos_left h hgg
    rw [z1, z2] at this; omega
  · intro h
    refine Int.lt_of_mul_lt_mul_left (a := g * g') ?_ (Int.le_of_lt hgg)
    rw [z1, z2]; omega
theorem wrapU {n : Int} (h0 : 0 ≤ n) (h1 : n < 18446744073709551616) : IntKind.u64.wrap n = n := by
  simp only [IntKind.wrap, IntKind.bits, IntKind.signed]
  simp
  omega
theorem andU {x : Int} (h0 : 0 ≤ x) (h1 : x < 18446744073709551616) : Go.bits .and .u64 x 4294967295 = x % 4294967296 := by
  have := bits_mask .u64 64 (by decide) (fun n a b => wrapU a (by simpa using b)) 32 (by decide) x h0 (by simpa using h1)
  simpa using this
theorem mul64_small (a b : Int) (ha : 0 ≤ a ∧ a ≤ 4294967295) (hb : 0 ≤ b ∧ b ≤ 4294967295) : bits_Mul64.f a b = some (0, a * b) := by
  have m := mul_bd ha.1 ha.2 hb.1 hb.2
  have a0 : a / 4294967296 = 0 := by omega
  have b0 : b / 4294967296 = 0 := by omega
  simp only [bits_Mul64.f, a0, b0, andU ha.1 (by omega), andU hb.1 (by omega), Int.emod_eq_of_lt ha.1 (show a < 4294967296 by omega), Int.emod_eq_of_lt hb.1 (show b < 4294967296 by omega), Int.zero_mul, Int.mul_zero, Int.zero_add, Int.add_zero]
  have e0 : IntKind.u64.wrap 0 = 0 := wrapU (by decide) (by decide)
  have e1 : IntKind.u64.wrap (a * b) = a * b := wrapU m.1 (by omega)
  simp only [e0, e1, Int.zero_add, Int.add_zero]
  have e2 : IntKind.u64.wrap (a * b / 4294967296) = a * b / 4294967296 := wrapU (by omega) (by omega)
  have e3 : a * b / 4294967296 / 4294967296 = 0 := by omega
  simp only [e2, e3, andU (show 0 ≤ a * b / 4294967296 by omega) (by omega), Int.zero_add]
  have e4 : a * b / 4294967296 % 4294967296 / 4294967296 = 0 := by omega
  have e5 : IntKind.u64.wrap (a * b / 4294967296 % 4294967296) = a * b / 4294967296 % 4294967296 := wrapU (by omega) (by omega)
  simp only [e5, e4, Int.zero_add, e0]
def cmpV (a b : Int) : Int := if a < b then -1 else if a > b then 1 else 0
theorem cmpU_eq (a b : Int) : cmp_Compare_uint64.f a b = some (cmpV a b) := by
  simp only [cmp_Compare_uint64.f, cmp_isNaN_uint64.f, Option.bind_some, bne_self_eq_false, Bool.false_eq_true, if_false]
  unfold cmpV
  split <;> (try split) <;> rfl
theorem cmpI_eq (a b : Int) : cmp_Compare_int64.f a b = some (cmpV a b) := by
  simp only [cmp_Compare_int64.f, cmp_isNaN_int64.f, Option.bind_some, bne_self_eq_false, Bool.false_eq_true, if_false]
  unfold cmpV
  split <;> (try split) <;> rfl
theorem or_ev (b : Int) : Ev (fun k => cmp_Or_int.f k [0, b]) b := by
  simp only [cmp_Or_int.f]
  refine ev_succ (ev_to ?_ rfl)
  simp only [cmp_Or_int.l0, List.length_cons, List.length_nil, show (0 : Int) < ((0 + 1 + 1 : Nat) : Int) by decide, Int.le_refl, if_true, show rd [0, b] 0 = 0 from rfl, show wrap64 (0 + 1) = 1 by unfold wrap64; omega]
  refine ev_succ ?_
  simp only [cmp_Or_int.l0, List.length_cons, List.length_nil, show (1 : Int) < ((0 + 1 + 1 : Nat) : Int) by decide, show (0 : Int) ≤ 1 by decide, if_true, show rd [0, b] 1 = b from rfl, show wrap64 (1 + 1) = 2 by unfold wrap64; omega]
  by_cases h : b = 0
  · simp only [h, if_true]
    refine ev_succ ?_
    simp only [cmp_Or_int.l0, List.length_cons, List.length_nil, show ¬ (2 : Int) < ((0 + 1 + 1 : Nat) : Int) by decide, if_false]
    exact ev_now _
  · simp only [h, if_false]; exact ev_now _
theorem compare_ev (a b c d : Int) (ha : 1 ≤ a ∧ a ≤ 1000000000) (hb : 1 ≤ b ∧ b ≤ 1000000000) (hc : 1 ≤ c ∧ c ≤ 1000000000) (hd : 1 ≤ d ∧ d ≤ 1000000000) : Ev (fun k => impl_compareFractions.f k a b c d) (cmpV (a * d) (c * b)) := by
  have sz : ∀ x : Int, 1 ≤ x ∧ x ≤ 1000000000 → impl_size.f x = some x := by
    intro x hx
    simp only [impl_size.f, show ¬ x < 0 by omega, if_false, wrapU (show 0 ≤ x by omega) (show x < 18446744073709551616 by omega)]
  have sg : ∀ x : Int, 1 ≤ x ∧ x ≤ 1000000000 → impl_sign.f x = some 1 := by
    intro x hx
    simp only [impl_sign.f, show x > 0 by omega, if_true]
  have c0 : cmpV 1 1 = 0 := by decide
  have c1 : cmpV 0 0 = 0 := by decide
  have cb : -1 ≤ cmpV (a * d) (c * b) ∧ cmpV (a * d) (c * b) ≤ 1 := by unfold cmpV; split <;> (try split) <;> omega
  simp only [impl_compareFractions.f, sz a ha, sz b hb, sz c hc, sz d hd, sg a ha, sg c hc, Option.bind_some, cmpI_eq, c0]
  refine Ev.bind (a := cmpV (a * d) (c * b)) ?_ ?_
  · simp only [impl_compareProducts.f, mul64_small a d (by omega) (by omega), mul64_small c b (by omega) (by omega), Option.bind_some, cmpU_eq, c1]
    exact Ev.bind (or_ev _) (ev_now _)
  · rw [Int.one_mul, w64 (by omega) (by omega)]
    exact Ev.bind (or_ev _) (ev_now _)
theorem ev_from {σ ρ : Type} {len n0 : Nat} {g : Nat → σ → Int → Option ρ} (Inv : Nat → σ → Prop) (Post : ρ → Prop) (h0 : n0 ≤ len)
    (round : ∀ n s, n < len → Inv n s → (∃ r, Ev (fun k => g k s (n : Int)) r ∧ Post r) ∨ ∃ s', Inv (n + 1) s' ∧ ∀ r, Ev (fun k => g k s' ((n + 1 : Nat) : Int)) r → Ev (fun k => g k s (n : Int)) r)
    (last : ∀ s, Inv len s → ∃ r, Ev (fun k => g k s (len : Int)) r ∧ Post r) (s : σ) (hi : Inv n0 s) : ∃ r, Ev (fun k => g k s (n0 : Int)) r ∧ Post r := by
  have key : ∀ d n s, n + d = len → Inv n s → ∃ r, Ev (fun k => g k s (n : Int)) r ∧ Post r := by
    intro d
    induction d with
    | zero => intro n s h hi; simp only [Nat.add_zero] at h; subst h; exact last s hi
    | succ d ih =>
      intro n s h hi
      rcases round n s (by omega) hi with h1 | ⟨s', hi', hg⟩
      · exact h1
      · obtain ⟨r, hr, hp⟩ := ih (n + 1) s' (by omega) hi'
        exact ⟨r, hg r hr, hp⟩
  exact key (len - n0) n0 s (by omega) hi
def pV (ps : List S58) (n : Nat) : Int := (ps.getD n z58).f0
def PInv (ps : List S58) (n p : Nat) : Prop := p < n ∧ (∀ j, j < n → pV ps p ≤ pV ps j) ∧ ∀ j, j < p → pV ps p < pV ps j
def WeakP (xs : List S47) (ps : List S58) (js : List Int) (n : Nat) (r : ByteArray × Int × Int) : Prop :=
  ∃ p, PInv ps ps.length p ∧ ((r = ((⟨#[112, 105, 101, 99, 101]⟩ : ByteArray), (p : Int), 1000 * pV ps p) ∧ ∀ j, j < n → 1000 * pV ps p ≤ jV xs ps js j) ∨
    ∃ a, a < n ∧ r = ((⟨#[106, 111, 105, 110]⟩ : ByteArray), (a : Int), jV xs ps js a) ∧ jV xs ps js a < 1000 * pV ps p ∧ (∀ j, j < n → jV xs ps js a ≤ jV xs ps js j) ∧ ∀ j, j < a → jV xs ps js a < jV xs ps js j)
theorem spec_weak_l1 {xs : List S47} {ps : List S58} {js : List Int} (ok : LineOk xs ps js) (p : Nat) (hp : PInv ps ps.length p) :
    ∃ r, Ev (fun k => spec_l03WeakestAt.l1 k xs [(⟨ps, js⟩ : S28)] (⟨#[112, 105, 101, 99, 101]⟩ : ByteArray) (p : Int) (1000 * pV ps p) 0) r ∧ WeakP xs ps js js.length r := by
  have hj := ok.joins
  have hl := ok.len
  refine ev_loop (len := js.length) (g := fun k (s : ByteArray × Int × Int) i => spec_l03WeakestAt.l1 k xs [(⟨ps, js⟩ : S28)] s.1 s.2.1 s.2.2 i) (fun n s => WeakP xs ps js n s) (WeakP xs ps js js.length) ?_ ?_ ((⟨#[112, 105, 101, 99, 101]⟩ : ByteArray), (p : Int), 1000 * pV ps p) ⟨p, hp, .inl ⟨rfl, fun j h => absurd h (by omega)⟩⟩
  · rintro n ⟨kd, at_, least⟩ hn hw
    have c := ok.at_ n hn
    have b := jV_bd ok hn
    have e1 : wrap64 ((n : Int) + 1) = ((n + 1 : Nat) : Int) := by rw [w64 (by omega) (by omega)]; omega
    have r0 : rd_T28 [(⟨ps, js⟩ : S28)] 0 = ⟨ps, js⟩ := rfl
    have l0 : (0 : Int) < (([(⟨ps, js⟩ : S28)] : List S28).length : Int) := by simp
    have st : ∀ (s' : ByteArray × Int × Int) r, s' = (if jV xs ps js n < least then ((⟨#[106, 111, 105, 110]⟩ : ByteArray), (n : Int), jV xs ps js n) else (kd, at_, least)) → Ev (fun k => spec_l03WeakestAt.l1 k xs [(⟨ps, js⟩ : S28)] s'.1 s'.2.1 s'.2.2 ((n + 1 : Nat) : Int)) r → Ev (fun k => spec_l03WeakestAt.l1 k xs [(⟨ps, js⟩ : S28)] kd at_ least (n : Int)) r := by
      intro s' r hs hr
      refine ev_succ ?_
      simp only [spec_l03WeakestAt.l1, r0, l0, if_true, Int.ofNat_lt.2 hn, show (0 : Int) ≤ (n : Int) from Int.natCast_nonneg _, show (n : Int) < (ps.length : Int) by omega, e1, show (0 : Int) ≤ ((n + 1 : Nat) : Int) from Int.natCast_nonneg _, show ((n + 1 : Nat) : Int) < (ps.length : Int) by omega, rd, rd_T58, rd_T47, Int.toNat_natCast, c.1, c.2, spec_l03JoinedAt_eq, Option.bind_some]
      show Ev (fun k => if wrap64 (jV xs ps js n) < least then spec_l03WeakestAt.l1 k xs _ _ _ (wrap64 (jV xs ps js n)) _ else spec_l03WeakestAt.l1 k xs _ _ _ _ _) r
      rw [w64 (n := jV xs ps js n) (by omega) (by omega)]
      by_cases hc : jV xs ps js n < least
      · simp only [hc, if_true] at hs ⊢; subst hs; exact hr
      · simp only [hc, if_false] at hs ⊢; subst hs; exact hr
    refine .inr ⟨_, ?_, fun r hr => st _ r rfl hr⟩
    obtain ⟨p', hp', h | ⟨a, ha, h, h2, h3, h4⟩⟩ := hw
    · obtain ⟨he, hm⟩ := h
      simp only [Prod.mk.injEq] at he
      obtain ⟨rfl, rfl, rfl⟩ := he
      by_cases hc : jV xs ps js n < 1000 * pV ps p'
      · rw [if_pos hc]
        refine ⟨p', hp', .inr ⟨n, by omega, rfl, hc, fun j hj => ?_, fun j hj => ?_⟩⟩
        · by_cases hjn : j = n
          · subst hjn; exact Int.le_refl _
          · have := hm j (by omega); omega
        · have := hm j hj; omega
      · rw [if_neg hc]
        refine ⟨p', hp', .inl ⟨rfl, fun j hj => ?_⟩⟩
        by_cases hjn : j = n
        · subst hjn; omega
        · exact hm j (by omega)
    · simp only [Prod.mk.injEq] at h
      obtain ⟨rfl, rfl, rfl⟩ := h
      by_cases hc : jV xs ps js n < jV xs ps js a
      · rw [if_pos hc]
        refine ⟨p', hp', .inr ⟨n, by omega, rfl, by omega, fun j hj => ?_, fun j hj => ?_⟩⟩
        · by_cases hjn : j = n
          · subst hjn; exact Int.le_refl _
          · have := h3 j (by omega); omega
        · have := h3 j hj; omega
      · rw [if_neg hc]
        refine ⟨p', hp', .inr ⟨a, by omega, rfl, h2, fun j hj => ?_, h4⟩⟩
        by_cases hjn : j = n
        · subst hjn; omega
        · exact h3 j (by omega)
  · rintro ⟨kd, at_, least⟩ hw
    refine ⟨(kd, at_, least), ev_succ ?_, hw⟩
    have r0 : rd_T28 [(⟨ps, js⟩ : S28)] 0 = ⟨ps, js⟩ := rfl
    have l0 : (0 : Int) < (([(⟨ps, js⟩ : S28)] : List S28).length : Int) := by simp
    simp only [spec_l03WeakestAt.l1, r0, l0, if_true, Int.lt_irrefl, if_false]
    exact ev_now _
theorem spec_weak_ev {xs : List S47} {ps : List S58} {js : List Int} (ok : LineOk xs ps js) :
    ∃ r, Ev (fun k => spec_l03WeakestAt.f k xs [(⟨ps, js⟩ : S28)]) r ∧ WeakP xs ps js js.length r := by
  have hj := ok.joins
  have hl := ok.len
  have r0 : rd_T28 [(⟨ps, js⟩ : S28)] 0 = ⟨ps, js⟩ := rfl
  have l0 : (0 : Int) < (([(⟨ps, js⟩ : S28)] : List S28).length : Int) := by simp
  have s0 := ok.str 0 (by omega)
  have main : ∃ r, Ev (fun k => spec_l03WeakestAt.l0 k xs [(⟨ps, js⟩ : S28)] (⟨#[112, 105, 101, 99, 101]⟩ : ByteArray) ((0 : Nat) : Int) (1000 * pV ps 0) ((1 : Nat) : Int)) r ∧ WeakP xs ps js js.length r := by
    refine ev_from (len := ps.length) (n0 := 1) (g := fun k (s : Int × Int) i => spec_l03WeakestAt.l0 k xs [(⟨ps, js⟩ : S28)] (⟨#[112, 105, 101, 99, 101]⟩ : ByteArray) s.1 s.2 i) (fun n s => ∃ p : Nat, s = ((p : Int), 1000 * pV ps p) ∧ PInv ps n p) (WeakP xs ps js js.length) hl.1 ?_ ?_ (((0 : Nat) : Int), 1000 * pV ps 0) ⟨0, rfl, by omega, fun j hj => by rw [show j = 0 by omega]; exact Int.le_refl _, fun j hj => absurd hj (by omega)⟩
    · rintro n ⟨at_, least⟩ hn ⟨p, he, h1, h2, h3⟩
      simp only [Prod.mk.injEq] at he
      obtain ⟨rfl, rfl⟩ := he
      have sn := ok.str n hn
      have sp := ok.str p (by omega)
      have w1 : wrap64 (1000 * (ps.getD n z58).f0) = 1000 * pV ps n := w64 (by omega) (by omega)
      refine .inr ⟨if 1000 * pV ps n < 1000 * pV ps p then ((n : Int), 1000 * pV ps n) else ((p : Int), 1000 * pV ps p), ?_, fun r hr => ?_⟩
      · by_cases hc : 1000 * pV ps n < 1000 * pV ps p
        · rw [if_pos hc]
          refine ⟨n, rfl, by omega, fun j hj => ?_, fun j hj => ?_⟩
          · by_cases hjn : j = n
            · subst hjn; exact Int.le_refl _
            · have := h2 j (by omega); omega
          · have := h2 j hj; omega
        · rw [if_neg hc]
          refine ⟨p, rfl, by omega, fun j hj => ?_, h3⟩
          by_cases hjn : j = n
          · subst hjn; omega
          · exact h2 j (by omega)
      · refine ev_succ ?_
        simp only [spec_l03WeakestAt.l0, r0, l0, if_true, Int.ofNat_lt.2 hn, show (0 : Int) ≤ (n : Int) from Int.natCast_nonneg _, rd_T58, Int.toNat_natCast, w1, wnext hn (by omega : ps.length ≤ 9223372036854775807)]
        by_cases hc : 1000 * pV ps n < 1000 * pV ps p
        · simp only [hc, if_true] at hr ⊢; exact hr
        · simp only [hc, if_false] at hr ⊢; exact hr
    · rintro ⟨at_, least⟩ ⟨p, he, hp⟩
      simp only [Prod.mk.injEq] at he
      obtain ⟨rfl, rfl⟩ := he
      obtain ⟨r, hr, hw⟩ := spec_weak_l1 ok p hp
      refine ⟨r, ev_succ ?_, hw⟩
      simp only [spec_l03WeakestAt.l0, r0, l0, if_true, Int.lt_irrefl, if_false]
      exact hr
  obtain ⟨r, hr, hw⟩ := main
  refine ⟨r, ?_, hw⟩
  simp only [spec_l03WeakestAt.f, r0, l0, if_true, show (0 : Int) < (ps.length : Int) by omega, rd_T58]
  rw [w64 (n := 1000 * (ps.getD (0 : Int).toNat z58).f0) (by have : (0 : Int).toNat = 0 := rfl; rw [this]; omega) (by have : (0 : Int).toNat = 0 := rfl; rw [this]; omega)]
  exact hr
def LeastP (xs : List S47) (ps : List S58) (js : List Int) (n : Nat) (v : Int) : Prop :=
  (∀ j, j < ps.length → v ≤ 1000 * pV ps j) ∧ (∀ j, j < n → v ≤ jV xs ps js j) ∧ ((∃ j, j < ps.length ∧ v = 1000 * pV ps j) ∨ ∃ j, j < n ∧ v = jV xs ps js j)
theorem leastP_uniq {xs : List S47} {ps : List S58} {js : List Int} {n : Nat} {v v' : Int} (h : LeastP xs ps js n v) (h' : LeastP xs ps js n v') : v = v' := by
  have le : ∀ {a b : Int}, LeastP xs ps js n a → LeastP xs ps js n b → a ≤ b := by
    rintro a b ⟨h1, h2, _⟩ ⟨_, _, ⟨j, hj, rfl⟩ | ⟨j, hj, rfl⟩⟩
    · exact h1 j hj
    · exact h2 j hj
  exact Int.le_antisymm (le h h') (le h' h)
theorem weakP_least {xs : List S47} {ps : List S58} {js : List Int} {n : Nat} {r : ByteArray × Int × Int} (h : WeakP xs ps js n r) : LeastP xs ps js n r.2.2 := by
  obtain ⟨p, ⟨h1, h2, h3⟩, ⟨rfl, hm⟩ | ⟨a, ha, rfl, k1, k2, k3⟩⟩ := h
  · exact ⟨fun j hj => by have := h2 j hj; simp only; omega, hm, .inl ⟨p, h1, rfl⟩⟩
  · exact ⟨fun j hj => by have := h2 j hj; simp only; omega, k2, .inr ⟨a, ha, rfl⟩⟩
theorem impl_lineStrength_ev {xs : List S47} {ps : List S58} {js : List Int} (ok : LineOk xs ps js) :
    ∃ v, Ev (fun k => impl_lineStrength.f k xs ps js) (mkF v 1000) ∧ LeastP xs ps js js.length v ∧ 1 ≤ v ∧ v ≤ 1000000000 := by
  have hj := ok.joins
  have hl := ok.len
  have s0 := ok.str 0 (by omega)
  have l1 : ∀ m j0 : Nat, j0 < ps.length → m = j0 → (∀ j, j < ps.length → pV ps m ≤ pV ps j) → ∃ r, Ev (fun k => impl_lineStrength.l1 k xs (js.length : Int) 0 ps js (pV ps m) 1) r ∧ ∃ v, r = mkF v 1000 ∧ LeastP xs ps js js.length v ∧ 1 ≤ v ∧ v ≤ 1000000000 := by
    intro m j0 h0 hm hmin
    subst hm
    have sm := ok.str m h0
    refine ev_loop (len := js.length) (g := fun k (s : Int × Int) i => impl_lineStrength.l1 k xs (js.length : Int) i ps js s.1 s.2) (fun n s => ∃ v, s = mkF v 1000 ∧ LeastP xs ps js n v ∧ 1 ≤ v ∧ v ≤ 1000000000) (fun r => ∃ v, r = mkF v 1000 ∧ LeastP xs ps js js.length v ∧ 1 ≤ v ∧ v ≤ 1000000000) ?_ ?_ (pV ps m, 1) ⟨1000 * pV ps m, (mkF_whole _).symm, ⟨fun j hj => by have := hmin j hj; omega, fun j hj => absurd hj (by omega), .inl ⟨m, h0, rfl⟩⟩, by unfold pV; omega, by unfold pV; omega⟩
    · rintro n s hn ⟨v, rfl, hv, hv1, hv2⟩
      have b := jV_bd ok hn
      have q1 := mkF_pos (jV xs ps js n) 1000 (by omega) (by decide)
      have q2 := mkF_pos v 1000 (by omega) (by decide)
      have f1 : 1 ≤ (mkF (jV xs ps js n) 1000).1 := by
        obtain ⟨g, hg, e1, e2⟩ := mkF_thou (jV xs ps js n)
        have := pos_of_mul hg (show 0 < g * (mkF (jV xs ps js n) 1000).1 by omega); omega
      have f2 : 1 ≤ (mkF v 1000).1 := by
        obtain ⟨g, hg, e1, e2⟩ := mkF_thou v
        have := pos_of_mul hg (show 0 < g * (mkF v 1000).1 by omega); omega
      have ce := compare_ev (mkF (jV xs ps js n) 1000).1 (mkF (jV xs ps js n) 1000).2 (mkF v 1000).1 (mkF v 1000).2 (by omega) (by omega) (by omega) (by omega)
      refine .inr ⟨if jV xs ps js n < v then mkF (jV xs ps js n) 1000 else mkF v 1000, ?_, fun r hr => ?_⟩
      · by_cases hc : jV xs ps js n < v
        · rw [if_pos hc]
          refine ⟨_, rfl, ⟨fun j hj => by have := hv.1 j hj; omega, fun j hj => ?_, .inr ⟨n, by omega, rfl⟩⟩, b.1, b.2⟩
          by_cases hjn : j = n
          · subst hjn; exact Int.le_refl _
          · have := hv.2.1 j (by omega); omega
        · rw [if_neg hc]
          refine ⟨v, rfl, ⟨hv.1, fun j hj => ?_, ?_⟩, hv1, hv2⟩
          · by_cases hjn : j = n
            · subst hjn; omega
            · exact hv.2.1 j (by omega)
          · rcases hv.2.2 with h | ⟨j, hj, h⟩
            · exact .inl h
            · exact .inr ⟨j, by omega, h⟩
      · refine ev_succ ?_
        simp only [impl_lineStrength.l1, Int.ofNat_lt.2 hn, if_true, wnext hn (by omega : js.length ≤ 9223372036854775807)]
        refine Ev.bind (impl_strengthAt_ev ok hn) (Ev.bind ce ?_)
        by_cases hc : jV xs ps js n < v
        · have hx := mkF_lt.2 hc
          simp only [hc, if_true] at hr
          simp only [show cmpV ((mkF (jV xs ps js n) 1000).1 * (mkF v 1000).2) ((mkF v 1000).1 * (mkF (jV xs ps js n) 1000).2) < 0 by unfold cmpV; rw [if_pos hx]; decide, if_true]
          exact hr
        · have hx : ¬ _ := fun h => hc (mkF_lt.1 h)
          simp only [hc, if_false] at hr
          simp only [show ¬ cmpV ((mkF (jV xs ps js n) 1000).1 * (mkF v 1000).2) ((mkF v 1000).1 * (mkF (jV xs ps js n) 1000).2) < 0 by unfold cmpV; rw [if_neg hx]; split <;> decide, if_false]
          exact hr
    · rintro s ⟨v, rfl, hv⟩
      refine ⟨mkF v 1000, ev_succ ?_, v, rfl, hv⟩
      simp only [impl_lineStrength.l1, Int.lt_irrefl, if_false]
      exact ev_now _
  have l0 : ∃ r, Ev (fun k => impl_lineStrength.l0 k xs ps (ps.length : Int) 0 ps js (pV ps 0) 1) r ∧ ∃ v, r = mkF v 1000 ∧ LeastP xs ps js js.length v ∧ 1 ≤ v ∧ v ≤ 1000000000 := by
    refine ev_loop (len := ps.length) (g := fun k (s : Int × Int) i => impl_lineStrength.l0 k xs ps (ps.length : Int) i ps js s.1 s.2) (fun n s => ∃ m, m < ps.length ∧ s = (pV ps m, 1) ∧ ∀ j, j < n → pV ps m ≤ pV ps j) (fun r => ∃ v, r = mkF v 1000 ∧ LeastP xs ps js js.length v ∧ 1 ≤ v ∧ v ≤ 1000000000) ?_ ?_ (pV ps 0, 1) ⟨0, by omega, rfl, fun j hj => absurd hj (by omega)⟩
    · rintro n s hn ⟨m, hm, rfl, hmin⟩
      have sn := ok.str n hn
      have sm := ok.str m hm
      refine .inr ⟨(mn (pV ps m) (pV ps n), 1), ?_, fun r hr => ?_⟩
      · by_cases hc : pV ps n < pV ps m
        · refine ⟨n, hn, by unfold mn; rw [if_pos hc], fun j hj => ?_⟩
          by_cases hjn : j = n
          · subst hjn; exact Int.le_refl _
          · have := hmin j (by omega); omega
        · refine ⟨m, hm, by unfold mn; rw [if_neg hc], fun j hj => ?_⟩
          by_cases hjn : j = n
          · subst hjn; omega
          · exact hmin j (by omega)
      · refine ev_succ ?_
        simp only [impl_lineStrength.l0, Int.ofNat_lt.2 hn, show (0 : Int) ≤ (n : Int) from Int.natCast_nonneg _, if_true, rd_T58, Int.toNat_natCast, wnext hn (by omega : ps.length ≤ 9223372036854775807)]
        have hm1 : -4611686018427387904 ≤ mn (pV ps m) (pV ps n) ∧ mn (pV ps m) (pV ps n) ≤ 4611686018427387904 := by unfold mn pV; split <;> omega
        refine Ev.bind (impl_fraction_ev (mn (pV ps m) (pV ps n)) 1 hm1 (by omega)) ?_
        rw [mkF_one]
        exact hr
    · rintro s ⟨m, hm, rfl, hmin⟩
      obtain ⟨r, hr, hv⟩ := l1 m m hm rfl hmin
      refine ⟨r, ev_succ ?_, hv⟩
      simp only [impl_lineStrength.l0, Int.lt_irrefl, if_false]
      exact hr
  obtain ⟨r, hr, v, rfl, hv⟩ := l0
  refine ⟨v, ?_, hv⟩
  simp only [impl_lineStrength.f, show (0 : Int) < (ps.length : Int) by omega, if_true, rd_T58]
  refine Ev.bind (impl_fraction_ev _ 1 (by have : (0 : Int).toNat = 0 := rfl; rw [this]; omega) (by omega)) ?_
  rw [mkF_one]
  exact hr
theorem eqF_iff (a : Int × Int) (b : Int × Int) : (a.1 == b.1 && (a.2 == b.2)) = true ↔ a = b := by
  rw [Bool.and_eq_true, beq_iff_eq, beq_iff_eq, Prod.ext_iff]
theorem impl_find {xs : List S47} {ps : List S58} {js : List Int} (ok : LineOk xs ps js) {w : ByteArray × Int × Int} (hw : WeakP xs ps js js.length w) :
    Ev (fun k => impl_WeakestPlace.l0 k xs ps (ps.length : Int) 0 ps js (mkF w.2.2 1000).1 (mkF w.2.2 1000).2) (w.1, w.2.1, 0) := by
  have hj := ok.joins
  have hl := ok.len
  obtain ⟨p, ⟨p1, p2, p3⟩, hc⟩ := hw
  have step : ∀ n, n < ps.length → w.2.2 ≠ 1000 * pV ps n → ∀ r, Ev (fun k => impl_WeakestPlace.l0 k xs ps (ps.length : Int) ((n + 1 : Nat) : Int) ps js (mkF w.2.2 1000).1 (mkF w.2.2 1000).2) r → Ev (fun k => impl_WeakestPlace.l0 k xs ps (ps.length : Int) (n : Int) ps js (mkF w.2.2 1000).1 (mkF w.2.2 1000).2) r := by
    intro n hn hne r hr
    have sn := ok.str n hn
    refine ev_succ ?_
    simp only [impl_WeakestPlace.l0, Int.ofNat_lt.2 hn, show (0 : Int) ≤ (n : Int) from Int.natCast_nonneg _, if_true, rd_T58, Int.toNat_natCast, wnext hn (by omega : ps.length ≤ 9223372036854775807)]
    refine Ev.bind (impl_fraction_ev _ 1 (by omega) (by omega)) ?_
    have hx : ¬ ((mkF (ps.getD n z58).f0 1).1 == (mkF w.2.2 1000).1 && ((mkF (ps.getD n z58).f0 1).2 == (mkF w.2.2 1000).2)) = true := by
      rw [eqF_iff, mkF_one]
      intro h
      rw [show ((ps.getD n z58).f0, (1 : Int)) = mkF (1000 * pV ps n) 1000 from (mkF_whole _).symm] at h
      exact hne (mkF_inj h).symm
    simp only [hx, if_false]
    exact hr
  have hit : ∀ n, n < ps.length → w.2.2 = 1000 * pV ps n → Ev (fun k => impl_WeakestPlace.l0 k xs ps (ps.length : Int) (n : Int) ps js (mkF w.2.2 1000).1 (mkF w.2.2 1000).2) ((⟨#[112, 105, 101, 99, 101]⟩ : ByteArray), (n : Int), 0) := by
    intro n hn he
    have sn := ok.str n hn
    refine ev_succ ?_
    simp only [impl_WeakestPlace.l0, Int.ofNat_lt.2 hn, show (0 : Int) ≤ (n : Int) from Int.natCast_nonneg _, if_true, rd_T58, Int.toNat_natCast]
    refine Ev.bind (impl_fraction_ev _ 1 (by omega) (by omega)) ?_
    have hx : ((mkF (ps.getD n z58).f0 1).1 == (mkF w.2.2 1000).1 && ((mkF (ps.getD n z58).f0 1).2 == (mkF w.2.2 1000).2)) = true := by
      rw [eqF_iff, mkF_one, he]
      exact (mkF_whole _).symm
    simp only [hx, if_true]
    exact ev_now _
  have stepJ : ∀ n, n < js.length → w.2.2 ≠ jV xs ps js n → ∀ r, Ev (fun k => impl_WeakestPlace.l1 k xs (js.length : Int) ((n + 1 : Nat) : Int) ps js (mkF w.2.2 1000).1 (mkF w.2.2 1000).2) r → Ev (fun k => impl_WeakestPlace.l1 k xs (js.length : Int) (n : Int) ps js (mkF w.2.2 1000).1 (mkF w.2.2 1000).2) r := by
    intro n hn hne r hr
    refine ev_succ ?_
    simp only [impl_WeakestPlace.l1, Int.ofNat_lt.2 hn, if_true, wnext hn (by omega : js.length ≤ 9223372036854775807)]
    refine Ev.bind (impl_strengthAt_ev ok hn) ?_
    have hx : ¬ ((mkF (jV xs ps js n) 1000).1 == (mkF w.2.2 1000).1 && ((mkF (jV xs ps js n) 1000).2 == (mkF w.2.2 1000).2)) = true := by
      rw [eqF_iff]
      intro h
      exact hne (mkF_inj h).symm
    simp only [hx, if_false]
    exact hr
  have hitJ : ∀ n, n < js.length → w.2.2 = jV xs ps js n → Ev (fun k => impl_WeakestPlace.l1 k xs (js.length : Int) (n : Int) ps js (mkF w.2.2 1000).1 (mkF w.2.2 1000).2) ((⟨#[106, 111, 105, 110]⟩ : ByteArray), (n : Int), 0) := by
    intro n hn he
    refine ev_succ ?_
    simp only [impl_WeakestPlace.l1, Int.ofNat_lt.2 hn, if_true]
    refine Ev.bind (impl_strengthAt_ev ok hn) ?_
    have hx : ((mkF (jV xs ps js n) 1000).1 == (mkF w.2.2 1000).1 && ((mkF (jV xs ps js n) 1000).2 == (mkF w.2.2 1000).2)) = true := by
      rw [eqF_iff, he]
    simp only [hx, if_true]
    exact ev_now _
  rcases hc with ⟨rfl, hm⟩ | ⟨a, ha, rfl, k1, k2, k3⟩
  · have go : ∀ d n, n + d = p → Ev (fun k => impl_WeakestPlace.l0 k xs ps (ps.length : Int) (n : Int) ps js (mkF (1000 * pV ps p) 1000).1 (mkF (1000 * pV ps p) 1000).2) ((⟨#[112, 105, 101, 99, 101]⟩ : ByteArray), (p : Int), 0) := by
      intro d
      induction d with
      | zero => intro n h; simp only [Nat.add_zero] at h; subst h; exact hit n p1 rfl
      | succ d ih => intro n h; exact step n (by omega) (by have := p3 n (by omega); simp only; omega) _ (ih (n + 1) (by omega))
    exact go p 0 (by omega)
  · have goJ : ∀ d n, n + d = a → Ev (fun k => impl_WeakestPlace.l1 k xs (js.length : Int) (n : Int) ps js (mkF (jV xs ps js a) 1000).1 (mkF (jV xs ps js a) 1000).2) ((⟨#[106, 111, 105, 110]⟩ : ByteArray), (a : Int), 0) := by
      intro d
      induction d with
      | zero => intro n h; simp only [Nat.add_zero] at h; subst h; exact hitJ n ha rfl
      | succ d ih => intro n h; exact stepJ n (by omega) (by have := k3 n (by omega); simp only; omega) _ (ih (n + 1) (by omega))
    have go : ∀ d n, n + d = ps.length → Ev (fun k => impl_WeakestPlace.l0 k xs ps (ps.length : Int) (n : Int) ps js (mkF (jV xs ps js a) 1000).1 (mkF (jV xs ps js a) 1000).2) ((⟨#[106, 111, 105, 110]⟩ : ByteArray), (a : Int), 0) := by
      intro d
      induction d with
      | zero =>
        intro n h
        simp only [Nat.add_zero] at h
        subst h
        refine ev_succ ?_
        simp only [impl_WeakestPlace.l0, Int.lt_irrefl, if_false]
        exact goJ a 0 (by omega)
      | succ d ih => intro n h; exact step n (by omega) (by have := p2 n (by omega); simp only; omega) _ (ih (n + 1) (by omega))
    exact go ps.length 0 (by omega)
theorem rev_getD {α : Type} (xs : List α) (z : α) {t : Nat} (h : t < xs.length) : xs.reverse.getD t z = xs.getD (xs.length - 1 - t) z := by
  rw [getD_lt _ _ (by simpa using h), getD_lt _ _ (by omega), List.getElem_reverse]
theorem ext_getD {α : Type} (z : α) {l m : List α} (hl : l.length = m.length) (h : ∀ t, t < l.length → l.getD t z = m.getD t z) : l = m := by
  refine List.ext_getElem hl fun t h1 h2 => ?_
  have := h t h1
  rwa [getD_lt _ _ h1, getD_lt _ _ h2] at this
theorem rev_loop {α : Type} (z : α) (xs : List α) (hn : xs.length ≤ 1048576) {g : Nat → List α → Int → Int → Option (List α)}
    (step : ∀ (l : List α) (i j : Nat), i < j → j < l.length → l.length ≤ 1048576 → ∀ r, Ev (fun k => g k ((l.set i (l.getD j z)).set j (l.getD i z)) ((i + 1 : Nat) : Int) ((j : Int) - 1)) r → Ev (fun k => g k l (i : Int) (j : Int)) r)
    (fin : ∀ (l : List α) (i j : Int), ¬ i < j → Ev (fun k => g k l i j) l) : Ev (fun k => g k xs 0 ((xs.length : Int) - 1)) xs.reverse := by
  have key : ∀ (d i : Nat) (l : List α), xs.length - 2 * i = d → 2 * i ≤ xs.length + 1 → l.length = xs.length → (∀ t, t < xs.length → l.getD t z = if t < i ∨ xs.length ≤ t + i then xs.getD (xs.length - 1 - t) z else xs.getD t z) →
      Ev (fun k => g k l (i : Int) ((xs.length : Int) - 1 - (i : Int))) xs.reverse := by
    intro d
    induction d using Nat.strongRecOn with
    | _ d ih =>
      intro i l hd hi hl hv
      by_cases hc : 2 * i + 1 < xs.length
      · have hj : ((xs.length - 1 - i : Nat) : Int) = (xs.length : Int) - 1 - (i : Int) := by omega
        rw [← hj]
        refine step l i (xs.length - 1 - i) (by omega) (by omega) (by omega) _ ?_
        have hj2 : ((xs.length - 1 - i : Nat) : Int) - 1 = (xs.length : Int) - 1 - ((i + 1 : Nat) : Int) := by omega
        rw [hj2]
        refine ih (xs.length - 2 * (i + 1)) (by omega) (i + 1) _ rfl (by omega) (by simp [hl]) ?_
        intro t ht
        by_cases h1 : t = xs.length - 1 - i
        · subst h1
          rw [lset_self (by rw [List.length_set]; omega), hv i (by omega), if_neg (by omega), if_pos (by omega)]
          congr 1; omega
        · rw [lset_ne (by omega)]
          by_cases h2 : t = i
          · subst h2
            rw [lset_self (by omega), hv _ (by omega), if_neg (by omega), if_pos (by omega)]
          · rw [lset_ne (by omega), hv t ht]
            by_cases h3 : t < i ∨ xs.length ≤ t + i
            · rw [if_pos h3, if_pos (by omega)]
            · rw [if_neg h3, if_neg (by omega)]
      · have e : l = xs.reverse := by
          refine ext_getD z (by simp [hl]) fun t ht => ?_
          rw [rev_getD _ _ (by omega), hv t (by omega)]
          by_cases h3 : t < i ∨ xs.length ≤ t + i
          · rw [if_pos h3]
          · rw [if_neg h3]; congr 1; omega
        rw [← e]
        exact fin l _ _ (by omega)
  have := key xs.length 0 xs (by omega) (by omega) rfl (fun t ht => by rw [if_neg (by omega)])
  simpa using this
theorem impl_revP_ev (xs : List S58) (h : xs.length ≤ 1048576) : Ev (fun k => impl_LinePiece_41.f k xs) xs.reverse := by
  simp only [impl_LinePiece_41.f]
  rw [w64 (n := (xs.length : Int) - 1) (by omega) (by omega)]
  refine rev_loop z58 xs h (g := impl_LinePiece_41.l0) ?_ ?_
  · intro l i j hij hj hl r hr
    refine ev_succ ?_
    have e1 : wrap64 ((i : Int) + 1) = ((i + 1 : Nat) : Int) := by rw [w64 (by omega) (by omega)]; omega
    have e2 : wrap64 ((j : Int) - 1) = (j : Int) - 1 := w64 (by omega) (by omega)
    simp only [impl_LinePiece_41.l0, show (i : Int) < (j : Int) by omega, show (0 : Int) ≤ (j : Int) by omega, show (j : Int) < (l.length : Int) by omega, show (0 : Int) ≤ (i : Int) by omega, show (i : Int) < (l.length : Int) by omega, if_true, rd_T58, Int.toNat_natCast, e1, e2]
    exact hr
  · intro l i j hij
    refine ev_succ ?_
    simp only [impl_LinePiece_41.l0, hij, if_false]
    exact ev_now _
theorem impl_revI_ev (xs : List Int) (h : xs.length ≤ 1048576) : Ev (fun k => slices_Reverse_int64_int64.f k xs) xs.reverse := by
  simp only [slices_Reverse_int64_int64.f]
  rw [w64 (n := (xs.length : Int) - 1) (by omega) (by omega)]
  refine rev_loop 0 xs h (g := slices_Reverse_int64_int64.l0) ?_ ?_
  · intro l i j hij hj hl r hr
    refine ev_succ ?_
    have e1 : wrap64 ((i : Int) + 1) = ((i + 1 : Nat) : Int) := by rw [w64 (by omega) (by omega)]; omega
    have e2 : wrap64 ((j : Int) - 1) = (j : Int) - 1 := w64 (by omega) (by omega)
    simp only [slices_Reverse_int64_int64.l0, show (i : Int) < (j : Int) by omega, show (0 : Int) ≤ (j : Int) by omega, show (j : Int) < (l.length : Int) by omega, show (0 : Int) ≤ (i : Int) by omega, show (i : Int) < (l.length : Int) by omega, if_true, rd, Int.toNat_natCast, e1, e2]
    exact hr
  · intro l i j hij
    refine ev_succ ?_
    simp only [slices_Reverse_int64_int64.l0, hij, if_false]
    exact ev_now _
theorem take_succ_rev {α : Type} (xs : List α) (z : α) {n : Nat} (h : n < xs.length) (acc : List α) : acc ++ (xs.take (n + 1)).reverse = (acc ++ [xs.getD n z]) ++ (xs.take n).reverse := by
  rw [List.take_succ_eq_append_getElem h, List.reverse_append, getD_lt _ _ h]; simp
theorem spec_turn_l1 (ps : List S58) (js : List Int) (hq : js.length ≤ 1048576) (a : List S58) : ∀ (n : Nat) (b : List Int), n ≤ js.length → b.length + n ≤ 1048576 →
    Ev (fun k => spec_TurnLine.l1 k ((n : Int) - 1) ps js a b) (a, b ++ (js.take n).reverse, 0) := by
  intro n
  induction n with
  | zero =>
    intro b _ _
    refine ev_succ ?_
    simp only [spec_TurnLine.l1, show ¬ (((0 : Nat) : Int) - 1 ≥ 0) by omega, if_false]
    exact ev_to (ev_now _) (by simp)
  | succ n ih =>
    intro b h hb
    have i := ih (b ++ [js.getD n 0]) (by omega) (by simp; omega)
    rw [← take_succ_rev js 0 (by omega)] at i
    have e1 : ((n + 1 : Nat) : Int) - 1 = (n : Int) := by omega
    refine ev_succ ?_
    rw [e1]
    simp only [spec_TurnLine.l1, ge_iff_le, show (0 : Int) ≤ (n : Int) from Int.natCast_nonneg _, show (n : Int) < (js.length : Int) by omega, show b.length < 17592186044416 by omega, if_true, rd, Int.toNat_natCast, w64 (n := (n : Int) - 1) (by omega) (by omega)]
    exact i
theorem spec_turn_l0 (ps : List S58) (js : List Int) (hp : ps.length ≤ 1048576) (hq : js.length ≤ 1048576) : ∀ (n : Nat) (a : List S58), n ≤ ps.length → a.length + n ≤ 1048576 →
    Ev (fun k => spec_TurnLine.l0 k ((n : Int) - 1) ps js a []) (a ++ (ps.take n).reverse, js.reverse, 0) := by
  intro n
  induction n with
  | zero =>
    intro a _ _
    refine ev_succ ?_
    simp only [spec_TurnLine.l0, show ¬ (((0 : Nat) : Int) - 1 ≥ 0) by omega, if_false, w64 (n := (js.length : Int) - 1) (by omega) (by omega)]
    have := spec_turn_l1 ps js hq a js.length [] (Nat.le_refl _) (by simpa using hq)
    simpa using this
  | succ n ih =>
    intro a h hb
    have i := ih (a ++ [ps.getD n z58]) (by omega) (by simp; omega)
    rw [← take_succ_rev ps z58 (by omega)] at i
    have e1 : ((n + 1 : Nat) : Int) - 1 = (n : Int) := by omega
    refine ev_succ ?_
    rw [e1]
    simp only [spec_TurnLine.l0, ge_iff_le, show (0 : Int) ≤ (n : Int) from Int.natCast_nonneg _, show (n : Int) < (ps.length : Int) by omega, show a.length < 8796093022208 by omega, if_true, rd_T58, Int.toNat_natCast, w64 (n := (n : Int) - 1) (by omega) (by omega)]
    exact i
def turnV (xs : List S47) (ps : List S58) (js : List Int) : (List S58) × List Int × Int := if (joinsB xs && lineB xs ps js) = true then (ps.reverse, js.reverse, 0) else ([], [], 1)
theorem turnV_len (xs : List S47) (ps : List S58) (js : List Int) (hp : ps.length ≤ 1048576) (hq : js.length ≤ 1048576) : (turnV xs ps js).1.length ≤ 1048576 ∧ (turnV xs ps js).2.1.length ≤ 1048576 := by
  unfold turnV
  split <;> simp <;> omega
theorem spec_TurnLine_ev (xs : List S47) (hx : xs.length ≤ 1048576) (ps : List S58) (js : List Int) (hp : ps.length ≤ 1048576) (hq : js.length ≤ 1048576) : Ev (fun k => spec_TurnLine.f k xs ps js) (turnV xs ps js) := by
  simp only [spec_TurnLine.f]
  refine Ev.bind (spec_l03LineAt_ev xs hx ps js hp hq) ?_
  unfold turnV
  by_cases h : (joinsB xs && lineB xs ps js) = true
  · simp only [h, if_true, w64 (n := (ps.length : Int) - 1) (by omega) (by omega)]
    have := spec_turn_l0 ps js hp hq ps.length [] (Nat.le_refl _) (by simpa using hp)
    simpa using this
  · simp only [h, if_false]; exact ev_now _
theorem impl_TurnLine_ev (xs : List S47) (hx : xs.length ≤ 1048576) (ps : List S58) (js : List Int) (hp : ps.length ≤ 1048576) (hq : js.length ≤ 1048576) : Ev (fun k => impl_TurnLine.f k xs ps js) (turnV xs ps js) := by
  simp only [impl_TurnLine.f]
  have bad : Ev (fun k => impl_TurnLine.j0 k true ps js) ([], [], 1) := by refine ev_succ ?_; simp only [impl_TurnLine.j0, if_true]; exact ev_now _
  unfold turnV
  refine Ev.bind (impl_ValidJoins_ev xs hx) ?_
  cases hb : joinsB xs
  · simp only [Bool.false_and, Bool.false_eq_true, if_false]; exact bad
  · simp only [if_true, Bool.true_and]
    refine Ev.bind (impl_validLine_ev xs hx ps js hp hq) ?_
    cases hc : lineB xs ps js
    · simp only [Bool.not_false, Bool.false_eq_true, if_false]; exact bad
    · simp only [Bool.not_true, if_true]
      refine ev_succ ?_
      simp only [impl_TurnLine.j0, Bool.false_eq_true, if_false, Option.bind_some, List.length_nil, List.nil_append, show 0 + ps.length < 8796093022208 by omega, show 0 + js.length < 17592186044416 by omega, if_true]
      exact Ev.bind (impl_revP_ev ps hp) (Ev.bind (impl_revI_ev js hq) (ev_now _))
theorem lineB_len {xs : List S47} {ps : List S58} {js : List Int} (h : (joinsB xs && lineB xs ps js) = true) : ps.length ≤ 12 ∧ js.length ≤ 11 := by
  unfold lineB at h
  simp only [Bool.and_eq_true, decide_eq_true_eq] at h
  omega
theorem spec_l03OwnAt_eq (ps : List S58) (js : List Int) (hp : ps.length ≤ 1048576) (hq : js.length ≤ 1048576) : spec_l03OwnAt.f [(⟨ps, js⟩ : S28)] = some (ps, js) := by
  have e0 : rd_T28 [(⟨ps, js⟩ : S28)] 0 = ⟨ps, js⟩ := rfl
  simp only [spec_l03OwnAt.f, spec_l00Own.f, e0, Option.bind_some, List.length_singleton, show (0 : Int) < ((1 : Nat) : Int) by decide, if_true, List.length_nil, List.nil_append, show 0 + ps.length < 8796093022208 by omega, show 0 + js.length < 17592186044416 by omega]
def joinLV (xs : List S47) (ps : List S58) (js : List Int) (ps' : List S58) (js' : List Int) (n : Int) : (List S58) × List Int × Int :=
  if (joinsB xs && lineB xs ps js) = true then (if (joinsB xs && lineB xs ps' js') = true then (if 0 ≤ n ∧ n ≤ (xs.length : Int) - 1 then (if (joinsB xs && lineB xs (ps ++ ps') ((js ++ [n]) ++ js')) = true then (ps ++ ps', (js ++ [n]) ++ js', 0) else ([], [], 5)) else ([], [], 2)) else ([], [], 1)) else ([], [], 1)
theorem joinLV_len (xs : List S47) (ps : List S58) (js : List Int) (ps' : List S58) (js' : List Int) (n : Int) : (joinLV xs ps js ps' js' n).1.length ≤ 1048576 ∧ (joinLV xs ps js ps' js' n).2.1.length ≤ 1048576 := by
  unfold joinLV
  split
  · split
    · split
      · split
        · rename_i h; have := lineB_len h; exact ⟨(by show (ps ++ ps').length ≤ _; omega), (by show (js ++ [n] ++ js').length ≤ _; omega)⟩
        · simp
      · simp
    · simp
  · simp
theorem spec_JoinLines_ev (xs : List S47) (hx : xs.length ≤ 1048576) (ps : List S58) (js : List Int) (ps' : List S58) (js' : List Int) (hp : ps.length ≤ 1048576) (hq : js.length ≤ 1048576) (hp' : ps'.length ≤ 1048576) (hq' : js'.length ≤ 1048576) (n : Int) :
    Ev (fun k => spec_JoinLines.f k xs ps js ps' js' n) (joinLV xs ps js ps' js' n) := by
  simp only [spec_JoinLines.f]
  have bad : Ev (fun k => spec_JoinLines.j0 k xs n true ps js ps' js') ([], [], 1) := by
    refine ev_succ ?_
    simp only [spec_JoinLines.j0, if_true]
    exact ev_now _
  refine Ev.bind (spec_l03LineAt_ev xs hx ps js hp hq) ?_
  unfold joinLV
  by_cases h1 : (joinsB xs && lineB xs ps js) = true
  · simp only [h1, if_true]
    refine Ev.bind (spec_l03LineAt_ev xs hx ps' js' hp' hq') ?_
    by_cases h2 : (joinsB xs && lineB xs ps' js') = true
    · have l1 := lineB_len h1
      have l2 := lineB_len h2
      simp only [h2, if_true, Bool.not_true]
      refine ev_succ ?_
      have wl : wrap64 ((xs.length : Int) - 1) = (xs.length : Int) - 1 := w64 (by omega) (by omega)
      simp only [spec_JoinLines.j0, Bool.false_eq_true, if_false, spec_l00In_eq, Option.bind_some, wl]
      by_cases h3 : 0 ≤ n ∧ n ≤ (xs.length : Int) - 1
      · simp only [h3, and_self, decide_true, if_true, spec_l03OwnAt_eq ps js hp hq, Option.bind_some, show js.length < 17592186044416 by omega, show ps.length + ps'.length < 8796093022208 by omega, List.length_append, List.length_singleton, show js.length + 1 + js'.length < 17592186044416 by omega]
        refine Ev.bind (spec_l03LineAt_ev xs hx (ps ++ ps') (js ++ [n] ++ js') (by simp; omega) (by simp; omega)) ?_
        by_cases h4 : (joinsB xs && lineB xs (ps ++ ps') (js ++ [n] ++ js')) = true
        · simp only [h4, if_true]; exact ev_now _
        · simp only [h4, if_false]; exact ev_now _
      · simp only [h3, decide_false, Bool.false_eq_true, if_false]; exact ev_now _
    · have e : (joinsB xs && lineB xs ps' js') = false := by simpa using h2
      simp only [e, Bool.false_eq_true, if_false, Bool.not_false]
      exact bad
  · simp only [h1, if_false]
    exact bad
theorem impl_JoinLines_ev (xs : List S47) (hx : xs.length ≤ 1048576) (ps : List S58) (js : List Int) (ps' : List S58) (js' : List Int) (hp : ps.length ≤ 1048576) (hq : js.length ≤ 1048576) (hp' : ps'.length ≤ 1048576) (hq' : js'.length ≤ 1048576) (n : Int) :
    Ev (fun k => impl_JoinLines.f k xs ps js ps' js' n) (joinLV xs ps js ps' js' n) := by
  simp only [impl_JoinLines.f]
  have bad : Ev (fun k => impl_JoinLines.j0 k xs n true ps js ps' js') ([], [], 1) := by
    refine ev_succ ?_
    simp only [impl_JoinLines.j0, if_true]
    exact ev_now _
  refine Ev.bind (impl_ValidJoins_ev xs hx) ?_
  unfold joinLV
  cases hb : joinsB xs
  · simp only [Bool.false_and, Bool.false_eq_true, if_false]; exact bad
  · simp only [if_true, Bool.true_and]
    refine Ev.bind (impl_validLine_ev xs hx ps js hp hq) ?_
    by_cases h1 : lineB xs ps js = true
    · simp only [h1, if_true]
      refine Ev.bind (impl_validLine_ev xs hx ps' js' hp' hq') ?_
      by_cases h2 : lineB xs ps' js' = true
      · have l1 := lineB_len (xs := xs) (ps := ps) (js := js) (by rw [hb, h1]; rfl)
        have l2 := lineB_len (xs := xs) (ps := ps') (js := js') (by rw [hb, h2]; rfl)
        simp only [h2, if_true, Bool.not_true]
        refine ev_succ ?_
        have wl : wrap64 ((xs.length : Int) - 1) = (xs.length : Int) - 1 := w64 (by omega) (by omega)
        simp only [impl_JoinLines.j0, Bool.false_eq_true, if_false, impl_within_eq, Option.bind_some, wl]
        by_cases h3 : 0 ≤ n ∧ n ≤ (xs.length : Int) - 1
        · simp only [h3, and_self, decide_true, if_true, Option.bind_some, List.length_nil, List.nil_append, show 0 + ps.length < 8796093022208 by omega, show ps.length + ps'.length < 8796093022208 by omega, show 0 + js.length < 17592186044416 by omega, List.length_append, List.length_singleton, show js.length + 1 < 17592186044416 by omega, show js.length + 1 + js'.length < 17592186044416 by omega]
          refine Ev.bind (impl_validLine_ev xs hx (ps ++ ps') (js ++ [n] ++ js') (by simp; omega) (by simp; omega)) ?_
          by_cases h4 : lineB xs (ps ++ ps') (js ++ [n] ++ js') = true
          · simp only [h4, if_true]; exact ev_now _
          · simp only [h4, if_false]; exact ev_now _
        · simp only [h3, decide_false, Bool.false_eq_true, if_false]; exact ev_now _
      · have e : lineB xs ps' js' = false := by simpa using h2
        simp only [e, Bool.false_eq_true, if_false, Bool.not_false]
        exact bad
    · simp only [h1, if_false]
      exact bad
theorem piece_step (x y : S58) : (!(x.f0 == y.f0) || (!(x.f1 == y.f1))) = !(decide (x.f0 = y.f0) && decide (x.f1 = y.f1)) := by
  by_cases h1 : x.f0 = y.f0 <;> by_cases h2 : x.f1 = y.f1 <;> simp [h1, h2]
def sameP (xs ys : List S58) (n : Nat) : Bool := decide ((xs.getD n z58).f0 = (ys.getD n z58).f0) && decide ((xs.getD n z58).f1 = (ys.getD n z58).f1)
def sameI (xs ys : List Int) (n : Nat) : Bool := decide (xs.getD n 0 = ys.getD n 0)
def piecesV (xs ys : List S58) : Bool := decide (xs.length = ys.length) && ((List.range xs.length).all (sameP xs ys) && true)
def intsV (xs ys : List Int) : Bool := decide (xs.length = ys.length) && ((List.range xs.length).all (sameI xs ys) && true)
theorem spec_l00Same_ev (xs ys : List Int) (h : xs.length ≤ 1048576) : Ev (fun k => spec_l00Same.f k xs ys) (intsV xs ys) := by
  simp only [spec_l00Same.f, intsV]
  by_cases e : xs.length = ys.length
  · simp only [show (xs.length : Int) = (ys.length : Int) by omega, e, if_true, decide_true, Bool.true_and]
    rw [← e]
    refine ev_all (len := xs.length) (g := fun k i => spec_l00Same.l0 k xs ys i) (sameI xs ys) true ?_ ?_ ?_
    · intro n hn hp r hr
      refine ev_succ ?_
      simp only [sameI, decide_eq_true_eq] at hp
      simp only [spec_l00Same.l0, Int.ofNat_lt.2 hn, show (n : Int) < (ys.length : Int) by omega, show (0 : Int) ≤ (n : Int) from Int.natCast_nonneg _, if_true, rd, Int.toNat_natCast, wnext hn (by omega : xs.length ≤ 9223372036854775807), hp]
      exact hr
    · intro n hn hp
      refine ev_succ ?_
      simp only [sameI, decide_eq_false_iff_not] at hp
      simp only [spec_l00Same.l0, Int.ofNat_lt.2 hn, show (n : Int) < (ys.length : Int) by omega, show (0 : Int) ≤ (n : Int) from Int.natCast_nonneg _, if_true, rd, Int.toNat_natCast, hp, if_false]
      exact ev_now _
    · refine ev_succ ?_
      simp only [spec_l00Same.l0, Int.lt_irrefl, if_false]
      exact ev_now _
  · simp only [show ¬ ((xs.length : Int) = (ys.length : Int)) by omega, e, if_false, decide_false, Bool.false_and]
    exact ev_now _
theorem impl_ints_ev (xs ys : List Int) (h : xs.length ≤ 1048576) : Ev (fun k => slices_Equal_int64_int64.f k xs ys) (intsV xs ys) := by
  simp only [slices_Equal_int64_int64.f, intsV]
  by_cases e : xs.length = ys.length
  · simp only [show (xs.length : Int) = (ys.length : Int) by omega, e, if_true, decide_true, Bool.true_and]
    rw [← e]
    refine ev_all (len := xs.length) (g := fun k i => slices_Equal_int64_int64.l0 k xs ys (xs.length : Int) i) (sameI xs ys) true ?_ ?_ ?_
    · intro n hn hp r hr
      refine ev_succ ?_
      simp only [sameI, decide_eq_true_eq] at hp
      simp only [slices_Equal_int64_int64.l0, Int.ofNat_lt.2 hn, show (n : Int) < (ys.length : Int) by omega, show (0 : Int) ≤ (n : Int) from Int.natCast_nonneg _, if_true, rd, Int.toNat_natCast, wnext hn (by omega : xs.length ≤ 9223372036854775807), hp]
      exact hr
    · intro n hn hp
      refine ev_succ ?_
      simp only [sameI, decide_eq_false_iff_not] at hp
      simp only [slices_Equal_int64_int64.l0, Int.ofNat_lt.2 hn, show (n : Int) < (ys.length : Int) by omega, show (0 : Int) ≤ (n : Int) from Int.natCast_nonneg _, if_true, rd, Int.toNat_natCast, hp, if_false]
      exact ev_now _
    · refine ev_succ ?_
      simp only [slices_Equal_int64_int64.l0, Int.lt_irrefl, if_false]
      exact ev_now _
  · simp only [show ¬ ((xs.length : Int) = (ys.length : Int)) by omega, e, if_false, decide_false, Bool.false_and]
    exact ev_now _
theorem impl_pieces_ev (xs ys : List S58) (h : xs.length ≤ 1048576) : Ev (fun k => impl_LinePiece_64.f k xs ys) (piecesV xs ys) := by
  simp only [impl_LinePiece_64.f, piecesV]
  by_cases e : xs.length = ys.length
  · simp only [show (xs.length : Int) = (ys.length : Int) by omega, e, if_true, decide_true, Bool.true_and]
    rw [← e]
    refine ev_all (len := xs.length) (g := fun k i => impl_LinePiece_64.l0 k xs ys (xs.length : Int) i) (sameP xs ys) true ?_ ?_ ?_
    · intro n hn hp r hr
      refine ev_succ ?_
      simp only [sameP] at hp
      simp only [impl_LinePiece_64.l0, Int.ofNat_lt.2 hn, show (n : Int) < (ys.length : Int) by omega, show (0 : Int) ≤ (n : Int) from Int.natCast_nonneg _, if_true, rd_T58, Int.toNat_natCast, wnext hn (by omega : xs.length ≤ 9223372036854775807), piece_step, hp, Bool.not_true, Bool.false_eq_true, if_false]
      exact hr
    · intro n hn hp
      refine ev_succ ?_
      simp only [sameP] at hp
      simp only [impl_LinePiece_64.l0, Int.ofNat_lt.2 hn, show (n : Int) < (ys.length : Int) by omega, show (0 : Int) ≤ (n : Int) from Int.natCast_nonneg _, if_true, rd_T58, Int.toNat_natCast, piece_step, hp, Bool.not_false, if_true]
      exact ev_now _
    · refine ev_succ ?_
      simp only [impl_LinePiece_64.l0, Int.lt_irrefl, if_false]
      exact ev_now _
  · simp only [show ¬ ((xs.length : Int) = (ys.length : Int)) by omega, e, if_false, decide_false, Bool.false_and]
    exact ev_now _
theorem spec_pieces_loop (xs ys : List S58) (a b : List Int) (h : xs.length ≤ 1048576) (e : xs.length = ys.length) : Ev (fun k => spec_SameLine.l0 k 0 xs a ys b) ((List.range xs.length).all (sameP xs ys) && true) := by
  refine ev_all (len := xs.length) (g := fun k i => spec_SameLine.l0 k i xs a ys b) (sameP xs ys) true ?_ ?_ ?_
  · intro n hn hp r hr
    refine ev_succ ?_
    simp only [sameP] at hp
    simp only [spec_SameLine.l0, Int.ofNat_lt.2 hn, show (n : Int) < (ys.length : Int) by omega, show (0 : Int) ≤ (n : Int) from Int.natCast_nonneg _, if_true, rd_T58, Int.toNat_natCast, wnext hn (by omega : xs.length ≤ 9223372036854775807), piece_step, hp, Bool.not_true, Bool.false_eq_true, if_false]
    exact hr
  · intro n hn hp
    refine ev_succ ?_
    simp only [sameP] at hp
    simp only [spec_SameLine.l0, Int.ofNat_lt.2 hn, show (n : Int) < (ys.length : Int) by omega, show (0 : Int) ≤ (n : Int) from Int.natCast_nonneg _, if_true, rd_T58, Int.toNat_natCast, piece_step, hp, Bool.not_false, if_true]
    exact ev_now _
  · refine ev_succ ?_
    simp only [spec_SameLine.l0, Int.lt_irrefl, if_false]
    exact ev_now _
theorem SameLine_ev (ps qs : List S58) (a b : List Int) (hp : ps.length ≤ 1048576) (ha : a.length ≤ 1048576) : ∃ r, Ev (fun k => spec_SameLine.f k ps a qs b) r ∧ Ev (fun k => impl_SameLine.f k ps a qs b) r := by
  refine ⟨piecesV ps qs && intsV a b, ?_, ?_⟩
  · simp only [spec_SameLine.f]
    by_cases e : ps.length = qs.length
    · simp only [show (ps.length : Int) = (qs.length : Int) by omega, if_true]
      refine Ev.bind (spec_l00Same_ev a b ha) ?_
      refine ev_succ ?_
      simp only [spec_SameLine.j0]
      cases intsV a b
      · simp only [Bool.not_false, if_true, Bool.and_false]; exact ev_now _
      · simp only [Bool.not_true, Bool.false_eq_true, if_false, Bool.and_true]
        refine ev_to (spec_pieces_loop ps qs a b hp e) ?_
        unfold piecesV; simp only [e, decide_true, Bool.true_and]
    · simp only [show ¬ ((ps.length : Int) = (qs.length : Int)) by omega, if_false]
      refine ev_succ ?_
      simp only [spec_SameLine.j0, if_true]
      exact ev_to (ev_now _) (by unfold piecesV; simp only [e, decide_false, Bool.false_and])
  · simp only [impl_SameLine.f]
    refine Ev.bind (impl_pieces_ev ps qs hp) ?_
    cases piecesV ps qs
    · simp only [Bool.false_eq_true, if_false, Bool.false_and]; exact ev_now _
    · simp only [if_true, Bool.true_and]
      exact Ev.bind (impl_ints_ev a b ha) (ev_now _)
theorem spec_l03One_ev (s : ByteArray) (a b : Int) : Ev (fun k => spec_l03One.f k s a b) (joinB s a b, s, a, b) := by
  simp only [spec_l03One.f, spec_l00In_eq, Option.bind_some]
  refine Ev.bind (spec_IsName_ev s) ?_
  unfold joinB
  cases isNameB s
  · exact ev_now _
  · by_cases h1 : 1 ≤ a ∧ a ≤ 1000
    · simp only [h1, decide_true, if_true, Bool.true_and, and_self]; exact ev_now _
    · simp only [h1, decide_false, if_true, Bool.true_and, Bool.false_and, Bool.false_eq_true, if_false]; exact ev_now _
def decV (n : Int) : ByteArray := ⟨(Lib.itoa n).toArray⟩
def digI (u : Nat) : List Int := (Lib.decDigits u).map fun b => (b.toNat : Int)
theorem digI_one {u : Nat} (h : u < 10) : digI u = [48 + (u : Int)] := by
  unfold digI
  rw [Lib.decDigits, dif_pos h]
  simp only [List.map_cons, List.map_nil, UInt8.toNat_ofNat']
  congr 1
  omega
theorem digI_more {u : Nat} (h : ¬ u < 10) : digI u = digI (u / 10) ++ [48 + ((u % 10 : Nat) : Int)] := by
  unfold digI
  rw [Lib.decDigits, dif_neg h]
  simp only [List.map_append, List.map_cons, List.map_nil, UInt8.toNat_ofNat']
  congr 2
  omega
theorem digI_len (u : Nat) : (digI u).length = Lib.nDigits u := by unfold digI; rw [List.length_map, Lib.decDigits_length]
theorem digI_str (u : Nat) : strOfNums (digI u) = ⟨(Lib.decDigits u).toArray⟩ := by
  unfold strOfNums digI
  rw [List.map_map]
  congr 2
  have e : ((fun n : Int => UInt8.ofNat n.toNat) ∘ fun b : UInt8 => (b.toNat : Int)) = id := by
    funext b
    simp only [Function.comp_apply, Int.toNat_natCast, UInt8.ofNat_toNat, id]
  rw [e, List.map_id]
theorem tdiv10 (x : Int) : (Int.tdiv x 10).natAbs = x.natAbs / 10 := by rw [Int.natAbs_tdiv]; rfl
theorem tmod10 (x : Int) : (Int.tmod x 10).natAbs = x.natAbs % 10 := by rw [Int.natAbs_tmod]; rfl
theorem dec_loop (n : Int) (r : ByteArray) : ∀ (m : Nat) (x : Int) (out : List Int), x.natAbs ≤ m → x ≠ 0 → -9223372036854775808 ≤ x → x ≤ 9223372036854775807 → out.length + Lib.nDigits x.natAbs ≤ 100 →
    Ev (fun k => spec_l01Dec.l0 k n (digI x.natAbs ++ out) 0) r → Ev (fun k => spec_l01Dec.l0 k n out x) r := by
  intro m
  induction m with
  | zero => intro x out h1 h2; omega
  | succ m ih =>
    intro x out h1 h2 h3 h4 h5 hr
    have d1 := tdiv10 x
    have d2 := tmod10 x
    have np := Lib.nDigits_pos x.natAbs
    have q10 : ((x.natAbs % 10 : Nat) : Int) < 10 := Int.ofNat_lt.2 (Nat.mod_lt _ (by decide))
    have e256 : (48 + ((x.natAbs % 10 : Nat) : Int)) % 256 = 48 + ((x.natAbs % 10 : Nat) : Int) := by
      exact Int.emod_eq_of_lt (by have := Int.natCast_nonneg (x.natAbs % 10); omega) (by omega)
    have key : ∀ c : Int, c = 48 + ((x.natAbs % 10 : Nat) : Int) → Ev (fun k => spec_l01Dec.l0 k n ([c] ++ out) (wrap64 (Int.tdiv x 10))) r := by
      intro c hc
      have w : wrap64 (Int.tdiv x 10) = Int.tdiv x 10 := w64 (by omega) (by omega)
      rw [w]
      by_cases hx : x.natAbs < 10
      · have e0 : Int.tdiv x 10 = 0 := by omega
        rw [digI_one hx] at hr
        rw [e0, hc, Nat.mod_eq_of_lt hx]
        exact hr
      · rw [digI_more hx, ← hc, List.append_assoc, ← d1] at hr
        rw [Lib.nDigits_big hx] at h5
        exact ih (Int.tdiv x 10) ([c] ++ out) (by omega) (by omega) (by omega) (by omega) (by rw [d1]; simp only [List.length_append, List.length_singleton]; omega) hr
    refine ev_succ ?_
    by_cases hs : Int.tmod x 10 < 0
    · have w1 : wrap64 (-(Int.tmod x 10)) = ((x.natAbs % 10 : Nat) : Int) := by rw [w64 (by omega) (by omega)]; omega
      have w2 : wrap64 (48 + ((x.natAbs % 10 : Nat) : Int)) = 48 + ((x.natAbs % 10 : Nat) : Int) := w64 (by omega) (by omega)
      simp only [spec_l01Dec.l0, h2, hs, if_true, if_false, w1]
      refine ev_succ ?_
      simp only [spec_l01Dec.j1, Option.bind_some, w2, List.length_singleton, show 1 + out.length < 140737488355328 by omega, if_true]
      exact key _ e256
    · have w1 : wrap64 (48 + Int.tmod x 10) = 48 + ((x.natAbs % 10 : Nat) : Int) := by rw [w64 (by omega) (by omega)]; omega
      simp only [spec_l01Dec.l0, h2, hs, if_true, if_false]
      refine ev_succ ?_
      simp only [spec_l01Dec.j1, Option.bind_some, w1, List.length_singleton, show 1 + out.length < 140737488355328 by omega, if_true]
      exact key _ e256
theorem nDigits_le (u : Nat) (h : u ≤ 9223372036854775808) : Lib.nDigits u ≤ 20 := by
  have step : ∀ (d u : Nat), u < 10 ^ d → Lib.nDigits u ≤ d + 1 := by
    intro d
    induction d with
    | zero => intro u h; rw [Lib.nDigits_small (by simp at h; omega)]; omega
    | succ d ih =>
      intro u h
      by_cases c : u < 10
      · rw [Lib.nDigits_small c]; omega
      · rw [Lib.nDigits_big c]
        have := ih (u / 10) (by rw [Nat.pow_succ] at h; omega)
        omega
  exact step 19 u (by omega)
theorem append45 (l : List UInt8) : (⟨#[45]⟩ : ByteArray) ++ (⟨l.toArray⟩ : ByteArray) = ⟨(45 :: l).toArray⟩ := by
  apply ByteArray.ext
  rw [ByteArray.data_append]
  simp
theorem spec_l01Dec_ev (n : Int) (h0 : -9223372036854775808 ≤ n) (h1 : n ≤ 9223372036854775807) : Ev (fun k => spec_l01Dec.f k n) (decV n) := by
  simp only [spec_l01Dec.f]
  by_cases hz : n = 0
  · subst hz
    refine ev_succ ?_
    simp only [spec_l01Dec.l0, if_true, List.length_nil]
    refine ev_to (ev_now _) ?_
    unfold decV Lib.itoa
    rw [if_neg (by decide), Lib.decDigits, dif_pos (by decide)]
    rfl
  · have np := Lib.nDigits_pos n.natAbs
    have nl := nDigits_le n.natAbs (by omega)
    refine dec_loop n _ n.natAbs n [] (Nat.le_refl _) hz h0 h1 (by simp only [List.length_nil]; omega) ?_
    refine ev_succ ?_
    simp only [spec_l01Dec.l0, if_true, List.append_nil, digI_len, show ¬ ((Lib.nDigits n.natAbs : Nat) : Int) = 0 by omega, if_false]
    by_cases hs : n < 0
    · simp only [hs, if_true, strOfNums_size, digI_len, show 1 + Lib.nDigits n.natAbs ≤ 9223372036854775807 by omega]
      refine ev_to (ev_now _) ?_
      unfold decV Lib.itoa
      rw [digI_str, append45, if_pos hs]
    · simp only [hs, if_false]
      refine ev_to (ev_now _) ?_
      unfold decV Lib.itoa
      rw [digI_str, if_neg hs, show n.natAbs = n.toNat by omega]
theorem impl_Decimal_eq (n : Int) (h0 : -9223372036854775808 ≤ n) (h1 : n ≤ 9223372036854775807) : impl_Decimal.f n = some (decV n) := by
  simp only [impl_Decimal.f, strconv_FormatInt.f, h0, h1, and_self, if_true, Option.bind_some]
  rfl
theorem decV_size (n : Int) (h0 : -9223372036854775808 ≤ n) (h1 : n ≤ 9223372036854775807) : (decV n).size ≤ 21 := by
  have e : (decV n).size = (Lib.itoa n).length := by unfold decV; simp [ByteArray.size]
  rw [e]
  unfold Lib.itoa
  split
  · rw [List.length_cons, Lib.decDigits_length]; have := nDigits_le n.natAbs (by omega); omega
  · rw [Lib.decDigits_length]; have := nDigits_le n.toNat (by omega); omega
def joinTxt (s : ByteArray) (a b : Int) : ByteArray := ((((s ++ (⟨#[32]⟩ : ByteArray)) ++ decV a) ++ (⟨#[47, 49, 48, 48, 48, 32, 116, 97, 107, 101, 115, 32]⟩ : ByteArray)) ++ decV b)
theorem joinB_is {s : ByteArray} {a b : Int} (h : joinB s a b = true) : s.size ≤ 12 ∧ (1 ≤ a ∧ a ≤ 1000) ∧ (0 ≤ b ∧ b ≤ 1000) := by
  unfold joinB isNameB at h
  simp only [Bool.and_eq_true, decide_eq_true_eq] at h
  exact ⟨h.1.2.1, h.2.1, h.2.2⟩
theorem join_sizes (s : ByteArray) (a b : Int) (hs : s.size ≤ 12) (ha : 1 ≤ a ∧ a ≤ 1000) (hb : 0 ≤ b ∧ b ≤ 1000) :
    s.size + 1 ≤ 9223372036854775807 ∧ (s ++ (⟨#[32]⟩ : ByteArray)).size + (decV a).size ≤ 9223372036854775807 ∧ ((s ++ (⟨#[32]⟩ : ByteArray)) ++ decV a).size + 12 ≤ 9223372036854775807 ∧
    (((s ++ (⟨#[32]⟩ : ByteArray)) ++ decV a) ++ (⟨#[47, 49, 48, 48, 48, 32, 116, 97, 107, 101, 115, 32]⟩ : ByteArray)).size + (decV b).size ≤ 9223372036854775807 := by
  have z1 : ((⟨#[32]⟩ : ByteArray)).size = 1 := rfl
  have z2 : ((⟨#[47, 49, 48, 48, 48, 32, 116, 97, 107, 101, 115, 32]⟩ : ByteArray)).size = 12 := rfl
  have da := decV_size a (by omega) (by omega)
  have db := decV_size b (by omega) (by omega)
  simp only [ByteArray.size_append, z1, z2]
  omega
theorem spec_l03TextAt_ev (x : S47) (h : joinB x.f0 x.f1 x.f2 = true) : Ev (fun k => spec_l03TextAt.f k [x]) (joinTxt x.f0 x.f1 x.f2) := by
  have e0 : rd_T47 [x] 0 = x := rfl
  have l0 : (0 : Int) < (([x] : List S47).length : Int) := by simp
  obtain ⟨h0, ha, hb⟩ := joinB_is h
  obtain ⟨q1, q2, q3, q4⟩ := join_sizes x.f0 x.f1 x.f2 h0 ha hb
  simp only [spec_l03TextAt.f, e0, l0, if_true, q1]
  refine Ev.bind (spec_l01Dec_ev x.f1 (by omega) (by omega)) ?_
  simp only [q2, q3, if_true]
  refine Ev.bind (spec_l01Dec_ev x.f2 (by omega) (by omega)) ?_
  simp only [q4, if_true]
  exact ev_now _
def joinTxtV (s : ByteArray) (a b : Int) : ByteArray := if joinB s a b = true then joinTxt s a b else (⟨#[]⟩ : ByteArray)
theorem spec_JoinText_ev (s : ByteArray) (a b : Int) : Ev (fun k => spec_JoinText.f k s a b) (joinTxtV s a b) := by
  simp only [spec_JoinText.f]
  refine Ev.bind (spec_l03One_ev s a b) ?_
  unfold joinTxtV
  by_cases h : joinB s a b = true
  · simp only [h, if_true]
    exact Ev.bind (spec_l03TextAt_ev (⟨s, a, b⟩ : S47) h) (ev_now _)
  · simp only [h]; exact ev_now _
theorem impl_JoinText_ev (s : ByteArray) (a b : Int) : Ev (fun k => impl_JoinText.f k s a b) (joinTxtV s a b) := by
  simp only [impl_JoinText.f]
  refine Ev.bind (impl_validJoin_ev s a b) ?_
  unfold joinTxtV
  by_cases h : joinB s a b = true
  · obtain ⟨h0, ha, hb⟩ := joinB_is h
    obtain ⟨q1, q2, q3, q4⟩ := join_sizes s a b h0 ha hb
    simp only [h, if_true, q1, impl_Decimal_eq a (by omega) (by omega), impl_Decimal_eq b (by omega) (by omega), Option.bind_some, q2, q3, q4]
    exact ev_now _
  · simp only [h]; exact ev_now _
theorem bt_get (s : ByteArray) {i : Nat} (h : i < s.size) : bt s (i : Int) = ((s.data.toList[i]'(by rw [Array.length_toList]; exact h)).toNat : Int) := by
  unfold bt
  rw [dif_pos (show ((i : Int)).toNat < s.size by rw [Int.toNat_natCast]; exact h)]
  simp only [Int.toNat_natCast]
  rfl
def toBA (l : List UInt8) : ByteArray := ⟨l.toArray⟩
theorem toBA_data (s : ByteArray) : toBA s.data.toList = s := by unfold toBA; simp
theorem data_toBA (l : List UInt8) : (toBA l).data.toList = l := by unfold toBA; simp
theorem extract_BA (s : ByteArray) (a b : Nat) : s.extract a b = toBA ((s.data.toList.drop a).take (b - a)) := by
  unfold toBA
  apply ByteArray.ext
  rw [ByteArray.data_extract]
  apply Array.ext'
  simp [List.take_drop]
def splA (c : UInt8) : List UInt8 → List UInt8 → List (List UInt8)
  | cur, [] => [cur]
  | cur, b :: l => if b = c then cur :: splA c [] l else splA c (cur ++ [b]) l
def onHead (cur : List UInt8) : List (List UInt8) → List (List UInt8)
  | [] => []
  | h :: t => (cur ++ h) :: t
theorem onHead_nil (l : List (List UInt8)) : onHead [] l = l := by cases l <;> rfl
theorem splitK_ne (sep : List UInt8) (sv k : Nat) (l : List UInt8) : ∃ h t, Lib.splitK sep sv k l = h :: t := by
  cases k with
  | zero => exact ⟨_, _, rfl⟩
  | succ k => unfold Lib.splitK; split <;> exact ⟨_, _, rfl⟩
theorem splitK_cons_ne {b c : UInt8} (h : b ≠ c) (l : List UInt8) (k : Nat) : Lib.splitK [c] 0 k (b :: l) = onHead [b] (Lib.splitK [c] 0 k l) := by
  cases k with
  | zero => rfl
  | succ k =>
    have hp : ([c] : List UInt8).isPrefixOf (b :: l) = false := by simp [List.isPrefixOf, Ne.symm h]
    have hix : Lib.index (b :: l) [c] = if Lib.index l [c] == -1 then -1 else Lib.index l [c] + 1 := by rw [Lib.index, hp]; simp
    have hge := Lib.index_ge l [c]
    unfold Lib.splitK
    by_cases hm : Lib.index l [c] = -1
    · rw [if_pos (by rw [hix, if_pos (beq_iff_eq.2 hm)]; rfl), if_pos (beq_iff_eq.2 hm)]; rfl
    · obtain ⟨j, hj⟩ : ∃ j : Nat, Lib.index l [c] = j := ⟨(Lib.index l [c]).toNat, by omega⟩
      have hb : (Lib.index l [c] == -1) = false := beq_eq_false_iff_ne.2 hm
      rw [hix, hb, hj]
      simp only [Bool.false_eq_true, if_false]
      have e2 : (((j : Int) + 1) == -1) = false := beq_eq_false_iff_ne.2 (by omega)
      have e3 : ((j : Int) == -1) = false := beq_eq_false_iff_ne.2 (by omega)
      rw [e2]
      simp only [Bool.false_eq_true, if_false]
      rw [show ((j : Int) + 1).toNat = j + 1 by omega, Int.toNat_natCast]
      simp [onHead, Nat.add_assoc, List.take_succ_cons]
theorem splitK_cons_eq (c : UInt8) (l : List UInt8) (k : Nat) : Lib.splitK [c] 0 (k + 1) (c :: l) = [] :: Lib.splitK [c] 0 k l := by
  have hix : Lib.index (c :: l) [c] = 0 := by rw [Lib.index]; simp [List.isPrefixOf]
  rw [Lib.splitK, hix]
  simp
theorem splA_eq (c : UInt8) : ∀ (l cur : List UInt8), splA c cur l = onHead cur (Lib.splitK [c] 0 (Lib.count l [c]) l)
  | [], cur => by
    rw [Lib.count_one]
    simp [splA, Lib.splitK, onHead]
  | b :: l, cur => by
    unfold splA
    by_cases h : b = c
    · subst h
      rw [if_pos rfl, splA_eq b l [], onHead_nil, Lib.count_cons_eq, Nat.add_comm, splitK_cons_eq]
      simp [onHead]
    · rw [if_neg h, splA_eq c l (cur ++ [b]), Lib.count_cons_ne b c l h, splitK_cons_ne h]
      obtain ⟨x, t, e⟩ := splitK_ne [c] 0 (Lib.count l [c]) l
      rw [e]
      simp [onHead]
def cutB (c : UInt8) (s : ByteArray) : List ByteArray := (splA c [] s.data.toList).map toBA
theorem splitB_cut (c : UInt8) (s : ByteArray) : Lib.splitB ⟨#[c]⟩ 0 (Lib.countB s ⟨#[c]⟩) s = cutB c s := by
  have h := Lib.splitB_data ⟨#[c]⟩ 0 (Lib.countB s ⟨#[c]⟩) s
  have e : Lib.splitK [c] 0 (Lib.count s.data.toList [c]) s.data.toList = splA c [] s.data.toList := by rw [splA_eq, onHead_nil]
  have h' : (Lib.splitB ⟨#[c]⟩ 0 (Lib.countB s ⟨#[c]⟩) s).map (·.data.toList) = splA c [] s.data.toList := h.trans e
  unfold cutB
  rw [← h', List.map_map]
  have e2 : (toBA ∘ fun x : ByteArray => x.data.toList) = id := by funext x; exact toBA_data x
  rw [e2, List.map_id]
theorem bt_data (s : ByteArray) {i : Nat} (h : i < s.size) (c : UInt8) : (bt s (i : Int) = (c.toNat : Int)) ↔ s.data.toList[i]'(by rw [Array.length_toList]; exact h) = c := by
  rw [bt_get s h]
  constructor
  · intro h2
    exact UInt8.toNat_inj.1 (by omega)
  · intro h2
    rw [h2]
theorem splA_cons (c : UInt8) (cur : List UInt8) (b : UInt8) (l : List UInt8) : splA c cur (b :: l) = if b = c then cur :: splA c [] l else splA c (cur ++ [b]) l := rfl
theorem spec_l01Split_loop (s : ByteArray) (hs : s.size ≤ 1048576) (c : UInt8) : ∀ (d i a : Nat) (out : List ByteArray), i + d = s.size → a ≤ i → out.length ≤ a →
    Ev (fun k => spec_l01Split.l0 k s (c.toNat : Int) out (a : Int) (i : Int)) (out ++ (splA c ((s.data.toList.drop a).take (i - a)) (s.data.toList.drop i)).map toBA) := by
  intro d
  induction d with
  | zero =>
    intro i a out hi ha ho
    have e : i = s.size := by omega
    subst e
    refine ev_succ ?_
    have e1 : s.data.toList.drop s.size = [] := List.drop_eq_nil_of_le (by rw [Array.length_toList]; exact Nat.le_refl _)
    rw [e1]
    simp only [spec_l01Split.l0, Int.lt_irrefl, if_false, show (0 : Int) ≤ (a : Int) from Int.natCast_nonneg _, show (a : Int) ≤ (s.size : Int) by omega, show out.length < 8796093022208 by omega, if_true, Int.toNat_natCast, extract_BA]
    exact ev_now _
  | succ d ih =>
    intro i a out hi ha ho
    have hl : i < s.size := by omega
    have hl' : i < s.data.toList.length := by rw [Array.length_toList]; exact hl
    have ed : s.data.toList.drop i = s.data.toList[i] :: s.data.toList.drop (i + 1) := List.drop_eq_getElem_cons hl'
    refine ev_succ ?_
    by_cases hc : bt s (i : Int) = (c.toNat : Int)
    · have hb := (bt_data s hl c).1 hc
      have i1 := ih (i + 1) (i + 1) (out ++ [s.extract a i]) (by omega) (Nat.le_refl _) (by simp; omega)
      simp only [spec_l01Split.l0, show (i : Int) < (s.size : Int) by omega, show (0 : Int) ≤ (i : Int) from Int.natCast_nonneg _, hc, show (0 : Int) ≤ (a : Int) from Int.natCast_nonneg _, show (a : Int) ≤ (i : Int) by omega, show (i : Int) ≤ (s.size : Int) by omega, show out.length < 8796093022208 by omega, if_true, Int.toNat_natCast, wnext hl (by omega : s.size ≤ 9223372036854775807)]
      refine ev_to i1 ?_
      rw [ed, splA_cons, if_pos hb, Nat.sub_self, List.take_zero, extract_BA]
      simp
    · have hb : ¬ s.data.toList[i] = c := fun e => hc ((bt_data s hl c).2 e)
      have i1 := ih (i + 1) a out (by omega) (by omega) ho
      simp only [spec_l01Split.l0, show (i : Int) < (s.size : Int) by omega, show (0 : Int) ≤ (i : Int) from Int.natCast_nonneg _, hc, if_true, if_false, wnext hl (by omega : s.size ≤ 9223372036854775807)]
      refine ev_to i1 ?_
      rw [ed, splA_cons, if_neg hb]
      congr 3
      rw [show i + 1 - a = (i - a) + 1 by omega, List.take_succ_eq_append_getElem (by rw [List.length_drop]; omega)]
      congr 2
      simp only [List.getElem_drop]
      congr 1
      omega
theorem spec_l01Split_ev (s : ByteArray) (hs : s.size ≤ 1048576) (c : UInt8) : Ev (fun k => spec_l01Split.f k s (c.toNat : Int)) (cutB c s) := by
  simp only [spec_l01Split.f]
  have := spec_l01Split_loop s hs c s.size 0 0 [] (by omega) (Nat.le_refl _) (Nat.le_refl _)
  simpa [cutB] using this
theorem strings_Split_eq (s : ByteArray) (hs : s.size ≤ 1048576) (c : UInt8) : strings_Split.f s (⟨#[c]⟩ : ByteArray) = some (cutB c s) := by
  unfold strings_Split.f
  rw [if_pos ⟨by omega, by show 1 ≤ 1; omega⟩, splitB_cut]
def isDig (b : UInt8) : Bool := decide (48 ≤ (b.toNat : Int)) && decide ((b.toNat : Int) ≤ 57)
def digV (l : List UInt8) : Int := l.foldl (fun a b => 10 * a + ((b.toNat : Int) - 48)) 0
theorem digV_snoc (l : List UInt8) (b : UInt8) : digV (l ++ [b]) = 10 * digV l + ((b.toNat : Int) - 48) := by unfold digV; rw [List.foldl_append]; rfl
theorem digV_fold : ∀ (l : List UInt8) (a : Int), 0 ≤ a → l.all isDig = true → 0 ≤ l.foldl (fun a b => 10 * a + ((b.toNat : Int) - 48)) a ∧ l.foldl (fun a b => 10 * a + ((b.toNat : Int) - 48)) a + 1 ≤ (a + 1) * 10 ^ l.length
  | [], a, h, _ => by simp only [List.foldl_nil, List.length_nil, Int.pow_zero, Int.mul_one]; omega
  | b :: l, a, h, hd => by
    rw [List.all_cons, Bool.and_eq_true] at hd
    have hb := hd.1
    unfold isDig at hb
    simp only [Bool.and_eq_true, decide_eq_true_eq] at hb
    obtain ⟨h1, h2⟩ := digV_fold l (10 * a + ((b.toNat : Int) - 48)) (by omega) hd.2
    rw [List.foldl_cons, List.length_cons, Int.pow_succ]
    refine ⟨h1, Int.le_trans h2 ?_⟩
    have p : (0 : Int) ≤ 10 ^ l.length := Int.pow_nonneg (by decide)
    have m := Int.mul_le_mul_of_nonneg_right (show 10 * a + ((b.toNat : Int) - 48) + 1 ≤ (a + 1) * 10 by omega) p
    rw [Int.mul_assoc] at m
    rw [Int.mul_comm (10 ^ l.length) 10]
    exact m
theorem digV_bound (l : List UInt8) (h : l.all isDig = true) (hl : l.length ≤ 18) : 0 ≤ digV l ∧ digV l + 1 ≤ 1000000000000000000 := by
  have := digV_fold l 0 (Int.le_refl _) h
  have e : (10 : Int) ^ l.length ≤ 10 ^ 18 := by
    have := Nat.pow_le_pow_right (show 0 < 10 by decide) hl
    exact_mod_cast this
  unfold digV
  refine ⟨this.1, ?_⟩
  have h2 := this.2
  rw [show ((0 : Int) + 1) * 10 ^ l.length = 10 ^ l.length by omega] at h2
  have e2 : (10 : Int) ^ 18 = 1000000000000000000 := by decide
  omega
def endV (s : ByteArray) (n : Int) : Int × Bool := if (decV n).toList = s.toList then (n, true) else (0, false)
def numT (s t : ByteArray) : Int × Bool := if t.data.toList.all isDig = true then (if (t.size : Int) < (s.size : Int) then endV s (-digV t.data.toList) else endV s (digV t.data.toList)) else (0, false)
def strip (s : ByteArray) : ByteArray := toBA (Lib.trimPrefix s.data.toList [45])
def numV (s : ByteArray) : Int × Bool := if (strip s).size < 1 ∨ (strip s).size > 18 then (0, false) else numT s (strip s)
theorem all_take {α : Type} (l : List α) (p : α → Bool) {n : Nat} (h : n < l.length) : (l.take (n + 1)).all p = ((l.take n).all p && p l[n]) := by
  rw [List.take_succ_eq_append_getElem h, List.all_append, List.all_cons, List.all_nil, Bool.and_true]
theorem all_no {α : Type} (l : List α) (p : α → Bool) {n : Nat} (h : n < l.length) (hp : p l[n] = false) : l.all p = false := by
  rw [List.all_eq_false]; exact ⟨l[n], List.getElem_mem h, by simp [hp]⟩
theorem digV_take (l : List UInt8) {n : Nat} (h : n < l.length) : digV (l.take (n + 1)) = 10 * digV (l.take n) + ((l[n].toNat : Int) - 48) := by
  rw [List.take_succ_eq_append_getElem h, digV_snoc]
theorem spec_num_loop (s t : ByteArray) (ht : t.size ≤ 18) : Ev (fun k => spec_l01Number.l0 k s t 0 0) (numT s t) := by
  suffices key : ∃ r, Ev (fun k => spec_l01Number.l0 k s t 0 0) r ∧ r = numT s t by obtain ⟨r, hr, e⟩ := key; exact e ▸ hr
  have hl : t.data.toList.length = t.size := Array.length_toList
  refine ev_loop (len := t.size) (g := fun k v i => spec_l01Number.l0 k s t v i) (fun n v => v = digV (t.data.toList.take n) ∧ (t.data.toList.take n).all isDig = true) (fun r => r = numT s t) ?_ ?_ 0 ⟨rfl, rfl⟩
  · intro n v hn ⟨hv, hd⟩
    have bd := digV_bound _ hd (by rw [List.length_take]; omega)
    have bd1 : n < 18 := by omega
    have fo := (digV_fold (t.data.toList.take n) 0 (Int.le_refl _) hd).2
    have e17 : (10 : Int) ^ (t.data.toList.take n).length ≤ 10 ^ 17 := by
      have := Nat.pow_le_pow_right (show 0 < 10 by decide) (show (t.data.toList.take n).length ≤ 17 by rw [List.length_take]; omega)
      exact_mod_cast this
    have e2 : (10 : Int) ^ 17 = 100000000000000000 := by decide
    have bd2 : v + 1 ≤ 100000000000000000 := by
      rw [hv]; unfold digV
      rw [show ((0 : Int) + 1) * 10 ^ (t.data.toList.take n).length = 10 ^ (t.data.toList.take n).length by omega] at fo
      omega
    have hb := bt_get t hn
    have hn' : n < t.data.toList.length := by omega
    generalize hc : t.data.toList[n] = c at hb
    have hcr : (c.toNat : Int) < 256 := by have := c.toNat_lt; omega
    have hc0 : (0 : Int) ≤ (c.toNat : Int) := Int.natCast_nonneg _
    rw [← hv] at bd
    cases hp : isDig c with
    | true =>
      have hp' := hp
      unfold isDig at hp'
      simp only [Bool.and_eq_true, decide_eq_true_eq] at hp'
      refine .inr ⟨10 * v + ((c.toNat : Int) - 48), ⟨by rw [digV_take _ hn', hc, hv], by rw [all_take _ _ hn', hd, hc, hp]; rfl⟩, fun r hr => ev_succ ?_⟩
      simp only [spec_l01Number.l0, Int.ofNat_lt.2 hn, show (0 : Int) ≤ (n : Int) from Int.natCast_nonneg _, if_true, spec_l01Digit.f, hb, show (c.toNat : Int) ≥ 48 by omega, Option.bind_some, show (c.toNat : Int) ≤ 57 by omega, decide_true,
        w64 (n := 10 * v) (by omega) (by omega), show ((c.toNat : Int) - 48) % 256 = (c.toNat : Int) - 48 by omega, w64 (n := 10 * v + ((c.toNat : Int) - 48)) (by omega) (by omega), wnext hn (by omega : t.size ≤ 9223372036854775807)]
      exact hr
    | false =>
      refine .inl ⟨(0, false), ev_succ ?_, by unfold numT; rw [all_no _ isDig hn' (by rw [hc, hp])]; rfl⟩
      by_cases h48 : (c.toNat : Int) ≥ 48
      · have h57 : ¬ (c.toNat : Int) ≤ 57 := by
          intro h; unfold isDig at hp; simp only [show 48 ≤ (c.toNat : Int) by omega, h, decide_true, Bool.and_self] at hp; cases hp
        simp only [spec_l01Number.l0, Int.ofNat_lt.2 hn, show (0 : Int) ≤ (n : Int) from Int.natCast_nonneg _, if_true, spec_l01Digit.f, hb, h48, Option.bind_some, h57, decide_false, Bool.false_eq_true, if_false]
        exact ev_now _
      · simp only [spec_l01Number.l0, Int.ofNat_lt.2 hn, show (0 : Int) ≤ (n : Int) from Int.natCast_nonneg _, if_true, spec_l01Digit.f, hb, h48, Option.bind_some, Bool.false_eq_true, if_false]
        exact ev_now _
  · intro v ⟨hv, hd⟩
    rw [List.take_of_length_le (by omega)] at hv hd
    have bd := digV_bound _ hd (by omega)
    rw [← hv] at bd
    refine ⟨_, ev_succ ?_, rfl⟩
    unfold numT
    rw [if_pos hd, ← hv]
    simp only [spec_l01Number.l0, Int.lt_irrefl, if_false, w64 (n := -v) (by omega) (by omega)]
    by_cases hs : (t.size : Int) < (s.size : Int)
    · simp only [hs, if_true]
      refine Ev.bind (spec_l01Dec_ev (-v) (by omega) (by omega)) ?_
      unfold endV
      by_cases he : (decV (-v)).toList = s.toList
      · simp only [he, if_true]; exact ev_now _
      · simp only [he, if_false]; exact ev_now _
    · simp only [hs, if_false]
      refine Ev.bind (spec_l01Dec_ev v (by omega) (by omega)) ?_
      unfold endV
      by_cases he : (decV v).toList = s.toList
      · simp only [he, if_true]; exact ev_now _
      · simp only [he, if_false]; exact ev_now _
theorem impl_num_loop (s t : ByteArray) (ht : t.size ≤ 18) : Ev (fun k => impl_ReadDecimal.l0 k s t 0 0) (numT s t) := by
  suffices key : ∃ r, Ev (fun k => impl_ReadDecimal.l0 k s t 0 0) r ∧ r = numT s t by obtain ⟨r, hr, e⟩ := key; exact e ▸ hr
  have hl : t.data.toList.length = t.size := Array.length_toList
  refine ev_loop (len := t.size) (g := fun k v i => impl_ReadDecimal.l0 k s t v i) (fun n v => v = digV (t.data.toList.take n) ∧ (t.data.toList.take n).all isDig = true) (fun r => r = numT s t) ?_ ?_ 0 ⟨rfl, rfl⟩
  · intro n v hn ⟨hv, hd⟩
    have bd := digV_bound _ hd (by rw [List.length_take]; omega)
    have fo := (digV_fold (t.data.toList.take n) 0 (Int.le_refl _) hd).2
    have e17 : (10 : Int) ^ (t.data.toList.take n).length ≤ 10 ^ 17 := by
      have := Nat.pow_le_pow_right (show 0 < 10 by decide) (show (t.data.toList.take n).length ≤ 17 by rw [List.length_take]; omega)
      exact_mod_cast this
    have e2 : (10 : Int) ^ 17 = 100000000000000000 := by decide
    have bd2 : v + 1 ≤ 100000000000000000 := by
      rw [hv]; unfold digV
      rw [show ((0 : Int) + 1) * 10 ^ (t.data.toList.take n).length = 10 ^ (t.data.toList.take n).length by omega] at fo
      omega
    have hb := bt_get t hn
    have hn' : n < t.data.toList.length := by omega
    generalize hc : t.data.toList[n] = c at hb
    have hcr : (c.toNat : Int) < 256 := by have := c.toNat_lt; omega
    have hc0 : (0 : Int) ≤ (c.toNat : Int) := Int.natCast_nonneg _
    rw [← hv] at bd
    cases hp : isDig c with
    | true =>
      have hp' := hp
      unfold isDig at hp'
      simp only [Bool.and_eq_true, decide_eq_true_eq] at hp'
      refine .inr ⟨10 * v + ((c.toNat : Int) - 48), ⟨by rw [digV_take _ hn', hc, hv], by rw [all_take _ _ hn', hd, hc, hp]; rfl⟩, fun r hr => ev_succ ?_⟩
      simp only [impl_ReadDecimal.l0, Int.ofNat_lt.2 hn, show (0 : Int) ≤ (n : Int) from Int.natCast_nonneg _, if_true, hb, show ¬ (c.toNat : Int) < 48 by omega, show ¬ (c.toNat : Int) > 57 by omega, if_false,
        w64 (n := 10 * v) (by omega) (by omega), show ((c.toNat : Int) - 48) % 256 = (c.toNat : Int) - 48 by omega, w64 (n := 10 * v + ((c.toNat : Int) - 48)) (by omega) (by omega), wnext hn (by omega : t.size ≤ 9223372036854775807)]
      exact hr
    | false =>
      refine .inl ⟨(0, false), ev_succ ?_, by unfold numT; rw [all_no _ isDig hn' (by rw [hc, hp])]; rfl⟩
      by_cases h48 : (c.toNat : Int) < 48
      · simp only [impl_ReadDecimal.l0, Int.ofNat_lt.2 hn, show (0 : Int) ≤ (n : Int) from Int.natCast_nonneg _, if_true, hb, h48]
        exact ev_now _
      · have h57 : (c.toNat : Int) > 57 := by
          refine Int.not_le.1 fun h => ?_
          unfold isDig at hp; simp only [show 48 ≤ (c.toNat : Int) by omega, h, decide_true, Bool.and_self] at hp; cases hp
        simp only [impl_ReadDecimal.l0, Int.ofNat_lt.2 hn, show (0 : Int) ≤ (n : Int) from Int.natCast_nonneg _, if_true, hb, h48, h57, if_false]
        exact ev_now _
  · intro v ⟨hv, hd⟩
    rw [List.take_of_length_le (by omega)] at hv hd
    have bd := digV_bound _ hd (by omega)
    rw [← hv] at bd
    refine ⟨_, ev_succ ?_, rfl⟩
    unfold numT
    rw [if_pos hd, ← hv]
    simp only [impl_ReadDecimal.l0, Int.lt_irrefl, if_false, w64 (n := -v) (by omega) (by omega), impl_Decimal_eq v (by omega) (by omega), impl_Decimal_eq (-v) (by omega) (by omega), Option.bind_some]
    unfold endV
    by_cases hs : (t.size : Int) < (s.size : Int)
    · simp only [hs, if_true]
      by_cases he : (decV (-v)).toList = s.toList
      · simp only [he, if_true]; exact ev_now _
      · simp only [he, if_false]; exact ev_now _
    · simp only [hs, if_false]
      by_cases he : (decV v).toList = s.toList
      · simp only [he, if_true]; exact ev_now _
      · simp only [he, if_false]; exact ev_now _
theorem spec_num_rest (s t : ByteArray) : Ev (fun k => spec_l01Number.j1 k s t) (if t.size < 1 ∨ t.size > 18 then (0, false) else numT s t) := by
  refine ev_succ ?_
  by_cases h1 : (t.size : Int) < 1
  · simp only [spec_l01Number.j1, h1, if_true, show t.size < 1 ∨ t.size > 18 by omega]
    refine ev_succ ?_
    simp only [spec_l01Number.j2, if_true]; exact ev_now _
  · by_cases h2 : (t.size : Int) > 18
    · simp only [spec_l01Number.j1, h1, h2, if_false, decide_true, if_true, show t.size < 1 ∨ t.size > 18 by omega]
      refine ev_succ ?_
      simp only [spec_l01Number.j2, if_true]; exact ev_now _
    · simp only [spec_l01Number.j1, h1, h2, if_false, decide_false, show ¬ (t.size < 1 ∨ t.size > 18) by omega]
      refine ev_succ ?_
      simp only [spec_l01Number.j2, Bool.false_eq_true, if_false]; exact spec_num_loop s t (by omega)
theorem spec_l01Number_ev (s : ByteArray) (hs : s.size ≤ 140737488351232) : Ev (fun k => spec_l01Number.f k s) (numV s) := by
  have hl : s.data.toList.length = s.size := Array.length_toList
  unfold numV
  by_cases h0 : s.size = 0
  · have e : strip s = s := by
      unfold strip Lib.trimPrefix
      have : s.data.toList = [] := List.length_eq_zero_iff.1 (by omega)
      rw [this]
      apply ByteArray.ext
      apply Array.ext'
      rw [data_toBA, this]
      rfl
    have e2 : s.toList = ([] : List UInt8) := by rw [← List.length_eq_zero_iff, ByteArray.toList_eq, hl]; exact h0
    rw [e]
    simp only [spec_l01Number.f, e2, if_true]
    refine ev_succ ?_
    simp only [spec_l01Number.j0, Bool.false_eq_true, if_false]
    exact spec_num_rest s s
  · have e2 : ¬ s.toList = ([] : List UInt8) := by rw [← List.length_eq_zero_iff, ByteArray.toList_eq, hl]; exact h0
    have hb := bt_get s (show 0 < s.size by omega)
    simp only [spec_l01Number.f, e2, if_false, show 0 < (s.size : Int) by omega, if_true]
    refine ev_succ ?_
    obtain ⟨b, l, hbl⟩ : ∃ b l, s.data.toList = b :: l := by
      cases h : s.data.toList with
      | nil => rw [h] at hl; simp at hl; omega
      | cons b l => exact ⟨b, l, rfl⟩
    have hb2 : bt s 0 = (b.toNat : Int) := by
      have : bt s ((0 : Nat) : Int) = _ := hb
      simp only [hbl, List.getElem_cons_zero] at this
      exact this
    rw [hb2]
    by_cases h45 : b = 45
    · have e3 : ((b.toNat : Int) == 45) = true := by subst h45; rfl
      have e4 : strip s = s.extract 1 s.size := by
        unfold strip Lib.trimPrefix Lib.hasPrefix
        rw [extract_BA, hbl, h45]
        congr 1
        have : l.length = s.size - 1 := by rw [hbl] at hl; simp at hl; omega
        simp [List.isPrefixOf, ← this]
      rw [e4]
      simp only [spec_l01Number.j0, e3, if_true, show 1 ≤ (s.size : Int) by omega]
      exact spec_num_rest s _
    · have ne : ¬ (b.toNat : Int) = 45 := by
        intro h
        exact h45 (UInt8.toNat_inj.1 (show b.toNat = 45 by omega))
      have e3 : ((b.toNat : Int) == 45) = false := beq_eq_false_iff_ne.2 ne
      have e4 : strip s = s := by
        unfold strip Lib.trimPrefix Lib.hasPrefix
        rw [hbl, show List.isPrefixOf [45] (b :: l) = false by simp [List.isPrefixOf, Ne.symm h45]]
        simp only [Bool.false_eq_true, if_false]
        rw [← hbl, toBA_data]
      rw [e4]
      simp only [spec_l01Number.j0, e3, Bool.false_eq_true, if_false]
      exact spec_num_rest s s
theorem impl_ReadDecimal_ev (s : ByteArray) : Ev (fun k => impl_ReadDecimal.f k s) (numV s) := by
  have e : strings_TrimPrefix.f s (⟨#[45]⟩ : ByteArray) = some (strip s) := rfl
  simp only [impl_ReadDecimal.f, e, Option.bind_some]
  unfold numV
  generalize strip s = t
  by_cases h1 : (t.size : Int) < 1
  · simp only [h1, if_true, show t.size < 1 ∨ t.size > 18 by omega]
    refine ev_succ ?_
    simp only [impl_ReadDecimal.j0, if_true]; exact ev_now _
  · by_cases h2 : (t.size : Int) > 18
    · simp only [h1, h2, if_false, decide_true, if_true, show t.size < 1 ∨ t.size > 18 by omega]
      refine ev_succ ?_
      simp only [impl_ReadDecimal.j0, if_true]; exact ev_now _
    · simp only [h1, h2, if_false, decide_false, show ¬ (t.size < 1 ∨ t.size > 18) by omega]
      refine ev_succ ?_
      simp only [impl_ReadDecimal.j0, Bool.false_eq_true, if_false]; exact impl_num_loop s t (by omega)
theorem splA_no (c : UInt8) : ∀ (l cur : List UInt8), c ∉ l → splA c cur l = [cur ++ l]
  | [], cur, _ => by simp [splA]
  | b :: l, cur, h => by
    simp only [List.mem_cons, not_or] at h
    rw [splA_cons, if_neg (fun e => h.1 e.symm), splA_no c l _ h.2]
    simp
theorem splA_app (c : UInt8) (q : List UInt8) : ∀ (p cur : List UInt8), c ∉ p → splA c cur (p ++ c :: q) = (cur ++ p) :: splA c [] q
  | [], cur, _ => by rw [List.nil_append, splA_cons, if_pos rfl, List.append_nil]
  | b :: p, cur, h => by
    simp only [List.mem_cons, not_or] at h
    rw [List.cons_append, splA_cons, if_neg (fun e => h.1 e.symm), splA_app c q p _ h.2]
    simp
theorem first_split (c : UInt8) : ∀ (l : List UInt8), c ∈ l → ∃ p q, l = p ++ c :: q ∧ c ∉ p
  | [], h => by simp at h
  | b :: l, h => by
    by_cases e : b = c
    · exact ⟨[], l, by rw [e]; rfl, by simp⟩
    · obtain ⟨p, q, h1, h2⟩ := first_split c l (by
        rcases List.mem_cons.1 h with h | h
        · exact absurd h.symm e
        · exact h)
      refine ⟨b :: p, q, by rw [h1]; rfl, ?_⟩
      simp only [List.mem_cons, not_or]
      exact ⟨fun h => e h.symm, h2⟩
theorem splA_pos (c : UInt8) : ∀ (l cur : List UInt8), 1 ≤ (splA c cur l).length
  | [], cur => by simp [splA]
  | b :: l, cur => by
    rw [splA_cons]
    split
    · simp
    · exact splA_pos c l _
theorem splA_one (c : UInt8) {l b : List UInt8} (h : splA c [] l = [b]) : c ∉ l ∧ b = l := by
  by_cases hm : c ∈ l
  · obtain ⟨p, q, h1, h2⟩ := first_split c l hm
    rw [h1, splA_app c q p [] h2] at h
    have := splA_pos c q []
    have h3 := congrArg List.length h
    simp only [List.length_cons, List.length_nil] at h3
    omega
  · rw [splA_no c l [] hm] at h
    simp only [List.nil_append, List.cons.injEq, and_true] at h
    exact ⟨hm, h.symm⟩
theorem splA_two (c : UInt8) {l a b : List UInt8} (h : splA c [] l = [a, b]) : l = a ++ c :: b ∧ c ∉ a ∧ c ∉ b := by
  by_cases hm : c ∈ l
  · obtain ⟨p, q, h1, h2⟩ := first_split c l hm
    rw [h1, splA_app c q p [] h2, List.nil_append] at h
    obtain ⟨e1, e2⟩ := List.cons.inj h
    obtain ⟨h3, h4⟩ := splA_one c e2
    subst e1
    rw [h4]
    exact ⟨h1, h2, h3⟩
  · rw [splA_no c l [] hm] at h
    simp at h
theorem toList_data (s : ByteArray) : s.toList = s.data.toList := by rw [ByteArray.toList_eq]
theorem rdOf_map (L : List (List UInt8)) (i : Nat) (h : i < L.length) : rdOf ByteArray.empty (L.map toBA) (i : Int) = toBA L[i] := by
  unfold rdOf
  rw [Int.toNat_natCast, List.getD_eq_getElem?_getD, List.getElem?_map, List.getElem?_eq_getElem h]
  rfl
theorem numV_no (l : List UInt8) (c : UInt8) (hc : c ∈ l) (h45 : c ≠ 45) (hd : isDig c = false) : (numV (toBA l)).2 = false := by
  have hm : c ∈ Lib.trimPrefix l [45] := by
    unfold Lib.trimPrefix Lib.hasPrefix
    split
    · cases l with
      | nil => simp at hc
      | cons b l =>
        rename_i hp
        simp only [List.isPrefixOf, Bool.and_true, beq_iff_eq] at hp
        simp only [List.length_singleton, List.drop_succ_cons, List.drop_zero]
        rcases List.mem_cons.1 hc with e | e
        · exact absurd (e.trans hp.symm) h45
        · exact e
    · exact hc
  have hn : (Lib.trimPrefix l [45]).all isDig = false := by
    rw [List.all_eq_false]; exact ⟨c, hm, by simp [hd]⟩
  unfold numV
  split
  · rfl
  · unfold numT strip
    rw [data_toBA, data_toBA, hn]
    rfl
theorem splA_part (c : UInt8) (M : Nat) : ∀ (l cur : List UInt8), cur.length + l.length ≤ M → ∀ y ∈ splA c cur l, y.length ≤ M
  | [], cur, h, y, hy => by simp [splA] at hy; subst hy; simpa using h
  | b :: l, cur, h, y, hy => by
    rw [splA_cons] at hy
    simp only [List.length_cons] at h
    by_cases e : b = c
    · rw [if_pos e] at hy
      rcases List.mem_cons.1 hy with rfl | hy
      · omega
      · exact splA_part c M l [] (by simp; omega) y hy
    · rw [if_neg e] at hy
      exact splA_part c M l (cur ++ [b]) (by simp; omega) y hy
theorem cutB_part (c : UInt8) (s : ByteArray) (i : Int) : (rdOf ByteArray.empty (cutB c s) i).size ≤ s.size := by
  unfold rdOf
  rw [List.getD_eq_getElem?_getD]
  cases e : (cutB c s)[i.toNat]? with
  | none => simp [ByteArray.size_empty]
  | some y =>
    have hy := List.mem_of_getElem? e
    unfold cutB at hy
    obtain ⟨z, hz, rfl⟩ := List.mem_map.1 hy
    have := splA_part c s.data.toList.length s.data.toList [] (by simp) z hz
    rw [Array.length_toList] at this
    simp only [Option.getD_some]
    have e : (toBA z).size = z.length := by unfold toBA; simp [ByteArray.size]
    rw [e]; exact this
def noJ : ByteArray × Int × Int × Bool := ((⟨#[]⟩ : ByteArray), 0, 0, false)
def joinR (nm : ByteArray) (n t : Int × Bool) : ByteArray × Int × Int × Bool := if n.2 = true then (if t.2 = true then (if joinB nm n.1 t.1 = true then (nm, n.1, t.1, true) else noJ) else noJ) else noJ
def cut1000 (x : ByteArray) : Option ByteArray := if Lib.hasSuffix x.data.toList [47, 49, 48, 48, 48] = true ∧ (47 : UInt8) ∉ x.data.toList.take (x.data.toList.length - 5) then some (toBA (x.data.toList.take (x.data.toList.length - 5))) else none
def readJ (W : List ByteArray) : ByteArray × Int × Int × Bool := match cut1000 (rdOf ByteArray.empty W 1) with
  | some p => joinR (rdOf ByteArray.empty W 0) (numV p) (numV (rdOf ByteArray.empty W 3))
  | none => noJ
theorem suffix_split {x s : List UInt8} (h : Lib.hasSuffix x s = true) : x = x.take (x.length - s.length) ++ s := by
  unfold Lib.hasSuffix at h
  rw [List.isSuffixOf_iff_suffix] at h
  obtain ⟨p, rfl⟩ := h
  simp
theorem spec_j1_ev (W V : List ByteArray) (b : Bool) (hW : W.length = 4) (hV : b = false → 0 < V.length) (h0 : b = false → (rdOf ByteArray.empty V 0).size ≤ 140737488351232) (h3 : (rdOf ByteArray.empty W 3).size ≤ 140737488351232) :
    Ev (fun k => spec_ReadJoin.j1 k W V b) (if b = true then noJ else joinR (rdOf ByteArray.empty W 0) (numV (rdOf ByteArray.empty V 0)) (numV (rdOf ByteArray.empty W 3))) := by
  refine ev_succ ?_
  cases b
  · have := hV rfl
    simp only [spec_ReadJoin.j1, Bool.false_eq_true, if_false, show 0 < (V.length : Int) by omega, show 3 < (W.length : Int) by omega, show 0 < (W.length : Int) by omega, if_true]
    refine Ev.bind (spec_l01Number_ev _ (h0 rfl)) (Ev.bind (spec_l01Number_ev _ h3) ?_)
    have bad : ∀ a b c, Ev (fun k => spec_ReadJoin.j2 k true a b c) noJ := fun a b c => by
      refine ev_succ ?_
      simp only [spec_ReadJoin.j2, if_true]; exact ev_now _
    have good : ∀ a b c, Ev (fun k => spec_ReadJoin.j2 k false a b c) (a, b, c, true) := fun a b c => by
      refine ev_succ ?_
      simp only [spec_ReadJoin.j2, Bool.false_eq_true, if_false]; exact ev_now _
    unfold joinR
    cases h1 : (numV (rdOf ByteArray.empty V 0)).2
    · simp only [Bool.false_eq_true, if_false]; exact bad _ _ _
    · cases h2 : (numV (rdOf ByteArray.empty W 3)).2
      · simp only [Bool.false_eq_true, if_false, if_true]; exact bad _ _ _
      · simp only [if_true]
        refine Ev.bind (spec_l03One_ev _ _ _) ?_
        cases joinB (rdOf ByteArray.empty W 0) (numV (rdOf ByteArray.empty V 0)).1 (numV (rdOf ByteArray.empty W 3)).1
        · simp only [Bool.false_eq_true, if_false, Bool.not_false]; exact bad _ _ _
        · simp only [if_true, Bool.not_true]; exact good _ _ _
  · simp only [spec_ReadJoin.j1, if_true]; exact ev_now _
theorem spec_j0_ev (W : List ByteArray) (hW : W.length = 4) (h1 : (rdOf ByteArray.empty W 1).size ≤ 1048576) (h3 : (rdOf ByteArray.empty W 3).size ≤ 140737488351232) : Ev (fun k => spec_ReadJoin.j0 k W false) (readJ W) := by
  refine ev_succ ?_
  simp only [spec_ReadJoin.j0, Bool.false_eq_true, if_false, show 1 < (W.length : Int) by omega, if_true]
  refine Ev.bind (spec_l01Split_ev _ h1 47) ?_
  unfold readJ
  generalize rdOf ByteArray.empty W 1 = x at h1 ⊢
  have hxl : x.data.toList.length = x.size := Array.length_toList
  unfold cutB
  rw [List.length_map]
  by_cases hc : (splA 47 [] x.data.toList).length = 2 ∧ ∃ h : 1 < (splA 47 [] x.data.toList).length, (splA 47 [] x.data.toList)[1] = [49, 48, 48, 48]
  · obtain ⟨h2, h1', he⟩ := hc
    obtain ⟨a, b, hab⟩ : ∃ a b, splA 47 [] x.data.toList = [a, b] := by
      match hh : splA 47 [] x.data.toList, h2 with
      | [a, b], _ => exact ⟨a, b, rfl⟩
    have hb : b = [49, 48, 48, 48] := by simpa [hab] using he
    subst hb
    obtain ⟨e1, e2, e3⟩ := splA_two 47 hab
    rw [hab]
    have ec : cut1000 x = some (toBA a) := by
      unfold cut1000
      have hs : Lib.hasSuffix x.data.toList [47, 49, 48, 48, 48] = true := by
        unfold Lib.hasSuffix; rw [List.isSuffixOf_iff_suffix]; exact ⟨a, e1.symm⟩
      have ht : x.data.toList.take (x.data.toList.length - 5) = a := by rw [e1]; simp
      rw [ht, if_pos ⟨hs, e2⟩]
    rw [ec]
    have sza : (toBA a).size ≤ 140737488351232 := by
      have : (toBA a).size = a.length := by unfold toBA; simp [ByteArray.size]
      have h5 := congrArg List.length e1
      simp at h5
      omega
    simp only [List.length_cons, List.length_nil, show (((0 + 1 + 1 : Nat) : Int)) = 2 by rfl, if_true, show (1 : Int) < 2 by decide, List.map_cons, List.map_nil]
    have r1 : rdOf ByteArray.empty [toBA a, toBA [49, 48, 48, 48]] 1 = toBA [49, 48, 48, 48] := rfl
    have r0 : rdOf ByteArray.empty [toBA a, toBA [49, 48, 48, 48]] 0 = toBA a := rfl
    rw [r1, toList_data, data_toBA]
    have := spec_j1_ev W [toBA a, toBA [49, 48, 48, 48]] false hW (fun _ => by simp) (fun _ => by rw [r0]; exact sza) h3
    rw [r0] at this
    simpa using this
  · have ec : cut1000 x = none := by
      unfold cut1000
      rw [if_neg]
      rintro ⟨hs, hn⟩
      have e := suffix_split hs
      rw [show ([47, 49, 48, 48, 48] : List UInt8).length = 5 from rfl] at e
      generalize x.data.toList.take (x.data.toList.length - 5) = p at e hn
      apply hc
      have e2 : splA 47 [] x.data.toList = [p, [49, 48, 48, 48]] := by
        rw [e, splA_app 47 [49, 48, 48, 48] p [] hn, splA_no 47 [49, 48, 48, 48] [] (by decide)]
        rfl
      rw [e2]
      exact ⟨rfl, Nat.lt_succ_self 1, rfl⟩
    rw [ec]
    have bad : ∀ V, Ev (fun k => spec_ReadJoin.j1 k W V true) noJ := fun V => by
      refine ev_succ ?_
      simp only [spec_ReadJoin.j1, if_true]; exact ev_now _
    by_cases h2 : ((splA 47 [] x.data.toList).length : Int) = 2
    · have h2' : (splA 47 [] x.data.toList).length = 2 := by omega
      have r1 := rdOf_map (splA 47 [] x.data.toList) 1 (by omega)
      rw [show (((1 : Nat) : Int)) = 1 from rfl] at r1
      simp only [h2, if_true, show (1 : Int) < 2 by decide]
      rw [r1, toList_data, data_toBA]
      have ne : ((splA 47 [] x.data.toList)[1] != ([49, 48, 48, 48] : List UInt8)) = true := by
        rw [bne_iff_ne]; intro he; exact hc ⟨h2', by omega, he⟩
      rw [ne]
      exact bad _
    · simp only [h2, if_false]
      exact bad _
theorem impl_j0_ev (W : List ByteArray) (hW : W.length = 4) (h1 : (rdOf ByteArray.empty W 1).size ≤ 1048576) : Ev (fun k => impl_ReadJoin.j0 k W false) (readJ W) := by
  refine ev_succ ?_
  simp only [impl_ReadJoin.j0, Bool.false_eq_true, if_false, show 1 < (W.length : Int) by omega, show 3 < (W.length : Int) by omega, show 0 < (W.length : Int) by omega, if_true, strings_CutSuffix.f,
    show (rdOf ByteArray.empty W 1).size ≤ 9223372036854775807 by omega, Option.bind_some]
  refine Ev.bind (impl_ReadDecimal_ev _) (Ev.bind (impl_ReadDecimal_ev _) ?_)
  have bad : ∀ a b c, Ev (fun k => impl_ReadJoin.j1 k true a b c) noJ := fun a b c => by
    refine ev_succ ?_
    simp only [impl_ReadJoin.j1, if_true]; exact ev_now _
  have good : ∀ a b c, Ev (fun k => impl_ReadJoin.j1 k false a b c) (a, b, c, true) := fun a b c => by
    refine ev_succ ?_
    simp only [impl_ReadJoin.j1, Bool.false_eq_true, if_false]; exact ev_now _
  unfold readJ
  generalize rdOf ByteArray.empty W 1 = x at h1 ⊢
  cases hs : Lib.hasSuffix x.data.toList [47, 49, 48, 48, 48]
  · have ec : cut1000 x = none := by unfold cut1000; rw [hs, if_neg (by simp)]
    rw [ec]
    simp only [Bool.false_eq_true, if_false]; exact bad _ _ _
  · have et : Lib.trimSuffix x.data.toList [47, 49, 48, 48, 48] = x.data.toList.take (x.data.toList.length - 5) := by unfold Lib.trimSuffix; rw [hs, if_pos rfl]; rfl
    rw [et]
    show Ev _ _
    have fold : (⟨(x.data.toList.take (x.data.toList.length - 5)).toArray⟩ : ByteArray) = toBA (x.data.toList.take (x.data.toList.length - 5)) := rfl
    rw [fold]
    by_cases hn : (47 : UInt8) ∈ x.data.toList.take (x.data.toList.length - 5)
    · have ec : cut1000 x = none := by unfold cut1000; rw [if_neg (fun h => h.2 hn)]
      rw [ec]
      simp only [if_true, numV_no _ 47 hn (by decide) (by decide), Bool.false_eq_true, if_false]; exact bad _ _ _
    · have ec : cut1000 x = some (toBA (x.data.toList.take (x.data.toList.length - 5))) := by unfold cut1000; rw [if_pos ⟨hs, hn⟩]
      rw [ec]
      generalize toBA (x.data.toList.take (x.data.toList.length - 5)) = p
      simp only [if_true]
      unfold joinR
      cases h1 : (numV p).2
      · simp only [Bool.false_eq_true, if_false]; exact bad _ _ _
      · cases h2 : (numV (rdOf ByteArray.empty W 3)).2
        · simp only [Bool.false_eq_true, if_false, if_true]; exact bad _ _ _
        · simp only [if_true]
          refine Ev.bind (impl_validJoin_ev _ _ _) ?_
          cases joinB (rdOf ByteArray.empty W 0) (numV p).1 (numV (rdOf ByteArray.empty W 3)).1
          · simp only [Bool.false_eq_true, if_false, Bool.not_false]; exact bad _ _ _
          · simp only [if_true, Bool.not_true]; exact good _ _ _
def readJV (s : ByteArray) : ByteArray × Int × Int × Bool := if ((cutB 32 s).length : Int) = 4 then (if ((rdOf ByteArray.empty (cutB 32 s) 2).toList != ([116, 97, 107, 101, 115] : List UInt8)) = true then noJ else readJ (cutB 32 s)) else noJ
theorem spec_ReadJoin_ev (s : ByteArray) (hs : s.size ≤ 1048576) : Ev (fun k => spec_ReadJoin.f k s) (readJV s) := by
  simp only [spec_ReadJoin.f]
  refine Ev.bind (spec_l01Split_ev s hs 32) ?_
  unfold readJV
  have p1 := cutB_part 32 s 1
  have p3 := cutB_part 32 s 3
  generalize cutB 32 s = W at p1 p3
  have bad : Ev (fun k => spec_ReadJoin.j0 k W true) noJ := by
    refine ev_succ ?_
    simp only [spec_ReadJoin.j0, if_true]; exact ev_now _
  by_cases h4 : (W.length : Int) = 4
  · simp only [h4, if_true, show (2 : Int) < 4 by decide]
    cases hb : (rdOf ByteArray.empty W 2).toList != ([116, 97, 107, 101, 115] : List UInt8)
    · simp only [Bool.false_eq_true, if_false]
      exact spec_j0_ev W (by omega) (by omega) (by omega)
    · simp only [if_true]; exact bad
  · simp only [h4, if_false]; exact bad
theorem impl_ReadJoin_ev (s : ByteArray) (hs : s.size ≤ 1048576) : Ev (fun k => impl_ReadJoin.f k s) (readJV s) := by
  simp only [impl_ReadJoin.f, strings_Split_eq s hs 32, Option.bind_some]
  unfold readJV
  have p1 := cutB_part 32 s 1
  generalize cutB 32 s = W at p1
  have bad : Ev (fun k => impl_ReadJoin.j0 k W true) noJ := by
    refine ev_succ ?_
    simp only [impl_ReadJoin.j0, if_true]; exact ev_now _
  by_cases h4 : (W.length : Int) = 4
  · simp only [h4, if_true, show (2 : Int) < 4 by decide]
    cases hb : (rdOf ByteArray.empty W 2).toList != ([116, 97, 107, 101, 115] : List UInt8)
    · simp only [Bool.false_eq_true, if_false]
      exact impl_j0_ev W (by omega) (by omega)
    · simp only [if_true]; exact bad
  · simp only [h4, if_false]; exact bad
theorem dig_isDig (d : Nat) (h : d < 10) : isDig (UInt8.ofNat (48 + d)) = true := by
  unfold isDig
  simp only [UInt8.toNat_ofNat', Bool.and_eq_true, decide_eq_true_eq]
  omega
theorem dig_val (d : Nat) (h : d < 10) : ((UInt8.ofNat (48 + d)).toNat : Int) - 48 = (d : Int) := by
  simp only [UInt8.toNat_ofNat']
  omega
theorem dec_all (u : Nat) : (Lib.decDigits u).all isDig = true := by
  induction u using Nat.strongRecOn with
  | _ u ih =>
    rw [Lib.decDigits]
    split
    · rename_i h
      rw [List.all_cons, List.all_nil, Bool.and_true]
      exact dig_isDig u h
    · rename_i h
      rw [List.all_append, ih (u / 10) (by omega), List.all_cons, List.all_nil, Bool.and_true, Bool.true_and]
      exact dig_isDig (u % 10) (by omega)
theorem dec_val (u : Nat) : digV (Lib.decDigits u) = (u : Int) := by
  induction u using Nat.strongRecOn with
  | _ u ih =>
    rw [Lib.decDigits]
    split
    · rename_i h
      have := dig_val u h
      unfold digV
      simp only [List.foldl_cons, List.foldl_nil]
      omega
    · rename_i h
      rw [digV_snoc, ih (u / 10) (by omega), dig_val (u % 10) (by omega)]
      omega
theorem nDigits_lt : ∀ (d u : Nat), u < 10 ^ (d + 1) → Lib.nDigits u ≤ d + 1 := by
  intro d
  induction d with
  | zero => intro u h; rw [Lib.nDigits_small (by simpa using h)]; omega
  | succ d ih =>
    intro u h
    by_cases c : u < 10
    · rw [Lib.nDigits_small c]; omega
    · rw [Lib.nDigits_big c]
      have := ih (u / 10) (by rw [Nat.pow_succ] at h; omega)
      omega
theorem dec_head (u : Nat) : ∃ b l, Lib.decDigits u = b :: l ∧ b ≠ 45 := by
  have a := dec_all u
  have hl := Lib.decDigits_length u
  have hp := Lib.nDigits_pos u
  cases h : Lib.decDigits u with
  | nil => rw [h] at hl; simp at hl; omega
  | cons b l =>
    refine ⟨b, l, rfl, ?_⟩
    rw [h, List.all_cons, Bool.and_eq_true] at a
    intro e
    rw [e] at a
    exact absurd a.1 (by decide)
theorem decV_data (n : Int) : (decV n).data.toList = Lib.itoa n := by unfold decV; simp
theorem numV_dec (n : Int) (h0 : -1000000000000000000 < n) (h1 : n < 1000000000000000000) : numV (decV n) = (n, true) := by
  have hd : Lib.nDigits n.natAbs ≤ 18 := nDigits_lt 17 n.natAbs (by have e : 10 ^ (17 + 1) = 1000000000000000000 := by decide
                                                                    omega)
  have hp := Lib.nDigits_pos n.natAbs
  have ha := dec_all n.natAbs
  have hv := dec_val n.natAbs
  have hl := Lib.decDigits_length n.natAbs
  have ok : endV (decV n) n = (n, true) := by unfold endV; rw [if_pos rfl]
  have bsz : ∀ l : List UInt8, (toBA l).size = l.length := fun l => by unfold toBA; simp [ByteArray.size]
  by_cases hs : n < 0
  · have e1 : (decV n).data.toList = 45 :: Lib.decDigits n.natAbs := by rw [decV_data]; unfold Lib.itoa; rw [if_pos hs]
    have e2 : strip (decV n) = toBA (Lib.decDigits n.natAbs) := by
      unfold strip Lib.trimPrefix Lib.hasPrefix
      rw [e1]
      simp [List.isPrefixOf]
    have e3 : (decV n).size = Lib.nDigits n.natAbs + 1 := by
      have : (decV n).data.toList.length = (decV n).size := Array.length_toList
      rw [← this, e1, List.length_cons, hl]
    have e4 : (toBA (Lib.decDigits n.natAbs)).size = Lib.nDigits n.natAbs := by rw [bsz, hl]
    unfold numV
    rw [e2, e4, if_neg (by omega)]
    unfold numT
    rw [data_toBA, if_pos ha, e4, e3, if_pos (by omega), hv, show -((n.natAbs : Nat) : Int) = n by omega]
    exact ok
  · have en : n.toNat = n.natAbs := by omega
    have e1 : (decV n).data.toList = Lib.decDigits n.natAbs := by rw [decV_data]; unfold Lib.itoa; rw [if_neg hs, en]
    have e2 : strip (decV n) = decV n := by
      obtain ⟨b, l, hb, hne⟩ := dec_head n.natAbs
      unfold strip Lib.trimPrefix Lib.hasPrefix
      rw [e1, hb, show List.isPrefixOf [45] (b :: l) = false by simp [List.isPrefixOf, Ne.symm hne]]
      simp only [Bool.false_eq_true, if_false]
      rw [← hb, ← e1, toBA_data]
    have e3 : (decV n).size = Lib.nDigits n.natAbs := by
      have : (decV n).data.toList.length = (decV n).size := Array.length_toList
      rw [← this, e1, hl]
    unfold numV
    rw [e2, e3, if_neg (by omega)]
    unfold numT
    rw [e1, if_pos ha, if_neg (by omega), hv, show ((n.natAbs : Nat) : Int) = n by omega]
    exact ok
theorem dec_no (c : UInt8) (hc : isDig c = false) (h45 : c ≠ 45) (n : Int) : c ∉ (decV n).data.toList := by
  rw [decV_data]
  unfold Lib.itoa
  have nod : ∀ u, c ∉ Lib.decDigits u := fun u hm => by
    have := List.all_eq_true.1 (dec_all u) c hm
    rw [hc] at this; cases this
  split
  · simp only [List.mem_cons, not_or]; exact ⟨h45, nod _⟩
  · exact nod _
theorem impl_ValidLine_ev (xs : List S47) (hx : xs.length ≤ 1048576) (ps : List S58) (js : List Int) (hp : ps.length ≤ 1048576) (hq : js.length ≤ 1048576) :
    Ev (fun k => impl_ValidLine.f k xs ps js) (joinsB xs && lineB xs ps js) := by
  simp only [impl_ValidLine.f]
  refine Ev.bind (impl_ValidJoins_ev xs hx) ?_
  cases joinsB xs
  · simp only [Bool.false_eq_true, if_false, Bool.false_and]; exact ev_now _
  · simp only [if_true, Bool.true_and]; exact Ev.bind (impl_validLine_ev xs hx ps js hp hq) (ev_now _)
def byteL (l : List Int) : Prop := ∀ y ∈ l, 0 ≤ y ∧ y ≤ 255
theorem u8_range {a : Int} (h : (Lit.int .u8 a).wf = true) : 0 ≤ a ∧ a ≤ 255 := by
  simp only [Lit.wf, IntKind.min, IntKind.max, IntKind.signed, IntKind.bits, Bool.and_eq_true, decide_eq_true_eq, Bool.false_eq_true, if_false] at h
  omega
theorem and255 (a : Int) : 0 ≤ Go.bits .and .u64 a 255 ∧ Go.bits .and .u64 a 255 ≤ 255 := by
  show 0 ≤ IntKind.u64.wrap ((BitVec.ofInt 64 a &&& BitVec.ofInt 64 255).toNat : Int) ∧ IntKind.u64.wrap ((BitVec.ofInt 64 a &&& BitVec.ofInt 64 255).toNat : Int) ≤ 255
  have h : (BitVec.ofInt 64 a &&& BitVec.ofInt 64 255).toNat ≤ 255 := by rw [BitVec.toNat_and]; exact Nat.le_trans Nat.and_le_right (by decide)
  rw [IntKind.wrap_u64]
  omega
theorem rd_byte {l : List Int} (hl : byteL l) (i : Int) : 0 ≤ rd l i ∧ rd l i ≤ 255 := by
  unfold rd
  rw [List.getD_eq_getElem?_getD]
  cases e : l[i.toNat]? with
  | none => exact ⟨Int.le_refl _, by decide⟩
  | some v => exact hl v (List.mem_of_getElem? e)
theorem src_next_ev {l : List Int} (hl : byteL l) (p s : Int) (hp : 0 ≤ p ∧ p ≤ 1000000) : ∃ v s', spec_l00Src_next.f l p s = some (v, p + 1, s') ∧ 0 ≤ v ∧ v ≤ 255 := by
  have w1 : wrap64 (p + 1) = p + 1 := w64 (by omega) (by omega)
  have r := rd_byte hl p
  have w2 : wrap64 (rd l p) = rd l p := w64 (by omega) (by omega)
  simp only [spec_l00Src_next.f, w1]
  by_cases a : p < (l.length : Int)
  · simp only [a, hp.1, show p + 1 ≤ (l.length : Int) by omega, if_true, w2]
    exact ⟨_, _, rfl, r⟩
  · simp only [a, show ¬ p + 1 ≤ (l.length : Int) by omega, if_false]
    refine ⟨_, _, rfl, ?_⟩
    have := and255 ((IntKind.u64.wrap ((IntKind.u64.wrap ((IntKind.u64.wrap (s * 6364136223846793005)) + 0)) + 1442695040888963407)) / 1099511627776)
    rw [w64 (by omega) (by omega)]
    exact this
theorem src_pick_ev {l : List Int} (hl : byteL l) (p s n : Int) (hp : 0 ≤ p ∧ p ≤ 1000000) (hn : 2 ≤ n ∧ n ≤ 200) : ∃ v s', spec_l00Src_pick.f l p s n = some (v, p + 1, s') ∧ 0 ≤ v ∧ v < n := by
  obtain ⟨v, s', h, h1, h2⟩ := src_next_ev hl p s hp
  simp only [spec_l00Src_pick.f, show ¬ n ≤ 1 by omega, show ¬ n > 200 by omega, show ¬ n = 0 by omega, if_false, h, Option.bind_some]
  exact ⟨_, _, rfl, Int.tmod_nonneg _ h1, Int.tmod_lt_of_pos _ (by omega)⟩
def okp (p : Int) (B : Nat) : Prop := 0 ≤ p ∧ p ≤ (B : Int)
theorem okp.up {p : Int} {B C : Nat} (h : okp p B) (hc : B ≤ C) : okp p C := ⟨h.1, by have := h.2; omega⟩
theorem pickD {l : List Int} (hl : byteL l) {p : Int} (s : Int) {B : Nat} (hp : okp p B) (hB : B ≤ 100000) (n : Int) (hn : n ≤ 200) : ∃ v p' s', spec_l00Src_pick.f l p s n = some (v, p', s') ∧ okp p' (B + 1) ∧ 0 ≤ v ∧ (1 ≤ n → v < n) := by
  have h1 := hp.1
  have h2 := hp.2
  by_cases h : n ≤ 1
  · refine ⟨0, p, s, ?_, ⟨h1, by omega⟩, Int.le_refl _, fun _ => by omega⟩
    simp only [spec_l00Src_pick.f, h, if_true]
  · obtain ⟨v, s', e, v0, v1⟩ := src_pick_ev hl p s n ⟨h1, by omega⟩ ⟨by omega, hn⟩
    exact ⟨v, p + 1, s', e, ⟨by omega, by omega⟩, v0, fun _ => v1⟩
theorem oneD {l : List Int} (hl : byteL l) {p : Int} (s : Int) {B : Nat} (hp : okp p B) (hB : B ≤ 100000) (n : Int) (hn : n ≤ 200) : ∃ v p' s', spec_l00Src_one.f l p s n = some (v, p', s') ∧ okp p' (B + 1) := by
  obtain ⟨v, p', s', e, h, _⟩ := pickD hl s hp hB n hn
  exact ⟨v == 0, p', s', by simp only [spec_l00Src_one.f, e, Option.bind_some], h⟩
theorem amongD {l : List Int} (hl : byteL l) {p : Int} (s : Int) {B : Nat} (hp : okp p B) (hB : B ≤ 100000) (xs : List Int) (h1 : 1 ≤ xs.length) (hn : xs.length ≤ 200) : ∃ v p' s', spec_l00Src_among.f l p s xs = some (v, p', s') ∧ okp p' (B + 1) := by
  obtain ⟨v, p', s', e, h, v0, v1⟩ := pickD hl s hp hB xs.length (by omega)
  exact ⟨rd xs v, p', s', by simp only [spec_l00Src_among.f, e, Option.bind_some, v0, v1 (by omega), if_true], h⟩
theorem textD {l : List Int} (hl : byteL l) {p : Int} (s : Int) {B : Nat} (hp : okp p B) (hB : B ≤ 100000) (xs : List ByteArray) (h1 : 1 ≤ xs.length) (hn : xs.length ≤ 200) : ∃ v p' s', spec_l00Src_text.f l p s xs = some (v, p', s') ∧ okp p' (B + 1) := by
  obtain ⟨v, p', s', e, h, v0, v1⟩ := pickD hl s hp hB xs.length (by omega)
  exact ⟨rdOf ByteArray.empty xs v, p', s', by simp only [spec_l00Src_text.f, e, Option.bind_some, v0, v1 (by omega), if_true], h⟩
theorem newD {l : List Int} (hl : byteL l) {p : Int} (s : Int) {B : Nat} (hp : okp p B) (hB : B ≤ 90000) (nm : ByteArray) : ∃ a b p' s', spec_l03New.f l p s nm = some (nm, a, b, p', s') ∧ okp p' (B + 2) := by
  obtain ⟨v, p1, s1, e1, h1, _⟩ := pickD hl s hp (by omega) 13 (by omega)
  obtain ⟨u, p2, s2, e2, h2, _⟩ := pickD hl s1 h1 (by omega) 12 (by omega)
  exact ⟨wrap64 (400 + (wrap64 (50 * v))), wrap64 (10 * u), p2, s2, by simp only [spec_l03New.f, e1, e2, Option.bind_some], h2⟩
theorem drawJ_loop {l : List Int} (hl : byteL l) (nms : List ByteArray) : ∀ (d : Nat) (xs : List S47) (p s : Int) (B : Nat), okp p B → B + 2 * d ≤ 90000 → xs.length + d ≤ nms.length → nms.length ≤ 100 →
    ∃ r, Ev (fun k => spec_l03Draw.l0 k nms xs (d : Int) l p s) r ∧ r.1.length = xs.length + d ∧ okp r.2.1 (B + 2 * d) := by
  intro d
  induction d with
  | zero =>
    intro xs p s B hp _ _ _
    refine ⟨(xs, p, s), ev_succ ?_, rfl, hp⟩
    simp only [spec_l03Draw.l0, show ¬ (((0 : Nat) : Int) > 0) by omega, if_false]
    exact ev_now _
  | succ d ih =>
    intro xs p s B hp hB hx hn
    obtain ⟨a, b, p1, s1, e1, h1⟩ := newD hl s hp (by omega) (rdOf ByteArray.empty nms (xs.length : Int))
    obtain ⟨r, i1, i2, i3⟩ := ih (xs ++ [(⟨rdOf ByteArray.empty nms (xs.length : Int), a, b⟩ : S47)]) p1 s1 (B + 2) h1 (by omega) (by simp; omega) hn
    have w : wrap64 (((d + 1 : Nat) : Int) - 1) = (d : Int) := by rw [w64 (by omega) (by omega)]; omega
    refine ⟨r, ev_succ ?_, by rw [i2]; simp; omega, i3.up (by omega)⟩
    simp only [spec_l03Draw.l0, show ((d + 1 : Nat) : Int) > 0 by omega, show (0 : Int) ≤ (xs.length : Int) from Int.natCast_nonneg _, show (xs.length : Int) < (nms.length : Int) by omega, show xs.length < 4398046511104 by omega, if_true, e1, Option.bind_some, w]
    exact i1
theorem bentJ_end {l : List Int} (hl : byteL l) (xs : List S47) (hx : xs.length ≤ 100) {p : Int} (s : Int) {B : Nat} (hp : okp p B) (hB : B ≤ 90000) :
    ∃ r, Ev (fun k => spec_l03Bent.j1 k xs l p s) r ∧ r.1.length = xs.length ∧ okp r.2.1 (B + 3) := by
  by_cases h : (xs.length : Int) = 0
  · refine ⟨(xs, p, s), ev_succ ?_, rfl, hp.up (by omega)⟩
    simp only [spec_l03Bent.j1, h, if_true]; exact ev_now _
  obtain ⟨v, p1, s1, e1, h1, v0, v1⟩ := pickD hl s hp (by omega) xs.length (by omega)
  have v1 := v1 (by omega)
  obtain ⟨u, p2, s2, e2, h2, u0, u1⟩ := pickD hl s1 h1 (by omega) 24 (by omega)
  obtain ⟨t, p3, s3, e3, h3⟩ := textD hl s2 h2 (by omega) [(⟨#[]⟩ : ByteArray), (⟨#[69, 121, 101]⟩ : ByteArray), (⟨#[108, 111, 110, 103]⟩ : ByteArray)] (by decide) (by decide)
  obtain ⟨a, p4, s4, e4, h4⟩ := amongD hl s2 h2 (by omega) [(-1), 0, 1, 1000, 1001, (-9223372036854775808)] (by decide) (by decide)
  obtain ⟨c, p5, s5, e5, h5⟩ := amongD hl s2 h2 (by omega) [(-1), 0, 1000, 1001] (by decide) (by decide)
  by_cases k0 : u = 0
  · refine ⟨(xs.set (v : Int).toNat (⟨t, (rd_T47 xs v).f1, (rd_T47 xs v).f2⟩ : S47), p3, s3), ev_succ ?_, ?_, h3⟩
    · simp only [spec_l03Bent.j1, h, if_false, e1, Option.bind_some, v0, v1, if_true, e2, k0, e3]; exact ev_now _
    · simp
  by_cases k1 : u = 1
  · refine ⟨(xs.set (v : Int).toNat (⟨(rd_T47 xs v).f0, a, (rd_T47 xs v).f2⟩ : S47), p4, s4), ev_succ ?_, ?_, h4⟩
    · simp only [spec_l03Bent.j1, h, if_false, e1, Option.bind_some, v0, v1, if_true, e2, k1, show ¬ (1 : Int) = 0 by decide, e4]; exact ev_now _
    · simp
  by_cases k2 : u = 2
  · refine ⟨(xs.set (v : Int).toNat (⟨(rd_T47 xs v).f0, (rd_T47 xs v).f1, c⟩ : S47), p5, s5), ev_succ ?_, ?_, h5⟩
    · simp only [spec_l03Bent.j1, h, if_false, e1, Option.bind_some, v0, v1, if_true, e2, k2, show ¬ (2 : Int) = 0 by decide, show ¬ (2 : Int) = 1 by decide, e5]; exact ev_now _
    · simp
  refine ⟨(xs, p2, s2), ev_succ ?_, rfl, h2.up (by omega)⟩
  simp only [spec_l03Bent.j1, h, if_false, e1, Option.bind_some, v0, v1, if_true, e2, k0, k1, k2]; exact ev_now _
theorem bentJ_loop {l : List Int} (hl : byteL l) : ∀ (d : Nat) (xs : List S47) (p s : Int) (B : Nat), okp p B → B + 2 * d ≤ 80000 → xs.length + d ≤ 100 →
    ∃ r, Ev (fun k => spec_l03Bent.l0 k xs (d : Int) l p s) r ∧ r.1.length ≤ 100 ∧ okp r.2.1 (B + 2 * d + 3) := by
  intro d
  induction d with
  | zero =>
    intro xs p s B hp hB hx
    obtain ⟨r, e, h1, h2⟩ := bentJ_end hl xs (by omega) s hp (by omega)
    refine ⟨r, ev_succ ?_, by omega, h2⟩
    simp only [spec_l03Bent.l0, show ¬ (((0 : Nat) : Int) > 0) by omega, if_false]
    exact e
  | succ d ih =>
    intro xs p s B hp hB hx
    obtain ⟨a, b, p1, s1, e1, h1⟩ := newD hl s hp (by omega) ((⟨#[106]⟩ : ByteArray) ++ strOfNums [(97 + (((xs.length : Int)) % 256)) % 256])
    obtain ⟨r, i1, i2, i3⟩ := ih (xs ++ [(⟨(⟨#[106]⟩ : ByteArray) ++ strOfNums [(97 + (((xs.length : Int)) % 256)) % 256], a, b⟩ : S47)]) p1 s1 (B + 2) h1 (by omega) (by simp; omega)
    have w : wrap64 (((d + 1 : Nat) : Int) - 1) = (d : Int) := by rw [w64 (by omega) (by omega)]; omega
    have z : 1 + (strOfNums [(97 + (((xs.length : Int)) % 256)) % 256]).size ≤ 9223372036854775807 := by
      rw [show (strOfNums [(97 + (((xs.length : Int)) % 256)) % 256]).size = 1 from rfl]; decide
    refine ⟨r, ev_succ ?_, i2, i3.up (by omega)⟩
    simp only [spec_l03Bent.l0, show ((d + 1 : Nat) : Int) > 0 by omega, if_true, Option.bind_some, z, e1, show xs.length < 4398046511104 by omega, w]
    exact i1
theorem bentJ_ev {l : List Int} (hl : byteL l) {p : Int} (s : Int) {B : Nat} (hp : okp p B) (hB : B ≤ 50000) : ∃ r, Ev (fun k => spec_l03Bent.f k l p s) r ∧ r.1.length ≤ 100 ∧ okp r.2.1 (B + 100) := by
  obtain ⟨n, p1, s1, e1, h1, n0, n1⟩ := pickD hl s hp (by omega) 6 (by omega)
  have n1 := n1 (by omega)
  obtain ⟨m, rfl⟩ : ∃ m : Nat, n = (m : Int) := ⟨n.toNat, by omega⟩
  obtain ⟨r, e2, l2, h2⟩ := drawJ_loop hl [(⟨#[108, 111, 110, 103]⟩ : ByteArray), (⟨#[115, 104, 111, 114, 116]⟩ : ByteArray), (⟨#[101, 121, 101]⟩ : ByteArray), (⟨#[98, 101, 110, 100]⟩ : ByteArray), (⟨#[99, 97, 114, 114, 105, 99, 107, 45, 50]⟩ : ByteArray), (⟨#[114, 101, 101, 102]⟩ : ByteArray)] m [] p1 s1 (B + 1) h1 (by omega) (by simp; omega) (by decide)
  have e3 : Ev (fun k => spec_l03Draw.f k l p s) r := by simp only [spec_l03Draw.f, e1, Option.bind_some]; exact e2
  obtain ⟨b, p4, s4, e4, h4⟩ := oneD hl r.2.2 h2 (by omega) 24 (by omega)
  simp only [List.length_nil, Nat.zero_add] at l2
  cases b
  · obtain ⟨q, e5, l5, h5⟩ := bentJ_end hl r.1 (by omega) s4 h4 (by omega)
    refine ⟨q, ?_, by omega, h5.up (by omega)⟩
    simp only [spec_l03Bent.f]
    refine Ev.bind e3 ?_
    simp only [e4, Option.bind_some, Bool.false_eq_true, if_false]
    exact e5
  · obtain ⟨v, p5, s5, e5, h5, v0, v1⟩ := pickD hl s4 h4 (by omega) 2 (by omega)
    have v1 := v1 (by omega)
    have w : wrap64 (20 + v) = ((20 + v.toNat : Nat) : Int) := by rw [w64 (by omega) (by omega)]; omega
    obtain ⟨q, e6, l6, h6⟩ := bentJ_loop hl (20 + v.toNat) [] p5 s5 _ h5 (by omega) (by simp; omega)
    refine ⟨q, ?_, by omega, h6.up (by omega)⟩
    simp only [spec_l03Bent.f]
    refine Ev.bind e3 ?_
    simp only [e4, e5, Option.bind_some, if_true, w]
    exact e6
theorem pieceD {l : List Int} (hl : byteL l) {p : Int} (s : Int) {B : Nat} (hp : okp p B) (hB : B ≤ 90000) : ∃ a b p' s', spec_l03DrawPiece.f l p s = some (a, b, p', s') ∧ okp p' (B + 2) := by
  obtain ⟨v, p1, s1, e1, h1, _⟩ := pickD hl s hp (by omega) 12 (by omega)
  obtain ⟨u, p2, s2, e2, h2, _⟩ := pickD hl s1 h1 (by omega) 60 (by omega)
  exact ⟨wrap64 (500 * (wrap64 (1 + v))), wrap64 (50 + (wrap64 (10 * u))), p2, s2, by simp only [spec_l03DrawPiece.f, e1, e2, Option.bind_some], h2⟩
theorem spoilD {l : List Int} (hl : byteL l) {p : Int} (s : Int) {B : Nat} (hp : okp p B) (hB : B ≤ 90000) (a b : Int) : ∃ u v p' s', spec_l03SpoilPiece.f l p s a b = some (u, v, p', s') ∧ okp p' (B + 2) := by
  obtain ⟨c, p1, s1, e1, h1⟩ := oneD hl s hp (by omega) 2 (by omega)
  cases c
  · obtain ⟨v, p2, s2, e2, h2⟩ := amongD hl s1 h1 (by omega) [(-1), 0, 1, 100000, 100001] (by decide) (by decide)
    exact ⟨a, v, p2, s2, by simp only [spec_l03SpoilPiece.f, e1, e2, Option.bind_some, Bool.false_eq_true, if_false], h2⟩
  · obtain ⟨v, p2, s2, e2, h2⟩ := amongD hl s1 h1 (by omega) [(-1), 0, 1, 1000000, 1000001, (-9223372036854775808)] (by decide) (by decide)
    exact ⟨v, b, p2, s2, by simp only [spec_l03SpoilPiece.f, e1, e2, Option.bind_some, if_true], h2⟩
theorem drawL_end {l : List Int} (hl : byteL l) (xs : List S47) (hx : xs.length ≤ 100) (d : Int) (ps : List S58) (js : List Int) (hp1 : 1 ≤ ps.length) (hp2 : ps.length ≤ 99) (hq : js.length ≤ 99) {p : Int} (s : Int) {B : Nat} (hp : okp p B) (hB : B ≤ 85000) :
    ∃ r, Ev (fun k => spec_l03DrawLine.j2 k xs d false l p s ps js) r ∧ r.1.length ≤ 100 ∧ r.2.1.length ≤ 100 ∧ okp r.2.2.1 (B + 5) ∧ 1 ≤ r.1.length := by
  obtain ⟨u, p1, s1, e1, h1, u0, u1⟩ := pickD hl s hp (by omega) 24 (by omega)
  by_cases k0 : u = 0
  · obtain ⟨v, p2, s2, e2, h2, v0, v1⟩ := pickD hl s1 h1 (by omega) ps.length (by omega)
    have v1 := v1 (by omega)
    obtain ⟨a, b, p3, s3, e3, h3⟩ := spoilD hl s2 h2 (by omega) (rd_T58 ps v).f0 (rd_T58 ps v).f1
    refine ⟨(ps.set (v : Int).toNat (⟨a, b⟩ : S58), js, p3, s3), ev_succ ?_, ?_, ?_, h3.up (by omega), by show 1 ≤ (ps.set _ _).length; rw [List.length_set]; exact hp1⟩
    · simp only [spec_l03DrawLine.j2, Bool.false_eq_true, if_false, e1, Option.bind_some, k0, if_true, e2, v0, v1, e3]; exact ev_now _
    · simp; omega
    · show js.length ≤ 100; omega
  by_cases k1 : u = 1
  · obtain ⟨v, p2, s2, e2, h2⟩ := amongD hl s1 h1 (by omega) [(-1), 0, (xs.length : Int)] (by simp) (by simp)
    refine ⟨(ps, js ++ [v], p2, s2), ev_succ ?_, ?_, ?_, h2.up (by omega), hp1⟩
    · simp only [spec_l03DrawLine.j2, Bool.false_eq_true, if_false, e1, Option.bind_some, k1, show ¬ (1 : Int) = 0 by decide, if_true, e2, show js.length < 17592186044416 by omega]; exact ev_now _
    · show ps.length ≤ 100; omega
    · simp; omega
  by_cases k2 : u = 2
  · obtain ⟨a, b, p2, s2, e2, h2⟩ := pieceD hl s1 h1 (by omega)
    obtain ⟨v, p3, s3, e3, h3⟩ := amongD hl s2 h2 (by omega) [(-1), 0, (xs.length : Int)] (by simp) (by simp)
    refine ⟨(ps ++ [(⟨a, b⟩ : S58)], js ++ [v], p3, s3), ev_succ ?_, ?_, ?_, h3.up (by omega), by show 1 ≤ (ps ++ [_]).length; rw [List.length_append]; omega⟩
    · simp only [spec_l03DrawLine.j2, Bool.false_eq_true, if_false, e1, Option.bind_some, k2, show ¬ (2 : Int) = 0 by decide, show ¬ (2 : Int) = 1 by decide, if_true, e2, show ps.length < 8796093022208 by omega, e3, show js.length < 17592186044416 by omega]; exact ev_now _
    · simp; omega
    · simp; omega
  refine ⟨(ps, js, p1, s1), ev_succ ?_, ?_, ?_, h1.up (by omega), hp1⟩
  · simp only [spec_l03DrawLine.j2, Bool.false_eq_true, if_false, e1, Option.bind_some, k0, k1, k2]; exact ev_now _
  · show ps.length ≤ 100; omega
  · show js.length ≤ 100; omega
theorem drawL_loop {l : List Int} (hl : byteL l) (xs : List S47) (hx : xs.length ≤ 100) : ∀ (d : Nat) (ps : List S58) (js : List Int) (p s : Int) (B : Nat), 1 ≤ ps.length → ps.length + d ≤ 99 → js.length + d ≤ 99 → okp p B → B + 3 * d ≤ 80000 →
    ∃ r, Ev (fun k => spec_l03DrawLine.l0 k xs (d : Int) l p s ps js) r ∧ r.1.length ≤ 100 ∧ r.2.1.length ≤ 100 ∧ okp r.2.2.1 (B + 3 * d + 5) ∧ 1 ≤ r.1.length := by
  intro d
  induction d with
  | zero =>
    intro ps js p s B h1 h2 h3 hp hB
    obtain ⟨r, e, a, b, c, c1⟩ := drawL_end hl xs hx ((0 : Nat) : Int) ps js h1 (by omega) (by omega) s hp (by omega)
    refine ⟨r, ev_succ ?_, a, b, c, c1⟩
    simp only [spec_l03DrawLine.l0, show ¬ (((0 : Nat) : Int) > 0) by omega, if_false]
    exact e
  | succ d ih =>
    intro ps js p s B h1 h2 h3 hp hB
    by_cases hz : (xs.length : Int) > 0
    · obtain ⟨a, b, p1, s1, e1, i1⟩ := pieceD hl s hp (by omega)
      obtain ⟨v, p2, s2, e2, i2, _⟩ := pickD hl s1 i1 (by omega) xs.length (by omega)
      obtain ⟨r, e, x, y, z, z1⟩ := ih (ps ++ [(⟨a, b⟩ : S58)]) (js ++ [v]) p2 s2 _ (by simp) (by simp; omega) (by simp; omega) i2 (by omega)
      have w : wrap64 (((d + 1 : Nat) : Int) - 1) = (d : Int) := by rw [w64 (by omega) (by omega)]; omega
      refine ⟨r, ev_succ ?_, x, y, z.up (by omega), z1⟩
      simp only [spec_l03DrawLine.l0, show ((d + 1 : Nat) : Int) > 0 by omega, if_true, hz, decide_true]
      refine ev_succ ?_
      simp only [spec_l03DrawLine.j2, if_true, e1, Option.bind_some, show ps.length < 8796093022208 by omega, e2, show js.length < 17592186044416 by omega, w]
      exact e
    · obtain ⟨r, e, x, y, z, z1⟩ := drawL_end hl xs hx ((d + 1 : Nat) : Int) ps js h1 (by omega) (by omega) s hp (by omega)
      refine ⟨r, ev_succ ?_, x, y, z.up (by omega), z1⟩
      simp only [spec_l03DrawLine.l0, show ((d + 1 : Nat) : Int) > 0 by omega, if_true, hz, decide_false]
      exact e
theorem drawL_ev {l : List Int} (hl : byteL l) (xs : List S47) (hx : xs.length ≤ 100) {p : Int} (s : Int) {B : Nat} (hp : okp p B) (hB : B ≤ 50000) :
    ∃ r, Ev (fun k => spec_l03DrawLine.f k l p s xs) r ∧ r.1.length ≤ 100 ∧ r.2.1.length ≤ 100 ∧ okp r.2.2.1 (B + 100) ∧ 1 ≤ r.1.length := by
  obtain ⟨a, b, p1, s1, e1, h1⟩ := pieceD hl s hp (by omega)
  obtain ⟨n, p2, s2, e2, h2, n0, n1⟩ := pickD hl s1 h1 (by omega) 5 (by omega)
  have n1 := n1 (by omega)
  obtain ⟨c, p3, s3, e3, h3⟩ := oneD hl s2 h2 (by omega) 20 (by omega)
  cases c
  · obtain ⟨m, rfl⟩ : ∃ m : Nat, n = (m : Int) := ⟨n.toNat, by omega⟩
    obtain ⟨r, e, x, y, z, z1⟩ := drawL_loop hl xs hx m [(⟨a, b⟩ : S58)] [] p3 s3 _ (by simp) (by simp; omega) (by simp; omega) h3 (by omega)
    refine ⟨r, ?_, x, y, z.up (by omega), z1⟩
    simp only [spec_l03DrawLine.f, e1, e2, e3, Option.bind_some, Bool.false_eq_true, if_false]
    refine ev_succ ?_
    simp only [spec_l03DrawLine.j0]
    exact e
  · obtain ⟨v, p4, s4, e4, h4, v0, v1⟩ := pickD hl s3 h3 (by omega) 2 (by omega)
    have v1 := v1 (by omega)
    have w : wrap64 (11 + v) = ((11 + v.toNat : Nat) : Int) := by rw [w64 (by omega) (by omega)]; omega
    obtain ⟨r, e, x, y, z, z1⟩ := drawL_loop hl xs hx (11 + v.toNat) [(⟨a, b⟩ : S58)] [] p4 s4 _ (by simp) (by simp; omega) (by simp; omega) h4 (by omega)
    refine ⟨r, ?_, x, y, z.up (by omega), z1⟩
    simp only [spec_l03DrawLine.f, e1, e2, e3, e4, Option.bind_some, if_true, w]
    refine ev_succ ?_
    simp only [spec_l03DrawLine.j0]
    exact e
theorem all_self_p (xs : List S58) : ((List.range xs.length).all (sameP xs xs) && true) = true := by
  rw [Bool.and_true, List.all_eq_true]; intro n _; simp [sameP]
theorem all_self_i (xs : List Int) : intsV xs xs = true := by
  simp [intsV, sameI]
theorem spec_SameLine_self (ps : List S58) (js : List Int) (hp : ps.length ≤ 1048576) (hq : js.length ≤ 1048576) : Ev (fun k => spec_SameLine.f k ps js ps js) true := by
  simp only [spec_SameLine.f, if_true]
  refine Ev.bind (spec_l00Same_ev js js hq) ?_
  rw [all_self_i, Bool.not_true]
  refine ev_succ ?_
  simp only [spec_SameLine.j0, Bool.false_eq_true, if_false]
  exact ev_to (spec_pieces_loop ps ps js js hp rfl) (all_self_p ps)
theorem name_no (s : ByteArray) (h : isNameB s = true) : (32 : UInt8) ∉ s.data.toList := by
  intro hm
  unfold isNameB at h
  simp only [Bool.and_eq_true, decide_eq_true_eq, List.all_eq_true] at h
  obtain ⟨i, hi, e⟩ := List.getElem_of_mem hm
  have hl : s.data.toList.length = s.size := Array.length_toList
  have := h.2.2.2 i (List.mem_range.2 (by omega))
  rw [bt_get s (by omega), e] at this
  exact absurd this (by decide)
theorem joinTxt_data (s : ByteArray) (a b : Int) : (joinTxt s a b).data.toList = s.data.toList ++ 32 :: (((decV a).data.toList ++ [47, 49, 48, 48, 48]) ++ 32 :: ([116, 97, 107, 101, 115] ++ 32 :: (decV b).data.toList)) := by
  unfold joinTxt
  simp [ByteArray.data_append]
theorem joinTxt_cut (s : ByteArray) (a b : Int) (h : isNameB s = true) : cutB 32 (joinTxt s a b) = [s, toBA ((decV a).data.toList ++ [47, 49, 48, 48, 48]), toBA [116, 97, 107, 101, 115], decV b] := by
  have n2 : (32 : UInt8) ∉ (decV a).data.toList ++ [47, 49, 48, 48, 48] := by
    intro hm
    rcases List.mem_append.1 hm with hm | hm
    · exact dec_no 32 (by decide) (by decide) a hm
    · exact absurd hm (by decide)
  unfold cutB
  rw [joinTxt_data, splA_app 32 _ _ [] (name_no s h), splA_app 32 _ _ [] n2, splA_app 32 _ _ [] (by decide), splA_no 32 _ [] (dec_no 32 (by decide) (by decide) b)]
  simp only [List.nil_append, List.map_cons, List.map_nil, toBA_data]
theorem join_back (s : ByteArray) (a b : Int) (h : joinB s a b = true) : readJV (joinTxt s a b) = (s, a, b, true) := by
  have hn : isNameB s = true := by unfold joinB at h; simp only [Bool.and_eq_true] at h; exact h.1
  obtain ⟨_, ha, hb⟩ := joinB_is h
  have r1 : rdOf ByteArray.empty [s, toBA ((decV a).data.toList ++ [47, 49, 48, 48, 48]), toBA [116, 97, 107, 101, 115], decV b] 1 = toBA ((decV a).data.toList ++ [47, 49, 48, 48, 48]) := rfl
  have r2 : rdOf ByteArray.empty [s, toBA ((decV a).data.toList ++ [47, 49, 48, 48, 48]), toBA [116, 97, 107, 101, 115], decV b] 2 = toBA [116, 97, 107, 101, 115] := rfl
  have r3 : rdOf ByteArray.empty [s, toBA ((decV a).data.toList ++ [47, 49, 48, 48, 48]), toBA [116, 97, 107, 101, 115], decV b] 3 = decV b := rfl
  have r0 : rdOf ByteArray.empty [s, toBA ((decV a).data.toList ++ [47, 49, 48, 48, 48]), toBA [116, 97, 107, 101, 115], decV b] 0 = s := rfl
  have ne : ((toBA [116, 97, 107, 101, 115]).toList != ([116, 97, 107, 101, 115] : List UInt8)) = false := by
    rw [bne_eq_false_iff_eq, toList_data, data_toBA]
  have ec : cut1000 (toBA ((decV a).data.toList ++ [47, 49, 48, 48, 48])) = some (decV a) := by
    unfold cut1000
    rw [data_toBA]
    have hs : Lib.hasSuffix ((decV a).data.toList ++ [47, 49, 48, 48, 48]) [47, 49, 48, 48, 48] = true := by
      unfold Lib.hasSuffix; rw [List.isSuffixOf_iff_suffix]; exact ⟨_, rfl⟩
    have ht : ((decV a).data.toList ++ [47, 49, 48, 48, 48]).take (((decV a).data.toList ++ [47, 49, 48, 48, 48]).length - 5) = (decV a).data.toList := by simp
    rw [ht, if_pos ⟨hs, dec_no 47 (by decide) (by decide) a⟩, toBA_data]
  unfold readJV
  have l4 : (([s, toBA ((decV a).data.toList ++ [47, 49, 48, 48, 48]), toBA [116, 97, 107, 101, 115], decV b] : List ByteArray).length : Int) = 4 := rfl
  rw [joinTxt_cut s a b hn, if_pos l4, r2, ne]
  simp only [Bool.false_eq_true, if_false]
  unfold readJ
  rw [r0, r1, r3, ec]
  show joinR s (numV (decV a)) (numV (decV b)) = _
  unfold joinR
  rw [numV_dec a (by omega) (by omega), numV_dec b (by omega) (by omega), if_pos rfl, if_pos rfl, if_pos h]
theorem read_empty : readJV (⟨#[]⟩ : ByteArray) = noJ := by
  unfold readJV
  rw [if_neg]
  decide
theorem joinTxt_small (s : ByteArray) (a b : Int) (h : joinB s a b = true) : 1 ≤ (joinTxt s a b).size ∧ (joinTxt s a b).size ≤ 1048576 := by
  obtain ⟨hs, ha, hb⟩ := joinB_is h
  have z1 : ((⟨#[32]⟩ : ByteArray)).size = 1 := rfl
  have z2 : ((⟨#[47, 49, 48, 48, 48, 32, 116, 97, 107, 101, 115, 32]⟩ : ByteArray)).size = 12 := rfl
  have da := decV_size a (by omega) (by omega)
  have db := decV_size b (by omega) (by omega)
  unfold joinTxt
  simp only [ByteArray.size_append, z1, z2]
  omega
theorem okp0 : okp 0 0 := ⟨Int.le_refl _, Int.le_refl _⟩
theorem pick1_ev {l : List Int} (hl : byteL l) (p s n : Int) (hp : 0 ≤ p ∧ p ≤ 100000) (hn : 1 ≤ n ∧ n ≤ 200) : ∃ v p' s', spec_l00Src_pick.f l p s n = some (v, p', s') ∧ (0 ≤ v ∧ v < n) ∧ (p ≤ p' ∧ p' ≤ p + 1) := by
  by_cases h : n = 1
  · subst h
    exact ⟨0, p, s, by simp only [spec_l00Src_pick.f, Int.le_refl, if_true], by omega, by omega⟩
  · obtain ⟨v, s', e, h1⟩ := src_pick_ev hl p s n (by omega) (by omega)
    exact ⟨v, p + 1, s', e, h1, by omega⟩
theorem text_ev {l : List Int} (hl : byteL l) (p s : Int) (hp : 0 ≤ p ∧ p ≤ 100000) (xs : List ByteArray) (hx : 1 ≤ xs.length ∧ xs.length ≤ 200) (M : Nat) (hM : ∀ y ∈ xs, y.size ≤ M) : ∃ t p' s', spec_l00Src_text.f l p s xs = some (t, p', s') ∧ t.size ≤ M ∧ (p ≤ p' ∧ p' ≤ p + 1) := by
  obtain ⟨v, p', s', e, h1, h2⟩ := pick1_ev hl p s (xs.length : Int) hp (by omega)
  refine ⟨rdOf ByteArray.empty xs v, p', s', ?_, ?_, h2⟩
  · simp only [spec_l00Src_text.f, e, Option.bind_some, h1.1, h1.2, if_true]
  · unfold rdOf
    have hv : v.toNat < xs.length := by omega
    rw [getD_lt' xs _ hv]
    exact hM _ (List.getElem_mem hv)
theorem spoil_ev {l : List Int} (hl : byteL l) (p s : Int) (hp : 0 ≤ p ∧ p ≤ 1000) (t : ByteArray) (ht : t.size ≤ 100) : ∃ r p' s', spec_l01Spoil.f l p s t = some (r, p', s') ∧ r.size ≤ 1000 := by
  obtain ⟨v, s1, e1, h1⟩ := src_pick_ev hl p s 5 (by omega) (by omega)
  have ex : ∀ a b : Nat, (t.extract a b).size ≤ 100 := fun a b => by rw [ByteArray.size_extract]; omega
  by_cases c0 : v = 0
  · obtain ⟨u, p2, s2, e2, h2, h3⟩ := pick1_ev hl (p + 1) s1 ((t.size : Int) + 1) (by omega) (by omega)
    obtain ⟨w, p3, s3, e3, h4, h5⟩ := text_ev hl p2 s2 (by omega) ([(⟨#[32]⟩ : ByteArray), (⟨#[48]⟩ : ByteArray), (⟨#[45]⟩ : ByteArray), (⟨#[120]⟩ : ByteArray), (⟨#[49]⟩ : ByteArray), (⟨#[57]⟩ : ByteArray), (⟨#[46]⟩ : ByteArray)] : List ByteArray) (by decide) 1 (by decide)
    have x1 := ex 0 u.toNat
    have x2 := ex u.toNat t.size
    refine ⟨(t.extract 0 u.toNat ++ w) ++ t.extract u.toNat t.size, p3, s3, ?_, ?_⟩
    · simp only [spec_l01Spoil.f, e1, Option.bind_some, c0, if_true, w64 (n := (t.size : Int) + 1) (by omega) (by omega), e2, h2.1, show u ≤ (t.size : Int) by omega, e3, show (t.extract 0 u.toNat).size + w.size ≤ 9223372036854775807 by omega, ByteArray.size_append, show (t.extract 0 u.toNat).size + w.size + (t.extract u.toNat t.size).size ≤ 9223372036854775807 by omega]
    · simp only [ByteArray.size_append]; omega
  · by_cases c1 : v = 1
    · by_cases hz : t.toList = ([] : List UInt8)
      · exact ⟨t, p + 1, s1, by simp only [spec_l01Spoil.f, e1, Option.bind_some, c1, show ¬ (1 : Int) = 0 by decide, if_true, if_false, hz], by omega⟩
      · have hpos : 1 ≤ t.size := by
          rcases Nat.eq_zero_or_pos t.size with h | h
          · exact absurd ((toList_nil_iff t).2 h) hz
          · exact h
        obtain ⟨u, p2, s2, e2, h2, h3⟩ := pick1_ev hl (p + 1) s1 (t.size : Int) (by omega) (by omega)
        have x1 := ex 0 u.toNat
        have x2 := ex (u + 1).toNat t.size
        refine ⟨t.extract 0 u.toNat ++ t.extract (u + 1).toNat t.size, p2, s2, ?_, ?_⟩
        · simp only [spec_l01Spoil.f, e1, Option.bind_some, c1, show ¬ (1 : Int) = 0 by decide, if_true, if_false, hz, e2, h2.1, show u ≤ (t.size : Int) by omega, w64 (n := u + 1) (by omega) (by omega), show 0 ≤ u + 1 by omega, show u + 1 ≤ (t.size : Int) by omega, show (t.extract 0 u.toNat).size + (t.extract (u + 1).toNat t.size).size ≤ 9223372036854775807 by omega]
        · simp only [ByteArray.size_append]; omega
    · exact ⟨t, p + 1, s1, by simp only [spec_l01Spoil.f, e1, Option.bind_some, c0, c1, if_false], by omega⟩
theorem both_ev {l : List Int} (hl : byteL l) : ∃ r, Ev (fun k => spec_DrawLineStrength.f k l) r ∧ r.1.length ≤ 100 ∧ r.2.1.length ≤ 100 ∧ r.2.2.length ≤ 100 := by
  obtain ⟨x, e1, l1, h1⟩ := bentJ_ev hl 0 okp0 (by omega)
  obtain ⟨y, e2, l2, l3, h2, _⟩ := drawL_ev hl x.1 l1 x.2.2 h1 (by omega)
  refine ⟨(x.1, y.1, y.2.1), ?_, l1, l2, l3⟩
  simp only [spec_DrawLineStrength.f, spec_l03Both.f, spec_l00From.f, Option.bind_some]
  exact Ev.bind (Ev.bind e1 (Ev.bind e2 (ev_now _))) (ev_now _)
theorem joinsD_ev {l : List Int} (hl : byteL l) : ∃ r, Ev (fun k => spec_DrawJoinLines.f k l) r ∧ r.1.length ≤ 100 ∧ r.2.1.length ≤ 100 ∧ r.2.2.1.length ≤ 100 ∧ r.2.2.2.1.length ≤ 100 ∧ r.2.2.2.2.1.length ≤ 100 := by
  obtain ⟨x, e1, l1, h1⟩ := bentJ_ev hl 0 okp0 (by omega)
  obtain ⟨y, e2, l2, l3, h2, _⟩ := drawL_ev hl x.1 l1 x.2.2 h1 (by omega)
  obtain ⟨z, e3, l4, l5, h3, _⟩ := drawL_ev hl x.1 l1 y.2.2.2 h2 (by omega)
  have w : wrap64 ((x.1.length : Int) + 1) = (x.1.length : Int) + 1 := w64 (by omega) (by omega)
  obtain ⟨v, p4, s4, e4, h4, _⟩ := pickD hl z.2.2.2 h3 (by omega) ((x.1.length : Int) + 1) (by omega)
  obtain ⟨u, p5, s5, e5, h5, _⟩ := pickD hl s4 h4 (by omega) 16 (by omega)
  refine ⟨(x.1, y.1, y.2.1, z.1, z.2.1, wrap64 (v - (wrap64 (Int.tdiv u 15)))), ?_, l1, l2, l3, l4, l5⟩
  simp only [spec_DrawJoinLines.f, spec_l00From.f, Option.bind_some]
  refine Ev.bind e1 (Ev.bind e2 (Ev.bind e3 ?_))
  simp only [w, e4, e5, Option.bind_some]
  exact ev_now _
theorem sameD_ev {l : List Int} (hl : byteL l) : ∃ r, Ev (fun k => spec_DrawSameLine.f k l) r ∧ r.1.length ≤ 1048576 ∧ r.2.1.length ≤ 1048576 := by
  obtain ⟨n, p1, s1, e1, h1, n0, n1⟩ := pickD hl 0 okp0 (by omega) 6 (by omega)
  have n1 := n1 (by omega)
  obtain ⟨m, rfl⟩ : ∃ m : Nat, n = (m : Int) := ⟨n.toNat, by omega⟩
  obtain ⟨x, e2, l2, h2⟩ := drawJ_loop hl [(⟨#[108, 111, 110, 103]⟩ : ByteArray), (⟨#[115, 104, 111, 114, 116]⟩ : ByteArray), (⟨#[101, 121, 101]⟩ : ByteArray), (⟨#[98, 101, 110, 100]⟩ : ByteArray), (⟨#[99, 97, 114, 114, 105, 99, 107, 45, 50]⟩ : ByteArray), (⟨#[114, 101, 101, 102]⟩ : ByteArray)] m [] p1 s1 _ h1 (by omega) (by simp; omega) (by decide)
  have e3 : Ev (fun k => spec_l03Draw.f k l 0 0) x := by simp only [spec_l03Draw.f, e1, Option.bind_some]; exact e2
  simp only [List.length_nil, Nat.zero_add] at l2
  obtain ⟨y, e4, l4, l5, h4, l6⟩ := drawL_ev hl x.1 (by omega) x.2.2 h2 (by omega)
  obtain ⟨v, p5, s5, e5, h5, _⟩ := pickD hl y.2.2.2 h4 (by omega) 4 (by omega)
  have ow := spec_l03OwnAt_eq y.1 y.2.1 (by omega) (by omega)
  by_cases k0 : v = 0
  · refine ⟨(y.1, y.2.1, y.1, y.2.1 ++ [0]), ?_, by show y.1.length ≤ _; omega, by show y.2.1.length ≤ _; omega⟩
    simp only [spec_DrawSameLine.f, spec_l00From.f, Option.bind_some]
    refine Ev.bind e3 (Ev.bind e4 ?_)
    simp only [ow, e5, Option.bind_some, k0, if_true, show y.2.1.length < 17592186044416 by omega]
    exact ev_now _
  by_cases k1 : v = 1
  · refine ⟨(y.1, y.2.1, y.1.set (0 : Int).toNat (⟨(rd_T58 y.1 0).f0, wrap64 (((rd_T58 y.1 0).f1) + 1)⟩ : S58), y.2.1), ?_, by show y.1.length ≤ _; omega, by show y.2.1.length ≤ _; omega⟩
    simp only [spec_DrawSameLine.f, spec_l00From.f, Option.bind_some]
    refine Ev.bind e3 (Ev.bind e4 ?_)
    simp only [ow, e5, Option.bind_some, k1, show ¬ (1 : Int) = 0 by decide, if_true, if_false, show 0 < (y.1.length : Int) by omega]
    exact ev_now _
  by_cases k2 : v = 2
  · refine ⟨(y.1, y.2.1, y.1 ++ [(⟨0, 0⟩ : S58)], y.2.1), ?_, by show y.1.length ≤ _; omega, by show y.2.1.length ≤ _; omega⟩
    simp only [spec_DrawSameLine.f, spec_l00From.f, Option.bind_some]
    refine Ev.bind e3 (Ev.bind e4 ?_)
    simp only [ow, e5, Option.bind_some, k2, show ¬ (2 : Int) = 0 by decide, show ¬ (2 : Int) = 1 by decide, if_true, if_false, show y.1.length < 8796093022208 by omega]
    exact ev_now _
  refine ⟨(y.1, y.2.1, y.1, y.2.1), ?_, by show y.1.length ≤ _; omega, by show y.2.1.length ≤ _; omega⟩
  simp only [spec_DrawSameLine.f, spec_l00From.f, Option.bind_some]
  refine Ev.bind e3 (Ev.bind e4 ?_)
  simp only [ow, e5, Option.bind_some, k0, k1, k2, if_false]
  exact ev_now _
theorem textD_ev {l : List Int} (hl : byteL l) : ∃ r, Ev (fun k => spec_DrawJoinText.f k l) r := by
  obtain ⟨x, e1, l1, h1⟩ := bentJ_ev hl 0 okp0 (by omega)
  by_cases h : (x.1.length : Int) = 0
  · refine ⟨((⟨#[]⟩ : ByteArray), 0, 0), ?_⟩
    simp only [spec_DrawJoinText.f, spec_l00From.f, Option.bind_some]
    refine Ev.bind e1 ?_
    simp only [h, if_true]; exact ev_now _
  · refine ⟨((rd_T47 x.1 0).f0, (rd_T47 x.1 0).f1, (rd_T47 x.1 0).f2), ?_⟩
    simp only [spec_DrawJoinText.f, spec_l00From.f, Option.bind_some]
    refine Ev.bind e1 ?_
    simp only [h, if_false, show 0 < (x.1.length : Int) by omega, if_true]; exact ev_now _
theorem textAt_ev (s : ByteArray) (a b : Int) (hs : s.size ≤ 12) (ha : -9223372036854775808 ≤ a ∧ a ≤ 9223372036854775807) (hb : -9223372036854775808 ≤ b ∧ b ≤ 9223372036854775807) : Ev (fun k => spec_l03TextAt.f k [(⟨s, a, b⟩ : S47)]) (joinTxt s a b) ∧ (joinTxt s a b).size ≤ 100 := by
  have e0 : rd_T47 [(⟨s, a, b⟩ : S47)] 0 = ⟨s, a, b⟩ := rfl
  have l0 : (0 : Int) < (([(⟨s, a, b⟩ : S47)] : List S47).length : Int) := by simp
  have z1 : ((⟨#[32]⟩ : ByteArray)).size = 1 := rfl
  have z2 : ((⟨#[47, 49, 48, 48, 48, 32, 116, 97, 107, 101, 115, 32]⟩ : ByteArray)).size = 12 := rfl
  have da := decV_size a ha.1 ha.2
  have db := decV_size b hb.1 hb.2
  refine ⟨?_, by unfold joinTxt; simp only [ByteArray.size_append, z1, z2]; omega⟩
  simp only [spec_l03TextAt.f, e0, l0, if_true, show s.size + 1 ≤ 9223372036854775807 by omega]
  refine Ev.bind (spec_l01Dec_ev a ha.1 ha.2) ?_
  simp only [ByteArray.size_append, z1, z2, show s.size + 1 + (decV a).size ≤ 9223372036854775807 by omega, show s.size + 1 + (decV a).size + 12 ≤ 9223372036854775807 by omega, if_true]
  refine Ev.bind (spec_l01Dec_ev b hb.1 hb.2) ?_
  simp only [show s.size + 1 + (decV a).size + 12 + (decV b).size ≤ 9223372036854775807 by omega, if_true]
  exact ev_now _
theorem newD2 {l : List Int} (hl : byteL l) {p : Int} (s : Int) {B : Nat} (hp : okp p B) (hB : B ≤ 90000) (nm : ByteArray) : ∃ a b p' s', spec_l03New.f l p s nm = some (nm, a, b, p', s') ∧ okp p' (B + 2) ∧ (-9223372036854775808 ≤ a ∧ a ≤ 9223372036854775807) ∧ (-9223372036854775808 ≤ b ∧ b ≤ 9223372036854775807) := by
  obtain ⟨v, p1, s1, e1, h1, _⟩ := pickD hl s hp (by omega) 13 (by omega)
  obtain ⟨u, p2, s2, e2, h2, _⟩ := pickD hl s1 h1 (by omega) 12 (by omega)
  exact ⟨wrap64 (400 + (wrap64 (50 * v))), wrap64 (10 * u), p2, s2, by simp only [spec_l03New.f, e1, e2, Option.bind_some], h2, by unfold wrap64; omega, by unfold wrap64; omega⟩
theorem readD_ev {l : List Int} (hl : byteL l) : ∃ r, Ev (fun k => spec_DrawReadJoin.f k l) r ∧ r.size ≤ 1048576 := by
  obtain ⟨a, b, p1, s1, e1, h1, ha, hb⟩ := newD2 hl 0 okp0 (by omega) (⟨#[101, 121, 101]⟩ : ByteArray)
  obtain ⟨t, ts⟩ := textAt_ev (⟨#[101, 121, 101]⟩ : ByteArray) a b (by decide) ha hb
  obtain ⟨o, p2, s2, e2, h2⟩ := oneD hl s1 h1 (by omega) 3 (by omega)
  have h21 := h2.1
  have h22 := h2.2
  obtain ⟨q, p3, s3, e3, hq⟩ := spoil_ev hl p2 s2 (by omega) (joinTxt (⟨#[101, 121, 101]⟩ : ByteArray) a b) ts
  cases o
  · refine ⟨_, ?_, by show (joinTxt (⟨#[101, 121, 101]⟩ : ByteArray) a b).size ≤ _; omega⟩
    simp only [spec_DrawReadJoin.f, spec_l00From.f, Option.bind_some, e1]
    refine Ev.bind t ?_
    simp only [e2, Option.bind_some, Bool.false_eq_true, if_false]
    exact ev_now _
  · refine ⟨q, ?_, by omega⟩
    simp only [spec_DrawReadJoin.f, spec_l00From.f, Option.bind_some, e1]
    refine Ev.bind t ?_
    simp only [e2, e3, Option.bind_some, if_true]
    exact ev_now _
theorem text_back (s : ByteArray) (a b : Int) : (joinTxtV s a b).size ≤ 1048576 ∧ ((readJV (joinTxtV s a b)).2.2.2 != ((joinTxtV s a b).toList != ([] : List UInt8))) = false ∧ ((readJV (joinTxtV s a b)).2.2.2 = true → (readJV (joinTxtV s a b)).1 = s ∧ (readJV (joinTxtV s a b)).2.1 = a ∧ (readJV (joinTxtV s a b)).2.2.1 = b) := by
  unfold joinTxtV
  by_cases h : joinB s a b = true
  · rw [if_pos h, join_back s a b h]
    obtain ⟨z1, z2⟩ := joinTxt_small s a b h
    refine ⟨z2, ?_, fun _ => ⟨rfl, rfl, rfl⟩⟩
    have ne : ¬ (joinTxt s a b).toList = ([] : List UInt8) := by
      rw [toList_nil_iff]; omega
    have : ((joinTxt s a b).toList != ([] : List UInt8)) = true := by rw [bne_iff_ne]; exact ne
    rw [this]; rfl
  · rw [if_neg h, read_empty]
    refine ⟨by decide, ?_, fun h => absurd h (by decide)⟩
    have : ((⟨#[]⟩ : ByteArray).toList != ([] : List UInt8)) = false := by rw [bne_eq_false_iff_eq, toList_nil_iff]; rfl
    rw [this]; rfl
theorem LineStr (xs : List S47) (hx : xs.length ≤ 1048576) (ps : List S58) (js : List Int) (hp : ps.length ≤ 1048576) (hq : js.length ≤ 1048576) :
    ∃ r, Ev (fun k => spec_LineStrength.f k xs ps js) r ∧ Ev (fun k => impl_LineStrength.f k xs ps js) r ∧
    (((joinsB xs && lineB xs ps js) = false ∧ r = (0, 0, 1)) ∨ ((joinsB xs && lineB xs ps js) = true ∧ ∃ v, r = ((mkF v 1000).1, (mkF v 1000).2, 0) ∧ LeastP xs ps js js.length v ∧ 1 ≤ v ∧ v ≤ 1000000000)) := by
  simp only [spec_LineStrength.f, impl_LineStrength.f]
  cases hb : joinsB xs
  · refine ⟨(0, 0, 1), Ev.bind (spec_l03LineAt_ev xs hx ps js hp hq) ?_, Ev.bind (impl_ValidJoins_ev xs hx) ?_, .inl ⟨rfl, rfl⟩⟩
    · simp only [hb, Bool.false_and, Bool.false_eq_true, if_false]; exact ev_now _
    · simp only [hb, Bool.false_eq_true, if_false]; exact ev_now _
  cases hc : lineB xs ps js
  · refine ⟨(0, 0, 1), Ev.bind (spec_l03LineAt_ev xs hx ps js hp hq) ?_, Ev.bind (impl_ValidJoins_ev xs hx) ?_, .inl ⟨rfl, rfl⟩⟩
    · simp only [hc, Bool.and_false, Bool.false_eq_true, if_false]; exact ev_now _
    · simp only [hb, if_true]
      refine Ev.bind (impl_validLine_ev xs hx ps js hp hq) ?_
      simp only [hc, Bool.false_eq_true, if_false]; exact ev_now _
  have ok := lineOk_of hb hc
  obtain ⟨w, hw, hwp⟩ := spec_weak_ev ok
  obtain ⟨v, hv, hvp, v1, v2⟩ := impl_lineStrength_ev ok
  have e := leastP_uniq (weakP_least hwp) hvp
  refine ⟨((mkF v 1000).1, (mkF v 1000).2, 0), Ev.bind (spec_l03LineAt_ev xs hx ps js hp hq) ?_, Ev.bind (impl_ValidJoins_ev xs hx) ?_, .inr ⟨rfl, v, rfl, hvp, v1, v2⟩⟩
  · simp only [hb, hc, Bool.and_self, if_true]
    refine Ev.bind hw ?_
    rw [e]
    exact Ev.bind (spec_l01Make_ev v 1000 (by omega) (by omega)) (ev_now _)
  · simp only [hb, if_true]
    refine Ev.bind (impl_validLine_ev xs hx ps js hp hq) ?_
    simp only [hc, if_true]
    exact Ev.bind hv (ev_now _)
theorem LineLen (xs : List S47) (hx : xs.length ≤ 1048576) (ps : List S58) (js : List Int) (hp : ps.length ≤ 1048576) (hq : js.length ≤ 1048576) :
    Ev (fun k => spec_LineLength.f k xs ps js) (if (joinsB xs && lineB xs ps js) = true then (lenV xs ps js, 0) else (0, 1)) ∧ Ev (fun k => impl_LineLength.f k xs ps js) (if (joinsB xs && lineB xs ps js) = true then (lenV xs ps js, 0) else (0, 1)) := by
  simp only [spec_LineLength.f, impl_LineLength.f]
  cases hb : joinsB xs
  · refine ⟨Ev.bind (spec_l03LineAt_ev xs hx ps js hp hq) ?_, Ev.bind (impl_ValidJoins_ev xs hx) ?_⟩
    · simp only [hb, Bool.false_and, Bool.false_eq_true, if_false]; exact ev_now _
    · simp only [hb, Bool.false_and, Bool.false_eq_true, if_false]; exact ev_now _
  · cases hc : lineB xs ps js
    · refine ⟨Ev.bind (spec_l03LineAt_ev xs hx ps js hp hq) ?_, Ev.bind (impl_ValidJoins_ev xs hx) ?_⟩
      · simp only [hc, Bool.and_false, Bool.false_eq_true, if_false]; exact ev_now _
      · simp only [hb, if_true]
        refine Ev.bind (impl_validLine_ev xs hx ps js hp hq) ?_
        simp only [hc, Bool.and_false, Bool.false_eq_true, if_false]; exact ev_now _
    · have hall : js.all (inJ xs) = true := by unfold lineB at hc; simp only [Bool.and_eq_true] at hc; exact hc.2.2.2.1
      refine ⟨Ev.bind (spec_l03LineAt_ev xs hx ps js hp hq) ?_, Ev.bind (impl_ValidJoins_ev xs hx) ?_⟩
      · simp only [hb, hc, Bool.and_true, if_true]
        exact Ev.bind (spec_l03LengthAt_ev xs ps js hp hq hall) (ev_now _)
      · simp only [hb, if_true]
        refine Ev.bind (impl_validLine_ev xs hx ps js hp hq) ?_
        simp only [hc, Bool.and_true, if_true]
        exact Ev.bind (impl_lineLength_ev xs ps js hp hq hall) (ev_now _)
theorem WeakPlace (xs : List S47) (hx : xs.length ≤ 1048576) (ps : List S58) (js : List Int) (hp : ps.length ≤ 1048576) (hq : js.length ≤ 1048576) :
    ∃ r, Ev (fun k => spec_WeakestPlace.f k xs ps js) r ∧ Ev (fun k => impl_WeakestPlace.f k xs ps js) r ∧ ((joinsB xs && lineB xs ps js) = true → ∃ w, r = (w.1, w.2.1, 0) ∧ WeakP xs ps js js.length w) := by
  simp only [spec_WeakestPlace.f, impl_WeakestPlace.f]
  have bad : Ev (fun k => impl_WeakestPlace.j0 k xs true ps js) ((⟨#[]⟩ : ByteArray), 0, 1) := by refine ev_succ ?_; simp only [impl_WeakestPlace.j0, if_true]; exact ev_now _
  cases hb : joinsB xs
  · refine ⟨((⟨#[]⟩ : ByteArray), 0, 1), Ev.bind (spec_l03LineAt_ev xs hx ps js hp hq) ?_, Ev.bind (impl_ValidJoins_ev xs hx) ?_, fun e => by simp at e⟩
    · simp only [hb, Bool.false_and, Bool.false_eq_true, if_false]; exact ev_now _
    · simp only [hb, Bool.false_eq_true, if_false]; exact bad
  cases hc : lineB xs ps js
  · refine ⟨((⟨#[]⟩ : ByteArray), 0, 1), Ev.bind (spec_l03LineAt_ev xs hx ps js hp hq) ?_, Ev.bind (impl_ValidJoins_ev xs hx) ?_, fun e => by simp at e⟩
    · simp only [hc, Bool.and_false, Bool.false_eq_true, if_false]; exact ev_now _
    · simp only [hb, if_true]
      refine Ev.bind (impl_validLine_ev xs hx ps js hp hq) ?_
      simp only [hc, Bool.not_false]; exact bad
  have ok := lineOk_of hb hc
  obtain ⟨w, hw, hwp⟩ := spec_weak_ev ok
  obtain ⟨v, hv, hvp, v1, v2⟩ := impl_lineStrength_ev ok
  have e := leastP_uniq (weakP_least hwp) hvp
  refine ⟨(w.1, w.2.1, 0), Ev.bind (spec_l03LineAt_ev xs hx ps js hp hq) ?_, Ev.bind (impl_ValidJoins_ev xs hx) ?_, fun _ => ⟨w, rfl, hwp⟩⟩
  · simp only [hb, hc, Bool.and_self, if_true]
    exact Ev.bind hw (ev_now _)
  · simp only [hb, if_true]
    refine Ev.bind (impl_validLine_ev xs hx ps js hp hq) ?_
    simp only [hc, Bool.not_true]
    refine ev_succ ?_
    simp only [impl_WeakestPlace.j0, Bool.false_eq_true, if_false]
    refine Ev.bind hv ?_
    rw [← e]
    exact impl_find ok hwp
theorem StrAtI {xs : List S47} (hx : xs.length ≤ 1048576) {ps : List S58} {js : List Int} (hb : joinsB xs = true) (hc : lineB xs ps js = true) {n : Nat} (hn : n < js.length) :
    Ev (fun k => impl_StrengthAt.f k xs ps js (n : Int)) ((mkF (jV xs ps js n) 1000).1, (mkF (jV xs ps js n) 1000).2, 0) := by
  have ok := lineOk_of hb hc
  have hj := ok.joins
  have hl := ok.len
  have wj : wrap64 ((js.length : Int) - 1) = (js.length : Int) - 1 := w64 (by omega) (by omega)
  simp only [impl_StrengthAt.f]
  refine Ev.bind (impl_ValidJoins_ev xs hx) ?_
  simp only [hb, if_true]
  refine Ev.bind (impl_validLine_ev xs hx ps js (by omega) (by omega)) ?_
  simp only [hc, Bool.not_true]
  refine ev_succ ?_
  simp only [impl_StrengthAt.j0, Bool.false_eq_true, if_false, impl_within_eq, Option.bind_some, wj, show 0 ≤ (n : Int) ∧ (n : Int) ≤ (js.length : Int) - 1 by omega, and_self, decide_true, if_true]
  exact Ev.bind (impl_strengthAt_ev ok hn) (ev_now _)
theorem addP_comm (s : Int) (x y : S58) : addP (addP s x) y = addP (addP s y) x := by unfold addP wrap64; omega
theorem subJ_comm (xs : List S47) (s i j : Int) : subJ xs (subJ xs s i) j = subJ xs (subJ xs s j) i := by unfold subJ wrap64; omega
theorem lenV_rev (xs : List S47) (ps : List S58) (js : List Int) : lenV xs ps.reverse js.reverse = lenV xs ps js := by
  unfold lenV
  rw [(List.reverse_perm ps).foldl_eq' (fun x _ y _ z => addP_comm z x y), (List.reverse_perm js).foldl_eq' (fun x _ y _ z => subJ_comm xs z x y)]
theorem lineB_rev {xs : List S47} {ps : List S58} {js : List Int} : lineB xs ps.reverse js.reverse = lineB xs ps js := by
  unfold lineB
  rw [lenV_rev, List.length_reverse, List.length_reverse, List.all_reverse, List.all_reverse]
theorem getD_rev {α : Type} (xs : List α) (z : α) {n : Nat} (h : n < xs.length) : xs.reverse.getD n z = xs.getD (xs.length - 1 - n) z := by
  rw [getD_lt _ _ (by rw [List.length_reverse]; exact h), getD_lt _ _ (by omega), List.getElem_reverse]
theorem pV_rev (ps : List S58) {n : Nat} (h : n < ps.length) : pV ps.reverse n = pV ps (ps.length - 1 - n) := by
  unfold pV; rw [getD_rev ps _ h]
theorem mn_comm' (a b : Int) : mn a b = mn b a := by unfold mn; split <;> split <;> omega
theorem jV_rev (xs : List S47) {ps : List S58} {js : List Int} (hl : js.length + 1 = ps.length) {n : Nat} (h : n < js.length) : jV xs ps.reverse js.reverse n = jV xs ps js (js.length - 1 - n) := by
  unfold jV
  rw [getD_rev ps _ (by omega : n < ps.length), getD_rev ps _ (by omega : n + 1 < ps.length), getD_rev js _ h, mn_comm', show ps.length - 1 - (n + 1) = js.length - 1 - n by omega, show ps.length - 1 - n = js.length - 1 - n + 1 by omega]
theorem least_rev {xs : List S47} {ps : List S58} {js : List Int} (hl : js.length + 1 = ps.length) {v : Int} (h : LeastP xs ps js js.length v) : LeastP xs ps.reverse js.reverse js.reverse.length v := by
  obtain ⟨h1, h2, h3⟩ := h
  refine ⟨fun j hj => ?_, fun j hj => ?_, ?_⟩
  · rw [List.length_reverse] at hj
    rw [pV_rev ps hj]
    exact h1 _ (by omega)
  · rw [List.length_reverse] at hj
    rw [jV_rev xs hl hj]
    exact h2 _ (by omega)
  · rcases h3 with ⟨j, hj, e⟩ | ⟨j, hj, e⟩
    · refine .inl ⟨ps.length - 1 - j, by rw [List.length_reverse]; omega, ?_⟩
      rw [pV_rev ps (by omega), show ps.length - 1 - (ps.length - 1 - j) = j by omega]; exact e
    · refine .inr ⟨js.length - 1 - j, by rw [List.length_reverse]; omega, ?_⟩
      rw [jV_rev xs hl (by omega), show js.length - 1 - (js.length - 1 - j) = j by omega]; exact e
theorem jV_app (xs : List S47) {ps : List S58} {js : List Int} (ps' : List S58) (js' : List Int) (hl : js.length + 1 = ps.length) {n : Nat} (h : n < js.length) : jV xs (ps ++ ps') (js ++ js') n = jV xs ps js n := by
  unfold jV
  rw [getD_lt (ps ++ ps') _ (by rw [List.length_append]; omega : n < (ps ++ ps').length), getD_lt (ps ++ ps') _ (by rw [List.length_append]; omega : n + 1 < (ps ++ ps').length), getD_lt (js ++ js') _ (by rw [List.length_append]; omega),
    getD_lt ps _ (by omega : n < ps.length), getD_lt ps _ (by omega : n + 1 < ps.length), getD_lt js _ h, List.getElem_append_left (by omega), List.getElem_append_left (by omega), List.getElem_append_left h]
theorem least_app {xs : List S47} {ps ps' : List S58} {js js' : List Int} (hl : js.length + 1 = ps.length) {v w : Int} (h : LeastP xs ps js js.length v) (h' : LeastP xs (ps ++ ps') (js ++ js') (js ++ js').length w) : w ≤ v := by
  obtain ⟨k1, k2, _⟩ := h'
  rcases h.2.2 with ⟨j, hj, rfl⟩ | ⟨j, hj, rfl⟩
  · have := k1 j (by rw [List.length_append]; omega)
    have e : pV (ps ++ ps') j = pV ps j := by
      unfold pV
      rw [getD_lt (ps ++ ps') _ (by rw [List.length_append]; omega : j < (ps ++ ps').length), getD_lt ps _ hj, List.getElem_append_left hj]
    rw [e] at this; exact this
  · have := k2 j (by rw [List.length_append]; omega)
    rw [jV_app xs ps' js' hl hj] at this; exact this
theorem mkF_le {a b : Int} (h : a ≤ b) : (mkF a 1000).1 * (mkF b 1000).2 ≤ (mkF b 1000).1 * (mkF a 1000).2 := by
  have := (not_congr (mkF_lt (a := b) (b := a))).2 (by omega)
  omega
theorem joinLV_ok {xs : List S47} {ps : List S58} {js : List Int} {ps' : List S58} {js' : List Int} {n : Int} (h : (joinLV xs ps js ps' js' n).2.2 = 0) :
    (joinsB xs && lineB xs ps js) = true ∧ (joinsB xs && lineB xs (ps ++ ps') ((js ++ [n]) ++ js')) = true ∧ joinLV xs ps js ps' js' n = (ps ++ ps', (js ++ [n]) ++ js', 0) := by
  unfold joinLV at h ⊢
  split at h
  · rename_i h1
    split at h
    · rename_i h2
      split at h
      · rename_i h3
        split at h
        · rename_i h4
          rw [if_pos h1, if_pos h2, if_pos h3, if_pos h4]
          exact ⟨h1, h4, rfl⟩
        · exact absurd h (by decide)
      · exact absurd h (by decide)
    · exact absurd h (by decide)
  · exact absurd h (by decide)
theorem ok_of {xs : List S47} {ps : List S58} {js : List Int} (h : (joinsB xs && lineB xs ps js) = true) : joinsB xs = true ∧ lineB xs ps js = true := by
  rwa [Bool.and_eq_true] at h
theorem eqF_self (a b : Int) : (!(a == a) || (!(b == b))) = false := by simp
theorem j2_ev {xs : List S47} (hx : xs.length ≤ 1048576) {ps : List S58} {js : List Int} (hb : joinsB xs = true) (hc : lineB xs ps js = true) {v : Int} {w : ByteArray × Int × Int} (hv : LeastP xs ps js js.length v) (hw : WeakP xs ps js js.length w) :
    Ev (fun k => laws_FnLines.j2 k xs w.1 w.2.1 false ps js (mkF v 1000).1 (mkF v 1000).2) true := by
  have e := leastP_uniq (weakP_least hw) hv
  have ok := lineOk_of hb hc
  refine ev_succ ?_
  simp only [laws_FnLines.j2, Bool.false_eq_true, if_false]
  obtain ⟨p, ⟨p1, p2, p3⟩, ⟨rfl, hm⟩ | ⟨a, ha, rfl, k1, k2, k3⟩⟩ := hw
  · simp only at e
    have ne : ¬ ((⟨#[112, 105, 101, 99, 101]⟩ : ByteArray)).toList = ([106, 111, 105, 110] : List UInt8) := by
      rw [show ((⟨#[112, 105, 101, 99, 101]⟩ : ByteArray)).toList = [112, 105, 101, 99, 101] from toList_data _]; decide
    rw [← e, mkF_whole]
    simp only [ne, if_false, if_true, show (0 : Int) ≤ (p : Int) from Int.natCast_nonneg _, Int.ofNat_lt.2 p1, rd_T58, Int.toNat_natCast]
    exact ev_to (ev_now _) (by unfold pV; simp)
  · simp only at e
    have eq : ((⟨#[106, 111, 105, 110]⟩ : ByteArray)).toList = ([106, 111, 105, 110] : List UInt8) := toList_data _
    rw [← e]
    simp only [eq, if_true]
    refine Ev.bind (StrAtI hx hb hc ha) ?_
    simp only [if_true]
    exact ev_to (ev_now _) (by simp)
theorem j1_ev {xs : List S47} (hx : xs.length ≤ 1048576) {ps : List S58} {js : List Int} (hp : ps.length ≤ 1048576) (hq : js.length ≤ 1048576) {r : Int × Int × Int} {w : ByteArray × Int × Int}
    (hr : ((joinsB xs && lineB xs ps js) = false ∧ r = (0, 0, 1)) ∨ ((joinsB xs && lineB xs ps js) = true ∧ ∃ v, r = ((mkF v 1000).1, (mkF v 1000).2, 0) ∧ LeastP xs ps js js.length v ∧ 1 ≤ v ∧ v ≤ 1000000000))
    (hw : (joinsB xs && lineB xs ps js) = true → ∃ u, w = (u.1, u.2.1, 0) ∧ WeakP xs ps js js.length u) :
    Ev (fun k => laws_FnLines.j1 k xs r.2.2 (if (joinsB xs && lineB xs ps js) = true then (lenV xs ps js, (0 : Int)) else (0, 1)).1 w.1 w.2.1 ps js r.1 r.2.1 (turnV xs ps js).1 (turnV xs ps js).2.1) true := by
  refine ev_succ ?_
  rcases hr with ⟨hf, rfl⟩ | ⟨hv, v, rfl, hl, v1, v2⟩
  · simp only [laws_FnLines.j1, show ¬ (1 : Int) = 0 by decide, if_false]; exact ev_now _
  obtain ⟨u, rfl, hu⟩ := hw hv
  obtain ⟨hb, hc⟩ := ok_of hv
  have ok := lineOk_of hb hc
  have et : turnV xs ps js = (ps.reverse, js.reverse, 0) := by unfold turnV; rw [if_pos hv]
  have hcr : lineB xs ps.reverse js.reverse = true := by rw [lineB_rev]; exact hc
  have hvr : (joinsB xs && lineB xs ps.reverse js.reverse) = true := by rw [hb, hcr]; rfl
  have hpr : ps.reverse.length ≤ 1048576 := by rw [List.length_reverse]; exact hp
  have hqr : js.reverse.length ≤ 1048576 := by rw [List.length_reverse]; exact hq
  obtain ⟨r', _, e1, c⟩ := LineStr xs hx ps.reverse js.reverse hpr hqr
  rcases c with ⟨c, _⟩ | ⟨_, v', rfl, hl', _, _⟩
  · rw [hvr] at c; exact absurd c (by decide)
  have ev : v' = v := leastP_uniq hl' (least_rev ok.joins hl)
  subst ev
  have e2 := (LineLen xs hx ps.reverse js.reverse hpr hqr).2
  rw [if_pos hvr, lenV_rev] at e2
  rw [et, if_pos hv]
  simp only [laws_FnLines.j1, if_true]
  refine Ev.bind e1 (Ev.bind e2 ?_)
  simp only [if_true, eqF_self, Bool.false_eq_true, if_false, bne_self_eq_false]
  exact j2_ev hx hb hc hl hu
theorem j0_ev {xs : List S47} (hx : xs.length ≤ 1048576) {ps : List S58} {js : List Int} (hp : ps.length ≤ 1048576) (hq : js.length ≤ 1048576) {r : Int × Int × Int} {w : ByteArray × Int × Int}
    (hr : ((joinsB xs && lineB xs ps js) = false ∧ r = (0, 0, 1)) ∨ ((joinsB xs && lineB xs ps js) = true ∧ ∃ v, r = ((mkF v 1000).1, (mkF v 1000).2, 0) ∧ LeastP xs ps js js.length v ∧ 1 ≤ v ∧ v ≤ 1000000000))
    (hw : (joinsB xs && lineB xs ps js) = true → ∃ u, w = (u.1, u.2.1, 0) ∧ WeakP xs ps js js.length u)
    (ys : List S47) (hy : ys.length ≤ 1048576) (a : List S58) (i : List Int) (b : List S58) (j : List Int) (n : Int) (ha : a.length ≤ 1048576) (hi : i.length ≤ 1048576) :
    Ev (fun k => laws_FnLines.j0 k xs r.2.2 (if (joinsB xs && lineB xs ps js) = true then (lenV xs ps js, (0 : Int)) else (0, 1)).1 w.1 w.2.1 ys (joinLV ys a i b j n).2.2 false ps js r.1 r.2.1 (turnV xs ps js).1 (turnV xs ps js).2.1 a i (joinLV ys a i b j n).1 (joinLV ys a i b j n).2.1) true := by
  have rest := j1_ev hx hp hq hr hw
  refine ev_succ ?_
  simp only [laws_FnLines.j0, Bool.false_eq_true, if_false]
  by_cases h0 : (joinLV ys a i b j n).2.2 = 0
  · obtain ⟨h1, h2, e⟩ := joinLV_ok h0
    obtain ⟨hb, hc⟩ := ok_of h1
    obtain ⟨_, hc2⟩ := ok_of h2
    have ok := lineOk_of hb hc
    have ll := lineB_len h2
    obtain ⟨q1, _, k1, c1⟩ := LineStr ys hy a i ha hi
    obtain ⟨q2, _, k2, c2⟩ := LineStr ys hy (a ++ b) ((i ++ [n]) ++ j) (by omega) (by omega)
    rcases c1 with ⟨c1, _⟩ | ⟨_, v, rfl, hv, v1, v2⟩
    · rw [h1] at c1; exact absurd c1 (by decide)
    rcases c2 with ⟨c2, _⟩ | ⟨_, u, rfl, hu, u1, u2⟩
    · rw [h2] at c2; exact absurd c2 (by decide)
    have le : u ≤ v := by
      have e3 : (i ++ [n]) ++ j = i ++ ([n] ++ j) := List.append_assoc _ _ _
      rw [e3] at hu
      exact least_app ok.joins hv hu
    have g := mkF_le le
    have s1 := mkF_pos v 1000 (by omega) (by decide)
    have s2 := mkF_pos u 1000 (by omega) (by decide)
    have m1 := mul_bd s2.1 (show (mkF u 1000).1 ≤ 1000000000 by omega) (show 0 ≤ (mkF v 1000).2 by omega) s1.2.2.2
    have m2 := mul_bd s1.1 (show (mkF v 1000).1 ≤ 1000000000 by omega) (show 0 ≤ (mkF u 1000).2 by omega) s2.2.2.2
    rw [e]
    simp only [if_true]
    refine Ev.bind k1 (Ev.bind k2 ?_)
    simp only [if_true, show ¬ (mkF u 1000).2 < 1 by omega, show ¬ (mkF v 1000).2 < 1 by omega, show ¬ (mkF u 1000).2 > 1000 by omega, show ¬ (mkF v 1000).2 > 1000 by omega, show ¬ (mkF u 1000).1 > 1000000000 by omega, show ¬ (mkF v 1000).1 > 1000000000 by omega, if_false,
      w64 (n := (mkF u 1000).1 * (mkF v 1000).2) (by omega) (by omega), w64 (n := (mkF v 1000).1 * (mkF u 1000).2) (by omega) (by omega), show ¬ (mkF u 1000).1 * (mkF v 1000).2 > (mkF v 1000).1 * (mkF u 1000).2 by omega]
    exact rest
  · simp only [h0, if_false]
    exact rest
theorem FnLines : laws_FnLines.Pure := by
  intro l0 h0
  refine Ev.rounds ?_
  have b0 : byteL l0 := fun y hy => u8_range (h0.2.2 y hy)
  simp only [laws_FnLines.f, laws_f6big.f, Option.bind_some]
  by_cases hb : (l0.length : Int) > 4096
  · simp only [hb, decide_true, if_true]; exact ev_now _
  simp only [hb, decide_false, Bool.false_eq_true, if_false]
  obtain ⟨d1, e1, x1, y1, z1⟩ := both_ev b0
  obtain ⟨d2, e2, x2, y2, z2, y3, z3⟩ := joinsD_ev b0
  obtain ⟨d3, e3, x3, y4⟩ := sameD_ev b0
  obtain ⟨d4, e4⟩ := textD_ev b0
  obtain ⟨d5, e5, x5⟩ := readD_ev b0
  obtain ⟨r, rs, ri, rc⟩ := LineStr d1.1 (by omega) d1.2.1 d1.2.2 (by omega) (by omega)
  have ln := LineLen d1.1 (by omega) d1.2.1 d1.2.2 (by omega) (by omega)
  obtain ⟨w, ws, wi, wc⟩ := WeakPlace d1.1 (by omega) d1.2.1 d1.2.2 (by omega) (by omega)
  have ti := impl_TurnLine_ev d1.1 (by omega) d1.2.1 d1.2.2 (by omega) (by omega)
  have ts := spec_TurnLine_ev d1.1 (by omega) d1.2.1 d1.2.2 (by omega) (by omega)
  have tl := turnV_len d1.1 d1.2.1 d1.2.2 (by omega) (by omega)
  have ji := impl_JoinLines_ev d2.1 (by omega) d2.2.1 d2.2.2.1 d2.2.2.2.1 d2.2.2.2.2.1 (by omega) (by omega) (by omega) (by omega) d2.2.2.2.2.2
  have js := spec_JoinLines_ev d2.1 (by omega) d2.2.1 d2.2.2.1 d2.2.2.2.1 d2.2.2.2.2.1 (by omega) (by omega) (by omega) (by omega) d2.2.2.2.2.2
  have jl := joinLV_len d2.1 d2.2.1 d2.2.2.1 d2.2.2.2.1 d2.2.2.2.2.1 d2.2.2.2.2.2
  obtain ⟨sm, ss, si⟩ := SameLine_ev d3.1 d3.2.2.1 d3.2.1 d3.2.2.2 x3 y4
  have xi := impl_JoinText_ev d4.1 d4.2.1 d4.2.2
  have xs := spec_JoinText_ev d4.1 d4.2.1 d4.2.2
  obtain ⟨tb, tc, td⟩ := text_back d4.1 d4.2.1 d4.2.2
  have qi := impl_ReadJoin_ev (joinTxtV d4.1 d4.2.1 d4.2.2) tb
  have vi := impl_ReadJoin_ev d5 x5
  have vs := spec_ReadJoin_ev d5 x5
  have rest := j0_ev (xs := d1.1) (by omega) (ps := d1.2.1) (js := d1.2.2) (by omega) (by omega) rc wc d2.1 (by omega) d2.2.1 d2.2.2.1 d2.2.2.2.1 d2.2.2.2.2.1 d2.2.2.2.2.2 (by omega) (by omega)
  refine Ev.bind e1 (Ev.bind ri (Ev.bind rs (Ev.bind ln.2 (Ev.bind ln.1 (Ev.bind wi (Ev.bind ws (Ev.bind ti (Ev.bind ts (Ev.bind e2 (Ev.bind ji (Ev.bind js (Ev.bind e3 (Ev.bind e4 (Ev.bind xi (Ev.bind qi (Ev.bind e5 (Ev.bind vi (Ev.bind vs ?_))))))))))))))))))
  simp only [if_true, eqF_self, Bool.false_eq_true, if_false]
  refine Ev.bind (spec_SameLine_self _ _ tl.1 tl.2) ?_
  simp only [if_true]
  refine Ev.bind (spec_SameLine_self _ _ jl.1 jl.2) ?_
  simp only [if_true]
  refine Ev.bind si (Ev.bind ss ?_)
  simp only [bne_self_eq_false, Bool.false_eq_true, if_false]
  refine Ev.bind xs ?_
  simp only [if_true, tc, Bool.false_eq_true, if_false]
  have end_ : Ev (fun k => (impl_ValidLine.f k d1.1 d1.2.1 d1.2.2).bind fun t1 => (spec_ValidLine.f k d1.1 d1.2.1 d1.2.2).bind fun t2 => if (t1 != t2) = true then laws_FnLines.j0 k d1.1 r.2.2 (if (joinsB d1.1 && lineB d1.1 d1.2.1 d1.2.2) = true then (lenV d1.1 d1.2.1 d1.2.2, (0 : Int)) else (0, 1)).1 w.1 w.2.1 d2.1 (joinLV d2.1 d2.2.1 d2.2.2.1 d2.2.2.2.1 d2.2.2.2.2.1 d2.2.2.2.2.2).2.2 true d1.2.1 d1.2.2 r.1 r.2.1 (turnV d1.1 d1.2.1 d1.2.2).1 (turnV d1.1 d1.2.1 d1.2.2).2.1 d2.2.1 d2.2.2.1 (joinLV d2.1 d2.2.1 d2.2.2.1 d2.2.2.2.1 d2.2.2.2.2.1 d2.2.2.2.2.2).1 (joinLV d2.1 d2.2.1 d2.2.2.1 d2.2.2.2.1 d2.2.2.2.2.1 d2.2.2.2.2.2).2.1
      else (impl_ValidJoins.f k d1.1).bind fun t3 => (spec_ValidJoins.f k d1.1).bind fun t4 => laws_FnLines.j0 k d1.1 r.2.2 (if (joinsB d1.1 && lineB d1.1 d1.2.1 d1.2.2) = true then (lenV d1.1 d1.2.1 d1.2.2, (0 : Int)) else (0, 1)).1 w.1 w.2.1 d2.1 (joinLV d2.1 d2.2.1 d2.2.2.1 d2.2.2.2.1 d2.2.2.2.2.1 d2.2.2.2.2.2).2.2 (t3 != t4) d1.2.1 d1.2.2 r.1 r.2.1 (turnV d1.1 d1.2.1 d1.2.2).1 (turnV d1.1 d1.2.1 d1.2.2).2.1 d2.2.1 d2.2.2.1 (joinLV d2.1 d2.2.1 d2.2.2.1 d2.2.2.2.1 d2.2.2.2.2.1 d2.2.2.2.2.2).1 (joinLV d2.1 d2.2.1 d2.2.2.1 d2.2.2.2.1 d2.2.2.2.2.1 d2.2.2.2.2.2).2.1) true := by
    simp only [spec_ValidLine.f, spec_ValidJoins.f]
    refine Ev.bind (impl_ValidLine_ev _ (by omega) _ _ (by omega) (by omega)) (Ev.bind (Ev.bind (spec_l03LineAt_ev _ (by omega) _ _ (by omega) (by omega)) (ev_now _)) ?_)
    simp only [bne_self_eq_false, Bool.false_eq_true, if_false]
    refine Ev.bind (impl_ValidJoins_ev _ (by omega)) (Ev.bind (Ev.bind (spec_l03Ok_ev _ (by omega)) (ev_now _)) ?_)
    simp only [bne_self_eq_false]
    exact rest
  cases hq : (readJV (joinTxtV d4.1 d4.2.1 d4.2.2)).2.2.2
  · simp only [Bool.false_eq_true, if_false, bne_self_eq_false, beq_self_eq_true, Bool.not_true, Bool.or_self]
    exact end_
  · obtain ⟨t1, t2, t3⟩ := td hq
    simp only [if_true, t1, t2, t3, Bool.false_eq_true, if_false, bne_self_eq_false, beq_self_eq_true, Bool.not_true, Bool.or_self]
    exact end_
end Go.Proofs.YtginmioklkcgbaaGreatDoor.Pure

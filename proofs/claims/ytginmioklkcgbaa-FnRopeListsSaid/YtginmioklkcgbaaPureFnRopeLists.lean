/- The pure statement of FnRopeLists: numbers and lists alone. No condition. -/
import Derived.Test.YtginmioklkcgbaaQFnRopeListsx8
import Derived.Test.YtginmioklkcgbaaAid
namespace Go.Proofs.Ytginmioklkcgbaa.Pure
open Go.RowKit Go.Proofs.Ytginmioklkcgbaa.QFnRopeLists Go.Proofs.YtginmioklkcgbaaW.PrintWords Go.Proofs.YtginmioklkcgbaaW.PrintLast Go.Proofs.YtginmioklkcgbaaW.PrintMore Go.Proofs.Ytginmioklkcgbaa.Aid
set_option linter.unusedVariables false
set_option linter.unusedSimpArgs false

theorem toList_nil_iff (s : ByteArray) : s.toList = ([] : List UInt8) ↔ s.size = 0 := by
  rw [← List.length_eq_zero_iff, ByteArray.toList_eq, Array.length_toList]
  exact Iff.rfl
theorem impl_IsName_loop (s : ByteArray) (hs : s.size ≤ 12) : Ev (fun k => impl_IsName.l0 k s 0) ((List.range s.size).all fun i => nameCh (bt s i)) := by
  refine ev_to (ev_all (len := s.size) (g := fun k i => impl_IsName.l0 k s i) (fun i => nameCh (bt s i)) true ?_ ?_ ?_) (by simp)
  · intro n hn hp r hr
    refine ev_succ ?_
    simp only [impl_IsName.l0]
    unfold nameCh at hp
    simp only [Bool.or_eq_true, decide_eq_true_eq] at hp
    have e0 : (n : Int) < (s.size : Int) := by omega
    simp only [e0, show (0 : Int) ≤ (n : Int) from Int.natCast_nonneg n, if_true, wnext hn (by omega : s.size ≤ 9223372036854775807)]
    by_cases d1 : bt s n < 97 <;> by_cases d2 : bt s n > 122 <;> by_cases d3 : bt s n < 48 <;> by_cases d4 : bt s n > 57 <;> by_cases d5 : bt s n = 45 <;>
      first | (exfalso; omega) | (simp only [d1, d2, d3, d4, d5, if_true, if_false]; exact hr)
  · intro n hn hp
    refine ev_succ ?_
    simp only [impl_IsName.l0]
    unfold nameCh at hp
    simp only [Bool.or_eq_false_iff, decide_eq_false_iff_not] at hp
    have e0 : (n : Int) < (s.size : Int) := by omega
    simp only [e0, show (0 : Int) ≤ (n : Int) from Int.natCast_nonneg n, if_true]
    by_cases d1 : bt s n < 97 <;> by_cases d2 : bt s n > 122 <;> by_cases d3 : bt s n < 48 <;> by_cases d4 : bt s n > 57 <;> by_cases d5 : bt s n = 45 <;>
      first | (exfalso; omega) | (simp only [d1, d2, d3, d4, d5, if_true, if_false]; exact ev_now _)
  · refine ev_succ ?_
    simp only [impl_IsName.l0, Int.lt_irrefl, if_false]
    exact ev_now _
theorem impl_IsName_ev (s : ByteArray) : Ev (fun k => impl_IsName.f k s) (isNameB s) := by
  unfold impl_IsName.f isNameB
  by_cases h0 : s.size = 0
  · simp only [h0]
    refine ev_succ ?_
    simp only [impl_IsName.j0, if_true]
    exact ev_now _
  · have e3 : ¬ ((s.size : Int) < 1) := by omega
    simp only [e3, if_false]
    by_cases h1 : s.size ≤ 12
    · have e1 : ¬ ((s.size : Int) > 12) := by omega
      have e2 : (0 : Int) < (s.size : Int) := by omega
      simp only [e1, e2, if_true, if_false]
      by_cases h2 : bt s 0 < 97
      · simp only [h2, if_true]
        refine ev_succ ?_
        simp only [impl_IsName.j0, if_true]
        exact ev_to (ev_now _) (by simp; omega)
      · simp only [h2, if_false]
        refine ev_succ ?_
        simp only [impl_IsName.j0]
        by_cases h3 : bt s 0 > 122
        · simp only [h3, decide_true, if_true]
          exact ev_to (ev_now _) (by simp; omega)
        · simp only [h3, decide_false, Bool.false_eq_true, if_false]
          refine ev_to (impl_IsName_loop s h1) ?_
          simp [show 1 ≤ s.size by omega, h1, show 97 ≤ bt s 0 by omega, show bt s 0 ≤ 122 by omega]
    · have e1 : ((s.size : Int) > 12) := by omega
      simp only [e1, if_true]
      refine ev_succ ?_
      simp only [impl_IsName.j0, if_true]
      exact ev_to (ev_now _) (by simp [h1])


theorem impl_within_eq (a b c : Int) : impl_within.f a b c = some (decide (b ≤ a ∧ a ≤ c)) := by
  unfold impl_within.f
  by_cases h : a ≥ b
  · rw [if_pos h]; congr 1; simp; omega
  · rw [if_neg h]; congr 1; simp; omega

theorem impl_validRope_ev (s : ByteArray) (a b c : Int) : Ev (fun k => impl_validRope.f k s a b c) (ropeB s a b c) := by
  simp only [impl_validRope.f, impl_within_eq, Option.bind_some]
  refine Ev.bind (impl_IsName_ev s) ?_
  unfold ropeB
  cases isNameB s
  · exact ev_now _
  · by_cases h1 : 1 ≤ a ∧ a ≤ 1000
    · by_cases h2 : 1 ≤ b ∧ b ≤ 1000000
      · simp only [h1, h2, decide_true, if_true, Bool.true_and, and_self]; exact ev_now _
      · simp only [h1, h2, decide_true, decide_false, if_true, Bool.true_and, Bool.false_and, and_self, Bool.false_eq_true, if_false]; exact ev_now _
    · simp only [h1, decide_false, if_true, Bool.true_and, Bool.false_and, Bool.false_eq_true, if_false]; exact ev_now _

def rB (x : S68) : Bool := ropeB x.f0 x.f1 x.f2 x.f3
def findW (xs : List S68) (s : ByteArray) : Int := match (List.range xs.length).find? (fun n => decide ((xs.getD n z68).f0.toList = s.toList)) with | some n => (n : Int) | none => -1
theorem findW_range (xs : List S68) (s : ByteArray) : -1 ≤ findW xs s ∧ findW xs s < xs.length := by
  unfold findW
  cases h : (List.range xs.length).find? (fun n => decide ((xs.getD n z68).f0.toList = s.toList)) with
  | none => simp only; omega
  | some n => have := List.mem_range.1 (List.mem_of_find?_eq_some h); simp only; omega
theorem impl_ropeNamed_ev (xs : List S68) (s : ByteArray) (h : xs.length ≤ 1048576) : Ev (fun k => impl_ropeNamed.f k xs s) (findW xs s) := by
  simp only [impl_ropeNamed.f]
  refine ev_find (len := xs.length) (g := fun k i => impl_ropeNamed.l0 k s xs (xs.length : Int) i) (fun n => decide ((xs.getD n z68).f0.toList = s.toList)) (fun n => (n : Int)) (-1) ?_ ?_ ?_
  · intro n hn hp r hr
    refine ev_succ ?_
    simp only [decide_eq_false_iff_not] at hp
    simp only [impl_ropeNamed.l0, Int.ofNat_lt.2 hn, show (0 : Int) ≤ (n : Int) from Int.natCast_nonneg _, if_true, rd_T68, Int.toNat_natCast, hp, if_false, wnext hn (by omega : xs.length ≤ 9223372036854775807)]
    exact hr
  · intro n hn hp
    refine ev_succ ?_
    simp only [decide_eq_true_eq] at hp
    simp only [impl_ropeNamed.l0, Int.ofNat_lt.2 hn, show (0 : Int) ≤ (n : Int) from Int.natCast_nonneg _, if_true, rd_T68, Int.toNat_natCast, hp]
    exact ev_now _
  · refine ev_succ ?_
    simp only [impl_ropeNamed.l0, Int.lt_irrefl, if_false]
    exact ev_now _
def ropesP (xs : List S68) (n : Nat) : Bool := rB (xs.getD n z68) && decide (findW (xs.take n) (xs.getD n z68).f0 < 0)
def ropesB (xs : List S68) : Bool := (List.range xs.length).all (ropesP xs) && decide (xs.length ≤ 30)
theorem impl_ValidRopes_ev (xs : List S68) (h : xs.length ≤ 1048576) : Ev (fun k => impl_ValidRopes.f k xs) (ropesB xs) := by
  simp only [impl_ValidRopes.f]
  by_cases hb : (xs.length : Int) > 30
  · simp only [hb, if_true]
    exact ev_to (ev_now _) (by unfold ropesB; rw [show decide (xs.length ≤ 30) = false by simp; omega, Bool.and_false])
  simp only [hb, if_false]
  refine ev_to (ev_all (len := xs.length) (g := fun k i => impl_ValidRopes.l0 k xs xs (xs.length : Int) i) (ropesP xs) true ?_ ?_ ?_) (by unfold ropesB; rw [show decide (xs.length ≤ 30) = true by simp; omega])
  · intro n hn hp r hr
    unfold ropesP at hp
    simp only [Bool.and_eq_true, decide_eq_true_eq] at hp
    refine ev_succ ?_
    simp only [impl_ValidRopes.l0, Int.ofNat_lt.2 hn, show (0 : Int) ≤ (n : Int) from Int.natCast_nonneg _, if_true, rd_T68, Int.toNat_natCast, show (n : Int) ≤ (xs.length : Int) by omega, wnext hn (by omega : xs.length ≤ 9223372036854775807)]
    refine Ev.bind (impl_validRope_ev _ _ _ _) ?_
    rw [show ropeB _ _ _ _ = true from hp.1]
    simp only [if_true]
    refine Ev.bind (impl_ropeNamed_ev _ _ (by simp; omega)) ?_
    simp only [show ¬ findW (xs.take n) (xs.getD n z68).f0 ≥ 0 by omega, if_false]
    exact hr
  · intro n hn hp
    unfold ropesP at hp
    refine ev_succ ?_
    simp only [impl_ValidRopes.l0, Int.ofNat_lt.2 hn, show (0 : Int) ≤ (n : Int) from Int.natCast_nonneg _, if_true, rd_T68, Int.toNat_natCast, show (n : Int) ≤ (xs.length : Int) by omega]
    refine Ev.bind (impl_validRope_ev _ _ _ _) ?_
    cases h1 : rB (xs.getD n z68)
    · rw [show ropeB _ _ _ _ = false from h1]; simp only [Bool.false_eq_true, if_false]; exact ev_now _
    · rw [show ropeB _ _ _ _ = true from h1]
      simp only [h1, Bool.true_and, decide_eq_false_iff_not] at hp
      simp only [if_true]
      refine Ev.bind (impl_ropeNamed_ev _ _ (by simp; omega)) ?_
      simp only [show findW (xs.take n) (xs.getD n z68).f0 ≥ 0 by omega, if_true]
      exact ev_now _
  · refine ev_succ ?_
    simp only [impl_ValidRopes.l0, Int.lt_irrefl, if_false]
    exact ev_now _

/-! ### the drawn source -/
def byteL (l : List Int) : Prop := ∀ y ∈ l, 0 ≤ y ∧ y ≤ 255
theorem u8_range {a : Int} (h : (Lit.int .u8 a).wf = true) : 0 ≤ a ∧ a ≤ 255 := by
  simp only [Lit.wf, IntKind.min, IntKind.max, IntKind.signed, IntKind.bits, Bool.and_eq_true, decide_eq_true_eq, Bool.false_eq_true, if_false] at h
  omega
theorem and255 (a : Int) : 0 ≤ Go.bits .and .u64 a 255 ∧ Go.bits .and .u64 a 255 ≤ 255 := by
  show 0 ≤ IntKind.u64.wrap ((BitVec.ofInt 64 a &&& BitVec.ofInt 64 255).toNat : Int) ∧ IntKind.u64.wrap ((BitVec.ofInt 64 a &&& BitVec.ofInt 64 255).toNat : Int) ≤ 255
  have h : (BitVec.ofInt 64 a &&& BitVec.ofInt 64 255).toNat ≤ 255 := by rw [BitVec.toNat_and]; exact Nat.le_trans Nat.and_le_right (by decide)
  rw [IntKind.wrap_u64]
  omega
theorem rd_byte {l : List Int} (hl : byteL l) (i : Int) : 0 ≤ rd l i ∧ rd l i ≤ 255 := by
  unfold rd
  rw [List.getD_eq_getElem?_getD]
  cases e : l[i.toNat]? with
  | none => exact ⟨Int.le_refl _, by decide⟩
  | some v => exact hl v (List.mem_of_getElem? e)
theorem src_next_ev {l : List Int} (hl : byteL l) (p s : Int) (hp : 0 ≤ p ∧ p ≤ 1000000) : ∃ v s', spec_l00Src_next.f l p s = some (v, p + 1, s') ∧ 0 ≤ v ∧ v ≤ 255 := by
  have w1 : wrap64 (p + 1) = p + 1 := w64 (by omega) (by omega)
  have r := rd_byte hl p
  have w2 : wrap64 (rd l p) = rd l p := w64 (by omega) (by omega)
  simp only [spec_l00Src_next.f, w1]
  by_cases a : p < (l.length : Int)
  · simp only [a, hp.1, show p + 1 ≤ (l.length : Int) by omega, if_true, w2]
    exact ⟨_, _, rfl, r⟩
  · simp only [a, show ¬ p + 1 ≤ (l.length : Int) by omega, if_false]
    refine ⟨_, _, rfl, ?_⟩
    have := and255 ((IntKind.u64.wrap ((IntKind.u64.wrap ((IntKind.u64.wrap (s * 6364136223846793005)) + 0)) + 1442695040888963407)) / 1099511627776)
    rw [w64 (by omega) (by omega)]
    exact this
theorem src_pick_ev {l : List Int} (hl : byteL l) (p s n : Int) (hp : 0 ≤ p ∧ p ≤ 1000000) (hn : 2 ≤ n ∧ n ≤ 200) : ∃ v s', spec_l00Src_pick.f l p s n = some (v, p + 1, s') ∧ 0 ≤ v ∧ v < n := by
  obtain ⟨v, s', h, h1, h2⟩ := src_next_ev hl p s hp
  simp only [spec_l00Src_pick.f, show ¬ n ≤ 1 by omega, show ¬ n > 200 by omega, show ¬ n = 0 by omega, if_false, h, Option.bind_some]
  exact ⟨_, _, rfl, Int.tmod_nonneg _ h1, Int.tmod_lt_of_pos _ (by omega)⟩

/-! ### small helpers of the laws -/
theorem a2Has_ev (xs : List Int) (h : xs.length ≤ 1048576) (v : Int) : Ev (fun k => laws_a2Has.f k xs v) (decide (v ∈ xs)) := by
  simp only [laws_a2Has.f]
  have key : ∀ d n, n + d = xs.length → Ev (fun k => laws_a2Has.l0 k xs v (n : Int)) (decide (v ∈ xs.drop n)) := by
    intro d
    induction d with
    | zero =>
      intro n hn
      simp only [Nat.add_zero] at hn
      subst hn
      refine ev_succ ?_
      simp only [laws_a2Has.l0, Int.lt_irrefl, if_false, List.drop_length, List.not_mem_nil, decide_false]
      exact ev_now _
    | succ d ih =>
      intro n hn
      have hlt : n < xs.length := by omega
      have hd : xs.drop n = xs.getD n 0 :: xs.drop (n + 1) := by rw [List.drop_eq_getElem_cons hlt, getD_lt _ _ hlt]
      have i := ih (n + 1) (by omega)
      refine ev_succ ?_
      simp only [laws_a2Has.l0, Int.ofNat_lt.2 hlt, show (0 : Int) ≤ (n : Int) from Int.natCast_nonneg _, if_true, rd, Int.toNat_natCast, wnext hlt (by omega : xs.length ≤ 9223372036854775807)]
      rw [hd]
      by_cases hc : xs.getD n 0 = v
      · simp only [hc, if_true, List.mem_cons, true_or, decide_true]; exact ev_now _
      · simp only [hc, if_false, List.mem_cons, show ¬ v = xs.getD n 0 from fun e => hc e.symm, false_or]; exact i
  exact key xs.length 0 (by omega)
theorem a2Rises_ev (ys : List Int) (N : Int) (h : ys.length ≤ 1048576) (hin : ∀ v ∈ ys, 0 ≤ v ∧ v < N) (hlt : ys.Pairwise (· < ·)) : Ev (fun k => laws_a2Rises.f k ys N) true := by
  simp only [laws_a2Rises.f]
  have key : ∀ d n, n + d = ys.length → Ev (fun k => laws_a2Rises.l0 k ys N (n : Int)) true := by
    intro d
    induction d with
    | zero =>
      intro n hn
      simp only [Nat.add_zero] at hn
      subst hn
      refine ev_succ ?_
      simp only [laws_a2Rises.l0, Int.lt_irrefl, if_false]
      exact ev_now _
    | succ d ih =>
      intro n hn
      have hl : n < ys.length := by omega
      have i := ih (n + 1) (by omega)
      have b := hin (ys.getD n 0) (by rw [getD_lt _ _ hl]; exact List.getElem_mem _)
      refine ev_succ ?_
      simp only [laws_a2Rises.l0, Int.ofNat_lt.2 hl, show (0 : Int) ≤ (n : Int) from Int.natCast_nonneg _, if_true, rd, Int.toNat_natCast, show ¬ ys.getD n 0 < 0 by omega, show ¬ ys.getD n 0 ≥ N by omega, if_false, wnext hl (by omega : ys.length ≤ 9223372036854775807)]
      by_cases hz : (n : Int) > 0
      · have w : wrap64 ((n : Int) - 1) = ((n - 1 : Nat) : Int) := by rw [w64 (by omega) (by omega)]; omega
        have g := (List.pairwise_iff_getElem.1 hlt) (n - 1) n (by omega) hl (by omega)
        rw [← getD_lt ys 0 (show n - 1 < ys.length by omega), ← getD_lt ys 0 hl] at g
        simp only [hz, if_true, w, show (0 : Int) ≤ ((n - 1 : Nat) : Int) from Int.natCast_nonneg _, show ((n - 1 : Nat) : Int) < (ys.length : Int) by omega, Int.toNat_natCast, show ¬ ys.getD (n - 1) 0 ≥ ys.getD n 0 by omega, if_false]
        exact i
      · simp only [hz, if_false]; exact i
  exact key ys.length 0 (by omega)
theorem a2At_ev {l : List Int} (hl : byteL l) (at' n : Int) (h0 : 0 ≤ at') (hn : 1 ≤ n ∧ n ≤ 1000000) : ∃ v, laws_a2At.f l at' n = some v ∧ 0 ≤ v ∧ v < n := by
  have r := rd_byte hl at'
  simp only [laws_a2At.f]
  by_cases hz : at' ≥ (l.length : Int)
  · exact ⟨0, by simp only [hz, if_true], by omega, by omega⟩
  · simp only [hz, show ¬ n < 1 by omega, h0, show at' < (l.length : Int) by omega, show ¬ n = 0 by omega, if_true, if_false]
    refine ⟨_, rfl, ?_⟩
    rw [w64 (by omega) (by omega)]
    exact ⟨Int.tmod_nonneg _ r.1, Int.tmod_lt_of_pos _ (by omega)⟩
theorem a2Long_ev (l m : List Int) : ∃ b, laws_a2Long.f l m = some b := by unfold laws_a2Long.f; split <;> exact ⟨_, rfl⟩

/-! ### a rope added -/
def addV (xs : List S68) (s : ByteArray) (a b c : Int) : List S68 × Int :=
  if ropesB xs = true then (if ropeB s a b c = true then (if findW xs s ≥ 0 then ([], 4) else (if (xs.length : Int) ≥ 30 then ([], 5) else (xs ++ [⟨s, a, b, c⟩], 0))) else ([], 2)) else ([], 1)
theorem addV_len (xs : List S68) (s : ByteArray) (a b c : Int) : (addV xs s a b c).1.length ≤ 31 := by
  unfold addV
  repeat' split
  all_goals simp
  all_goals omega
theorem impl_AddRope_ev (xs : List S68) (h : xs.length ≤ 1048576) (s : ByteArray) (a b c : Int) : Ev (fun k => impl_AddRope.f k xs s a b c) (addV xs s a b c) := by
  simp only [impl_AddRope.f]
  refine Ev.bind (impl_ValidRopes_ev xs h) ?_
  unfold addV
  by_cases h1 : ropesB xs = true
  · have hb : xs.length ≤ 30 := by unfold ropesB at h1; simp at h1; omega
    simp only [h1, if_true]
    refine Ev.bind (impl_validRope_ev s a b c) ?_
    by_cases h2 : ropeB s a b c = true
    · simp only [h2, if_true]
      refine Ev.bind (impl_ropeNamed_ev xs s h) ?_
      by_cases h3 : findW xs s ≥ 0
      · simp only [h3, if_true]; exact ev_now _
      · simp only [h3, if_false]
        by_cases h4 : (xs.length : Int) ≥ 30
        · simp only [h4, show (xs.length : Int) = 30 by omega, if_true]; exact ev_now _
        · simp only [h4, show ¬ (xs.length : Int) = 30 by omega, if_false, Option.bind_some, List.length_nil, List.nil_append, List.length_singleton, show 0 + xs.length < 3518437208883 by omega, show xs.length + 1 < 3518437208883 by omega, if_true]; exact ev_now _
    · simp only [h2]; exact ev_now _
  · simp only [h1]; exact ev_now _

/-! ### beaten ropes -/
def beatB (a1 a2 a3 b1 b2 b3 : Int) : Bool := decide (b2 ≤ a2) && (decide (a3 ≤ b3) && (decide (a1 ≤ b1) && !(decide (a2 = b2) && (decide (a3 = b3) && decide (a1 = b1)))))
def beatR (x y : S68) : Bool := beatB x.f1 x.f2 x.f3 y.f1 y.f2 y.f3
theorem beat_ite {α : Type} (a1 a2 a3 b1 b2 b3 : Int) (A B : α) :
    (if a2 = b2 then (if a3 = b3 then (if a2 ≥ b2 then (if a3 ≤ b3 then (if a1 ≤ b1 then (if a1 = b1 then B else A) else B) else B) else B)
      else (if a2 ≥ b2 then (if a3 ≤ b3 then (if a1 ≤ b1 then A else B) else B) else B))
     else (if a2 ≥ b2 then (if a3 ≤ b3 then (if a1 ≤ b1 then A else B) else B) else B)) = if beatB a1 a2 a3 b1 b2 b3 = true then A else B := by
  unfold beatB
  by_cases h1 : a2 = b2 <;> by_cases h2 : a3 = b3 <;> by_cases h3 : b2 ≤ a2 <;> by_cases h4 : a3 ≤ b3 <;> by_cases h5 : a1 ≤ b1 <;> by_cases h6 : a1 = b1 <;> simp [h1, h2, h3, h4, h5, h6]
def beatenP (xs : List S68) (n : Nat) : Bool := (List.range xs.length).any fun j => beatR (xs.getD j z68) (xs.getD n z68)
def beatenUp (xs : List S68) (n : Nat) : List Int := ((List.range n).filter (beatenP xs)).map fun (i : Nat) => (i : Int)
theorem beatenUp_succ (xs : List S68) (n : Nat) : beatenUp xs (n + 1) = if beatenP xs n = true then beatenUp xs n ++ [(n : Int)] else beatenUp xs n := by
  unfold beatenUp
  rw [List.range_succ, List.filter_append, List.map_append]
  cases h : beatenP xs n <;> simp [h]
theorem beatenUp_len (xs : List S68) (n : Nat) : (beatenUp xs n).length ≤ n := by
  unfold beatenUp
  rw [List.length_map]
  exact Nat.le_trans (List.length_filter_le _ _) (by simp)
theorem impl_beaten_round (xs : List S68) (h : xs.length ≤ 1048576) (s : List Int) (hs : s.length ≤ 1048576) (n : Nat) (hn : n < xs.length) (r : List Int × Int)
    (hr : Ev (fun k => impl_BeatenRopes.l0 k xs (if beatenP xs n = true then s ++ [(n : Int)] else s) xs (xs.length : Int) ((n + 1 : Nat) : Int)) r) :
    Ev (fun k => impl_BeatenRopes.l1 k xs s (n : Int) xs (xs.length : Int) (n : Int) xs (xs.length : Int) 0 (xs.getD n z68).f0 (xs.getD n z68).f1 (xs.getD n z68).f2 (xs.getD n z68).f3) r := by
  have hP : beatenP xs n = (List.range xs.length).any fun i => beatR (xs.getD i z68) (xs.getD n z68) := rfl
  suffices key : ∃ r', Ev (fun k => impl_BeatenRopes.l1 k xs s (n : Int) xs (xs.length : Int) (n : Int) xs (xs.length : Int) 0 (xs.getD n z68).f0 (xs.getD n z68).f1 (xs.getD n z68).f2 (xs.getD n z68).f3) r' ∧ r' = r by obtain ⟨r', hr', e⟩ := key; exact e ▸ hr'
  refine ev_loop (len := xs.length) (g := fun k (_ : Unit) j => impl_BeatenRopes.l1 k xs s (n : Int) xs (xs.length : Int) (n : Int) xs (xs.length : Int) j (xs.getD n z68).f0 (xs.getD n z68).f1 (xs.getD n z68).f2 (xs.getD n z68).f3)
    (fun j _ => ((List.range j).any fun i => beatR (xs.getD i z68) (xs.getD n z68)) = false) (fun r' => r' = r) ?_ ?_ () rfl
  · intro j _ hj hi
    cases hb : beatR (xs.getD j z68) (xs.getD n z68) with
    | false =>
      refine .inr ⟨(), by rw [List.range_succ, List.any_append, hi, List.any_cons, List.any_nil, hb]; rfl, fun r' hr' => ev_succ ?_⟩
      have hp' : beatB (xs.getD j z68).f1 (xs.getD j z68).f2 (xs.getD j z68).f3 (xs.getD n z68).f1 (xs.getD n z68).f2 (xs.getD n z68).f3 = false := hb
      simp only [impl_BeatenRopes.l1, Int.ofNat_lt.2 hj, show (0 : Int) ≤ (j : Int) from Int.natCast_nonneg _, if_true, rd_T68, Int.toNat_natCast, wnext hj (by omega : xs.length ≤ 9223372036854775807), beat_ite, hp', Bool.false_eq_true, if_false]
      exact hr'
    | true =>
      refine .inl ⟨r, ev_succ ?_, rfl⟩
      have hp' : beatB (xs.getD j z68).f1 (xs.getD j z68).f2 (xs.getD j z68).f3 (xs.getD n z68).f1 (xs.getD n z68).f2 (xs.getD n z68).f3 = true := hb
      have : beatenP xs n = true := by rw [hP, List.any_eq_true]; exact ⟨j, List.mem_range.2 hj, hb⟩
      rw [this] at hr
      simp only [if_true] at hr
      simp only [impl_BeatenRopes.l1, Int.ofNat_lt.2 hj, show (0 : Int) ≤ (j : Int) from Int.natCast_nonneg _, if_true, rd_T68, Int.toNat_natCast, beat_ite, hp', show s.length < 17592186044416 by omega, wnext hn (by omega : xs.length ≤ 9223372036854775807)]
      exact hr
  · intro _ hi
    rw [← hP] at hi
    rw [hi] at hr
    simp only [Bool.false_eq_true, if_false] at hr
    refine ⟨r, ev_succ ?_, rfl⟩
    simp only [impl_BeatenRopes.l1, Int.lt_irrefl, if_false, wnext hn (by omega : xs.length ≤ 9223372036854775807)]
    exact hr
def beatenV (xs : List S68) : List Int × Int := if ropesB xs = true then (beatenUp xs xs.length, 0) else ([], 1)
theorem impl_BeatenRopes_ev (xs : List S68) (h : xs.length ≤ 1048576) : Ev (fun k => impl_BeatenRopes.f k xs) (beatenV xs) := by
  simp only [impl_BeatenRopes.f]
  refine Ev.bind (impl_ValidRopes_ev xs h) ?_
  unfold beatenV
  by_cases h1 : ropesB xs = true
  · simp only [h1, if_true]
    refine ev_fold (len := xs.length) (g := fun k s i => impl_BeatenRopes.l0 k xs s xs (xs.length : Int) i) (fun n s => if beatenP xs n = true then s ++ [(n : Int)] else s) (fun n => beatenUp xs n) _ (fun n hn => beatenUp_succ xs n) ?_ ?_
    · intro n hn r hr
      refine ev_succ ?_
      simp only [impl_BeatenRopes.l0, Int.ofNat_lt.2 hn, show (0 : Int) ≤ (n : Int) from Int.natCast_nonneg _, if_true, rd_T68, Int.toNat_natCast]
      exact impl_beaten_round xs h _ (by have := beatenUp_len xs n; omega) n hn r hr
    · refine ev_succ ?_
      simp only [impl_BeatenRopes.l0, Int.lt_irrefl, if_false]
      exact ev_now _
  · simp only [h1]; exact ev_now _

/-! ### what beaten ropes are like -/
theorem mem_beatenUp (xs : List S68) {m n : Nat} (h : n < m) : ((n : Int) ∈ beatenUp xs m) ↔ beatenP xs n = true := by
  unfold beatenUp
  rw [List.mem_map]
  constructor
  · rintro ⟨i, hi, e⟩
    have : i = n := by omega
    subst this
    exact (List.mem_filter.1 hi).2
  · intro hb
    exact ⟨n, List.mem_filter.2 ⟨List.mem_range.2 h, hb⟩, rfl⟩
theorem beatenUp_lt (xs : List S68) (n : Nat) : (beatenUp xs n).Pairwise (· < ·) := by
  unfold beatenUp
  rw [List.pairwise_map]
  exact (List.Pairwise.sublist List.filter_sublist List.pairwise_lt_range).imp (fun h => Int.ofNat_lt.2 h)
theorem beatenUp_in (xs : List S68) (n : Nat) : ∀ v ∈ beatenUp xs n, 0 ≤ v ∧ v < (n : Int) := by
  intro v hv
  unfold beatenUp at hv
  obtain ⟨i, hi, rfl⟩ := List.mem_map.1 hv
  have := List.mem_range.1 (List.mem_filter.1 hi).1
  omega
theorem beat_rank {x y : S68} (h : beatR x y = true) : y.f2 - y.f3 - y.f1 < x.f2 - x.f3 - x.f1 := by
  unfold beatR beatB at h
  simp only [Bool.and_eq_true, decide_eq_true_eq, Bool.not_eq_true', Bool.and_eq_false_imp, decide_eq_false_iff_not] at h
  obtain ⟨h1, h2, h3, h4⟩ := h
  by_cases e1 : x.f2 = y.f2
  · by_cases e2 : x.f3 = y.f3
    · have := h4 e1 e2; omega
    · omega
  · omega
theorem best_rank (f : Nat → Int) : ∀ n, 0 < n → ∃ i, i < n ∧ ∀ j, j < n → f j ≤ f i := by
  intro n
  induction n with
  | zero => intro h; omega
  | succ n ih =>
    intro _
    by_cases h : n = 0
    · subst h; exact ⟨0, by omega, fun j hj => by rw [show j = 0 by omega]; exact Int.le_refl _⟩
    · obtain ⟨i, hi, ha⟩ := ih (by omega)
      by_cases c : f n ≤ f i
      · refine ⟨i, by omega, fun j hj => ?_⟩
        by_cases e : j = n
        · subst e; exact c
        · exact ha j (by omega)
      · refine ⟨n, by omega, fun j hj => ?_⟩
        by_cases e : j = n
        · subst e; exact Int.le_refl _
        · have := ha j (by omega); omega
theorem beatenUp_some (xs : List S68) (h : 0 < xs.length) : (beatenUp xs xs.length).length ≠ xs.length := by
  obtain ⟨i, hi, ha⟩ := best_rank (fun n => (xs.getD n z68).f2 - (xs.getD n z68).f3 - (xs.getD n z68).f1) xs.length h
  have hb : beatenP xs i = false := by
    unfold beatenP
    rw [List.any_eq_false]
    intro j hj hc
    have := ha j (List.mem_range.1 hj)
    have := beat_rank hc
    omega
  intro e
  unfold beatenUp at e
  rw [List.length_map] at e
  have e2 : (List.filter (beatenP xs) (List.range xs.length)).length = (List.range xs.length).length := by rw [e, List.length_range]
  rw [List.length_filter_eq_length_iff] at e2
  have := e2 i (List.mem_range.2 hi)
  rw [hb] at this
  cases this

/-! ### the lightest rope that is strong enough -/
def bestF (xs : List S68) (t : Int) (s : Int) (n : Nat) : Int :=
  if (xs.getD n z68).f2 ≥ t ∧ (s < 0 ∨ (xs.getD n z68).f3 < (xs.getD s.toNat z68).f3) then (n : Int) else s
def bestT (xs : List S68) (t : Int) : Nat → Int
  | 0 => -1
  | n + 1 => bestF xs t (bestT xs t n) n
theorem bestT_is (xs : List S68) (t : Int) : ∀ n, n ≤ xs.length →
    -1 ≤ bestT xs t n ∧ bestT xs t n < xs.length ∧
    ((bestT xs t n = -1 ∧ ∀ i, i < n → (xs.getD i z68).f2 < t) ∨
     (0 ≤ bestT xs t n ∧ bestT xs t n < n ∧ (xs.getD (bestT xs t n).toNat z68).f2 ≥ t ∧
      ∀ i, i < n → (xs.getD i z68).f2 ≥ t → (xs.getD (bestT xs t n).toNat z68).f3 ≤ (xs.getD i z68).f3 ∧
        ((xs.getD i z68).f3 = (xs.getD (bestT xs t n).toNat z68).f3 → bestT xs t n ≤ (i : Int)))) := by
  intro n
  induction n with
  | zero => intro _; unfold bestT; exact ⟨by omega, by omega, .inl ⟨rfl, fun i hi => by omega⟩⟩
  | succ n ih =>
    intro h
    obtain ⟨h1, h2, h3⟩ := ih (by omega)
    unfold bestT bestF
    generalize bestT xs t n = s at h1 h2 h3 ⊢
    by_cases c1 : (xs.getD n z68).f2 ≥ t
    · rcases h3 with ⟨e, ha⟩ | ⟨e, hn, hs, ha⟩
      · rw [if_pos ⟨c1, .inl (by omega)⟩]
        refine ⟨by omega, by omega, .inr ⟨by omega, by omega, by rw [Int.toNat_natCast]; exact c1, ?_⟩⟩
        intro i hi hc
        by_cases e : i = n
        · subst e; rw [Int.toNat_natCast]; exact ⟨Int.le_refl _, fun _ => Int.le_refl _⟩
        · have := ha i (by omega); omega
      · by_cases c2 : (xs.getD n z68).f3 < (xs.getD s.toNat z68).f3
        · rw [if_pos ⟨c1, .inr c2⟩]
          refine ⟨by omega, by omega, .inr ⟨by omega, by omega, by rw [Int.toNat_natCast]; exact c1, ?_⟩⟩
          intro i hi hc
          rw [Int.toNat_natCast]
          by_cases e : i = n
          · subst e; exact ⟨Int.le_refl _, fun _ => Int.le_refl _⟩
          · have := ha i (by omega) hc; omega
        · rw [if_neg (by omega)]
          refine ⟨h1, h2, .inr ⟨e, by omega, hs, ?_⟩⟩
          intro i hi hc
          by_cases e : i = n
          · subst e; omega
          · exact ha i (by omega) hc
    · rw [if_neg (fun h => c1 h.1)]
      refine ⟨h1, h2, ?_⟩
      rcases h3 with ⟨e, ha⟩ | ⟨e, hn, hs, ha⟩
      · refine .inl ⟨e, fun i hi => ?_⟩
        by_cases e : i = n
        · subst e; omega
        · exact ha i (by omega)
      · refine .inr ⟨e, by omega, hs, ?_⟩
        intro i hi hc
        by_cases e : i = n
        · subst e; exact absurd hc c1
        · exact ha i (by omega) hc
theorem impl_RopeFor_ev (xs : List S68) (h : xs.length ≤ 1048576) (hb : ropesB xs = true) (l f : Int) (h1 : 1 ≤ l ∧ l ≤ 1000000) (h2 : 1 ≤ f ∧ f ≤ 20) :
    Ev (fun k => impl_RopeFor.f k xs l f) (if bestT xs (wrap64 (l * f)) xs.length < 0 then (0, 3) else (bestT xs (wrap64 (l * f)) xs.length, 0)) := by
  simp only [impl_RopeFor.f, impl_within_eq, Option.bind_some]
  refine Ev.bind (impl_ValidRopes_ev xs h) ?_
  simp only [hb, h1, h2, decide_true, if_true, and_self, Bool.not_true]
  refine ev_succ ?_
  simp only [impl_RopeFor.j0, Bool.false_eq_true, if_false]
  refine ev_fold (len := xs.length) (g := fun k s i => impl_RopeFor.l0 k xs l f s xs (xs.length : Int) i) (fun n s => bestF xs (wrap64 (l * f)) s n) (bestT xs (wrap64 (l * f))) _ (fun n _ => rfl) ?_ ?_
  · intro n hn r hr
    have hrg := bestT_is xs (wrap64 (l * f)) n (by omega)
    have hrg := And.intro hrg.1 hrg.2.1
    generalize bestT xs (wrap64 (l * f)) n = s at hr hrg
    refine ev_succ ?_
    simp only [impl_RopeFor.l0, Int.ofNat_lt.2 hn, show (0 : Int) ≤ (n : Int) from Int.natCast_nonneg _, if_true, rd_T68, Int.toNat_natCast, wnext hn (by omega : xs.length ≤ 9223372036854775807)]
    unfold bestF at hr
    by_cases c1 : (xs.getD n z68).f2 ≥ wrap64 (l * f)
    · by_cases c2 : s < 0
      · simp only [c1, c2, true_or, and_self, if_true] at hr ⊢; exact hr
      · by_cases c3 : (xs.getD n z68).f3 < (xs.getD s.toNat z68).f3
        · simp only [c1, c2, c3, or_true, and_self, if_true, if_false, show 0 ≤ s by omega, show s < (xs.length : Int) by omega] at hr ⊢; exact hr
        · simp only [c1, c2, c3, or_self, and_false, if_true, if_false, show 0 ≤ s by omega, show s < (xs.length : Int) by omega] at hr ⊢; exact hr
    · simp only [c1, false_and, if_false] at hr ⊢; exact hr
  · refine ev_succ ?_
    simp only [impl_RopeFor.l0, Int.lt_irrefl, if_false]
    split <;> exact ev_now _

/-! ### drawn ropes -/
def nm5 : List ByteArray := [(⟨#[104, 101, 109, 112]⟩ : ByteArray), (⟨#[109, 97, 110, 105, 108, 97]⟩ : ByteArray), (⟨#[119, 105, 114, 101, 45, 54]⟩ : ByteArray), (⟨#[99, 111, 116, 116, 111, 110]⟩ : ByteArray), (⟨#[115, 105, 115, 97, 108]⟩ : ByteArray)]
theorem nm5_name : ∀ n, n < 5 → isNameB (nm5.getD n ByteArray.empty) = true := by decide +kernel
theorem called_ev {l : List Int} (hl : byteL l) (p s : Int) (hp : 0 ≤ p ∧ p ≤ 900000) (nm : ByteArray) : ∃ a b c s', spec_l02Called.f l p s nm = some (nm, a, b, c, p + 1 + 1 + 1, s') ∧ (1 ≤ a ∧ a ≤ 1000) ∧ (1 ≤ b ∧ b ≤ 1000000) ∧ (1 ≤ c ∧ c ≤ 100000) := by
  obtain ⟨v1, s1, a1, b1⟩ := src_pick_ev hl p s 10 (by omega) (by omega)
  obtain ⟨v2, s2, a2, b2⟩ := src_pick_ev hl (p + 1) s1 40 (by omega) (by omega)
  obtain ⟨v3, s3, a3, b3⟩ := src_pick_ev hl (p + 1 + 1) s2 30 (by omega) (by omega)
  refine ⟨wrap64 (40 + (wrap64 (20 * v1))), wrap64 (500 * (wrap64 (1 + v2))), wrap64 (50 * (wrap64 (1 + v3))), s3, ?_, ?_, ?_, ?_⟩
  · simp only [spec_l02Called.f, a1, a2, a3, Option.bind_some]
  · rw [w64 (n := 20 * v1) (by omega) (by omega), w64 (by omega) (by omega)]; omega
  · rw [w64 (n := 1 + v2) (by omega) (by omega), w64 (by omega) (by omega)]; omega
  · rw [w64 (n := 1 + v3) (by omega) (by omega), w64 (by omega) (by omega)]; omega

theorem nm5_data : ∀ i, i < 5 → ∀ n, n < 5 → i ≠ n → (nm5.getD i ByteArray.empty).data.toList ≠ (nm5.getD n ByteArray.empty).data.toList := by decide +kernel
theorem nm5_ne {i n : Nat} (hi : i < 5) (hn : n < 5) (h : i ≠ n) : ¬ (nm5.getD i ByteArray.empty).toList = (nm5.getD n ByteArray.empty).toList := by
  rw [ByteArray.toList_eq, ByteArray.toList_eq]
  exact nm5_data i hi n hn h
def okR (xs : List S68) : Prop := xs.length ≤ 5 ∧ ∀ n, n < xs.length → (xs.getD n z68).f0 = nm5.getD n ByteArray.empty ∧ (1 ≤ (xs.getD n z68).f1 ∧ (xs.getD n z68).f1 ≤ 1000) ∧ (1 ≤ (xs.getD n z68).f2 ∧ (xs.getD n z68).f2 ≤ 1000000) ∧ (1 ≤ (xs.getD n z68).f3 ∧ (xs.getD n z68).f3 ≤ 100000)
theorem findW_none {xs : List S68} {s : ByteArray} (h : ∀ i, i < xs.length → ¬ (xs.getD i z68).f0.toList = s.toList) : findW xs s = -1 := by
  have e : (List.range xs.length).find? (fun n => decide ((xs.getD n z68).f0.toList = s.toList)) = none := by
    rw [List.find?_eq_none]
    intro i hi
    have := h i (List.mem_range.1 hi)
    simpa using this
  unfold findW
  rw [e]
theorem findW_at {xs : List S68} {s : ByteArray} {n : Nat} (hn : n < xs.length) (he : (xs.getD n z68).f0.toList = s.toList) (h : ∀ i, i < n → ¬ (xs.getD i z68).f0.toList = s.toList) : findW xs s = (n : Int) := by
  have e : (List.range xs.length).find? (fun n => decide ((xs.getD n z68).f0.toList = s.toList)) = some n := by
    rw [List.find?_range_eq_some]
    refine ⟨by simpa using he, List.mem_range.2 hn, fun j hj => ?_⟩
    have := h j hj
    simpa using this
  unfold findW
  rw [e]
theorem getD_take {α : Type} (xs : List α) (z : α) {n i : Nat} (h : i < n) : (xs.take n).getD i z = xs.getD i z := by
  rw [List.getD_eq_getElem?_getD, List.getD_eq_getElem?_getD, List.getElem?_take_of_lt h]
theorem okR_take {xs : List S68} (h : okR xs) (n : Nat) : okR (xs.take n) := by
  have h1 := h.1
  refine ⟨by rw [List.length_take]; omega, fun i hi => ?_⟩
  rw [List.length_take] at hi
  rw [getD_take xs _ (by omega : i < n)]
  exact h.2 i (by omega)
theorem okR_find {xs : List S68} (h : okR xs) {n : Nat} (hn : n < xs.length) : findW (xs.take n) (xs.getD n z68).f0 = -1 := by
  have h1 := h.1
  refine findW_none fun i hi => ?_
  rw [List.length_take] at hi
  rw [getD_take xs _ (by omega : i < n), (h.2 i (by omega)).1, (h.2 n hn).1]
  exact nm5_ne (by omega) (by omega) (by omega)
theorem okR_here {xs : List S68} (h : okR xs) {n : Nat} (hn : n < xs.length) : findW xs (xs.getD n z68).f0 = (n : Int) := by
  have h1 := h.1
  refine findW_at hn rfl fun i hi => ?_
  rw [(h.2 i (by omega)).1, (h.2 n hn).1]
  exact nm5_ne (by omega) (by omega) (by omega)
theorem okR_rB {xs : List S68} (h : okR xs) {n : Nat} (hn : n < xs.length) : ropeB (xs.getD n z68).f0 (xs.getD n z68).f1 (xs.getD n z68).f2 (xs.getD n z68).f3 = true := by
  have h1 := h.1
  obtain ⟨a, b, c, d⟩ := h.2 n hn
  unfold ropeB
  rw [a, nm5_name n (by omega)]
  simp only [b, c, d, and_self, decide_true, Bool.and_self]
theorem okR_ropesB {xs : List S68} (h : okR xs) : ropesB xs = true := by
  have h1 := h.1
  unfold ropesB
  simp only [Bool.and_eq_true, decide_eq_true_eq, List.all_eq_true]
  refine ⟨fun n hn => ?_, by omega⟩
  have hn := List.mem_range.1 hn
  unfold ropesP
  simp only [Bool.and_eq_true, decide_eq_true_eq]
  exact ⟨okR_rB h hn, by rw [okR_find h hn]; decide⟩
theorem getD_snoc {α : Type} (xs : List α) (x z : α) (n : Nat) (h : n < (xs ++ [x]).length) : (n < xs.length ∧ (xs ++ [x]).getD n z = xs.getD n z) ∨ (n = xs.length ∧ (xs ++ [x]).getD n z = x) := by
  rw [List.length_append, List.length_singleton] at h
  by_cases e : n < xs.length
  · exact .inl ⟨e, by rw [List.getD_eq_getElem?_getD, List.getD_eq_getElem?_getD, List.getElem?_append_left e]⟩
  · have e : n = xs.length := by omega
    subst e
    exact .inr ⟨rfl, by simp [List.getD_eq_getElem?_getD]⟩
theorem drawR_loop {l : List Int} (hl : byteL l) : ∀ (d : Nat) (xs : List S68) (p s : Int), okR xs → xs.length + d ≤ 5 → 0 ≤ p → p + 3 * (d : Int) ≤ 1000 →
    ∃ r, Ev (fun k => spec_l02Draw.l0 k nm5 xs (d : Int) l p s) r ∧ okR r.1 := by
  intro d
  induction d with
  | zero =>
    intro xs p s ho _ _ _
    refine ⟨(xs, p, s), ev_succ ?_, ho⟩
    simp only [spec_l02Draw.l0, show ¬ (((0 : Nat) : Int) > 0) by omega, if_false]
    exact ev_now _
  | succ d ih =>
    intro xs p s ho hx h0 hp
    obtain ⟨a, b, c, s', e, ha, hb, hc⟩ := called_ev hl p s (by omega) (rdOf ByteArray.empty nm5 (xs.length : Int))
    have e5 : nm5.length = 5 := rfl
    have w5 : wrap64 (((d + 1 : Nat) : Int) - 1) = (d : Int) := by rw [w64 (by omega) (by omega)]; omega
    obtain ⟨r, h1, h2⟩ := ih (xs ++ [(⟨rdOf ByteArray.empty nm5 (xs.length : Int), a, b, c⟩ : S68)]) (p + 1 + 1 + 1) s' (by
      refine ⟨by simp; omega, fun n hn => ?_⟩
      rcases getD_snoc xs _ z68 n hn with ⟨h, e⟩ | ⟨h, e⟩
      · rw [e]; exact ho.2 n h
      · rw [e, h]; exact ⟨rfl, ha, hb, hc⟩) (by simp; omega) (by omega) (by omega)
    refine ⟨r, ev_succ ?_, h2⟩
    simp only [spec_l02Draw.l0, show ((d + 1 : Nat) : Int) > 0 by omega, if_true, show (0 : Int) ≤ (xs.length : Int) from Int.natCast_nonneg _, show (xs.length : Int) < (nm5.length : Int) by omega, e, Option.bind_some, w5, show xs.length < 3518437208883 by omega]
    exact h1
theorem A2Ropes_ev (l : List Int) (hl : byteL l) : ∃ xs, Ev (fun k => spec_A2Ropes.f k l) xs ∧ okR xs := by
  obtain ⟨v, s, a, b⟩ := src_pick_ev hl 0 0 6 (by omega) (by omega)
  rw [show (0 : Int) + 1 = 1 from rfl] at a
  obtain ⟨r, h1, h2⟩ := drawR_loop hl v.toNat [] 1 s ⟨by simp, fun n hn => by simp at hn⟩ (by simp; omega) (by omega) (by omega)
  rw [show ((v.toNat : Nat) : Int) = v by omega] at h1
  refine ⟨r.1, ?_, h2⟩
  simp only [spec_A2Ropes.f, spec_l00From.f, spec_l02Draw.f, Option.bind_some, a]
  exact Ev.bind h1 (ev_now _)
/-! ### the law's loops -/
theorem addV_next {xs : List S68} (h : okR xs) {n : Nat} (hn : n < xs.length) : addV (xs.take n) (xs.getD n z68).f0 (xs.getD n z68).f1 (xs.getD n z68).f2 (xs.getD n z68).f3 = (xs.take (n + 1), 0) := by
  have h1 := h.1
  unfold addV
  rw [if_pos (okR_ropesB (okR_take h n)), if_pos (okR_rB h hn), okR_find h hn, if_neg (by decide), if_neg (by rw [List.length_take]; omega), List.take_succ_eq_append_getElem hn]
  rw [getD_lt' xs _ hn]
theorem addV_again {xs : List S68} (h : okR xs) {n : Nat} (hn : n < xs.length) : addV xs (xs.getD n z68).f0 (xs.getD n z68).f1 (xs.getD n z68).f2 (xs.getD n z68).f3 = ([], 4) := by
  unfold addV
  rw [if_pos (okR_ropesB h), if_pos (okR_rB h hn), okR_here h hn, if_pos (Int.natCast_nonneg _)]
theorem impl_RopeNamed_here {xs : List S68} (h : okR xs) {n : Nat} (hn : n < xs.length) : Ev (fun k => impl_RopeNamed.f k xs (xs.getD n z68).f0) ((n : Int), 0) := by
  have h1 := h.1
  simp only [impl_RopeNamed.f]
  refine Ev.bind (impl_ValidRopes_ev xs (by omega)) ?_
  simp only [okR_ropesB h, if_true]
  refine Ev.bind (impl_ropeNamed_ev xs _ (by omega)) ?_
  rw [okR_here h hn]
  simp only [show ¬ (n : Int) < 0 by omega, if_false]
  exact ev_now _
theorem by_step (x y : S68) {α : Type} (A B : α) (F : Bool → α) (hA : F true = A) (hB : F false = B) :
    (if x.f2 ≥ y.f2 then (if x.f3 ≤ y.f3 then (if x.f1 ≤ y.f1 then (if x.f2 > y.f2 then A else (if x.f3 < y.f3 then A else F (decide (x.f1 < y.f1)))) else B) else B) else B) = F (beatR x y) := by
  unfold beatR beatB
  by_cases h1 : x.f2 ≥ y.f2
  · by_cases h2 : x.f3 ≤ y.f3
    · by_cases h3 : x.f1 ≤ y.f1
      · by_cases h4 : x.f2 > y.f2
        · simp only [h1, h2, h3, h4, if_true, show ¬ x.f2 = y.f2 by omega, decide_true, decide_false, Bool.false_and, Bool.not_false, Bool.and_self, hA]
        · by_cases h5 : x.f3 < y.f3
          · simp only [h1, h2, h3, h4, h5, if_true, if_false, show ¬ x.f3 = y.f3 by omega, decide_true, decide_false, Bool.false_and, Bool.and_false, Bool.not_false, Bool.and_self, hA]
          · by_cases h6 : x.f1 < y.f1
            · simp only [h1, h2, h3, h4, h5, h6, if_true, if_false, show ¬ x.f1 = y.f1 by omega, decide_true, decide_false, Bool.and_false, Bool.not_false, Bool.and_self]
            · simp only [h1, h2, h3, h4, h5, h6, if_true, if_false, show x.f1 = y.f1 by omega, show x.f2 = y.f2 by omega, show x.f3 = y.f3 by omega, Int.le_refl, ge_iff_le, gt_iff_lt, Int.lt_irrefl, decide_true, decide_false, Bool.and_false, Bool.not_true, Bool.and_self]
      · simp only [h1, h2, h3, if_true, if_false, decide_false, Bool.false_and, Bool.and_false, hB]
    · simp only [h1, h2, if_true, if_false, decide_false, Bool.false_and, Bool.and_false, hB]
  · simp only [h1, if_false, show ¬ y.f2 ≤ x.f2 by omega, decide_false, Bool.false_and, hB]
theorem by_loop {xs : List S68} (h : okR xs) {n : Nat} (hn : n < xs.length) (ys : List S68) (r : Bool)
    (hr : Ev (fun k => laws_FnRopeLists.l1 k xs (beatenUp xs xs.length) ys ((n + 1 : Nat) : Int)) r) : Ev (fun k => laws_FnRopeLists.l2 k xs (beatenUp xs xs.length) ys (n : Int) false 0) r := by
  have h1 := h.1
  refine ev_fold (len := xs.length) (g := fun k b j => laws_FnRopeLists.l2 k xs (beatenUp xs xs.length) ys (n : Int) b j) (fun j b => b || beatR (xs.getD j z68) (xs.getD n z68)) (fun j => (List.range j).any fun i => beatR (xs.getD i z68) (xs.getD n z68)) r ?_ ?_ ?_
  · intro j hj
    rw [List.range_succ, List.any_append]; simp
  · intro j hj r' hr'
    refine ev_succ ?_
    cases hb : (List.range j).any fun i => beatR (xs.getD i z68) (xs.getD n z68)
    · rw [hb, Bool.false_or] at hr'
      simp only [laws_FnRopeLists.l2, Int.ofNat_lt.2 hj, Int.ofNat_lt.2 hn, show (0 : Int) ≤ (j : Int) from Int.natCast_nonneg _, show (0 : Int) ≤ (n : Int) from Int.natCast_nonneg _, if_true, Bool.false_eq_true, if_false, rd_T68, Int.toNat_natCast, wnext hj (by omega : xs.length ≤ 9223372036854775807)]
      refine hr'.congr fun k => ?_
      exact (by_step _ _ _ _ (fun b => laws_FnRopeLists.l2 k xs (beatenUp xs xs.length) ys (n : Int) b ((j + 1 : Nat) : Int)) rfl rfl)
    · rw [hb, Bool.true_or] at hr'
      simp only [laws_FnRopeLists.l2, Int.ofNat_lt.2 hj, Int.ofNat_lt.2 hn, show (0 : Int) ≤ (j : Int) from Int.natCast_nonneg _, show (0 : Int) ≤ (n : Int) from Int.natCast_nonneg _, if_true, wnext hj (by omega : xs.length ≤ 9223372036854775807)]
      exact hr'
  · refine ev_succ ?_
    have e : ((List.range xs.length).any fun i => beatR (xs.getD i z68) (xs.getD n z68)) = beatenP xs n := rfl
    have bl := beatenUp_len xs xs.length
    rw [e]
    simp only [laws_FnRopeLists.l2, Int.lt_irrefl, if_false]
    refine Ev.bind (a2Has_ev _ (by omega) _) ?_
    have e2 : decide ((n : Int) ∈ beatenUp xs xs.length) = beatenP xs n := by
      cases hb : beatenP xs n
      · rw [decide_eq_false]; intro hc; rw [mem_beatenUp xs hn, hb] at hc; cases hc
      · rw [decide_eq_true ((mem_beatenUp xs hn).2 hb)]
    rw [e2]
    simp only [bne_self_eq_false, Bool.false_eq_true, if_false, wnext hn (by omega : xs.length ≤ 9223372036854775807)]
    exact hr
theorem add_loop {xs : List S68} (h : okR xs) : Ev (fun k => laws_FnRopeLists.l1 k xs (beatenUp xs xs.length) (([] : List (S68))) 0) true := by
  have h1 := h.1
  refine ev_fold (len := xs.length) (g := fun k ys i => laws_FnRopeLists.l1 k xs (beatenUp xs xs.length) ys i) (fun n _ => xs.take (n + 1)) (fun n => xs.take n) true (fun _ _ => rfl) ?_ ?_
  · intro n hn r hr
    refine ev_succ ?_
    have k1 := impl_AddRope_ev (xs.take n) (by rw [List.length_take]; omega) (xs.getD n z68).f0 (xs.getD n z68).f1 (xs.getD n z68).f2 (xs.getD n z68).f3
    have k2 := impl_AddRope_ev xs (by omega) (xs.getD n z68).f0 (xs.getD n z68).f1 (xs.getD n z68).f2 (xs.getD n z68).f3
    rw [addV_next h hn] at k1
    rw [addV_again h hn] at k2
    have el : ((xs.take (n + 1)).length : Int) = ((n + 1 : Nat) : Int) := by rw [List.length_take]; omega
    have eg : (xs.take (n + 1)).getD n z68 = xs.getD n z68 := getD_take xs _ (by omega)
    simp only [laws_FnRopeLists.l1, Int.ofNat_lt.2 hn, show (0 : Int) ≤ (n : Int) from Int.natCast_nonneg _, if_true, rd_T68, Int.toNat_natCast, wnext hn (by omega : xs.length ≤ 9223372036854775807)]
    refine Ev.bind k1 (Ev.bind (impl_RopeNamed_here h hn) (Ev.bind k2 ?_))
    simp only [el, eg, if_true, show (n : Int) < ((n + 1 : Nat) : Int) by omega, beq_self_eq_true, Bool.not_true, Bool.or_self, Bool.false_eq_true, if_false, show ((4 : Int) != 4) = false from rfl]
    refine ev_succ ?_
    simp only [laws_FnRopeLists.j4, Bool.false_eq_true, if_false]
    exact by_loop h hn _ r hr
  · refine ev_succ ?_
    simp only [laws_FnRopeLists.l1, Int.lt_irrefl, if_false]
    exact ev_now _
theorem rest_ev {xs : List S68} (h : okR xs) : Ev (fun k => laws_FnRopeLists.j1 k xs false) true := by
  have h1 := h.1
  have bl := beatenUp_len xs xs.length
  refine ev_succ ?_
  simp only [laws_FnRopeLists.j1, Bool.false_eq_true, if_false]
  have k1 := impl_BeatenRopes_ev xs (by omega)
  unfold beatenV at k1
  rw [if_pos (okR_ropesB h)] at k1
  refine Ev.bind k1 ?_
  simp only [if_true]
  refine Ev.bind (a2Rises_ev _ _ (by omega) (beatenUp_in xs xs.length) (beatenUp_lt xs xs.length)) ?_
  simp only [if_true]
  have fin : Ev (fun k => laws_FnRopeLists.j2 k xs (beatenUp xs xs.length) false) true := by
    refine ev_succ ?_
    simp only [laws_FnRopeLists.j2, Bool.false_eq_true, if_false]
    exact add_loop h
  by_cases hz : (xs.length : Int) > 0
  · have ne := beatenUp_some xs (by omega)
    have e : (((beatenUp xs xs.length).length : Int) == (xs.length : Int)) = false := by rw [beq_eq_false_iff_ne]; omega
    simp only [hz, if_true, e]
    exact fin
  · simp only [hz, if_false]
    exact fin
theorem best_loop {xs : List S68} (h : okR xs) (l f t : Int) (ht : wrap64 (l * f) = t) :
    Ev (fun k => laws_FnRopeLists.l0 k xs l f (if bestT xs t xs.length < 0 then ((0 : Int), (3 : Int)) else (bestT xs t xs.length, 0)).1 (if bestT xs t xs.length < 0 then ((0 : Int), (3 : Int)) else (bestT xs t xs.length, 0)).2 true 0) true := by
  have h1 := h.1
  have fin := rest_ev h
  obtain ⟨b1, b2, b3⟩ := bestT_is xs t xs.length (Nat.le_refl _)
  generalize bestT xs t xs.length = b at b1 b2 b3
  rcases b3 with ⟨e, ha⟩ | ⟨e, hn, hs, ha⟩
  · simp only [show b < 0 by omega, if_true]
    refine ev_fold (len := xs.length) (g := fun k s i => laws_FnRopeLists.l0 k xs l f 0 3 s i) (fun _ _ => true) (fun _ => true) true (fun _ _ => rfl) ?_ ?_
    · intro n hn r hr
      refine ev_succ ?_
      simp only [laws_FnRopeLists.l0, Int.ofNat_lt.2 hn, show (0 : Int) ≤ (n : Int) from Int.natCast_nonneg _, if_true, rd_T68, Int.toNat_natCast, wnext hn (by omega : xs.length ≤ 9223372036854775807), ht, ha n hn]
      exact hr
    · refine ev_succ ?_
      simp only [laws_FnRopeLists.l0, Int.lt_irrefl, if_false, show (true != ((3 : Int) == 3)) = false from rfl, Bool.false_eq_true, if_true]
      exact fin
  · simp only [show ¬ b < 0 by omega, if_false]
    suffices key : ∃ r, Ev (fun k => laws_FnRopeLists.l0 k xs l f b 0 true 0) r ∧ r = true by obtain ⟨r, hr, e⟩ := key; exact e ▸ hr
    refine ev_loop (len := xs.length) (g := fun k s i => laws_FnRopeLists.l0 k xs l f b 0 s i) (fun n s => s = true → ∀ i, i < n → (xs.getD i z68).f2 < t) (fun r => r = true) ?_ ?_ true (fun _ i hi => by omega)
    · intro n s hn hi
      by_cases c : (xs.getD n z68).f2 < t
      · refine .inr ⟨s, fun es i hi' => ?_, fun r hr => ev_succ ?_⟩
        · by_cases e : i = n
          · subst e; exact c
          · exact hi es i (by omega)
        · simp only [laws_FnRopeLists.l0, Int.ofNat_lt.2 hn, show (0 : Int) ≤ (n : Int) from Int.natCast_nonneg _, if_true, rd_T68, Int.toNat_natCast, wnext hn (by omega : xs.length ≤ 9223372036854775807), ht, c]
          exact hr
      · refine .inr ⟨false, fun es => (by cases es), fun r hr => ev_succ ?_⟩
        have a := ha n hn (by omega)
        simp only [laws_FnRopeLists.l0, Int.ofNat_lt.2 hn, show (0 : Int) ≤ (n : Int) from Int.natCast_nonneg _, if_true, rd_T68, Int.toNat_natCast, wnext hn (by omega : xs.length ≤ 9223372036854775807), ht, c, if_false, show ¬ b < 0 by omega, show ¬ b ≥ (xs.length : Int) by omega, show 0 ≤ b by omega, show b < (xs.length : Int) by omega, show ¬ (xs.getD n z68).f3 < (xs.getD b.toNat z68).f3 by omega]
        by_cases c2 : (xs.getD n z68).f3 = (xs.getD b.toNat z68).f3
        · have := a.2 c2
          simp only [c2, if_true, show ¬ (n : Int) < b by omega, if_false]; exact hr
        · simp only [c2, if_false]; exact hr
    · intro s hi
      refine ⟨true, ev_succ ?_, rfl⟩
      have es : s = false := by
        cases s
        · rfl
        · have := hi rfl b.toNat (by omega); omega
      subst es
      simp only [laws_FnRopeLists.l0, Int.lt_irrefl, if_false, show (false != ((0 : Int) == 3)) = false from rfl, Bool.false_eq_true, show 0 ≤ b by omega, show b < (xs.length : Int) by omega, if_true, rd_T68, ht, show ¬ (xs.getD b.toNat z68).f2 < t by omega, decide_false]
      exact fin
theorem FnRopeLists : laws_FnRopeLists.Pure := by
  intro l0 l1 h0 h1
  refine Ev.rounds ?_
  have b0 : byteL l0 := fun y hy => u8_range (h0.2.2 y hy)
  have b1 : byteL l1 := fun y hy => u8_range (h1.2.2 y hy)
  simp only [laws_FnRopeLists.f]
  obtain ⟨lg, el⟩ := a2Long_ev l0 l1
  rw [el]
  simp only [Option.bind_some]
  cases lg
  · simp only [Bool.false_eq_true, if_false]
    obtain ⟨xs, e1, ho⟩ := A2Ropes_ev l0 b0
    have hl := ho.1
    refine Ev.bind e1 ?_
    obtain ⟨v, ev, v0, v1⟩ := a2At_ev b1 0 60 (by omega) (by omega)
    obtain ⟨u, eu, u0, u1⟩ := a2At_ev b1 1 6 (by omega) (by omega)
    rw [ev, eu]
    simp only [Option.bind_some, w64 (n := 1 + v) (by omega) (by omega), w64 (n := 1 + u) (by omega) (by omega), w64 (n := 100 * (1 + v)) (by omega) (by omega)]
    refine Ev.bind (impl_RopeFor_ev xs (by omega) (okR_ropesB ho) (100 * (1 + v)) (1 + u) (by omega) (by omega)) ?_
    exact best_loop ho _ _ _ rfl
  · simp only [if_true]; exact ev_now _

end Go.Proofs.Ytginmioklkcgbaa.Pure

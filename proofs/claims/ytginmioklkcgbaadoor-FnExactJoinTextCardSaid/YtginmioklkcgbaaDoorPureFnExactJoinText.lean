/- The pure statement of FnExactJoinText: numbers and lists alone. No condition. -/
import Derived.Test.YtginmioklkcgbaaDoorQFnExactJoinTextx4
import Derived.Test.YtginmioklkcgbaaDoorAid
namespace Go.Proofs.YtginmioklkcgbaaDoor.Pure
open Go.RowKit Go.Proofs.YtginmioklkcgbaaDoor.QFnExactJoinText Go.Proofs.YtginmioklkcgbaaDoorW.PrintWords Go.Proofs.YtginmioklkcgbaaDoorW.PrintLast Go.Proofs.YtginmioklkcgbaaDoorW.PrintMore Go.Proofs.YtginmioklkcgbaaDoor.Aid
set_option linter.unusedVariables false
set_option linter.unusedSimpArgs false

theorem spec_l01Small_eq (c : Int) : spec_l01Small.f c = some (decide (97 ≤ c ∧ c ≤ 122)) := by
  unfold spec_l01Small.f
  by_cases h : c ≥ 97
  · rw [if_pos h]; congr 1; simp; omega
  · rw [if_neg h]; congr 1; simp; omega
theorem spec_l01Digit_eq (c : Int) : spec_l01Digit.f c = some (decide (48 ≤ c ∧ c ≤ 57)) := by
  unfold spec_l01Digit.f
  by_cases h : c ≥ 48
  · rw [if_pos h]; congr 1; simp; omega
  · rw [if_neg h]; congr 1; simp; omega
theorem spec_IsName_loop (s : ByteArray) (hs : s.size ≤ 12) : Ev (fun k => spec_IsName.l0 k s 0) ((List.range s.size).all fun i => nameCh (bt s i)) := by
  refine ev_to (ev_all (len := s.size) (g := fun k i => spec_IsName.l0 k s i) (fun i => nameCh (bt s i)) true ?_ ?_ ?_) (by simp)
  · intro n hn hp r hr
    refine ev_succ ?_
    simp only [spec_IsName.l0, spec_l01Small_eq, spec_l01Digit_eq, Option.bind_some]
    simp only [Int.ofNat_lt.2 hn, if_true, show (0 : Int) ≤ (n : Int) from Int.natCast_nonneg n, wnext hn (by omega : s.size ≤ 9223372036854775807)]
    unfold nameCh at hp
    by_cases c1 : 97 ≤ bt s n ∧ bt s n ≤ 122
    · simpa [c1] using hr
    · by_cases c2 : 48 ≤ bt s n ∧ bt s n ≤ 57
      · simpa [c1, c2] using hr
      · by_cases c3 : bt s n = 45
        · simpa [c3] using hr
        · simp [c1, c2, c3] at hp
  · intro n hn hp
    refine ev_succ ?_
    simp only [spec_IsName.l0, spec_l01Small_eq, spec_l01Digit_eq, Option.bind_some]
    unfold nameCh at hp
    simp only [Bool.or_eq_false_iff, decide_eq_false_iff_not] at hp
    simp only [hp.1.1, hp.1.2, hp.2, Int.ofNat_lt.2 hn, show (0 : Int) ≤ (n : Int) from Int.natCast_nonneg n, if_true, if_false, decide_false, Bool.false_eq_true]
    exact ev_now _
  · refine ev_succ ?_
    simp only [spec_IsName.l0, Int.lt_irrefl, if_false]
    exact ev_now _
theorem toList_nil_iff (s : ByteArray) : s.toList = ([] : List UInt8) ↔ s.size = 0 := by
  rw [← List.length_eq_zero_iff, ByteArray.toList_eq, Array.length_toList]
  exact Iff.rfl
theorem spec_IsName_ev (s : ByteArray) : Ev (fun k => spec_IsName.f k s) (isNameB s) := by
  unfold spec_IsName.f isNameB
  by_cases h0 : s.size = 0
  · simp only [(toList_nil_iff s).2 h0, if_true, h0]
    refine ev_succ ?_
    simp only [spec_IsName.j0, if_true]
    exact ev_now _
  · have h0' : ¬ s.toList = ([] : List UInt8) := fun h => h0 ((toList_nil_iff s).1 h)
    simp only [h0', if_false]
    by_cases h1 : s.size ≤ 12
    · have e1 : ¬ ((s.size : Int) > 12) := by omega
      have e2 : (0 : Int) < (s.size : Int) := by omega
      simp only [e1, e2, if_true, if_false, spec_l01Small_eq, Option.bind_some]
      refine ev_succ ?_
      simp only [spec_IsName.j0]
      by_cases h2 : 97 ≤ bt s 0 ∧ bt s 0 ≤ 122
      · simp only [h2, decide_true, Bool.not_true, Bool.false_eq_true, if_false, and_self]
        refine ev_to (spec_IsName_loop s h1) ?_
        simp [show 1 ≤ s.size by omega, h1]
      · simp only [h2, decide_false, Bool.not_false, if_true]
        exact ev_to (ev_now _) (by simp)
    · have e1 : ((s.size : Int) > 12) := by omega
      simp only [e1, if_true]
      refine ev_succ ?_
      simp only [spec_IsName.j0, if_true]
      exact ev_to (ev_now _) (by simp [h1])
theorem impl_IsName_loop (s : ByteArray) (hs : s.size ≤ 12) : Ev (fun k => impl_IsName.l0 k s 0) ((List.range s.size).all fun i => nameCh (bt s i)) := by
  refine ev_to (ev_all (len := s.size) (g := fun k i => impl_IsName.l0 k s i) (fun i => nameCh (bt s i)) true ?_ ?_ ?_) (by simp)
  · intro n hn hp r hr
    refine ev_succ ?_
    simp only [impl_IsName.l0]
    unfold nameCh at hp
    simp only [Bool.or_eq_true, decide_eq_true_eq] at hp
    have e0 : (n : Int) < (s.size : Int) := by omega
    simp only [e0, show (0 : Int) ≤ (n : Int) from Int.natCast_nonneg n, if_true, wnext hn (by omega : s.size ≤ 9223372036854775807)]
    by_cases d1 : bt s n < 97 <;> by_cases d2 : bt s n > 122 <;> by_cases d3 : bt s n < 48 <;> by_cases d4 : bt s n > 57 <;> by_cases d5 : bt s n = 45 <;>
      first | (exfalso; omega) | (simp only [d1, d2, d3, d4, d5, if_true, if_false]; exact hr)
  · intro n hn hp
    refine ev_succ ?_
    simp only [impl_IsName.l0]
    unfold nameCh at hp
    simp only [Bool.or_eq_false_iff, decide_eq_false_iff_not] at hp
    have e0 : (n : Int) < (s.size : Int) := by omega
    simp only [e0, show (0 : Int) ≤ (n : Int) from Int.natCast_nonneg n, if_true]
    by_cases d1 : bt s n < 97 <;> by_cases d2 : bt s n > 122 <;> by_cases d3 : bt s n < 48 <;> by_cases d4 : bt s n > 57 <;> by_cases d5 : bt s n = 45 <;>
      first | (exfalso; omega) | (simp only [d1, d2, d3, d4, d5, if_true, if_false]; exact ev_now _)
  · refine ev_succ ?_
    simp only [impl_IsName.l0, Int.lt_irrefl, if_false]
    exact ev_now _
theorem impl_IsName_ev (s : ByteArray) : Ev (fun k => impl_IsName.f k s) (isNameB s) := by
  unfold impl_IsName.f isNameB
  by_cases h0 : s.size = 0
  · simp only [h0]
    refine ev_succ ?_
    simp only [impl_IsName.j0, if_true]
    exact ev_now _
  · have e3 : ¬ ((s.size : Int) < 1) := by omega
    simp only [e3, if_false]
    by_cases h1 : s.size ≤ 12
    · have e1 : ¬ ((s.size : Int) > 12) := by omega
      have e2 : (0 : Int) < (s.size : Int) := by omega
      simp only [e1, e2, if_true, if_false]
      by_cases h2 : bt s 0 < 97
      · simp only [h2, if_true]
        refine ev_succ ?_
        simp only [impl_IsName.j0, if_true]
        exact ev_to (ev_now _) (by simp; omega)
      · simp only [h2, if_false]
        refine ev_succ ?_
        simp only [impl_IsName.j0]
        by_cases h3 : bt s 0 > 122
        · simp only [h3, decide_true, if_true]
          exact ev_to (ev_now _) (by simp; omega)
        · simp only [h3, decide_false, Bool.false_eq_true, if_false]
          refine ev_to (impl_IsName_loop s h1) ?_
          simp [show 1 ≤ s.size by omega, h1, show 97 ≤ bt s 0 by omega, show bt s 0 ≤ 122 by omega]
    · have e1 : ((s.size : Int) > 12) := by omega
      simp only [e1, if_true]
      refine ev_succ ?_
      simp only [impl_IsName.j0, if_true]
      exact ev_to (ev_now _) (by simp [h1])

theorem spec_l00In_eq (a b c : Int) : spec_l00In.f a b c = some (decide (b ≤ a ∧ a ≤ c)) := by
  unfold spec_l00In.f
  by_cases h : a ≥ b
  · rw [if_pos h]; congr 1; simp; omega
  · rw [if_neg h]; congr 1; simp; omega

theorem impl_within_eq (a b c : Int) : impl_within.f a b c = some (decide (b ≤ a ∧ a ≤ c)) := by
  unfold impl_within.f
  by_cases h : a ≥ b
  · rw [if_pos h]; congr 1; simp; omega
  · rw [if_neg h]; congr 1; simp; omega

def joinB (s : ByteArray) (a b : Int) : Bool := isNameB s && (decide (1 ≤ a ∧ a ≤ 1000) && decide (0 ≤ b ∧ b ≤ 1000))
theorem impl_validJoin_ev (s : ByteArray) (a b : Int) : Ev (fun k => impl_validJoin.f k s a b) (joinB s a b) := by
  simp only [impl_validJoin.f, impl_within_eq, Option.bind_some]
  refine Ev.bind (impl_IsName_ev s) ?_
  unfold joinB
  cases isNameB s
  · exact ev_now _
  · by_cases h1 : 1 ≤ a ∧ a ≤ 1000
    · simp only [h1, decide_true, if_true, Bool.true_and, and_self]; exact ev_now _
    · simp only [h1, decide_false, if_true, Bool.true_and, Bool.false_and, Bool.false_eq_true, if_false]; exact ev_now _
theorem spec_l03One_ev (s : ByteArray) (a b : Int) : Ev (fun k => spec_l03One.f k s a b) (joinB s a b, s, a, b) := by
  simp only [spec_l03One.f, spec_l00In_eq, Option.bind_some]
  refine Ev.bind (spec_IsName_ev s) ?_
  unfold joinB
  cases isNameB s
  · exact ev_now _
  · by_cases h1 : 1 ≤ a ∧ a ≤ 1000
    · simp only [h1, decide_true, if_true, Bool.true_and, and_self]; exact ev_now _
    · simp only [h1, decide_false, if_true, Bool.true_and, Bool.false_and, Bool.false_eq_true, if_false]; exact ev_now _

/-! ### decimal forms -/
def decV (n : Int) : ByteArray := ⟨(Lib.itoa n).toArray⟩
def digI (u : Nat) : List Int := (Lib.decDigits u).map fun b => (b.toNat : Int)
theorem digI_one {u : Nat} (h : u < 10) : digI u = [48 + (u : Int)] := by
  unfold digI
  rw [Lib.decDigits, dif_pos h]
  simp only [List.map_cons, List.map_nil, UInt8.toNat_ofNat']
  congr 1
  omega
theorem digI_more {u : Nat} (h : ¬ u < 10) : digI u = digI (u / 10) ++ [48 + ((u % 10 : Nat) : Int)] := by
  unfold digI
  rw [Lib.decDigits, dif_neg h]
  simp only [List.map_append, List.map_cons, List.map_nil, UInt8.toNat_ofNat']
  congr 2
  omega
theorem digI_len (u : Nat) : (digI u).length = Lib.nDigits u := by unfold digI; rw [List.length_map, Lib.decDigits_length]
theorem digI_str (u : Nat) : strOfNums (digI u) = ⟨(Lib.decDigits u).toArray⟩ := by
  unfold strOfNums digI
  rw [List.map_map]
  congr 2
  have e : ((fun n : Int => UInt8.ofNat n.toNat) ∘ fun b : UInt8 => (b.toNat : Int)) = id := by
    funext b
    simp only [Function.comp_apply, Int.toNat_natCast, UInt8.ofNat_toNat, id]
  rw [e, List.map_id]
theorem tdiv10 (x : Int) : (Int.tdiv x 10).natAbs = x.natAbs / 10 := by rw [Int.natAbs_tdiv]; rfl
theorem tmod10 (x : Int) : (Int.tmod x 10).natAbs = x.natAbs % 10 := by rw [Int.natAbs_tmod]; rfl
theorem dec_loop (n : Int) (r : ByteArray) : ∀ (m : Nat) (x : Int) (out : List Int), x.natAbs ≤ m → x ≠ 0 → -9223372036854775808 ≤ x → x ≤ 9223372036854775807 → out.length + Lib.nDigits x.natAbs ≤ 100 →
    Ev (fun k => spec_l01Dec.l0 k n (digI x.natAbs ++ out) 0) r → Ev (fun k => spec_l01Dec.l0 k n out x) r := by
  intro m
  induction m with
  | zero => intro x out h1 h2; omega
  | succ m ih =>
    intro x out h1 h2 h3 h4 h5 hr
    have d1 := tdiv10 x
    have d2 := tmod10 x
    have np := Lib.nDigits_pos x.natAbs
    have q10 : ((x.natAbs % 10 : Nat) : Int) < 10 := Int.ofNat_lt.2 (Nat.mod_lt _ (by decide))
    have e256 : (48 + ((x.natAbs % 10 : Nat) : Int)) % 256 = 48 + ((x.natAbs % 10 : Nat) : Int) := by
      exact Int.emod_eq_of_lt (by have := Int.natCast_nonneg (x.natAbs % 10); omega) (by omega)
    have key : ∀ c : Int, c = 48 + ((x.natAbs % 10 : Nat) : Int) → Ev (fun k => spec_l01Dec.l0 k n ([c] ++ out) (wrap64 (Int.tdiv x 10))) r := by
      intro c hc
      have w : wrap64 (Int.tdiv x 10) = Int.tdiv x 10 := w64 (by omega) (by omega)
      rw [w]
      by_cases hx : x.natAbs < 10
      · have e0 : Int.tdiv x 10 = 0 := by omega
        rw [digI_one hx] at hr
        rw [e0, hc, Nat.mod_eq_of_lt hx]
        exact hr
      · rw [digI_more hx, ← hc, List.append_assoc, ← d1] at hr
        rw [Lib.nDigits_big hx] at h5
        exact ih (Int.tdiv x 10) ([c] ++ out) (by omega) (by omega) (by omega) (by omega) (by rw [d1]; simp only [List.length_append, List.length_singleton]; omega) hr
    refine ev_succ ?_
    by_cases hs : Int.tmod x 10 < 0
    · have w1 : wrap64 (-(Int.tmod x 10)) = ((x.natAbs % 10 : Nat) : Int) := by rw [w64 (by omega) (by omega)]; omega
      have w2 : wrap64 (48 + ((x.natAbs % 10 : Nat) : Int)) = 48 + ((x.natAbs % 10 : Nat) : Int) := w64 (by omega) (by omega)
      simp only [spec_l01Dec.l0, h2, hs, if_true, if_false, Option.bind_some, w1, w2, List.length_singleton, show 1 + out.length < 140737488355328 by omega]
      exact key _ e256
    · have w1 : wrap64 (48 + Int.tmod x 10) = 48 + ((x.natAbs % 10 : Nat) : Int) := by rw [w64 (by omega) (by omega)]; omega
      simp only [spec_l01Dec.l0, h2, hs, if_true, if_false, Option.bind_some, w1, List.length_singleton, show 1 + out.length < 140737488355328 by omega]
      exact key _ e256
theorem nDigits_le (u : Nat) (h : u ≤ 9223372036854775808) : Lib.nDigits u ≤ 20 := by
  have step : ∀ (d u : Nat), u < 10 ^ d → Lib.nDigits u ≤ d + 1 := by
    intro d
    induction d with
    | zero => intro u h; rw [Lib.nDigits_small (by simp at h; omega)]; omega
    | succ d ih =>
      intro u h
      by_cases c : u < 10
      · rw [Lib.nDigits_small c]; omega
      · rw [Lib.nDigits_big c]
        have := ih (u / 10) (by rw [Nat.pow_succ] at h; omega)
        omega
  exact step 19 u (by omega)
theorem append45 (l : List UInt8) : (⟨#[45]⟩ : ByteArray) ++ (⟨l.toArray⟩ : ByteArray) = ⟨(45 :: l).toArray⟩ := by
  apply ByteArray.ext
  rw [ByteArray.data_append]
  simp
theorem spec_l01Dec_ev (n : Int) (h0 : -9223372036854775808 ≤ n) (h1 : n ≤ 9223372036854775807) : Ev (fun k => spec_l01Dec.f k n) (decV n) := by
  simp only [spec_l01Dec.f]
  by_cases hz : n = 0
  · subst hz
    refine ev_succ ?_
    simp only [spec_l01Dec.l0, if_true, List.length_nil]
    refine ev_to (ev_now _) ?_
    unfold decV Lib.itoa
    rw [if_neg (by decide), Lib.decDigits, dif_pos (by decide)]
    rfl
  · have np := Lib.nDigits_pos n.natAbs
    have nl := nDigits_le n.natAbs (by omega)
    refine dec_loop n _ n.natAbs n [] (Nat.le_refl _) hz h0 h1 (by simp only [List.length_nil]; omega) ?_
    refine ev_succ ?_
    simp only [spec_l01Dec.l0, if_true, List.append_nil, digI_len, show ¬ ((Lib.nDigits n.natAbs : Nat) : Int) = 0 by omega, if_false]
    by_cases hs : n < 0
    · simp only [hs, if_true, strOfNums_size, digI_len, show 1 + Lib.nDigits n.natAbs ≤ 9223372036854775807 by omega]
      refine ev_to (ev_now _) ?_
      unfold decV Lib.itoa
      rw [digI_str, append45, if_pos hs]
    · simp only [hs, if_false]
      refine ev_to (ev_now _) ?_
      unfold decV Lib.itoa
      rw [digI_str, if_neg hs, show n.natAbs = n.toNat by omega]
theorem impl_Decimal_eq (n : Int) (h0 : -9223372036854775808 ≤ n) (h1 : n ≤ 9223372036854775807) : impl_Decimal.f n = some (decV n) := by
  simp only [impl_Decimal.f, strconv_FormatInt.f, h0, h1, and_self, if_true, Option.bind_some]
  rfl

theorem decV_size (n : Int) (h0 : -9223372036854775808 ≤ n) (h1 : n ≤ 9223372036854775807) : (decV n).size ≤ 21 := by
  have e : (decV n).size = (Lib.itoa n).length := by unfold decV; simp [ByteArray.size]
  rw [e]
  unfold Lib.itoa
  split
  · rw [List.length_cons, Lib.decDigits_length]; have := nDigits_le n.natAbs (by omega); omega
  · rw [Lib.decDigits_length]; have := nDigits_le n.toNat (by omega); omega
def joinTxt (s : ByteArray) (a b : Int) : ByteArray := ((((s ++ (⟨#[32]⟩ : ByteArray)) ++ decV a) ++ (⟨#[47, 49, 48, 48, 48, 32, 116, 97, 107, 101, 115, 32]⟩ : ByteArray)) ++ decV b)
theorem joinB_is {s : ByteArray} {a b : Int} (h : joinB s a b = true) : s.size ≤ 12 ∧ (1 ≤ a ∧ a ≤ 1000) ∧ (0 ≤ b ∧ b ≤ 1000) := by
  unfold joinB isNameB at h
  simp only [Bool.and_eq_true, decide_eq_true_eq] at h
  exact ⟨h.1.2.1, h.2.1, h.2.2⟩
theorem join_sizes (s : ByteArray) (a b : Int) (hs : s.size ≤ 12) (ha : 1 ≤ a ∧ a ≤ 1000) (hb : 0 ≤ b ∧ b ≤ 1000) :
    s.size + 1 ≤ 9223372036854775807 ∧ (s ++ (⟨#[32]⟩ : ByteArray)).size + (decV a).size ≤ 9223372036854775807 ∧ ((s ++ (⟨#[32]⟩ : ByteArray)) ++ decV a).size + 12 ≤ 9223372036854775807 ∧
    (((s ++ (⟨#[32]⟩ : ByteArray)) ++ decV a) ++ (⟨#[47, 49, 48, 48, 48, 32, 116, 97, 107, 101, 115, 32]⟩ : ByteArray)).size + (decV b).size ≤ 9223372036854775807 := by
  have z1 : ((⟨#[32]⟩ : ByteArray)).size = 1 := rfl
  have z2 : ((⟨#[47, 49, 48, 48, 48, 32, 116, 97, 107, 101, 115, 32]⟩ : ByteArray)).size = 12 := rfl
  have da := decV_size a (by omega) (by omega)
  have db := decV_size b (by omega) (by omega)
  simp only [ByteArray.size_append, z1, z2]
  omega
theorem spec_l03TextAt_ev (x : S26) (h : joinB x.f0 x.f1 x.f2 = true) : Ev (fun k => spec_l03TextAt.f k [x]) (joinTxt x.f0 x.f1 x.f2) := by
  have e0 : rd_T26 [x] 0 = x := rfl
  have l0 : (0 : Int) < (([x] : List S26).length : Int) := by simp
  obtain ⟨h0, ha, hb⟩ := joinB_is h
  obtain ⟨q1, q2, q3, q4⟩ := join_sizes x.f0 x.f1 x.f2 h0 ha hb
  simp only [spec_l03TextAt.f, e0, l0, if_true, q1]
  refine Ev.bind (spec_l01Dec_ev x.f1 (by omega) (by omega)) ?_
  simp only [q2, q3, if_true]
  refine Ev.bind (spec_l01Dec_ev x.f2 (by omega) (by omega)) ?_
  simp only [q4, if_true]
  exact ev_now _
def joinTxtV (s : ByteArray) (a b : Int) : ByteArray := if joinB s a b = true then joinTxt s a b else (⟨#[]⟩ : ByteArray)
theorem spec_JoinText_ev (s : ByteArray) (a b : Int) : Ev (fun k => spec_JoinText.f k s a b) (joinTxtV s a b) := by
  simp only [spec_JoinText.f]
  refine Ev.bind (spec_l03One_ev s a b) ?_
  unfold joinTxtV
  by_cases h : joinB s a b = true
  · simp only [h, if_true]
    exact Ev.bind (spec_l03TextAt_ev (⟨s, a, b⟩ : S26) h) (ev_now _)
  · simp only [h]; exact ev_now _
theorem impl_JoinText_ev (s : ByteArray) (a b : Int) : Ev (fun k => impl_JoinText.f k s a b) (joinTxtV s a b) := by
  simp only [impl_JoinText.f]
  refine Ev.bind (impl_validJoin_ev s a b) ?_
  unfold joinTxtV
  by_cases h : joinB s a b = true
  · obtain ⟨h0, ha, hb⟩ := joinB_is h
    obtain ⟨q1, q2, q3, q4⟩ := join_sizes s a b h0 ha hb
    simp only [h, if_true, q1, impl_Decimal_eq a (by omega) (by omega), impl_Decimal_eq b (by omega) (by omega), Option.bind_some, q2, q3, q4]
    exact ev_now _
  · simp only [h]; exact ev_now _
theorem FnExactJoinText : laws_FnExactJoinText.Pure := by
  intro s a b hs ha hb
  refine Ev.rounds ?_
  simp only [laws_FnExactJoinText.f, laws_szJoin.f, laws_toJoin.f, Option.bind_some]
  by_cases h' : wrap64 (1048576 - (s.size : Int)) < 0
  · simp only [h', if_true, Option.bind_some, show (-1 : Int) < 0 by decide]; exact ev_now _
  simp only [h', if_false, Option.bind_some]
  refine Ev.bind (spec_JoinText_ev s a b) (Ev.bind (impl_JoinText_ev s a b) ?_)
  simp only [if_true]
  exact ev_now _

end Go.Proofs.YtginmioklkcgbaaDoor.Pure

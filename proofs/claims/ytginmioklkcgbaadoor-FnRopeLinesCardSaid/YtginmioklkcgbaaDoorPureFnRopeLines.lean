/- The pure statement of FnRopeLines: numbers and lists alone. No condition. -/
import Derived.Test.YtginmioklkcgbaaDoorQFnRopeLinesx7
import Derived.Test.YtginmioklkcgbaaDoorAid
namespace Go.Proofs.YtginmioklkcgbaaDoor.Pure
open Go.RowKit Go.Proofs.YtginmioklkcgbaaDoor.QFnRopeLines Go.Proofs.YtginmioklkcgbaaDoorW.PrintWords Go.Proofs.YtginmioklkcgbaaDoorW.PrintLast Go.Proofs.YtginmioklkcgbaaDoorW.PrintMore Go.Proofs.YtginmioklkcgbaaDoor.Aid
set_option linter.unusedVariables false
set_option linter.unusedSimpArgs false

/-! ### the drawn source -/
def byteL (l : List Int) : Prop := ∀ y ∈ l, 0 ≤ y ∧ y ≤ 255
theorem u8_range {a : Int} (h : (Lit.int .u8 a).wf = true) : 0 ≤ a ∧ a ≤ 255 := by
  simp only [Lit.wf, IntKind.min, IntKind.max, IntKind.signed, IntKind.bits, Bool.and_eq_true, decide_eq_true_eq, Bool.false_eq_true, if_false] at h
  omega
theorem and255 (a : Int) : 0 ≤ Go.bits .and .u64 a 255 ∧ Go.bits .and .u64 a 255 ≤ 255 := by
  show 0 ≤ IntKind.u64.wrap ((BitVec.ofInt 64 a &&& BitVec.ofInt 64 255).toNat : Int) ∧ IntKind.u64.wrap ((BitVec.ofInt 64 a &&& BitVec.ofInt 64 255).toNat : Int) ≤ 255
  have h : (BitVec.ofInt 64 a &&& BitVec.ofInt 64 255).toNat ≤ 255 := by rw [BitVec.toNat_and]; exact Nat.le_trans Nat.and_le_right (by decide)
  rw [IntKind.wrap_u64]
  omega
theorem rd_byte {l : List Int} (hl : byteL l) (i : Int) : 0 ≤ rd l i ∧ rd l i ≤ 255 := by
  unfold rd
  rw [List.getD_eq_getElem?_getD]
  cases e : l[i.toNat]? with
  | none => exact ⟨Int.le_refl _, by decide⟩
  | some v => exact hl v (List.mem_of_getElem? e)
theorem src_next_ev {l : List Int} (hl : byteL l) (p s : Int) (hp : 0 ≤ p ∧ p ≤ 1000000) : ∃ v s', spec_l00Src_next.f l p s = some (v, p + 1, s') ∧ 0 ≤ v ∧ v ≤ 255 := by
  have w1 : wrap64 (p + 1) = p + 1 := w64 (by omega) (by omega)
  have r := rd_byte hl p
  have w2 : wrap64 (rd l p) = rd l p := w64 (by omega) (by omega)
  simp only [spec_l00Src_next.f, w1]
  by_cases a : p < (l.length : Int)
  · simp only [a, hp.1, show p + 1 ≤ (l.length : Int) by omega, if_true, w2]
    exact ⟨_, _, rfl, r⟩
  · simp only [a, show ¬ p + 1 ≤ (l.length : Int) by omega, if_false]
    refine ⟨_, _, rfl, ?_⟩
    have := and255 ((IntKind.u64.wrap ((IntKind.u64.wrap ((IntKind.u64.wrap (s * 6364136223846793005)) + 0)) + 1442695040888963407)) / 1099511627776)
    rw [w64 (by omega) (by omega)]
    exact this
theorem src_pick_ev {l : List Int} (hl : byteL l) (p s n : Int) (hp : 0 ≤ p ∧ p ≤ 1000000) (hn : 2 ≤ n ∧ n ≤ 200) : ∃ v s', spec_l00Src_pick.f l p s n = some (v, p + 1, s') ∧ 0 ≤ v ∧ v < n := by
  obtain ⟨v, s', h, h1, h2⟩ := src_next_ev hl p s hp
  simp only [spec_l00Src_pick.f, show ¬ n ≤ 1 by omega, show ¬ n > 200 by omega, show ¬ n = 0 by omega, if_false, h, Option.bind_some]
  exact ⟨_, _, rfl, Int.tmod_nonneg _ h1, Int.tmod_lt_of_pos _ (by omega)⟩

/-! ### small helpers of the laws -/
theorem a2At_ev {l : List Int} (hl : byteL l) (at' n : Int) (h0 : 0 ≤ at') (hn : 1 ≤ n ∧ n ≤ 1000000) : ∃ v, laws_a2At.f l at' n = some v ∧ 0 ≤ v ∧ v < n := by
  have r := rd_byte hl at'
  simp only [laws_a2At.f]
  by_cases hz : at' ≥ (l.length : Int)
  · exact ⟨0, by simp only [hz, if_true], by omega, by omega⟩
  · simp only [hz, show ¬ n < 1 by omega, h0, show at' < (l.length : Int) by omega, show ¬ n = 0 by omega, if_true, if_false]
    refine ⟨_, rfl, ?_⟩
    rw [w64 (by omega) (by omega)]
    exact ⟨Int.tmod_nonneg _ r.1, Int.tmod_lt_of_pos _ (by omega)⟩
theorem a2Long_ev (l m : List Int) : ∃ b, laws_a2Long.f l m = some b := by unfold laws_a2Long.f; split <;> exact ⟨_, rfl⟩

/-! ### drawn ropes -/
def nm5 : List ByteArray := [(⟨#[104, 101, 109, 112]⟩ : ByteArray), (⟨#[109, 97, 110, 105, 108, 97]⟩ : ByteArray), (⟨#[119, 105, 114, 101, 45, 54]⟩ : ByteArray), (⟨#[99, 111, 116, 116, 111, 110]⟩ : ByteArray), (⟨#[115, 105, 115, 97, 108]⟩ : ByteArray)]
theorem nm5_name : ∀ n, n < 5 → isNameB (nm5.getD n ByteArray.empty) = true := by decide +kernel
theorem called_ev {l : List Int} (hl : byteL l) (p s : Int) (hp : 0 ≤ p ∧ p ≤ 900000) (nm : ByteArray) : ∃ a b c s', spec_l02Called.f l p s nm = some (nm, a, b, c, p + 1 + 1 + 1, s') ∧ (1 ≤ a ∧ a ≤ 1000) ∧ (1 ≤ b ∧ b ≤ 1000000) ∧ (1 ≤ c ∧ c ≤ 100000) := by
  obtain ⟨v1, s1, a1, b1⟩ := src_pick_ev hl p s 10 (by omega) (by omega)
  obtain ⟨v2, s2, a2, b2⟩ := src_pick_ev hl (p + 1) s1 40 (by omega) (by omega)
  obtain ⟨v3, s3, a3, b3⟩ := src_pick_ev hl (p + 1 + 1) s2 30 (by omega) (by omega)
  refine ⟨wrap64 (40 + (wrap64 (20 * v1))), wrap64 (500 * (wrap64 (1 + v2))), wrap64 (50 * (wrap64 (1 + v3))), s3, ?_, ?_, ?_, ?_⟩
  · simp only [spec_l02Called.f, a1, a2, a3, Option.bind_some]
  · rw [w64 (n := 20 * v1) (by omega) (by omega), w64 (by omega) (by omega)]; omega
  · rw [w64 (n := 1 + v2) (by omega) (by omega), w64 (by omega) (by omega)]; omega
  · rw [w64 (n := 1 + v3) (by omega) (by omega), w64 (by omega) (by omega)]; omega

theorem toList_nil_iff (s : ByteArray) : s.toList = ([] : List UInt8) ↔ s.size = 0 := by
  rw [← List.length_eq_zero_iff, ByteArray.toList_eq, Array.length_toList]
  exact Iff.rfl
theorem impl_IsName_loop (s : ByteArray) (hs : s.size ≤ 12) : Ev (fun k => impl_IsName.l0 k s 0) ((List.range s.size).all fun i => nameCh (bt s i)) := by
  refine ev_to (ev_all (len := s.size) (g := fun k i => impl_IsName.l0 k s i) (fun i => nameCh (bt s i)) true ?_ ?_ ?_) (by simp)
  · intro n hn hp r hr
    refine ev_succ ?_
    simp only [impl_IsName.l0]
    unfold nameCh at hp
    simp only [Bool.or_eq_true, decide_eq_true_eq] at hp
    have e0 : (n : Int) < (s.size : Int) := by omega
    simp only [e0, show (0 : Int) ≤ (n : Int) from Int.natCast_nonneg n, if_true, wnext hn (by omega : s.size ≤ 9223372036854775807)]
    by_cases d1 : bt s n < 97 <;> by_cases d2 : bt s n > 122 <;> by_cases d3 : bt s n < 48 <;> by_cases d4 : bt s n > 57 <;> by_cases d5 : bt s n = 45 <;>
      first | (exfalso; omega) | (simp only [d1, d2, d3, d4, d5, if_true, if_false]; exact hr)
  · intro n hn hp
    refine ev_succ ?_
    simp only [impl_IsName.l0]
    unfold nameCh at hp
    simp only [Bool.or_eq_false_iff, decide_eq_false_iff_not] at hp
    have e0 : (n : Int) < (s.size : Int) := by omega
    simp only [e0, show (0 : Int) ≤ (n : Int) from Int.natCast_nonneg n, if_true]
    by_cases d1 : bt s n < 97 <;> by_cases d2 : bt s n > 122 <;> by_cases d3 : bt s n < 48 <;> by_cases d4 : bt s n > 57 <;> by_cases d5 : bt s n = 45 <;>
      first | (exfalso; omega) | (simp only [d1, d2, d3, d4, d5, if_true, if_false]; exact ev_now _)
  · refine ev_succ ?_
    simp only [impl_IsName.l0, Int.lt_irrefl, if_false]
    exact ev_now _
theorem impl_IsName_ev (s : ByteArray) : Ev (fun k => impl_IsName.f k s) (isNameB s) := by
  unfold impl_IsName.f isNameB
  by_cases h0 : s.size = 0
  · simp only [h0]
    refine ev_succ ?_
    simp only [impl_IsName.j0, if_true]
    exact ev_now _
  · have e3 : ¬ ((s.size : Int) < 1) := by omega
    simp only [e3, if_false]
    by_cases h1 : s.size ≤ 12
    · have e1 : ¬ ((s.size : Int) > 12) := by omega
      have e2 : (0 : Int) < (s.size : Int) := by omega
      simp only [e1, e2, if_true, if_false]
      by_cases h2 : bt s 0 < 97
      · simp only [h2, if_true]
        refine ev_succ ?_
        simp only [impl_IsName.j0, if_true]
        exact ev_to (ev_now _) (by simp; omega)
      · simp only [h2, if_false]
        refine ev_succ ?_
        simp only [impl_IsName.j0]
        by_cases h3 : bt s 0 > 122
        · simp only [h3, decide_true, if_true]
          exact ev_to (ev_now _) (by simp; omega)
        · simp only [h3, decide_false, Bool.false_eq_true, if_false]
          refine ev_to (impl_IsName_loop s h1) ?_
          simp [show 1 ≤ s.size by omega, h1, show 97 ≤ bt s 0 by omega, show bt s 0 ≤ 122 by omega]
    · have e1 : ((s.size : Int) > 12) := by omega
      simp only [e1, if_true]
      refine ev_succ ?_
      simp only [impl_IsName.j0, if_true]
      exact ev_to (ev_now _) (by simp [h1])


theorem impl_within_eq (a b c : Int) : impl_within.f a b c = some (decide (b ≤ a ∧ a ≤ c)) := by
  unfold impl_within.f
  by_cases h : a ≥ b
  · rw [if_pos h]; congr 1; simp; omega
  · rw [if_neg h]; congr 1; simp; omega

theorem impl_validRope_ev (s : ByteArray) (a b c : Int) : Ev (fun k => impl_validRope.f k s a b c) (ropeB s a b c) := by
  simp only [impl_validRope.f, impl_within_eq, Option.bind_some]
  refine Ev.bind (impl_IsName_ev s) ?_
  unfold ropeB
  cases isNameB s
  · exact ev_now _
  · by_cases h1 : 1 ≤ a ∧ a ≤ 1000
    · by_cases h2 : 1 ≤ b ∧ b ≤ 1000000
      · simp only [h1, h2, decide_true, if_true, Bool.true_and, and_self]; exact ev_now _
      · simp only [h1, h2, decide_true, decide_false, if_true, Bool.true_and, Bool.false_and, and_self, Bool.false_eq_true, if_false]; exact ev_now _
    · simp only [h1, decide_false, if_true, Bool.true_and, Bool.false_and, Bool.false_eq_true, if_false]; exact ev_now _

/-! ### decimal forms -/
def decV (n : Int) : ByteArray := ⟨(Lib.itoa n).toArray⟩
def digI (u : Nat) : List Int := (Lib.decDigits u).map fun b => (b.toNat : Int)
theorem digI_one {u : Nat} (h : u < 10) : digI u = [48 + (u : Int)] := by
  unfold digI
  rw [Lib.decDigits, dif_pos h]
  simp only [List.map_cons, List.map_nil, UInt8.toNat_ofNat']
  congr 1
  omega
theorem digI_more {u : Nat} (h : ¬ u < 10) : digI u = digI (u / 10) ++ [48 + ((u % 10 : Nat) : Int)] := by
  unfold digI
  rw [Lib.decDigits, dif_neg h]
  simp only [List.map_append, List.map_cons, List.map_nil, UInt8.toNat_ofNat']
  congr 2
  omega
theorem digI_len (u : Nat) : (digI u).length = Lib.nDigits u := by unfold digI; rw [List.length_map, Lib.decDigits_length]
theorem digI_str (u : Nat) : strOfNums (digI u) = ⟨(Lib.decDigits u).toArray⟩ := by
  unfold strOfNums digI
  rw [List.map_map]
  congr 2
  have e : ((fun n : Int => UInt8.ofNat n.toNat) ∘ fun b : UInt8 => (b.toNat : Int)) = id := by
    funext b
    simp only [Function.comp_apply, Int.toNat_natCast, UInt8.ofNat_toNat, id]
  rw [e, List.map_id]
theorem tdiv10 (x : Int) : (Int.tdiv x 10).natAbs = x.natAbs / 10 := by rw [Int.natAbs_tdiv]; rfl
theorem tmod10 (x : Int) : (Int.tmod x 10).natAbs = x.natAbs % 10 := by rw [Int.natAbs_tmod]; rfl
theorem nDigits_le (u : Nat) (h : u ≤ 9223372036854775808) : Lib.nDigits u ≤ 20 := by
  have step : ∀ (d u : Nat), u < 10 ^ d → Lib.nDigits u ≤ d + 1 := by
    intro d
    induction d with
    | zero => intro u h; rw [Lib.nDigits_small (by simp at h; omega)]; omega
    | succ d ih =>
      intro u h
      by_cases c : u < 10
      · rw [Lib.nDigits_small c]; omega
      · rw [Lib.nDigits_big c]
        have := ih (u / 10) (by rw [Nat.pow_succ] at h; omega)
        omega
  exact step 19 u (by omega)
theorem append45 (l : List UInt8) : (⟨#[45]⟩ : ByteArray) ++ (⟨l.toArray⟩ : ByteArray) = ⟨(45 :: l).toArray⟩ := by
  apply ByteArray.ext
  rw [ByteArray.data_append]
  simp
theorem impl_Decimal_eq (n : Int) (h0 : -9223372036854775808 ≤ n) (h1 : n ≤ 9223372036854775807) : impl_Decimal.f n = some (decV n) := by
  simp only [impl_Decimal.f, strconv_FormatInt.f, h0, h1, and_self, if_true, Option.bind_some]
  rfl

theorem decV_size (n : Int) (h0 : -9223372036854775808 ≤ n) (h1 : n ≤ 9223372036854775807) : (decV n).size ≤ 21 := by
  have e : (decV n).size = (Lib.itoa n).length := by unfold decV; simp [ByteArray.size]
  rw [e]
  unfold Lib.itoa
  split
  · rw [List.length_cons, Lib.decDigits_length]; have := nDigits_le n.natAbs (by omega); omega
  · rw [Lib.decDigits_length]; have := nDigits_le n.toNat (by omega); omega
def ropeTxt (s : ByteArray) (a b c : Int) : ByteArray := ((((((s ++ (⟨#[32, 115, 105, 122, 101, 32]⟩ : ByteArray)) ++ decV a) ++ (⟨#[32, 115, 116, 114, 101, 110, 103, 116, 104, 32]⟩ : ByteArray)) ++ decV b) ++ (⟨#[32, 119, 101, 105, 103, 104, 116, 32]⟩ : ByteArray)) ++ decV c)
theorem ropeB_is {s : ByteArray} {a b c : Int} (h : ropeB s a b c = true) : s.size ≤ 12 ∧ (1 ≤ a ∧ a ≤ 1000) ∧ (1 ≤ b ∧ b ≤ 1000000) ∧ (1 ≤ c ∧ c ≤ 100000) := by
  unfold ropeB isNameB at h
  simp only [Bool.and_eq_true, decide_eq_true_eq] at h
  exact ⟨h.1.2.1, h.2.1, h.2.2.1, h.2.2.2⟩
theorem rope_sizes (s : ByteArray) (a b c : Int) (hs : s.size ≤ 12) (ha : 1 ≤ a ∧ a ≤ 1000) (hb : 1 ≤ b ∧ b ≤ 1000000) (hc : 1 ≤ c ∧ c ≤ 100000) :
    s.size + 6 ≤ 9223372036854775807 ∧ (s ++ (⟨#[32, 115, 105, 122, 101, 32]⟩ : ByteArray)).size + (decV a).size ≤ 9223372036854775807 ∧ ((s ++ (⟨#[32, 115, 105, 122, 101, 32]⟩ : ByteArray)) ++ decV a).size + 10 ≤ 9223372036854775807 ∧
    (((s ++ (⟨#[32, 115, 105, 122, 101, 32]⟩ : ByteArray)) ++ decV a) ++ (⟨#[32, 115, 116, 114, 101, 110, 103, 116, 104, 32]⟩ : ByteArray)).size + (decV b).size ≤ 9223372036854775807 ∧
    ((((s ++ (⟨#[32, 115, 105, 122, 101, 32]⟩ : ByteArray)) ++ decV a) ++ (⟨#[32, 115, 116, 114, 101, 110, 103, 116, 104, 32]⟩ : ByteArray)) ++ decV b).size + 8 ≤ 9223372036854775807 ∧
    (((((s ++ (⟨#[32, 115, 105, 122, 101, 32]⟩ : ByteArray)) ++ decV a) ++ (⟨#[32, 115, 116, 114, 101, 110, 103, 116, 104, 32]⟩ : ByteArray)) ++ decV b) ++ (⟨#[32, 119, 101, 105, 103, 104, 116, 32]⟩ : ByteArray)).size + (decV c).size ≤ 9223372036854775807 := by
  have z1 : ((⟨#[32, 115, 105, 122, 101, 32]⟩ : ByteArray)).size = 6 := rfl
  have z2 : ((⟨#[32, 115, 116, 114, 101, 110, 103, 116, 104, 32]⟩ : ByteArray)).size = 10 := rfl
  have z3 : ((⟨#[32, 119, 101, 105, 103, 104, 116, 32]⟩ : ByteArray)).size = 8 := rfl
  have da := decV_size a (by omega) (by omega)
  have db := decV_size b (by omega) (by omega)
  have dc := decV_size c (by omega) (by omega)
  simp only [ByteArray.size_append, z1, z2, z3]
  omega
def ropeTxtV (s : ByteArray) (a b c : Int) : ByteArray := if ropeB s a b c = true then ropeTxt s a b c else (⟨#[]⟩ : ByteArray)
theorem impl_RopeText_ev (s : ByteArray) (a b c : Int) : Ev (fun k => impl_RopeText.f k s a b c) (ropeTxtV s a b c) := by
  simp only [impl_RopeText.f]
  refine Ev.bind (impl_validRope_ev s a b c) ?_
  unfold ropeTxtV
  by_cases h : ropeB s a b c = true
  · obtain ⟨h0, ha, hb, hc⟩ := ropeB_is h
    obtain ⟨q1, q2, q3, q4, q5, q6⟩ := rope_sizes s a b c h0 ha hb hc
    simp only [h, if_true, q1, impl_Decimal_eq a (by omega) (by omega), impl_Decimal_eq b (by omega) (by omega), impl_Decimal_eq c (by omega) (by omega), Option.bind_some, q2, q3, q4, q5, q6]
    exact ev_now _
  · simp only [h]; exact ev_now _

theorem bt_get (s : ByteArray) {i : Nat} (h : i < s.size) : bt s (i : Int) = ((s.data.toList[i]'(by rw [Array.length_toList]; exact h)).toNat : Int) := by
  unfold bt
  rw [dif_pos (show ((i : Int)).toNat < s.size by rw [Int.toNat_natCast]; exact h)]
  simp only [Int.toNat_natCast]
  rfl
def toBA (l : List UInt8) : ByteArray := ⟨l.toArray⟩
theorem toBA_data (s : ByteArray) : toBA s.data.toList = s := by unfold toBA; simp
theorem data_toBA (l : List UInt8) : (toBA l).data.toList = l := by unfold toBA; simp
theorem extract_BA (s : ByteArray) (a b : Nat) : s.extract a b = toBA ((s.data.toList.drop a).take (b - a)) := by
  unfold toBA
  apply ByteArray.ext
  rw [ByteArray.data_extract]
  apply Array.ext'
  simp [List.take_drop]

/-! ### a text cut at a byte -/
def splA (c : UInt8) : List UInt8 → List UInt8 → List (List UInt8)
  | cur, [] => [cur]
  | cur, b :: l => if b = c then cur :: splA c [] l else splA c (cur ++ [b]) l
def onHead (cur : List UInt8) : List (List UInt8) → List (List UInt8)
  | [] => []
  | h :: t => (cur ++ h) :: t
theorem onHead_nil (l : List (List UInt8)) : onHead [] l = l := by cases l <;> rfl
theorem splitK_ne (sep : List UInt8) (sv k : Nat) (l : List UInt8) : ∃ h t, Lib.splitK sep sv k l = h :: t := by
  cases k with
  | zero => exact ⟨_, _, rfl⟩
  | succ k => unfold Lib.splitK; split <;> exact ⟨_, _, rfl⟩
theorem splitK_cons_ne {b c : UInt8} (h : b ≠ c) (l : List UInt8) (k : Nat) : Lib.splitK [c] 0 k (b :: l) = onHead [b] (Lib.splitK [c] 0 k l) := by
  cases k with
  | zero => rfl
  | succ k =>
    have hp : ([c] : List UInt8).isPrefixOf (b :: l) = false := by simp [List.isPrefixOf, Ne.symm h]
    have hix : Lib.index (b :: l) [c] = if Lib.index l [c] == -1 then -1 else Lib.index l [c] + 1 := by rw [Lib.index, hp]; simp
    have hge := Lib.index_ge l [c]
    unfold Lib.splitK
    by_cases hm : Lib.index l [c] = -1
    · rw [if_pos (by rw [hix, if_pos (beq_iff_eq.2 hm)]; rfl), if_pos (beq_iff_eq.2 hm)]; rfl
    · obtain ⟨j, hj⟩ : ∃ j : Nat, Lib.index l [c] = j := ⟨(Lib.index l [c]).toNat, by omega⟩
      have hb : (Lib.index l [c] == -1) = false := beq_eq_false_iff_ne.2 hm
      rw [hix, hb, hj]
      simp only [Bool.false_eq_true, if_false]
      have e2 : (((j : Int) + 1) == -1) = false := beq_eq_false_iff_ne.2 (by omega)
      have e3 : ((j : Int) == -1) = false := beq_eq_false_iff_ne.2 (by omega)
      rw [e2]
      simp only [Bool.false_eq_true, if_false]
      rw [show ((j : Int) + 1).toNat = j + 1 by omega, Int.toNat_natCast]
      simp [onHead, Nat.add_assoc, List.take_succ_cons]
theorem splitK_cons_eq (c : UInt8) (l : List UInt8) (k : Nat) : Lib.splitK [c] 0 (k + 1) (c :: l) = [] :: Lib.splitK [c] 0 k l := by
  have hix : Lib.index (c :: l) [c] = 0 := by rw [Lib.index]; simp [List.isPrefixOf]
  rw [Lib.splitK, hix]
  simp
theorem splA_eq (c : UInt8) : ∀ (l cur : List UInt8), splA c cur l = onHead cur (Lib.splitK [c] 0 (Lib.count l [c]) l)
  | [], cur => by
    rw [Lib.count_one]
    simp [splA, Lib.splitK, onHead]
  | b :: l, cur => by
    unfold splA
    by_cases h : b = c
    · subst h
      rw [if_pos rfl, splA_eq b l [], onHead_nil, Lib.count_cons_eq, Nat.add_comm, splitK_cons_eq]
      simp [onHead]
    · rw [if_neg h, splA_eq c l (cur ++ [b]), Lib.count_cons_ne b c l h, splitK_cons_ne h]
      obtain ⟨x, t, e⟩ := splitK_ne [c] 0 (Lib.count l [c]) l
      rw [e]
      simp [onHead]
def cutB (c : UInt8) (s : ByteArray) : List ByteArray := (splA c [] s.data.toList).map toBA
theorem splA_len (c : UInt8) : ∀ (l cur : List UInt8), (splA c cur l).length ≤ l.length + 1
  | [], cur => by simp [splA]
  | b :: l, cur => by
    unfold splA
    split
    · have := splA_len c l []; simp only [List.length_cons]; omega
    · have := splA_len c l (cur ++ [b]); simp only [List.length_cons]; omega
theorem cutB_len (c : UInt8) (s : ByteArray) : (cutB c s).length ≤ s.size + 1 := by
  unfold cutB
  rw [List.length_map]
  have := splA_len c s.data.toList []
  rw [Array.length_toList] at this
  exact this
theorem splitB_cut (c : UInt8) (s : ByteArray) : Lib.splitB ⟨#[c]⟩ 0 (Lib.countB s ⟨#[c]⟩) s = cutB c s := by
  have h := Lib.splitB_data ⟨#[c]⟩ 0 (Lib.countB s ⟨#[c]⟩) s
  have e : Lib.splitK [c] 0 (Lib.count s.data.toList [c]) s.data.toList = splA c [] s.data.toList := by rw [splA_eq, onHead_nil]
  have h' : (Lib.splitB ⟨#[c]⟩ 0 (Lib.countB s ⟨#[c]⟩) s).map (·.data.toList) = splA c [] s.data.toList := h.trans e
  unfold cutB
  rw [← h', List.map_map]
  have e2 : (toBA ∘ fun x : ByteArray => x.data.toList) = id := by funext x; exact toBA_data x
  rw [e2, List.map_id]

theorem bt_data (s : ByteArray) {i : Nat} (h : i < s.size) (c : UInt8) : (bt s (i : Int) = (c.toNat : Int)) ↔ s.data.toList[i]'(by rw [Array.length_toList]; exact h) = c := by
  rw [bt_get s h]
  constructor
  · intro h2
    exact UInt8.toNat_inj.1 (by omega)
  · intro h2
    rw [h2]
theorem splA_cons (c : UInt8) (cur : List UInt8) (b : UInt8) (l : List UInt8) : splA c cur (b :: l) = if b = c then cur :: splA c [] l else splA c (cur ++ [b]) l := rfl
theorem strings_Split_eq (s : ByteArray) (hs : s.size ≤ 1048576) (c : UInt8) : strings_Split.f s (⟨#[c]⟩ : ByteArray) = some (cutB c s) := by
  unfold strings_Split.f
  rw [if_pos ⟨by omega, by show 1 ≤ 1; omega⟩, splitB_cut]

/-! ### numbers read -/
def isDig (b : UInt8) : Bool := decide (48 ≤ (b.toNat : Int)) && decide ((b.toNat : Int) ≤ 57)
def digV (l : List UInt8) : Int := l.foldl (fun a b => 10 * a + ((b.toNat : Int) - 48)) 0
theorem digV_snoc (l : List UInt8) (b : UInt8) : digV (l ++ [b]) = 10 * digV l + ((b.toNat : Int) - 48) := by unfold digV; rw [List.foldl_append]; rfl
theorem digV_fold : ∀ (l : List UInt8) (a : Int), 0 ≤ a → l.all isDig = true → 0 ≤ l.foldl (fun a b => 10 * a + ((b.toNat : Int) - 48)) a ∧ l.foldl (fun a b => 10 * a + ((b.toNat : Int) - 48)) a + 1 ≤ (a + 1) * 10 ^ l.length
  | [], a, h, _ => by simp only [List.foldl_nil, List.length_nil, Int.pow_zero, Int.mul_one]; omega
  | b :: l, a, h, hd => by
    rw [List.all_cons, Bool.and_eq_true] at hd
    have hb := hd.1
    unfold isDig at hb
    simp only [Bool.and_eq_true, decide_eq_true_eq] at hb
    obtain ⟨h1, h2⟩ := digV_fold l (10 * a + ((b.toNat : Int) - 48)) (by omega) hd.2
    rw [List.foldl_cons, List.length_cons, Int.pow_succ]
    refine ⟨h1, Int.le_trans h2 ?_⟩
    have p : (0 : Int) ≤ 10 ^ l.length := Int.pow_nonneg (by decide)
    have m := Int.mul_le_mul_of_nonneg_right (show 10 * a + ((b.toNat : Int) - 48) + 1 ≤ (a + 1) * 10 by omega) p
    rw [Int.mul_assoc] at m
    rw [Int.mul_comm (10 ^ l.length) 10]
    exact m
theorem digV_bound (l : List UInt8) (h : l.all isDig = true) (hl : l.length ≤ 18) : 0 ≤ digV l ∧ digV l + 1 ≤ 1000000000000000000 := by
  have := digV_fold l 0 (Int.le_refl _) h
  have e : (10 : Int) ^ l.length ≤ 10 ^ 18 := by
    have := Nat.pow_le_pow_right (show 0 < 10 by decide) hl
    exact_mod_cast this
  unfold digV
  refine ⟨this.1, ?_⟩
  have h2 := this.2
  rw [show ((0 : Int) + 1) * 10 ^ l.length = 10 ^ l.length by omega] at h2
  have e2 : (10 : Int) ^ 18 = 1000000000000000000 := by decide
  omega
def endV (s : ByteArray) (n : Int) : Int × Bool := if (decV n).toList = s.toList then (n, true) else (0, false)
def numT (s t : ByteArray) : Int × Bool := if t.data.toList.all isDig = true then (if (t.size : Int) < (s.size : Int) then endV s (-digV t.data.toList) else endV s (digV t.data.toList)) else (0, false)
def strip (s : ByteArray) : ByteArray := toBA (Lib.trimPrefix s.data.toList [45])
def numV (s : ByteArray) : Int × Bool := if (strip s).size < 1 ∨ (strip s).size > 18 then (0, false) else numT s (strip s)
theorem all_take {α : Type} (l : List α) (p : α → Bool) {n : Nat} (h : n < l.length) : (l.take (n + 1)).all p = ((l.take n).all p && p l[n]) := by
  rw [List.take_succ_eq_append_getElem h, List.all_append, List.all_cons, List.all_nil, Bool.and_true]
theorem all_no {α : Type} (l : List α) (p : α → Bool) {n : Nat} (h : n < l.length) (hp : p l[n] = false) : l.all p = false := by
  rw [List.all_eq_false]; exact ⟨l[n], List.getElem_mem h, by simp [hp]⟩
theorem digV_take (l : List UInt8) {n : Nat} (h : n < l.length) : digV (l.take (n + 1)) = 10 * digV (l.take n) + ((l[n].toNat : Int) - 48) := by
  rw [List.take_succ_eq_append_getElem h, digV_snoc]
theorem impl_num_loop (s t : ByteArray) (ht : t.size ≤ 18) : Ev (fun k => impl_ReadDecimal.l0 k s t 0 0) (numT s t) := by
  suffices key : ∃ r, Ev (fun k => impl_ReadDecimal.l0 k s t 0 0) r ∧ r = numT s t by obtain ⟨r, hr, e⟩ := key; exact e ▸ hr
  have hl : t.data.toList.length = t.size := Array.length_toList
  refine ev_loop (len := t.size) (g := fun k v i => impl_ReadDecimal.l0 k s t v i) (fun n v => v = digV (t.data.toList.take n) ∧ (t.data.toList.take n).all isDig = true) (fun r => r = numT s t) ?_ ?_ 0 ⟨rfl, rfl⟩
  · intro n v hn ⟨hv, hd⟩
    have bd := digV_bound _ hd (by rw [List.length_take]; omega)
    have fo := (digV_fold (t.data.toList.take n) 0 (Int.le_refl _) hd).2
    have e17 : (10 : Int) ^ (t.data.toList.take n).length ≤ 10 ^ 17 := by
      have := Nat.pow_le_pow_right (show 0 < 10 by decide) (show (t.data.toList.take n).length ≤ 17 by rw [List.length_take]; omega)
      exact_mod_cast this
    have e2 : (10 : Int) ^ 17 = 100000000000000000 := by decide
    have bd2 : v + 1 ≤ 100000000000000000 := by
      rw [hv]; unfold digV
      rw [show ((0 : Int) + 1) * 10 ^ (t.data.toList.take n).length = 10 ^ (t.data.toList.take n).length by omega] at fo
      omega
    have hb := bt_get t hn
    have hn' : n < t.data.toList.length := by omega
    generalize hc : t.data.toList[n] = c at hb
    have hcr : (c.toNat : Int) < 256 := by have := c.toNat_lt; omega
    have hc0 : (0 : Int) ≤ (c.toNat : Int) := Int.natCast_nonneg _
    rw [← hv] at bd
    cases hp : isDig c with
    | true =>
      have hp' := hp
      unfold isDig at hp'
      simp only [Bool.and_eq_true, decide_eq_true_eq] at hp'
      refine .inr ⟨10 * v + ((c.toNat : Int) - 48), ⟨by rw [digV_take _ hn', hc, hv], by rw [all_take _ _ hn', hd, hc, hp]; rfl⟩, fun r hr => ev_succ ?_⟩
      simp only [impl_ReadDecimal.l0, Int.ofNat_lt.2 hn, show (0 : Int) ≤ (n : Int) from Int.natCast_nonneg _, if_true, hb, show ¬ (c.toNat : Int) < 48 by omega, show ¬ (c.toNat : Int) > 57 by omega, if_false,
        w64 (n := 10 * v) (by omega) (by omega), show ((c.toNat : Int) - 48) % 256 = (c.toNat : Int) - 48 by omega, w64 (n := 10 * v + ((c.toNat : Int) - 48)) (by omega) (by omega), wnext hn (by omega : t.size ≤ 9223372036854775807)]
      exact hr
    | false =>
      refine .inl ⟨(0, false), ev_succ ?_, by unfold numT; rw [all_no _ isDig hn' (by rw [hc, hp])]; rfl⟩
      by_cases h48 : (c.toNat : Int) < 48
      · simp only [impl_ReadDecimal.l0, Int.ofNat_lt.2 hn, show (0 : Int) ≤ (n : Int) from Int.natCast_nonneg _, if_true, hb, h48]
        exact ev_now _
      · have h57 : (c.toNat : Int) > 57 := by
          refine Int.not_le.1 fun h => ?_
          unfold isDig at hp; simp only [show 48 ≤ (c.toNat : Int) by omega, h, decide_true, Bool.and_self] at hp; cases hp
        simp only [impl_ReadDecimal.l0, Int.ofNat_lt.2 hn, show (0 : Int) ≤ (n : Int) from Int.natCast_nonneg _, if_true, hb, h48, h57, if_false]
        exact ev_now _
  · intro v ⟨hv, hd⟩
    rw [List.take_of_length_le (by omega)] at hv hd
    have bd := digV_bound _ hd (by omega)
    rw [← hv] at bd
    refine ⟨_, ev_succ ?_, rfl⟩
    unfold numT
    rw [if_pos hd, ← hv]
    simp only [impl_ReadDecimal.l0, Int.lt_irrefl, if_false, w64 (n := -v) (by omega) (by omega), impl_Decimal_eq v (by omega) (by omega), impl_Decimal_eq (-v) (by omega) (by omega), Option.bind_some]
    unfold endV
    by_cases hs : (t.size : Int) < (s.size : Int)
    · simp only [hs, if_true]
      by_cases he : (decV (-v)).toList = s.toList
      · simp only [he, if_true]; exact ev_now _
      · simp only [he, if_false]; exact ev_now _
    · simp only [hs, if_false]
      by_cases he : (decV v).toList = s.toList
      · simp only [he, if_true]; exact ev_now _
      · simp only [he, if_false]; exact ev_now _
theorem impl_ReadDecimal_ev (s : ByteArray) : Ev (fun k => impl_ReadDecimal.f k s) (numV s) := by
  have e : strings_TrimPrefix.f s (⟨#[45]⟩ : ByteArray) = some (strip s) := rfl
  simp only [impl_ReadDecimal.f, e, Option.bind_some]
  unfold numV
  generalize strip s = t
  by_cases h1 : (t.size : Int) < 1
  · simp only [h1, if_true, show t.size < 1 ∨ t.size > 18 by omega]
    refine ev_succ ?_
    simp only [impl_ReadDecimal.j0, if_true]; exact ev_now _
  · by_cases h2 : (t.size : Int) > 18
    · simp only [h1, h2, if_false, decide_true, if_true, show t.size < 1 ∨ t.size > 18 by omega]
      refine ev_succ ?_
      simp only [impl_ReadDecimal.j0, if_true]; exact ev_now _
    · simp only [h1, h2, if_false, decide_false, show ¬ (t.size < 1 ∨ t.size > 18) by omega]
      refine ev_succ ?_
      simp only [impl_ReadDecimal.j0, Bool.false_eq_true, if_false]; exact impl_num_loop s t (by omega)

theorem splA_no (c : UInt8) : ∀ (l cur : List UInt8), c ∉ l → splA c cur l = [cur ++ l]
  | [], cur, _ => by simp [splA]
  | b :: l, cur, h => by
    simp only [List.mem_cons, not_or] at h
    rw [splA_cons, if_neg (fun e => h.1 e.symm), splA_no c l _ h.2]
    simp
theorem splA_app (c : UInt8) (q : List UInt8) : ∀ (p cur : List UInt8), c ∉ p → splA c cur (p ++ c :: q) = (cur ++ p) :: splA c [] q
  | [], cur, _ => by rw [List.nil_append, splA_cons, if_pos rfl, List.append_nil]
  | b :: p, cur, h => by
    simp only [List.mem_cons, not_or] at h
    rw [List.cons_append, splA_cons, if_neg (fun e => h.1 e.symm), splA_app c q p _ h.2]
    simp
theorem first_split (c : UInt8) : ∀ (l : List UInt8), c ∈ l → ∃ p q, l = p ++ c :: q ∧ c ∉ p
  | [], h => by simp at h
  | b :: l, h => by
    by_cases e : b = c
    · exact ⟨[], l, by rw [e]; rfl, by simp⟩
    · obtain ⟨p, q, h1, h2⟩ := first_split c l (by
        rcases List.mem_cons.1 h with h | h
        · exact absurd h.symm e
        · exact h)
      refine ⟨b :: p, q, by rw [h1]; rfl, ?_⟩
      simp only [List.mem_cons, not_or]
      exact ⟨fun h => e h.symm, h2⟩
theorem splA_pos (c : UInt8) : ∀ (l cur : List UInt8), 1 ≤ (splA c cur l).length
  | [], cur => by simp [splA]
  | b :: l, cur => by
    rw [splA_cons]
    split
    · simp
    · exact splA_pos c l _
theorem splA_one (c : UInt8) {l b : List UInt8} (h : splA c [] l = [b]) : c ∉ l ∧ b = l := by
  by_cases hm : c ∈ l
  · obtain ⟨p, q, h1, h2⟩ := first_split c l hm
    rw [h1, splA_app c q p [] h2] at h
    have := splA_pos c q []
    have h3 := congrArg List.length h
    simp only [List.length_cons, List.length_nil] at h3
    omega
  · rw [splA_no c l [] hm] at h
    simp only [List.nil_append, List.cons.injEq, and_true] at h
    exact ⟨hm, h.symm⟩
theorem splA_two (c : UInt8) {l a b : List UInt8} (h : splA c [] l = [a, b]) : l = a ++ c :: b ∧ c ∉ a ∧ c ∉ b := by
  by_cases hm : c ∈ l
  · obtain ⟨p, q, h1, h2⟩ := first_split c l hm
    rw [h1, splA_app c q p [] h2, List.nil_append] at h
    obtain ⟨e1, e2⟩ := List.cons.inj h
    obtain ⟨h3, h4⟩ := splA_one c e2
    subst e1
    rw [h4]
    exact ⟨h1, h2, h3⟩
  · rw [splA_no c l [] hm] at h
    simp at h
theorem toList_data (s : ByteArray) : s.toList = s.data.toList := by rw [ByteArray.toList_eq]
theorem rdOf_map (L : List (List UInt8)) (i : Nat) (h : i < L.length) : rdOf ByteArray.empty (L.map toBA) (i : Int) = toBA L[i] := by
  unfold rdOf
  rw [Int.toNat_natCast, List.getD_eq_getElem?_getD, List.getElem?_map, List.getElem?_eq_getElem h]
  rfl
/-- A text that bears a byte that is no digit and no sign is no number. -/
theorem numV_no (l : List UInt8) (c : UInt8) (hc : c ∈ l) (h45 : c ≠ 45) (hd : isDig c = false) : (numV (toBA l)).2 = false := by
  have hm : c ∈ Lib.trimPrefix l [45] := by
    unfold Lib.trimPrefix Lib.hasPrefix
    split
    · cases l with
      | nil => simp at hc
      | cons b l =>
        rename_i hp
        simp only [List.isPrefixOf, Bool.and_true, beq_iff_eq] at hp
        simp only [List.length_singleton, List.drop_succ_cons, List.drop_zero]
        rcases List.mem_cons.1 hc with e | e
        · exact absurd (e.trans hp.symm) h45
        · exact e
    · exact hc
  have hn : (Lib.trimPrefix l [45]).all isDig = false := by
    rw [List.all_eq_false]; exact ⟨c, hm, by simp [hd]⟩
  unfold numV
  split
  · rfl
  · unfold numT strip
    rw [data_toBA, data_toBA, hn]
    rfl
theorem splA_part (c : UInt8) (M : Nat) : ∀ (l cur : List UInt8), cur.length + l.length ≤ M → ∀ y ∈ splA c cur l, y.length ≤ M
  | [], cur, h, y, hy => by simp [splA] at hy; subst hy; simpa using h
  | b :: l, cur, h, y, hy => by
    rw [splA_cons] at hy
    simp only [List.length_cons] at h
    by_cases e : b = c
    · rw [if_pos e] at hy
      rcases List.mem_cons.1 hy with rfl | hy
      · omega
      · exact splA_part c M l [] (by simp; omega) y hy
    · rw [if_neg e] at hy
      exact splA_part c M l (cur ++ [b]) (by simp; omega) y hy
theorem cutB_part (c : UInt8) (s : ByteArray) (i : Int) : (rdOf ByteArray.empty (cutB c s) i).size ≤ s.size := by
  unfold rdOf
  rw [List.getD_eq_getElem?_getD]
  cases e : (cutB c s)[i.toNat]? with
  | none => simp [ByteArray.size_empty]
  | some y =>
    have hy := List.mem_of_getElem? e
    unfold cutB at hy
    obtain ⟨z, hz, rfl⟩ := List.mem_map.1 hy
    have := splA_part c s.data.toList.length s.data.toList [] (by simp) z hz
    rw [Array.length_toList] at this
    simp only [Option.getD_some]
    have e : (toBA z).size = z.length := by unfold toBA; simp [ByteArray.size]
    rw [e]; exact this

def noR : ByteArray × Int × Int × Int × Bool := ((⟨#[]⟩ : ByteArray), 0, 0, 0, false)
def ropeR (s : ByteArray) (a b c : Int × Bool) : ByteArray × Int × Int × Int × Bool := if a.2 = true then (if b.2 = true then (if c.2 = true then (if ropeB s a.1 b.1 c.1 = true then (s, a.1, b.1, c.1, true) else noR) else noR) else noR) else noR
def readR : List ByteArray → ByteArray × Int × Int × Int × Bool
  | [a, b, c, d, e, f, g] => if b.toList = ([115, 105, 122, 101] : List UInt8) then (if d.toList = ([115, 116, 114, 101, 110, 103, 116, 104] : List UInt8) then (if f.toList = ([119, 101, 105, 103, 104, 116] : List UInt8) then ropeR a (numV c) (numV e) (numV g) else noR) else noR) else noR
  | _ => noR
theorem seven {α : Type} {W : List α} (h : W.length = 7) : ∃ a b c d e f g, W = [a, b, c, d, e, f, g] := by
  match W, h with
  | [a, b, c, d, e, f, g], _ => exact ⟨a, b, c, d, e, f, g, rfl⟩
theorem readR_seven (a b c d e f g : ByteArray) : readR [a, b, c, d, e, f, g] = if b.toList = ([115, 105, 122, 101] : List UInt8) then (if d.toList = ([115, 116, 114, 101, 110, 103, 116, 104] : List UInt8) then (if f.toList = ([119, 101, 105, 103, 104, 116] : List UInt8) then ropeR a (numV c) (numV e) (numV g) else noR) else noR) else noR := rfl
theorem readR_not {W : List ByteArray} (h : ¬ W.length = 7) : readR W = noR := by
  unfold readR
  split
  · exact absurd rfl h
  · rfl
theorem nums_word {xs fm : List ByteArray} {out : List Int} {n : Nat} {r : List Int × Bool} (hf : fm.length ≤ 100) (hn : n < fm.length) (hx : n < xs.length) (he : ¬ (rdOf ByteArray.empty fm (n : Int)).toList = ([] : List UInt8)) :
    ((rdOf ByteArray.empty xs (n : Int)).toList = (rdOf ByteArray.empty fm (n : Int)).toList → Ev (fun k => impl_numbersIn.l0 k xs out fm (fm.length : Int) ((n + 1 : Nat) : Int)) r) → (¬ (rdOf ByteArray.empty xs (n : Int)).toList = (rdOf ByteArray.empty fm (n : Int)).toList → r = ([], false)) →
    Ev (fun k => impl_numbersIn.l0 k xs out fm (fm.length : Int) (n : Int)) r := by
  intro h1 h2
  refine ev_succ ?_
  by_cases c : (rdOf ByteArray.empty xs (n : Int)).toList = (rdOf ByteArray.empty fm (n : Int)).toList
  · have he' : ¬ (rdOf ByteArray.empty xs (n : Int)).toList = ([] : List UInt8) := by rw [c]; exact he
    have hr := h1 c
    simp only [impl_numbersIn.l0, Int.ofNat_lt.2 hn, Int.ofNat_lt.2 hx, show (0 : Int) ≤ (n : Int) from Int.natCast_nonneg _, if_true, he, if_false, c, wnext hn (by omega : fm.length ≤ 9223372036854775807)]
    exact hr
  · rw [h2 c]
    simp only [impl_numbersIn.l0, Int.ofNat_lt.2 hn, Int.ofNat_lt.2 hx, show (0 : Int) ≤ (n : Int) from Int.natCast_nonneg _, if_true, he, if_false, c]
    exact ev_now _
theorem nums_num {xs fm : List ByteArray} {out : List Int} {n : Nat} {r : List Int × Bool} (hf : fm.length ≤ 100) (hn : n < fm.length) (hx : n < xs.length) (ho : out.length ≤ 100) (he : (rdOf ByteArray.empty fm (n : Int)).toList = ([] : List UInt8)) :
    ((numV (rdOf ByteArray.empty xs (n : Int))).2 = true → Ev (fun k => impl_numbersIn.l0 k xs (out ++ [(numV (rdOf ByteArray.empty xs (n : Int))).1]) fm (fm.length : Int) ((n + 1 : Nat) : Int)) r) → ((numV (rdOf ByteArray.empty xs (n : Int))).2 = false → r = ([], false)) →
    Ev (fun k => impl_numbersIn.l0 k xs out fm (fm.length : Int) (n : Int)) r := by
  intro h1 h2
  refine ev_succ ?_
  simp only [impl_numbersIn.l0, Int.ofNat_lt.2 hn, Int.ofNat_lt.2 hx, show (0 : Int) ≤ (n : Int) from Int.natCast_nonneg _, if_true, he]
  refine Ev.bind (impl_ReadDecimal_ev _) ?_
  cases c : (numV (rdOf ByteArray.empty xs (n : Int))).2
  · rw [h2 c]
    simp only [Bool.false_eq_true, if_false]
    exact ev_now _
  · have hr := h1 c
    simp only [if_true, show out.length < 17592186044416 by omega, wnext hn (by omega : fm.length ≤ 9223372036854775807)]
    exact hr
def form6 : List ByteArray := [(⟨#[115, 105, 122, 101]⟩ : ByteArray), (⟨#[]⟩ : ByteArray), (⟨#[115, 116, 114, 101, 110, 103, 116, 104]⟩ : ByteArray), (⟨#[]⟩ : ByteArray), (⟨#[119, 101, 105, 103, 104, 116]⟩ : ByteArray), (⟨#[]⟩ : ByteArray)]
def numsV (b c d e f g : ByteArray) : List Int × Bool := if b.toList = ([115, 105, 122, 101] : List UInt8) then (if (numV c).2 = true then (if d.toList = ([115, 116, 114, 101, 110, 103, 116, 104] : List UInt8) then (if (numV e).2 = true then (if f.toList = ([119, 101, 105, 103, 104, 116] : List UInt8) then (if (numV g).2 = true then ([(numV c).1, (numV e).1, (numV g).1], true) else ([], false)) else ([], false)) else ([], false)) else ([], false)) else ([], false)) else ([], false)
theorem lit_list (l : List UInt8) : (⟨l.toArray⟩ : ByteArray).toList = l := by rw [toList_data]
theorem nums_six (b c d e f g : ByteArray) : Ev (fun k => impl_numbersIn.l0 k [b, c, d, e, f, g] [] form6 (form6.length : Int) 0) (numsV b c d e f g) := by
  have t0 : (rdOf ByteArray.empty form6 ((0 : Nat) : Int)).toList = ([115, 105, 122, 101] : List UInt8) := lit_list _
  have t1 : (rdOf ByteArray.empty form6 ((1 : Nat) : Int)).toList = ([] : List UInt8) := lit_list _
  have t2 : (rdOf ByteArray.empty form6 ((2 : Nat) : Int)).toList = ([115, 116, 114, 101, 110, 103, 116, 104] : List UInt8) := lit_list _
  have t3 : (rdOf ByteArray.empty form6 ((3 : Nat) : Int)).toList = ([] : List UInt8) := lit_list _
  have t4 : (rdOf ByteArray.empty form6 ((4 : Nat) : Int)).toList = ([119, 101, 105, 103, 104, 116] : List UInt8) := lit_list _
  have t5 : (rdOf ByteArray.empty form6 ((5 : Nat) : Int)).toList = ([] : List UInt8) := lit_list _
  have x0 : rdOf ByteArray.empty [b, c, d, e, f, g] ((0 : Nat) : Int) = b := rfl
  have x1 : rdOf ByteArray.empty [b, c, d, e, f, g] ((1 : Nat) : Int) = c := rfl
  have x2 : rdOf ByteArray.empty [b, c, d, e, f, g] ((2 : Nat) : Int) = d := rfl
  have x3 : rdOf ByteArray.empty [b, c, d, e, f, g] ((3 : Nat) : Int) = e := rfl
  have x4 : rdOf ByteArray.empty [b, c, d, e, f, g] ((4 : Nat) : Int) = f := rfl
  have x5 : rdOf ByteArray.empty [b, c, d, e, f, g] ((5 : Nat) : Int) = g := rfl
  have lf : form6.length = 6 := rfl
  have lx : [b, c, d, e, f, g].length = 6 := rfl
  unfold numsV
  refine nums_word (n := 0) (by omega) (by omega) (by omega) (by rw [t0]; simp) ?_ ?_ <;> rw [x0, t0] <;> intro k0
  rotate_left
  · rw [if_neg k0]
  rw [if_pos k0]
  refine nums_num (n := 1) (by omega) (by omega) (by omega) (by simp) t1 ?_ ?_ <;> rw [x1] <;> intro k1
  rotate_left
  · rw [if_neg (by rw [k1]; simp)]
  rw [if_pos k1]
  refine nums_word (n := 2) (by omega) (by omega) (by omega) (by rw [t2]; simp) ?_ ?_ <;> rw [x2, t2] <;> intro k2
  rotate_left
  · rw [if_neg k2]
  rw [if_pos k2]
  refine nums_num (n := 3) (by omega) (by omega) (by omega) (by simp) t3 ?_ ?_ <;> rw [x3] <;> intro k3
  rotate_left
  · rw [if_neg (by rw [k3]; simp)]
  rw [if_pos k3]
  refine nums_word (n := 4) (by omega) (by omega) (by omega) (by rw [t4]; simp) ?_ ?_ <;> rw [x4, t4] <;> intro k4
  rotate_left
  · rw [if_neg k4]
  rw [if_pos k4]
  refine nums_num (n := 5) (by omega) (by omega) (by omega) (by simp) t5 ?_ ?_ <;> rw [x5] <;> intro k5
  rotate_left
  · rw [if_neg (by rw [k5]; simp)]
  rw [if_pos k5]
  refine ev_succ ?_
  simp only [impl_numbersIn.l0, lf, Int.lt_irrefl, if_false]
  exact ev_now _
theorem impl_ReadRope_ev (s : ByteArray) (hs : s.size ≤ 1048576) : Ev (fun k => impl_ReadRope.f k s) (readR (cutB 32 s)) := by
  simp only [impl_ReadRope.f, strings_Split_eq s hs 32, Option.bind_some]
  have pos : 1 ≤ (cutB 32 s).length := by unfold cutB; rw [List.length_map]; exact splA_pos 32 _ _
  generalize cutB 32 s = W at pos
  simp only [show 1 ≤ (W.length : Int) by omega, if_true, impl_numbersIn.f]
  have lf : form6.length = 6 := rfl
  by_cases h7 : W.length = 7
  · obtain ⟨a, b, c, d, e, f, g, rfl⟩ := seven h7
    have n6 := nums_six b c d e f g
    have k0 : ((([a, b, c, d, e, f, g] : List ByteArray).drop 1).length : Int) = (form6.length : Int) := rfl
    have key : Ev (fun k => if ((([a, b, c, d, e, f, g] : List ByteArray).drop 1).length : Int) = (form6.length : Int) then impl_numbersIn.l0 k (([a, b, c, d, e, f, g] : List ByteArray).drop 1) ([] : List Int) form6 (form6.length : Int) 0 else some (([] : List Int), false)) (numsV b c d e f g) := by
      simp only [k0, if_true]
      exact n6
    refine Ev.bind key ?_
    have r0 : rdOf ByteArray.empty [a, b, c, d, e, f, g] 0 = a := rfl
    have no : Ev (fun k => some noR) noR := ev_now _
    have e0 : readR [a, b, c, d, e, f, g] = if (numsV b c d e f g).2 = true then ropeR a (numV c) (numV e) (numV g) else noR := by
      rw [readR_seven]
      unfold numsV
      by_cases c1 : b.toList = ([115, 105, 122, 101] : List UInt8)
      · by_cases c2 : d.toList = ([115, 116, 114, 101, 110, 103, 116, 104] : List UInt8)
        · by_cases c3 : f.toList = ([119, 101, 105, 103, 104, 116] : List UInt8)
          · rw [if_pos c1, if_pos c1, if_pos c2, if_pos c2, if_pos c3, if_pos c3]
            unfold ropeR
            cases (numV c).2 <;> cases (numV e).2 <;> cases (numV g).2 <;> simp
          · rw [if_pos c1, if_pos c1, if_pos c2, if_pos c2, if_neg c3, if_neg c3]
            cases (numV c).2 <;> cases (numV e).2 <;> simp
        · rw [if_pos c1, if_pos c1, if_neg c2, if_neg c2]
          cases (numV c).2 <;> simp
      · rw [if_neg c1, if_neg c1]; simp
    rw [e0]
    cases hn : (numsV b c d e f g).2
    · simp only [Bool.false_eq_true, if_false]; exact no
    · have en : (numsV b c d e f g).1 = [(numV c).1, (numV e).1, (numV g).1] ∧ (numV c).2 = true ∧ (numV e).2 = true ∧ (numV g).2 = true := by
        unfold numsV at hn ⊢
        repeat' split at hn
        all_goals first | (exfalso; simp at hn; done) | skip
        rename_i c1 d1 c2 d2 c3 d3
        rw [if_pos c1, if_pos d1, if_pos c2, if_pos d2, if_pos c3, if_pos d3]
        exact ⟨rfl, d1, d2, d3⟩
      obtain ⟨en, d1, d2, d3⟩ := en
      simp only [if_true, en, show (0 : Int) < (([a, b, c, d, e, f, g] : List ByteArray).length : Int) from by simp, show (0 : Int) < (([(numV c).1, (numV e).1, (numV g).1] : List Int).length : Int) from by simp, show (1 : Int) < (([(numV c).1, (numV e).1, (numV g).1] : List Int).length : Int) from by simp, show (2 : Int) < (([(numV c).1, (numV e).1, (numV g).1] : List Int).length : Int) from by simp,
        show rd [(numV c).1, (numV e).1, (numV g).1] 0 = (numV c).1 from rfl, show rd [(numV c).1, (numV e).1, (numV g).1] 1 = (numV e).1 from rfl, show rd [(numV c).1, (numV e).1, (numV g).1] 2 = (numV g).1 from rfl, r0]
      refine Ev.bind (impl_validRope_ev _ _ _ _) ?_
      unfold ropeR
      rw [if_pos d1, if_pos d2, if_pos d3]
      cases ropeB a (numV c).1 (numV e).1 (numV g).1
      · simp only [Bool.false_eq_true, if_false]; exact no
      · simp only [if_true]; exact ev_now _
  · rw [readR_not h7]
    have k0 : ¬ ((W.drop 1).length : Int) = (form6.length : Int) := by rw [List.length_drop, lf]; omega
    have key : Ev (fun k => if ((W.drop 1).length : Int) = (form6.length : Int) then impl_numbersIn.l0 k (W.drop 1) ([] : List Int) form6 (form6.length : Int) 0 else some (([] : List Int), false)) (([] : List Int), false) := by
      simp only [k0, if_false]
      exact ev_now _
    refine Ev.bind key ?_
    simp only [Bool.false_eq_true, if_false]
    exact ev_now _

/-! ### a number's decimal form is read back -/
theorem dig_isDig (d : Nat) (h : d < 10) : isDig (UInt8.ofNat (48 + d)) = true := by
  unfold isDig
  simp only [UInt8.toNat_ofNat', Bool.and_eq_true, decide_eq_true_eq]
  omega
theorem dig_val (d : Nat) (h : d < 10) : ((UInt8.ofNat (48 + d)).toNat : Int) - 48 = (d : Int) := by
  simp only [UInt8.toNat_ofNat']
  omega
theorem dec_all (u : Nat) : (Lib.decDigits u).all isDig = true := by
  induction u using Nat.strongRecOn with
  | _ u ih =>
    rw [Lib.decDigits]
    split
    · rename_i h
      rw [List.all_cons, List.all_nil, Bool.and_true]
      exact dig_isDig u h
    · rename_i h
      rw [List.all_append, ih (u / 10) (by omega), List.all_cons, List.all_nil, Bool.and_true, Bool.true_and]
      exact dig_isDig (u % 10) (by omega)
theorem dec_val (u : Nat) : digV (Lib.decDigits u) = (u : Int) := by
  induction u using Nat.strongRecOn with
  | _ u ih =>
    rw [Lib.decDigits]
    split
    · rename_i h
      have := dig_val u h
      unfold digV
      simp only [List.foldl_cons, List.foldl_nil]
      omega
    · rename_i h
      rw [digV_snoc, ih (u / 10) (by omega), dig_val (u % 10) (by omega)]
      omega
theorem nDigits_lt : ∀ (d u : Nat), u < 10 ^ (d + 1) → Lib.nDigits u ≤ d + 1 := by
  intro d
  induction d with
  | zero => intro u h; rw [Lib.nDigits_small (by simpa using h)]; omega
  | succ d ih =>
    intro u h
    by_cases c : u < 10
    · rw [Lib.nDigits_small c]; omega
    · rw [Lib.nDigits_big c]
      have := ih (u / 10) (by rw [Nat.pow_succ] at h; omega)
      omega
theorem dec_head (u : Nat) : ∃ b l, Lib.decDigits u = b :: l ∧ b ≠ 45 := by
  have a := dec_all u
  have hl := Lib.decDigits_length u
  have hp := Lib.nDigits_pos u
  cases h : Lib.decDigits u with
  | nil => rw [h] at hl; simp at hl; omega
  | cons b l =>
    refine ⟨b, l, rfl, ?_⟩
    rw [h, List.all_cons, Bool.and_eq_true] at a
    intro e
    rw [e] at a
    exact absurd a.1 (by decide)
theorem decV_data (n : Int) : (decV n).data.toList = Lib.itoa n := by unfold decV; simp
theorem numV_dec (n : Int) (h0 : -1000000000000000000 < n) (h1 : n < 1000000000000000000) : numV (decV n) = (n, true) := by
  have hd : Lib.nDigits n.natAbs ≤ 18 := nDigits_lt 17 n.natAbs (by have e : 10 ^ (17 + 1) = 1000000000000000000 := by decide
                                                                    omega)
  have hp := Lib.nDigits_pos n.natAbs
  have ha := dec_all n.natAbs
  have hv := dec_val n.natAbs
  have hl := Lib.decDigits_length n.natAbs
  have ok : endV (decV n) n = (n, true) := by unfold endV; rw [if_pos rfl]
  have bsz : ∀ l : List UInt8, (toBA l).size = l.length := fun l => by unfold toBA; simp [ByteArray.size]
  by_cases hs : n < 0
  · have e1 : (decV n).data.toList = 45 :: Lib.decDigits n.natAbs := by rw [decV_data]; unfold Lib.itoa; rw [if_pos hs]
    have e2 : strip (decV n) = toBA (Lib.decDigits n.natAbs) := by
      unfold strip Lib.trimPrefix Lib.hasPrefix
      rw [e1]
      simp [List.isPrefixOf]
    have e3 : (decV n).size = Lib.nDigits n.natAbs + 1 := by
      have : (decV n).data.toList.length = (decV n).size := Array.length_toList
      rw [← this, e1, List.length_cons, hl]
    have e4 : (toBA (Lib.decDigits n.natAbs)).size = Lib.nDigits n.natAbs := by rw [bsz, hl]
    unfold numV
    rw [e2, e4, if_neg (by omega)]
    unfold numT
    rw [data_toBA, if_pos ha, e4, e3, if_pos (by omega), hv, show -((n.natAbs : Nat) : Int) = n by omega]
    exact ok
  · have en : n.toNat = n.natAbs := by omega
    have e1 : (decV n).data.toList = Lib.decDigits n.natAbs := by rw [decV_data]; unfold Lib.itoa; rw [if_neg hs, en]
    have e2 : strip (decV n) = decV n := by
      obtain ⟨b, l, hb, hne⟩ := dec_head n.natAbs
      unfold strip Lib.trimPrefix Lib.hasPrefix
      rw [e1, hb, show List.isPrefixOf [45] (b :: l) = false by simp [List.isPrefixOf, Ne.symm hne]]
      simp only [Bool.false_eq_true, if_false]
      rw [← hb, ← e1, toBA_data]
    have e3 : (decV n).size = Lib.nDigits n.natAbs := by
      have : (decV n).data.toList.length = (decV n).size := Array.length_toList
      rw [← this, e1, hl]
    unfold numV
    rw [e2, e3, if_neg (by omega)]
    unfold numT
    rw [e1, if_pos ha, if_neg (by omega), hv, show ((n.natAbs : Nat) : Int) = n by omega]
    exact ok
theorem dec_no (c : UInt8) (hc : isDig c = false) (h45 : c ≠ 45) (n : Int) : c ∉ (decV n).data.toList := by
  rw [decV_data]
  unfold Lib.itoa
  have nod : ∀ u, c ∉ Lib.decDigits u := fun u hm => by
    have := List.all_eq_true.1 (dec_all u) c hm
    rw [hc] at this; cases this
  split
  · simp only [List.mem_cons, not_or]; exact ⟨h45, nod _⟩
  · exact nod _

theorem impl_gcd_loop (m : Nat) : ∀ a b : Int, b.toNat = m → 0 ≤ a → 0 ≤ b → Ev (fun k => impl_gcd.l0 k a b) (Nat.gcd a.toNat b.toNat : Nat) := by
  induction m using Nat.strongRecOn with
  | _ m ih =>
    intro a b hm ha hb
    refine ev_succ ?_
    by_cases h : b = 0
    · subst h
      simp only [impl_gcd.l0, if_true]
      exact ev_to (ev_now _) (by simp; omega)
    · obtain ⟨h1, h2, h3⟩ := gcd_step (a := a) (b := b) ha (by omega)
      simp only [impl_gcd.l0, h, if_false]
      exact ev_to (ih _ (by omega) b _ rfl hb h1) (by rw [h3])
theorem impl_gcd_ev (n d : Int) (hn : -4611686018427387904 ≤ n ∧ n ≤ 4611686018427387904) (hd : 0 ≤ d) : Ev (fun k => impl_gcd.f k n d) (Int.gcd n d : Nat) := by
  have g := impl_gcd_loop d.toNat (n.natAbs : Int) d rfl (by omega) (by omega)
  have eg : Nat.gcd ((n.natAbs : Int)).toNat d.toNat = Int.gcd n d := by rw [Int.gcd, Int.toNat_natCast]; congr 1; omega
  rw [eg] at g
  simp only [impl_gcd.f]
  by_cases h : n < 0
  · simp only [h, if_true]
    refine ev_succ ?_
    simp only [impl_gcd.j0]
    rw [w64 (by omega) (by omega), show -n = (n.natAbs : Int) by omega]
    exact g
  · simp only [h, if_false]
    refine ev_succ ?_
    simp only [impl_gcd.j0]
    rw [show (n : Int) = (n.natAbs : Int) by omega]
    rw [show ((n.natAbs : Int)).gcd d = n.gcd d by simp [Int.gcd]]
    exact g
theorem impl_fraction_ev (n d : Int) (hn : -4611686018427387904 ≤ n ∧ n ≤ 4611686018427387904) (hd : 0 < d ∧ d ≤ 4611686018427387904) : Ev (fun k => impl_fraction.f k n d) (mkF n d) := by
  simp only [impl_fraction.f, show ¬ d < 0 by omega, if_false]
  have pos : 0 < Int.gcd n d := Int.gcd_pos_of_ne_zero_right n (by omega)
  refine Ev.bind (impl_gcd_ev n d hn (by omega)) ?_
  have b1 := tdiv_bound n (Int.gcd n d)
  have b2 := tdiv_bound d (Int.gcd n d)
  simp only [show ¬ ((Int.gcd n d : Nat) : Int) = 0 by omega, if_false, w64 (n := Int.tdiv n (Int.gcd n d : Nat)) (by omega) (by omega), w64 (n := Int.tdiv d (Int.gcd n d : Nat)) (by omega) (by omega)]
  exact ev_now _

theorem mkF_scale (c n d : Int) (hc : 0 < c) : mkF (c * n) (c * d) = mkF n d := by
  unfold mkF
  have e : (Int.gcd (c * n) (c * d) : Int) = c * (Int.gcd n d : Int) := by
    rw [Int.gcd_mul_left]; push_cast; rw [Int.natAbs_of_nonneg (by omega)]
  rw [e, Int.mul_tdiv_mul_of_pos _ _ hc, Int.mul_tdiv_mul_of_pos _ _ hc]
theorem mkF_mul (n d : Int) (hd : 0 < d) : ∃ g : Int, 0 < g ∧ n = g * (mkF n d).1 ∧ d = g * (mkF n d).2 := by
  have pos : 0 < Int.gcd n d := Int.gcd_pos_of_ne_zero_right n (by omega)
  exact ⟨(Int.gcd n d : Nat), by omega, (Int.mul_tdiv_cancel' (Int.gcd_dvd_left ..)).symm, (Int.mul_tdiv_cancel' (Int.gcd_dvd_right ..)).symm⟩
theorem pos_of_mul {g x : Int} (hg : 0 < g) (h : 0 < g * x) : 0 < x := by
  rcases Int.lt_or_le 0 x with q | q
  · exact q
  · have := Int.mul_le_mul_of_nonneg_left q (Int.le_of_lt hg); omega
theorem nonneg_of_mul {g x : Int} (hg : 0 < g) (h : 0 ≤ g * x) : 0 ≤ x := by
  rcases Int.lt_or_le x 0 with q | q
  · have := Int.mul_lt_mul_of_pos_left q hg; omega
  · exact q
theorem le_mul_pos {g x : Int} (hg : 0 < g) (hx : 0 ≤ x) : x ≤ g * x := by
  have := Int.mul_le_mul_of_nonneg_right (show (1 : Int) ≤ g by omega) hx; omega
theorem mul_bd {a b A B : Int} (h0 : 0 ≤ a) (h1 : a ≤ A) (h2 : 0 ≤ b) (h3 : b ≤ B) : 0 ≤ a * b ∧ a * b ≤ A * B :=
  ⟨Int.mul_nonneg h0 h2, Int.mul_le_mul h1 h3 h2 (by omega)⟩
theorem mkF_pos (n d : Int) (hn : 0 ≤ n) (hd : 0 < d) : 0 ≤ (mkF n d).1 ∧ (mkF n d).1 ≤ n ∧ 0 < (mkF n d).2 ∧ (mkF n d).2 ≤ d := by
  obtain ⟨g, hg, e1, e2⟩ := mkF_mul n d hd
  have a := nonneg_of_mul hg (show 0 ≤ g * (mkF n d).1 by omega)
  have b := pos_of_mul hg (show 0 < g * (mkF n d).2 by omega)
  have c := le_mul_pos hg a
  have e := le_mul_pos hg (Int.le_of_lt b)
  exact ⟨a, by omega, b, by omega⟩

theorem name_no (s : ByteArray) (h : isNameB s = true) : (32 : UInt8) ∉ s.data.toList := by
  intro hm
  unfold isNameB at h
  simp only [Bool.and_eq_true, decide_eq_true_eq, List.all_eq_true] at h
  obtain ⟨i, hi, e⟩ := List.getElem_of_mem hm
  have hl : s.data.toList.length = s.size := Array.length_toList
  have := h.2.2.2 i (List.mem_range.2 (by omega))
  rw [bt_get s (by omega), e] at this
  exact absurd this (by decide)
theorem ropeTxt_data (s : ByteArray) (a b c : Int) : (ropeTxt s a b c).data.toList = s.data.toList ++ 32 :: ([115, 105, 122, 101] ++ 32 :: ((decV a).data.toList ++ 32 :: ([115, 116, 114, 101, 110, 103, 116, 104] ++ 32 :: ((decV b).data.toList ++ 32 :: ([119, 101, 105, 103, 104, 116] ++ 32 :: (decV c).data.toList))))) := by
  unfold ropeTxt
  simp [ByteArray.data_append]
theorem ropeTxt_cut (s : ByteArray) (a b c : Int) (h : isNameB s = true) : cutB 32 (ropeTxt s a b c) = [s, toBA [115, 105, 122, 101], decV a, toBA [115, 116, 114, 101, 110, 103, 116, 104], decV b, toBA [119, 101, 105, 103, 104, 116], decV c] := by
  unfold cutB
  rw [ropeTxt_data, splA_app 32 _ _ [] (name_no s h), splA_app 32 _ _ [] (by decide), splA_app 32 _ _ [] (dec_no 32 (by decide) (by decide) a), splA_app 32 _ _ [] (by decide), splA_app 32 _ _ [] (dec_no 32 (by decide) (by decide) b), splA_app 32 _ _ [] (by decide),
    splA_no 32 _ [] (dec_no 32 (by decide) (by decide) c)]
  simp only [List.nil_append, List.map_cons, List.map_nil, toBA_data]
theorem rope_back (s : ByteArray) (a b c : Int) (h : ropeB s a b c = true) : readR (cutB 32 (ropeTxt s a b c)) = (s, a, b, c, true) := by
  have hn : isNameB s = true := by unfold ropeB at h; simp only [Bool.and_eq_true] at h; exact h.1
  obtain ⟨_, ha, hb, hc⟩ := ropeB_is h
  rw [ropeTxt_cut s a b c hn, readR_seven, if_pos (by rw [toList_data, data_toBA]), if_pos (by rw [toList_data, data_toBA]), if_pos (by rw [toList_data, data_toBA])]
  unfold ropeR
  rw [numV_dec a (by omega) (by omega), numV_dec b (by omega) (by omega), numV_dec c (by omega) (by omega), if_pos rfl, if_pos rfl, if_pos rfl, if_pos h]
theorem ropeTxt_small (s : ByteArray) (a b c : Int) (h : ropeB s a b c = true) : (ropeTxt s a b c).size ≤ 1048576 := by
  obtain ⟨hs, ha, hb, hc⟩ := ropeB_is h
  have z1 : ((⟨#[32, 115, 105, 122, 101, 32]⟩ : ByteArray)).size = 6 := rfl
  have z2 : ((⟨#[32, 115, 116, 114, 101, 110, 103, 116, 104, 32]⟩ : ByteArray)).size = 10 := rfl
  have z3 : ((⟨#[32, 119, 101, 105, 103, 104, 116, 32]⟩ : ByteArray)).size = 8 := rfl
  have da := decV_size a (by omega) (by omega)
  have db := decV_size b (by omega) (by omega)
  have dc := decV_size c (by omega) (by omega)
  unfold ropeTxt
  simp only [ByteArray.size_append, z1, z2, z3]
  omega
theorem A2Rope_ev (l : List Int) (hl : byteL l) : ∃ s a b c, spec_A2Rope.f l = some (s, a, b, c) ∧ isNameB s = true ∧ (1 ≤ a ∧ a ≤ 1000) ∧ (1 ≤ b ∧ b ≤ 1000000) ∧ (1 ≤ c ∧ c ≤ 100000) ∧ (500 ≤ b ∧ b ≤ 20000) ∧ (50 ≤ c ∧ c ≤ 1500) := by
  obtain ⟨v, s, e, hv⟩ := src_pick_ev hl 0 0 5 (by omega) (by omega)
  rw [show (0 : Int) + 1 = 1 from rfl] at e
  have e5 : ((nm5.length : Nat) : Int) = 5 := rfl
  have hname : isNameB (rdOf ByteArray.empty nm5 v) = true := nm5_name v.toNat (by omega)
  have et : spec_l00Src_text.f l 0 0 nm5 = some (rdOf ByteArray.empty nm5 v, 1, s) := by
    simp only [spec_l00Src_text.f, e5, e, Option.bind_some, hv.1, hv.2, if_true]
  obtain ⟨v1, s1, a1, b1⟩ := src_pick_ev hl 1 s 10 (by omega) (by omega)
  obtain ⟨v2, s2, a2, b2⟩ := src_pick_ev hl (1 + 1) s1 40 (by omega) (by omega)
  obtain ⟨v3, s3, a3, b3⟩ := src_pick_ev hl (1 + 1 + 1) s2 30 (by omega) (by omega)
  have w1 : wrap64 (40 + (wrap64 (20 * v1))) = 40 + 20 * v1 := by rw [w64 (n := 20 * v1) (by omega) (by omega), w64 (by omega) (by omega)]
  have w2 : wrap64 (500 * (wrap64 (1 + v2))) = 500 * (1 + v2) := by rw [w64 (n := 1 + v2) (by omega) (by omega), w64 (by omega) (by omega)]
  have w3 : wrap64 (50 * (wrap64 (1 + v3))) = 50 * (1 + v3) := by rw [w64 (n := 1 + v3) (by omega) (by omega), w64 (by omega) (by omega)]
  refine ⟨rdOf ByteArray.empty nm5 v, 40 + 20 * v1, 500 * (1 + v2), 50 * (1 + v3), ?_, hname, by omega, by omega, by omega, by omega, by omega⟩
  have et' := et
  unfold nm5 at et'
  simp only [spec_A2Rope.f, spec_l00From.f, spec_l02New.f, Option.bind_some, et', spec_l02Called.f, a1, a2, a3, w1, w2, w3]
  rfl
theorem weigh_ev (s : ByteArray) (a b c x : Int) (h : ropeB s a b c = true) (hx : 0 ≤ x ∧ x ≤ 1000000) : Ev (fun k => impl_WeightOfLine.f k s a b c x) ((mkF (x * c) 10000).1, (mkF (x * c) 10000).2, 0) := by
  obtain ⟨_, ha, hb, hc⟩ := ropeB_is h
  have m := mul_bd hx.1 hx.2 (show 0 ≤ c by omega) hc.2
  simp only [impl_WeightOfLine.f, impl_within_eq, Option.bind_some]
  refine Ev.bind (impl_validRope_ev s a b c) ?_
  simp only [h, hx, and_self, decide_true, if_true, w64 (n := x * c) (by omega) (by omega)]
  exact Ev.bind (impl_fraction_ev (x * c) 10000 (by omega) (by omega)) (ev_now _)
theorem last_ev (l1 : List Int) (b1 : byteL l1) (s : ByteArray) (a b c : Int) (h : ropeB s a b c = true) : Ev (fun k => laws_FnRopeLines.j3 k l1 false s a b c) true := by
  obtain ⟨_, ha, hb, hc⟩ := ropeB_is h
  refine ev_succ ?_
  obtain ⟨p, ep, p0, p1⟩ := a2At_ev b1 3 101 (by omega) (by omega)
  simp only [laws_FnRopeLines.j3, Bool.false_eq_true, if_false, ep, Option.bind_some]
  have m := mul_bd (show 0 ≤ b by omega) hb.2 (show 0 ≤ 100 - p by omega) (show 100 - p ≤ 100 by omega)
  have m2 : b * (100 - p) ≤ b * 100 := Int.mul_le_mul_of_nonneg_left (by omega) (by omega)
  have ew : wrap64 (100 - p) = 100 - p := w64 (by omega) (by omega)
  have em : wrap64 (b * (100 - p)) = b * (100 - p) := w64 (by omega) (by omega)
  have d := Int.mul_ediv_add_emod (b * (100 - p)) 100
  have d2 := Int.emod_nonneg (b * (100 - p)) (show (100 : Int) ≠ 0 by decide)
  have d3 := Int.emod_lt_of_pos (b * (100 - p)) (show (0 : Int) < 100 by decide)
  have et : Int.tdiv (b * (100 - p)) 100 = (b * (100 - p)) / 100 := Int.tdiv_eq_ediv_of_nonneg m.1
  have k1 : Ev (fun k => impl_WornStrength.f k s a b c p) ((b * (100 - p)) / 100, 0) := by
    simp only [impl_WornStrength.f, impl_within_eq, Option.bind_some]
    refine Ev.bind (impl_validRope_ev s a b c) ?_
    simp only [h, show 0 ≤ p ∧ p ≤ 100 by omega, and_self, decide_true, if_true, ew, em, et, w64 (n := (b * (100 - p)) / 100) (by omega) (by omega)]
    exact ev_now _
  have k2 := impl_RopeText_ev s a b c
  unfold ropeTxtV at k2
  rw [if_pos h] at k2
  have k3 := impl_ReadRope_ev (ropeTxt s a b c) (ropeTxt_small s a b c h)
  rw [rope_back s a b c h] at k3
  simp only [ew]
  generalize (b * (100 - p)) / 100 = q at *
  generalize b * (100 - p) = z at *
  refine Ev.bind k1 (Ev.bind k2 (Ev.bind k3 ?_))
  simp only [ew, em, if_true, show q ≥ 0 by omega, show q ≤ b by omega, w64 (n := 100 * q) (by omega) (by omega), w64 (n := q + 1) (by omega) (by omega), w64 (n := 100 * (q + 1)) (by omega) (by omega), show 100 * q ≤ z by omega, show 100 * (q + 1) > z by omega, beq_self_eq_true, Bool.and_self]
  exact ev_now _
theorem parts_ev (l1 : List Int) (b1 : byteL l1) (s : ByteArray) (a b c : Int) (h : ropeB s a b c = true) (hb5 : 500 ≤ b ∧ b ≤ 20000) : Ev (fun k => laws_FnRopeLines.j2 k l1 s a b c) true := by
  obtain ⟨_, ha, hb, hc⟩ := ropeB_is h
  refine ev_succ ?_
  obtain ⟨t, et, t0, t1⟩ := a2At_ev b1 1 200 (by omega) (by omega)
  obtain ⟨u, eu, u0, u1⟩ := a2At_ev b1 2 20 (by omega) (by omega)
  simp only [laws_FnRopeLines.j2, et, eu, Option.bind_some, w64 (n := 1 + t) (by omega) (by omega), w64 (n := 1 + u) (by omega) (by omega), w64 (n := 100 * (1 + t)) (by omega) (by omega)]
  generalize hl : 100 * (1 + t) = ld
  generalize hf : 1 + u = sf
  have m := mul_bd (show 0 ≤ ld by omega) (show ld ≤ 20000 by omega) (show 0 ≤ sf by omega) (show sf ≤ 20 by omega)
  have mp : ld ≤ ld * sf := by
    have := Int.mul_le_mul_of_nonneg_left (show 1 ≤ sf by omega) (show 0 ≤ ld by omega)
    rw [Int.mul_one] at this; exact this
  have em : wrap64 (ld * sf) = ld * sf := w64 (by omega) (by omega)
  have e1 : wrap64 (ld * sf + b) = ld * sf + b := w64 (by omega) (by omega)
  have e2 : wrap64 (ld * sf + b - 1) = ld * sf + b - 1 := w64 (by omega) (by omega)
  have ed : Int.tdiv (ld * sf + b - 1) b = (ld * sf + b - 1) / b := Int.tdiv_eq_ediv_of_nonneg (by omega)
  have d := Int.mul_ediv_add_emod (ld * sf + b - 1) b
  have d2 := Int.emod_nonneg (ld * sf + b - 1) (show b ≠ 0 by omega)
  have d3 := Int.emod_lt_of_pos (ld * sf + b - 1) (show 0 < b by omega)
  have q1 : 1 ≤ (ld * sf + b - 1) / b := by rw [Int.le_ediv_iff_mul_le (by omega)]; omega
  have q2 : (ld * sf + b - 1) / b ≤ ld * sf + b - 1 := Int.ediv_le_self _ (by omega)
  have k1 : Ev (fun k => impl_PartsFor.f k s a b c ld sf) ((ld * sf + b - 1) / b, 0) := by
    simp only [impl_PartsFor.f, impl_within_eq, impl_ceilDiv.f, Option.bind_some]
    refine Ev.bind (impl_validRope_ev s a b c) ?_
    simp only [h, show 1 ≤ ld ∧ ld ≤ 1000000 by omega, show 1 ≤ sf ∧ sf ≤ 20 by omega, and_self, decide_true, if_true, em, e1, e2, ed, show ¬ b = 0 by omega, if_false, Option.bind_some, w64 (n := (ld * sf + b - 1) / b) (by omega) (by omega)]
    exact ev_now _
  rw [Int.mul_comm] at d
  generalize (ld * sf + b - 1) / b = q at *
  have qb : q * b = ld * sf + b - 1 - (ld * sf + b - 1) % b := by omega
  have qb' : (q - 1) * b = q * b - b := by rw [Int.sub_mul, Int.one_mul]
  refine Ev.bind k1 ?_
  simp only [if_true, show ¬ q < 1 by omega, show ¬ q > 1000000 by omega, if_false, em, w64 (n := q - 1) (by omega) (by omega), w64 (n := q * b) (by omega) (by omega), w64 (n := (q - 1) * b) (by omega) (by omega), show ¬ q * b < ld * sf by omega, show ¬ (q - 1) * b ≥ ld * sf by omega, decide_false]
  exact last_ev l1 b1 s a b c h
theorem FnRopeLines : laws_FnRopeLines.Pure := by
  intro l0 l1 h0 h1
  refine Ev.rounds ?_
  have b0 : byteL l0 := fun y hy => u8_range (h0.2.2 y hy)
  have b1 : byteL l1 := fun y hy => u8_range (h1.2.2 y hy)
  simp only [laws_FnRopeLines.f]
  obtain ⟨lg, el⟩ := a2Long_ev l0 l1
  rw [el]
  simp only [Option.bind_some]
  cases lg
  · simp only [Bool.false_eq_true, if_false]
    obtain ⟨s, a, b, c, er, hn, ha, hb, hc, hb5, hc5⟩ := A2Rope_ev l0 b0
    have h : ropeB s a b c = true := by unfold ropeB; rw [hn]; simp only [ha, hb, hc, and_self, decide_true, Bool.and_self]
    obtain ⟨t, et, t0, t1⟩ := a2At_ev b1 0 200 (by omega) (by omega)
    simp only [er, et, Option.bind_some, w64 (n := t * 20) (by omega) (by omega)]
    generalize hg : t * 20 = g
    have ew : wrap64 (g * 10000) = g * 10000 := w64 (by omega) (by omega)
    have ed : Int.tdiv (g * 10000) c = (g * 10000) / c := Int.tdiv_eq_ediv_of_nonneg (by omega)
    have d := Int.mul_ediv_add_emod (g * 10000) c
    have d2 := Int.emod_nonneg (g * 10000) (show c ≠ 0 by omega)
    have d3 := Int.emod_lt_of_pos (g * 10000) (show 0 < c by omega)
    have q1 : 0 ≤ (g * 10000) / c := Int.ediv_nonneg (by omega) (by omega)
    have q2 : (g * 10000) / c ≤ 796000 := by
      have : (g * 10000) / c < 796001 := by rw [Int.ediv_lt_iff_lt_mul (by omega)]; omega
      omega
    have k1 : Ev (fun k => impl_LengthForWeight.f k s a b c g) ((g * 10000) / c, 0) := by
      simp only [impl_LengthForWeight.f, impl_within_eq, Option.bind_some]
      refine Ev.bind (impl_validRope_ev s a b c) ?_
      have emn : mn 1000000 ((g * 10000) / c) = (g * 10000) / c := by unfold mn; split <;> omega
      simp only [h, show 0 ≤ g ∧ g ≤ 1000000 by omega, and_self, decide_true, if_true, show ¬ c = 0 by omega, if_false, ew, ed, w64 (n := (g * 10000) / c) (by omega) (by omega), emn]
      exact ev_now _
    rw [Int.mul_comm] at d
    generalize (g * 10000) / c = x at *
    generalize (g * 10000) % c = rm at *
    refine Ev.bind k1 ?_
    simp only [if_true, show ¬ x < 0 by omega, if_false, show ¬ x > 1000000 by omega, decide_false]
    refine ev_succ ?_
    simp only [laws_FnRopeLines.j0, Bool.false_eq_true, if_false]
    have hxc : 0 ≤ x * c := Int.mul_nonneg q1 (by omega)
    obtain ⟨f, fp, f1, f2⟩ := mkF_mul (x * c) 10000 (by decide)
    obtain ⟨p1, p2, p3, p4⟩ := mkF_pos (x * c) 10000 hxc (by decide)
    refine Ev.bind (weigh_ev s a b c x h (by omega)) ?_
    generalize hN : (mkF (x * c) 10000).1 = N at *
    generalize hD : (mkF (x * c) 10000).2 = D at *
    have hgd := mul_bd (show 0 ≤ g by omega) (show g ≤ 3980 by omega) (show 0 ≤ D by omega) p4
    have le1 : N ≤ g * D := by
      refine Int.le_of_mul_le_mul_left ?_ fp
      rw [← f1, ← Int.mul_assoc, Int.mul_comm f g, Int.mul_assoc, ← f2]
      omega
    have eq1 : N * 10000 = x * c * D := by
      rw [f1, f2, Int.mul_comm f N, Int.mul_assoc N f D]
    have hND : x * c * D ≤ 39800000 * 10000 := (mul_bd hxc (show x * c ≤ 39800000 by omega) (show 0 ≤ D by omega) p4).2
    have hND0 : 0 ≤ x * c * D := Int.mul_nonneg hxc (by omega)
    simp only [if_true, show ¬ D < 1 by omega, show ¬ D > 10000 by omega, if_false, w64 (n := g * D) (by omega) (by omega), show ¬ N > g * D by omega, w64 (n := x * c) (by omega) (by omega), w64 (n := N * 10000) (by omega) (by omega), w64 (n := x * c * D) (by omega) (by omega), eq1, bne_self_eq_false]
    refine ev_succ ?_
    have hx1 : x < 1000000 := by omega
    simp only [laws_FnRopeLines.j1, Bool.false_eq_true, if_false, hx1, if_true, w64 (n := x + 1) (by omega) (by omega)]
    have hxc' : 0 ≤ (x + 1) * c := Int.mul_nonneg (by omega) (by omega)
    have ex1 : (x + 1) * c = x * c + c := by rw [Int.add_mul, Int.one_mul]
    obtain ⟨f', fp', f1', f2'⟩ := mkF_mul ((x + 1) * c) 10000 (by decide)
    obtain ⟨p1', p2', p3', p4'⟩ := mkF_pos ((x + 1) * c) 10000 hxc' (by decide)
    refine Ev.bind (weigh_ev s a b c (x + 1) h (by omega)) ?_
    generalize hN' : (mkF ((x + 1) * c) 10000).1 = N' at *
    generalize hD' : (mkF ((x + 1) * c) 10000).2 = D' at *
    have hgd' := mul_bd (show 0 ≤ g by omega) (show g ≤ 3980 by omega) (show 0 ≤ D' by omega) p4'
    have lt1 : g * D' < N' := by
      refine Int.lt_of_mul_lt_mul_left ?_ (Int.le_of_lt fp')
      rw [← f1', ← Int.mul_assoc, Int.mul_comm f' g, Int.mul_assoc, ← f2', ex1]
      omega
    simp only [if_true, show ¬ D' < 1 by omega, if_false, w64 (n := g * D') (by omega) (by omega), show ¬ N' ≤ g * D' by omega]
    exact parts_ev l1 b1 s a b c h hb5
  · simp only [if_true]; exact ev_now _

end Go.Proofs.YtginmioklkcgbaaDoor.Pure

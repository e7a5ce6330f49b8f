/- The pure statement of FnExactReadDecimal: numbers and lists alone. No condition. -/
import Derived.Test.YtginmioklkcgbaaDoorQFnExactReadDecimalx2
import Derived.Test.YtginmioklkcgbaaDoorAid
namespace Go.Proofs.YtginmioklkcgbaaDoor.Pure
open Go.RowKit Go.Proofs.YtginmioklkcgbaaDoor.QFnExactReadDecimal Go.Proofs.YtginmioklkcgbaaDoorW.PrintWords Go.Proofs.YtginmioklkcgbaaDoorW.PrintLast Go.Proofs.YtginmioklkcgbaaDoorW.PrintMore Go.Proofs.YtginmioklkcgbaaDoor.Aid
set_option linter.unusedVariables false
set_option linter.unusedSimpArgs false

/-! ### decimal forms -/
def decV (n : Int) : ByteArray := ⟨(Lib.itoa n).toArray⟩
def digI (u : Nat) : List Int := (Lib.decDigits u).map fun b => (b.toNat : Int)
theorem digI_one {u : Nat} (h : u < 10) : digI u = [48 + (u : Int)] := by
  unfold digI
  rw [Lib.decDigits, dif_pos h]
  simp only [List.map_cons, List.map_nil, UInt8.toNat_ofNat']
  congr 1
  omega
theorem digI_more {u : Nat} (h : ¬ u < 10) : digI u = digI (u / 10) ++ [48 + ((u % 10 : Nat) : Int)] := by
  unfold digI
  rw [Lib.decDigits, dif_neg h]
  simp only [List.map_append, List.map_cons, List.map_nil, UInt8.toNat_ofNat']
  congr 2
  omega
theorem digI_len (u : Nat) : (digI u).length = Lib.nDigits u := by unfold digI; rw [List.length_map, Lib.decDigits_length]
theorem digI_str (u : Nat) : strOfNums (digI u) = ⟨(Lib.decDigits u).toArray⟩ := by
  unfold strOfNums digI
  rw [List.map_map]
  congr 2
  have e : ((fun n : Int => UInt8.ofNat n.toNat) ∘ fun b : UInt8 => (b.toNat : Int)) = id := by
    funext b
    simp only [Function.comp_apply, Int.toNat_natCast, UInt8.ofNat_toNat, id]
  rw [e, List.map_id]
theorem tdiv10 (x : Int) : (Int.tdiv x 10).natAbs = x.natAbs / 10 := by rw [Int.natAbs_tdiv]; rfl
theorem tmod10 (x : Int) : (Int.tmod x 10).natAbs = x.natAbs % 10 := by rw [Int.natAbs_tmod]; rfl
theorem dec_loop (n : Int) (r : ByteArray) : ∀ (m : Nat) (x : Int) (out : List Int), x.natAbs ≤ m → x ≠ 0 → -9223372036854775808 ≤ x → x ≤ 9223372036854775807 → out.length + Lib.nDigits x.natAbs ≤ 100 →
    Ev (fun k => spec_l01Dec.l0 k n (digI x.natAbs ++ out) 0) r → Ev (fun k => spec_l01Dec.l0 k n out x) r := by
  intro m
  induction m with
  | zero => intro x out h1 h2; omega
  | succ m ih =>
    intro x out h1 h2 h3 h4 h5 hr
    have d1 := tdiv10 x
    have d2 := tmod10 x
    have np := Lib.nDigits_pos x.natAbs
    have q10 : ((x.natAbs % 10 : Nat) : Int) < 10 := Int.ofNat_lt.2 (Nat.mod_lt _ (by decide))
    have e256 : (48 + ((x.natAbs % 10 : Nat) : Int)) % 256 = 48 + ((x.natAbs % 10 : Nat) : Int) := by
      exact Int.emod_eq_of_lt (by have := Int.natCast_nonneg (x.natAbs % 10); omega) (by omega)
    have key : ∀ c : Int, c = 48 + ((x.natAbs % 10 : Nat) : Int) → Ev (fun k => spec_l01Dec.l0 k n ([c] ++ out) (wrap64 (Int.tdiv x 10))) r := by
      intro c hc
      have w : wrap64 (Int.tdiv x 10) = Int.tdiv x 10 := w64 (by omega) (by omega)
      rw [w]
      by_cases hx : x.natAbs < 10
      · have e0 : Int.tdiv x 10 = 0 := by omega
        rw [digI_one hx] at hr
        rw [e0, hc, Nat.mod_eq_of_lt hx]
        exact hr
      · rw [digI_more hx, ← hc, List.append_assoc, ← d1] at hr
        rw [Lib.nDigits_big hx] at h5
        exact ih (Int.tdiv x 10) ([c] ++ out) (by omega) (by omega) (by omega) (by omega) (by rw [d1]; simp only [List.length_append, List.length_singleton]; omega) hr
    refine ev_succ ?_
    by_cases hs : Int.tmod x 10 < 0
    · have w1 : wrap64 (-(Int.tmod x 10)) = ((x.natAbs % 10 : Nat) : Int) := by rw [w64 (by omega) (by omega)]; omega
      have w2 : wrap64 (48 + ((x.natAbs % 10 : Nat) : Int)) = 48 + ((x.natAbs % 10 : Nat) : Int) := w64 (by omega) (by omega)
      simp only [spec_l01Dec.l0, h2, hs, if_true, if_false, Option.bind_some, w1, w2, List.length_singleton, show 1 + out.length < 140737488355328 by omega]
      exact key _ e256
    · have w1 : wrap64 (48 + Int.tmod x 10) = 48 + ((x.natAbs % 10 : Nat) : Int) := by rw [w64 (by omega) (by omega)]; omega
      simp only [spec_l01Dec.l0, h2, hs, if_true, if_false, Option.bind_some, w1, List.length_singleton, show 1 + out.length < 140737488355328 by omega]
      exact key _ e256
theorem nDigits_le (u : Nat) (h : u ≤ 9223372036854775808) : Lib.nDigits u ≤ 20 := by
  have step : ∀ (d u : Nat), u < 10 ^ d → Lib.nDigits u ≤ d + 1 := by
    intro d
    induction d with
    | zero => intro u h; rw [Lib.nDigits_small (by simp at h; omega)]; omega
    | succ d ih =>
      intro u h
      by_cases c : u < 10
      · rw [Lib.nDigits_small c]; omega
      · rw [Lib.nDigits_big c]
        have := ih (u / 10) (by rw [Nat.pow_succ] at h; omega)
        omega
  exact step 19 u (by omega)
theorem append45 (l : List UInt8) : (⟨#[45]⟩ : ByteArray) ++ (⟨l.toArray⟩ : ByteArray) = ⟨(45 :: l).toArray⟩ := by
  apply ByteArray.ext
  rw [ByteArray.data_append]
  simp
theorem spec_l01Dec_ev (n : Int) (h0 : -9223372036854775808 ≤ n) (h1 : n ≤ 9223372036854775807) : Ev (fun k => spec_l01Dec.f k n) (decV n) := by
  simp only [spec_l01Dec.f]
  by_cases hz : n = 0
  · subst hz
    refine ev_succ ?_
    simp only [spec_l01Dec.l0, if_true, List.length_nil]
    refine ev_to (ev_now _) ?_
    unfold decV Lib.itoa
    rw [if_neg (by decide), Lib.decDigits, dif_pos (by decide)]
    rfl
  · have np := Lib.nDigits_pos n.natAbs
    have nl := nDigits_le n.natAbs (by omega)
    refine dec_loop n _ n.natAbs n [] (Nat.le_refl _) hz h0 h1 (by simp only [List.length_nil]; omega) ?_
    refine ev_succ ?_
    simp only [spec_l01Dec.l0, if_true, List.append_nil, digI_len, show ¬ ((Lib.nDigits n.natAbs : Nat) : Int) = 0 by omega, if_false]
    by_cases hs : n < 0
    · simp only [hs, if_true, strOfNums_size, digI_len, show 1 + Lib.nDigits n.natAbs ≤ 9223372036854775807 by omega]
      refine ev_to (ev_now _) ?_
      unfold decV Lib.itoa
      rw [digI_str, append45, if_pos hs]
    · simp only [hs, if_false]
      refine ev_to (ev_now _) ?_
      unfold decV Lib.itoa
      rw [digI_str, if_neg hs, show n.natAbs = n.toNat by omega]
theorem impl_Decimal_eq (n : Int) (h0 : -9223372036854775808 ≤ n) (h1 : n ≤ 9223372036854775807) : impl_Decimal.f n = some (decV n) := by
  simp only [impl_Decimal.f, strconv_FormatInt.f, h0, h1, and_self, if_true, Option.bind_some]
  rfl

theorem bt_get (s : ByteArray) {i : Nat} (h : i < s.size) : bt s (i : Int) = ((s.data.toList[i]'(by rw [Array.length_toList]; exact h)).toNat : Int) := by
  unfold bt
  rw [dif_pos (show ((i : Int)).toNat < s.size by rw [Int.toNat_natCast]; exact h)]
  simp only [Int.toNat_natCast]
  rfl
def toBA (l : List UInt8) : ByteArray := ⟨l.toArray⟩
theorem toBA_data (s : ByteArray) : toBA s.data.toList = s := by unfold toBA; simp
theorem data_toBA (l : List UInt8) : (toBA l).data.toList = l := by unfold toBA; simp
theorem extract_BA (s : ByteArray) (a b : Nat) : s.extract a b = toBA ((s.data.toList.drop a).take (b - a)) := by
  unfold toBA
  apply ByteArray.ext
  rw [ByteArray.data_extract]
  apply Array.ext'
  simp [List.take_drop]

/-! ### numbers read -/
def isDig (b : UInt8) : Bool := decide (48 ≤ (b.toNat : Int)) && decide ((b.toNat : Int) ≤ 57)
def digV (l : List UInt8) : Int := l.foldl (fun a b => 10 * a + ((b.toNat : Int) - 48)) 0
theorem digV_snoc (l : List UInt8) (b : UInt8) : digV (l ++ [b]) = 10 * digV l + ((b.toNat : Int) - 48) := by unfold digV; rw [List.foldl_append]; rfl
theorem digV_fold : ∀ (l : List UInt8) (a : Int), 0 ≤ a → l.all isDig = true → 0 ≤ l.foldl (fun a b => 10 * a + ((b.toNat : Int) - 48)) a ∧ l.foldl (fun a b => 10 * a + ((b.toNat : Int) - 48)) a + 1 ≤ (a + 1) * 10 ^ l.length
  | [], a, h, _ => by simp only [List.foldl_nil, List.length_nil, Int.pow_zero, Int.mul_one]; omega
  | b :: l, a, h, hd => by
    rw [List.all_cons, Bool.and_eq_true] at hd
    have hb := hd.1
    unfold isDig at hb
    simp only [Bool.and_eq_true, decide_eq_true_eq] at hb
    obtain ⟨h1, h2⟩ := digV_fold l (10 * a + ((b.toNat : Int) - 48)) (by omega) hd.2
    rw [List.foldl_cons, List.length_cons, Int.pow_succ]
    refine ⟨h1, Int.le_trans h2 ?_⟩
    have p : (0 : Int) ≤ 10 ^ l.length := Int.pow_nonneg (by decide)
    have m := Int.mul_le_mul_of_nonneg_right (show 10 * a + ((b.toNat : Int) - 48) + 1 ≤ (a + 1) * 10 by omega) p
    rw [Int.mul_assoc] at m
    rw [Int.mul_comm (10 ^ l.length) 10]
    exact m
theorem digV_bound (l : List UInt8) (h : l.all isDig = true) (hl : l.length ≤ 18) : 0 ≤ digV l ∧ digV l + 1 ≤ 1000000000000000000 := by
  have := digV_fold l 0 (Int.le_refl _) h
  have e : (10 : Int) ^ l.length ≤ 10 ^ 18 := by
    have := Nat.pow_le_pow_right (show 0 < 10 by decide) hl
    exact_mod_cast this
  unfold digV
  refine ⟨this.1, ?_⟩
  have h2 := this.2
  rw [show ((0 : Int) + 1) * 10 ^ l.length = 10 ^ l.length by omega] at h2
  have e2 : (10 : Int) ^ 18 = 1000000000000000000 := by decide
  omega
def endV (s : ByteArray) (n : Int) : Int × Bool := if (decV n).toList = s.toList then (n, true) else (0, false)
def numT (s t : ByteArray) : Int × Bool := if t.data.toList.all isDig = true then (if (t.size : Int) < (s.size : Int) then endV s (-digV t.data.toList) else endV s (digV t.data.toList)) else (0, false)
def strip (s : ByteArray) : ByteArray := toBA (Lib.trimPrefix s.data.toList [45])
def numV (s : ByteArray) : Int × Bool := if (strip s).size < 1 ∨ (strip s).size > 18 then (0, false) else numT s (strip s)
theorem all_take {α : Type} (l : List α) (p : α → Bool) {n : Nat} (h : n < l.length) : (l.take (n + 1)).all p = ((l.take n).all p && p l[n]) := by
  rw [List.take_succ_eq_append_getElem h, List.all_append, List.all_cons, List.all_nil, Bool.and_true]
theorem all_no {α : Type} (l : List α) (p : α → Bool) {n : Nat} (h : n < l.length) (hp : p l[n] = false) : l.all p = false := by
  rw [List.all_eq_false]; exact ⟨l[n], List.getElem_mem h, by simp [hp]⟩
theorem digV_take (l : List UInt8) {n : Nat} (h : n < l.length) : digV (l.take (n + 1)) = 10 * digV (l.take n) + ((l[n].toNat : Int) - 48) := by
  rw [List.take_succ_eq_append_getElem h, digV_snoc]
theorem spec_num_loop (s t : ByteArray) (ht : t.size ≤ 18) : Ev (fun k => spec_l01Number.l0 k s t 0 0) (numT s t) := by
  suffices key : ∃ r, Ev (fun k => spec_l01Number.l0 k s t 0 0) r ∧ r = numT s t by obtain ⟨r, hr, e⟩ := key; exact e ▸ hr
  have hl : t.data.toList.length = t.size := Array.length_toList
  refine ev_loop (len := t.size) (g := fun k v i => spec_l01Number.l0 k s t v i) (fun n v => v = digV (t.data.toList.take n) ∧ (t.data.toList.take n).all isDig = true) (fun r => r = numT s t) ?_ ?_ 0 ⟨rfl, rfl⟩
  · intro n v hn ⟨hv, hd⟩
    have bd := digV_bound _ hd (by rw [List.length_take]; omega)
    have bd1 : n < 18 := by omega
    have fo := (digV_fold (t.data.toList.take n) 0 (Int.le_refl _) hd).2
    have e17 : (10 : Int) ^ (t.data.toList.take n).length ≤ 10 ^ 17 := by
      have := Nat.pow_le_pow_right (show 0 < 10 by decide) (show (t.data.toList.take n).length ≤ 17 by rw [List.length_take]; omega)
      exact_mod_cast this
    have e2 : (10 : Int) ^ 17 = 100000000000000000 := by decide
    have bd2 : v + 1 ≤ 100000000000000000 := by
      rw [hv]; unfold digV
      rw [show ((0 : Int) + 1) * 10 ^ (t.data.toList.take n).length = 10 ^ (t.data.toList.take n).length by omega] at fo
      omega
    have hb := bt_get t hn
    have hn' : n < t.data.toList.length := by omega
    generalize hc : t.data.toList[n] = c at hb
    have hcr : (c.toNat : Int) < 256 := by have := c.toNat_lt; omega
    have hc0 : (0 : Int) ≤ (c.toNat : Int) := Int.natCast_nonneg _
    rw [← hv] at bd
    cases hp : isDig c with
    | true =>
      have hp' := hp
      unfold isDig at hp'
      simp only [Bool.and_eq_true, decide_eq_true_eq] at hp'
      refine .inr ⟨10 * v + ((c.toNat : Int) - 48), ⟨by rw [digV_take _ hn', hc, hv], by rw [all_take _ _ hn', hd, hc, hp]; rfl⟩, fun r hr => ev_succ ?_⟩
      simp only [spec_l01Number.l0, Int.ofNat_lt.2 hn, show (0 : Int) ≤ (n : Int) from Int.natCast_nonneg _, if_true, spec_l01Digit.f, hb, show (c.toNat : Int) ≥ 48 by omega, Option.bind_some, show (c.toNat : Int) ≤ 57 by omega, decide_true,
        w64 (n := 10 * v) (by omega) (by omega), show ((c.toNat : Int) - 48) % 256 = (c.toNat : Int) - 48 by omega, w64 (n := 10 * v + ((c.toNat : Int) - 48)) (by omega) (by omega), wnext hn (by omega : t.size ≤ 9223372036854775807)]
      exact hr
    | false =>
      refine .inl ⟨(0, false), ev_succ ?_, by unfold numT; rw [all_no _ isDig hn' (by rw [hc, hp])]; rfl⟩
      by_cases h48 : (c.toNat : Int) ≥ 48
      · have h57 : ¬ (c.toNat : Int) ≤ 57 := by
          intro h; unfold isDig at hp; simp only [show 48 ≤ (c.toNat : Int) by omega, h, decide_true, Bool.and_self] at hp; cases hp
        simp only [spec_l01Number.l0, Int.ofNat_lt.2 hn, show (0 : Int) ≤ (n : Int) from Int.natCast_nonneg _, if_true, spec_l01Digit.f, hb, h48, Option.bind_some, h57, decide_false, Bool.false_eq_true, if_false]
        exact ev_now _
      · simp only [spec_l01Number.l0, Int.ofNat_lt.2 hn, show (0 : Int) ≤ (n : Int) from Int.natCast_nonneg _, if_true, spec_l01Digit.f, hb, h48, Option.bind_some, Bool.false_eq_true, if_false]
        exact ev_now _
  · intro v ⟨hv, hd⟩
    rw [List.take_of_length_le (by omega)] at hv hd
    have bd := digV_bound _ hd (by omega)
    rw [← hv] at bd
    refine ⟨_, ev_succ ?_, rfl⟩
    unfold numT
    rw [if_pos hd, ← hv]
    simp only [spec_l01Number.l0, Int.lt_irrefl, if_false, w64 (n := -v) (by omega) (by omega)]
    by_cases hs : (t.size : Int) < (s.size : Int)
    · simp only [hs, if_true]
      refine Ev.bind (spec_l01Dec_ev (-v) (by omega) (by omega)) ?_
      unfold endV
      by_cases he : (decV (-v)).toList = s.toList
      · simp only [he, if_true]; exact ev_now _
      · simp only [he, if_false]; exact ev_now _
    · simp only [hs, if_false]
      refine Ev.bind (spec_l01Dec_ev v (by omega) (by omega)) ?_
      unfold endV
      by_cases he : (decV v).toList = s.toList
      · simp only [he, if_true]; exact ev_now _
      · simp only [he, if_false]; exact ev_now _
theorem impl_num_loop (s t : ByteArray) (ht : t.size ≤ 18) : Ev (fun k => impl_ReadDecimal.l0 k s t 0 0) (numT s t) := by
  suffices key : ∃ r, Ev (fun k => impl_ReadDecimal.l0 k s t 0 0) r ∧ r = numT s t by obtain ⟨r, hr, e⟩ := key; exact e ▸ hr
  have hl : t.data.toList.length = t.size := Array.length_toList
  refine ev_loop (len := t.size) (g := fun k v i => impl_ReadDecimal.l0 k s t v i) (fun n v => v = digV (t.data.toList.take n) ∧ (t.data.toList.take n).all isDig = true) (fun r => r = numT s t) ?_ ?_ 0 ⟨rfl, rfl⟩
  · intro n v hn ⟨hv, hd⟩
    have bd := digV_bound _ hd (by rw [List.length_take]; omega)
    have fo := (digV_fold (t.data.toList.take n) 0 (Int.le_refl _) hd).2
    have e17 : (10 : Int) ^ (t.data.toList.take n).length ≤ 10 ^ 17 := by
      have := Nat.pow_le_pow_right (show 0 < 10 by decide) (show (t.data.toList.take n).length ≤ 17 by rw [List.length_take]; omega)
      exact_mod_cast this
    have e2 : (10 : Int) ^ 17 = 100000000000000000 := by decide
    have bd2 : v + 1 ≤ 100000000000000000 := by
      rw [hv]; unfold digV
      rw [show ((0 : Int) + 1) * 10 ^ (t.data.toList.take n).length = 10 ^ (t.data.toList.take n).length by omega] at fo
      omega
    have hb := bt_get t hn
    have hn' : n < t.data.toList.length := by omega
    generalize hc : t.data.toList[n] = c at hb
    have hcr : (c.toNat : Int) < 256 := by have := c.toNat_lt; omega
    have hc0 : (0 : Int) ≤ (c.toNat : Int) := Int.natCast_nonneg _
    rw [← hv] at bd
    cases hp : isDig c with
    | true =>
      have hp' := hp
      unfold isDig at hp'
      simp only [Bool.and_eq_true, decide_eq_true_eq] at hp'
      refine .inr ⟨10 * v + ((c.toNat : Int) - 48), ⟨by rw [digV_take _ hn', hc, hv], by rw [all_take _ _ hn', hd, hc, hp]; rfl⟩, fun r hr => ev_succ ?_⟩
      simp only [impl_ReadDecimal.l0, Int.ofNat_lt.2 hn, show (0 : Int) ≤ (n : Int) from Int.natCast_nonneg _, if_true, hb, show ¬ (c.toNat : Int) < 48 by omega, show ¬ (c.toNat : Int) > 57 by omega, if_false,
        w64 (n := 10 * v) (by omega) (by omega), show ((c.toNat : Int) - 48) % 256 = (c.toNat : Int) - 48 by omega, w64 (n := 10 * v + ((c.toNat : Int) - 48)) (by omega) (by omega), wnext hn (by omega : t.size ≤ 9223372036854775807)]
      exact hr
    | false =>
      refine .inl ⟨(0, false), ev_succ ?_, by unfold numT; rw [all_no _ isDig hn' (by rw [hc, hp])]; rfl⟩
      by_cases h48 : (c.toNat : Int) < 48
      · simp only [impl_ReadDecimal.l0, Int.ofNat_lt.2 hn, show (0 : Int) ≤ (n : Int) from Int.natCast_nonneg _, if_true, hb, h48]
        exact ev_now _
      · have h57 : (c.toNat : Int) > 57 := by
          refine Int.not_le.1 fun h => ?_
          unfold isDig at hp; simp only [show 48 ≤ (c.toNat : Int) by omega, h, decide_true, Bool.and_self] at hp; cases hp
        simp only [impl_ReadDecimal.l0, Int.ofNat_lt.2 hn, show (0 : Int) ≤ (n : Int) from Int.natCast_nonneg _, if_true, hb, h48, h57, if_false]
        exact ev_now _
  · intro v ⟨hv, hd⟩
    rw [List.take_of_length_le (by omega)] at hv hd
    have bd := digV_bound _ hd (by omega)
    rw [← hv] at bd
    refine ⟨_, ev_succ ?_, rfl⟩
    unfold numT
    rw [if_pos hd, ← hv]
    simp only [impl_ReadDecimal.l0, Int.lt_irrefl, if_false, w64 (n := -v) (by omega) (by omega), impl_Decimal_eq v (by omega) (by omega), impl_Decimal_eq (-v) (by omega) (by omega), Option.bind_some]
    unfold endV
    by_cases hs : (t.size : Int) < (s.size : Int)
    · simp only [hs, if_true]
      by_cases he : (decV (-v)).toList = s.toList
      · simp only [he, if_true]; exact ev_now _
      · simp only [he, if_false]; exact ev_now _
    · simp only [hs, if_false]
      by_cases he : (decV v).toList = s.toList
      · simp only [he, if_true]; exact ev_now _
      · simp only [he, if_false]; exact ev_now _
theorem spec_num_rest (s t : ByteArray) : Ev (fun k => spec_l01Number.j1 k s t) (if t.size < 1 ∨ t.size > 18 then (0, false) else numT s t) := by
  refine ev_succ ?_
  by_cases h1 : (t.size : Int) < 1
  · simp only [spec_l01Number.j1, h1, if_true, show t.size < 1 ∨ t.size > 18 by omega]
    refine ev_succ ?_
    simp only [spec_l01Number.j2, if_true]; exact ev_now _
  · by_cases h2 : (t.size : Int) > 18
    · simp only [spec_l01Number.j1, h1, h2, if_false, decide_true, if_true, show t.size < 1 ∨ t.size > 18 by omega]
      refine ev_succ ?_
      simp only [spec_l01Number.j2, if_true]; exact ev_now _
    · simp only [spec_l01Number.j1, h1, h2, if_false, decide_false, show ¬ (t.size < 1 ∨ t.size > 18) by omega]
      refine ev_succ ?_
      simp only [spec_l01Number.j2, Bool.false_eq_true, if_false]; exact spec_num_loop s t (by omega)
theorem spec_l01Number_ev (s : ByteArray) (hs : s.size ≤ 140737488351232) : Ev (fun k => spec_l01Number.f k s) (numV s) := by
  have hl : s.data.toList.length = s.size := Array.length_toList
  unfold numV
  by_cases h0 : s.size = 0
  · have e : strip s = s := by
      unfold strip Lib.trimPrefix
      have : s.data.toList = [] := List.length_eq_zero_iff.1 (by omega)
      rw [this]
      apply ByteArray.ext
      apply Array.ext'
      rw [data_toBA, this]
      rfl
    have e2 : s.toList = ([] : List UInt8) := by rw [← List.length_eq_zero_iff, ByteArray.toList_eq, hl]; exact h0
    rw [e]
    simp only [spec_l01Number.f, e2, if_true]
    refine ev_succ ?_
    simp only [spec_l01Number.j0, Bool.false_eq_true, if_false]
    exact spec_num_rest s s
  · have e2 : ¬ s.toList = ([] : List UInt8) := by rw [← List.length_eq_zero_iff, ByteArray.toList_eq, hl]; exact h0
    have hb := bt_get s (show 0 < s.size by omega)
    simp only [spec_l01Number.f, e2, if_false, show 0 < (s.size : Int) by omega, if_true]
    refine ev_succ ?_
    obtain ⟨b, l, hbl⟩ : ∃ b l, s.data.toList = b :: l := by
      cases h : s.data.toList with
      | nil => rw [h] at hl; simp at hl; omega
      | cons b l => exact ⟨b, l, rfl⟩
    have hb2 : bt s 0 = (b.toNat : Int) := by
      have : bt s ((0 : Nat) : Int) = _ := hb
      simp only [hbl, List.getElem_cons_zero] at this
      exact this
    rw [hb2]
    by_cases h45 : b = 45
    · have e3 : ((b.toNat : Int) == 45) = true := by subst h45; rfl
      have e4 : strip s = s.extract 1 s.size := by
        unfold strip Lib.trimPrefix Lib.hasPrefix
        rw [extract_BA, hbl, h45]
        congr 1
        have : l.length = s.size - 1 := by rw [hbl] at hl; simp at hl; omega
        simp [List.isPrefixOf, ← this]
      rw [e4]
      simp only [spec_l01Number.j0, e3, if_true, show 1 ≤ (s.size : Int) by omega]
      exact spec_num_rest s _
    · have ne : ¬ (b.toNat : Int) = 45 := by
        intro h
        exact h45 (UInt8.toNat_inj.1 (show b.toNat = 45 by omega))
      have e3 : ((b.toNat : Int) == 45) = false := beq_eq_false_iff_ne.2 ne
      have e4 : strip s = s := by
        unfold strip Lib.trimPrefix Lib.hasPrefix
        rw [hbl, show List.isPrefixOf [45] (b :: l) = false by simp [List.isPrefixOf, Ne.symm h45]]
        simp only [Bool.false_eq_true, if_false]
        rw [← hbl, toBA_data]
      rw [e4]
      simp only [spec_l01Number.j0, e3, Bool.false_eq_true, if_false]
      exact spec_num_rest s s
theorem impl_ReadDecimal_ev (s : ByteArray) : Ev (fun k => impl_ReadDecimal.f k s) (numV s) := by
  have e : strings_TrimPrefix.f s (⟨#[45]⟩ : ByteArray) = some (strip s) := rfl
  simp only [impl_ReadDecimal.f, e, Option.bind_some]
  unfold numV
  generalize strip s = t
  by_cases h1 : (t.size : Int) < 1
  · simp only [h1, if_true, show t.size < 1 ∨ t.size > 18 by omega]
    refine ev_succ ?_
    simp only [impl_ReadDecimal.j0, if_true]; exact ev_now _
  · by_cases h2 : (t.size : Int) > 18
    · simp only [h1, h2, if_false, decide_true, if_true, show t.size < 1 ∨ t.size > 18 by omega]
      refine ev_succ ?_
      simp only [impl_ReadDecimal.j0, if_true]; exact ev_now _
    · simp only [h1, h2, if_false, decide_false, show ¬ (t.size < 1 ∨ t.size > 18) by omega]
      refine ev_succ ?_
      simp only [impl_ReadDecimal.j0, Bool.false_eq_true, if_false]; exact impl_num_loop s t (by omega)

theorem FnExactReadDecimal : laws_FnExactReadDecimal.Pure := by
  intro s hs
  refine Ev.rounds ?_
  simp only [laws_FnExactReadDecimal.f, spec_ReadDecimal.f]
  by_cases hz : (s.size : Int) > 1048576
  · simp only [hz, if_true]; exact ev_now _
  simp only [hz, if_false]
  refine Ev.bind (Ev.bind (spec_l01Number_ev s hs) (ev_now _)) (Ev.bind (impl_ReadDecimal_ev s) ?_)
  simp only [if_true, bne_self_eq_false, Bool.false_eq_true, if_false]
  exact ev_now _

end Go.Proofs.YtginmioklkcgbaaDoor.Pure

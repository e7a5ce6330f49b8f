/- The pure statement of FnExactDecimal: numbers and lists alone. No condition. -/
import Derived.Test.YtginmioklkcgbaaDoorQFnExactDecimalx1
import Derived.Test.YtginmioklkcgbaaDoorAid
namespace Go.Proofs.YtginmioklkcgbaaDoor.Pure
open Go.RowKit Go.Proofs.YtginmioklkcgbaaDoor.QFnExactDecimal Go.Proofs.YtginmioklkcgbaaDoorW.PrintWords Go.Proofs.YtginmioklkcgbaaDoorW.PrintLast Go.Proofs.YtginmioklkcgbaaDoorW.PrintMore Go.Proofs.YtginmioklkcgbaaDoor.Aid
set_option linter.unusedVariables false
set_option linter.unusedSimpArgs false

/-! ### decimal forms -/
def decV (n : Int) : ByteArray := ⟨(Lib.itoa n).toArray⟩
def digI (u : Nat) : List Int := (Lib.decDigits u).map fun b => (b.toNat : Int)
theorem digI_one {u : Nat} (h : u < 10) : digI u = [48 + (u : Int)] := by
  unfold digI
  rw [Lib.decDigits, dif_pos h]
  simp only [List.map_cons, List.map_nil, UInt8.toNat_ofNat']
  congr 1
  omega
theorem digI_more {u : Nat} (h : ¬ u < 10) : digI u = digI (u / 10) ++ [48 + ((u % 10 : Nat) : Int)] := by
  unfold digI
  rw [Lib.decDigits, dif_neg h]
  simp only [List.map_append, List.map_cons, List.map_nil, UInt8.toNat_ofNat']
  congr 2
  omega
theorem digI_len (u : Nat) : (digI u).length = Lib.nDigits u := by unfold digI; rw [List.length_map, Lib.decDigits_length]
theorem digI_str (u : Nat) : strOfNums (digI u) = ⟨(Lib.decDigits u).toArray⟩ := by
  unfold strOfNums digI
  rw [List.map_map]
  congr 2
  have e : ((fun n : Int => UInt8.ofNat n.toNat) ∘ fun b : UInt8 => (b.toNat : Int)) = id := by
    funext b
    simp only [Function.comp_apply, Int.toNat_natCast, UInt8.ofNat_toNat, id]
  rw [e, List.map_id]
theorem tdiv10 (x : Int) : (Int.tdiv x 10).natAbs = x.natAbs / 10 := by rw [Int.natAbs_tdiv]; rfl
theorem tmod10 (x : Int) : (Int.tmod x 10).natAbs = x.natAbs % 10 := by rw [Int.natAbs_tmod]; rfl
theorem dec_loop (n : Int) (r : ByteArray) : ∀ (m : Nat) (x : Int) (out : List Int), x.natAbs ≤ m → x ≠ 0 → -9223372036854775808 ≤ x → x ≤ 9223372036854775807 → out.length + Lib.nDigits x.natAbs ≤ 100 →
    Ev (fun k => spec_l01Dec.l0 k n (digI x.natAbs ++ out) 0) r → Ev (fun k => spec_l01Dec.l0 k n out x) r := by
  intro m
  induction m with
  | zero => intro x out h1 h2; omega
  | succ m ih =>
    intro x out h1 h2 h3 h4 h5 hr
    have d1 := tdiv10 x
    have d2 := tmod10 x
    have np := Lib.nDigits_pos x.natAbs
    have q10 : ((x.natAbs % 10 : Nat) : Int) < 10 := Int.ofNat_lt.2 (Nat.mod_lt _ (by decide))
    have e256 : (48 + ((x.natAbs % 10 : Nat) : Int)) % 256 = 48 + ((x.natAbs % 10 : Nat) : Int) := by
      exact Int.emod_eq_of_lt (by have := Int.natCast_nonneg (x.natAbs % 10); omega) (by omega)
    have key : ∀ c : Int, c = 48 + ((x.natAbs % 10 : Nat) : Int) → Ev (fun k => spec_l01Dec.l0 k n ([c] ++ out) (wrap64 (Int.tdiv x 10))) r := by
      intro c hc
      have w : wrap64 (Int.tdiv x 10) = Int.tdiv x 10 := w64 (by omega) (by omega)
      rw [w]
      by_cases hx : x.natAbs < 10
      · have e0 : Int.tdiv x 10 = 0 := by omega
        rw [digI_one hx] at hr
        rw [e0, hc, Nat.mod_eq_of_lt hx]
        exact hr
      · rw [digI_more hx, ← hc, List.append_assoc, ← d1] at hr
        rw [Lib.nDigits_big hx] at h5
        exact ih (Int.tdiv x 10) ([c] ++ out) (by omega) (by omega) (by omega) (by omega) (by rw [d1]; simp only [List.length_append, List.length_singleton]; omega) hr
    refine ev_succ ?_
    by_cases hs : Int.tmod x 10 < 0
    · have w1 : wrap64 (-(Int.tmod x 10)) = ((x.natAbs % 10 : Nat) : Int) := by rw [w64 (by omega) (by omega)]; omega
      have w2 : wrap64 (48 + ((x.natAbs % 10 : Nat) : Int)) = 48 + ((x.natAbs % 10 : Nat) : Int) := w64 (by omega) (by omega)
      simp only [spec_l01Dec.l0, h2, hs, if_true, if_false, Option.bind_some, w1, w2, List.length_singleton, show 1 + out.length < 140737488355328 by omega]
      exact key _ e256
    · have w1 : wrap64 (48 + Int.tmod x 10) = 48 + ((x.natAbs % 10 : Nat) : Int) := by rw [w64 (by omega) (by omega)]; omega
      simp only [spec_l01Dec.l0, h2, hs, if_true, if_false, Option.bind_some, w1, List.length_singleton, show 1 + out.length < 140737488355328 by omega]
      exact key _ e256
theorem nDigits_le (u : Nat) (h : u ≤ 9223372036854775808) : Lib.nDigits u ≤ 20 := by
  have step : ∀ (d u : Nat), u < 10 ^ d → Lib.nDigits u ≤ d + 1 := by
    intro d
    induction d with
    | zero => intro u h; rw [Lib.nDigits_small (by simp at h; omega)]; omega
    | succ d ih =>
      intro u h
      by_cases c : u < 10
      · rw [Lib.nDigits_small c]; omega
      · rw [Lib.nDigits_big c]
        have := ih (u / 10) (by rw [Nat.pow_succ] at h; omega)
        omega
  exact step 19 u (by omega)
theorem append45 (l : List UInt8) : (⟨#[45]⟩ : ByteArray) ++ (⟨l.toArray⟩ : ByteArray) = ⟨(45 :: l).toArray⟩ := by
  apply ByteArray.ext
  rw [ByteArray.data_append]
  simp
theorem spec_l01Dec_ev (n : Int) (h0 : -9223372036854775808 ≤ n) (h1 : n ≤ 9223372036854775807) : Ev (fun k => spec_l01Dec.f k n) (decV n) := by
  simp only [spec_l01Dec.f]
  by_cases hz : n = 0
  · subst hz
    refine ev_succ ?_
    simp only [spec_l01Dec.l0, if_true, List.length_nil]
    refine ev_to (ev_now _) ?_
    unfold decV Lib.itoa
    rw [if_neg (by decide), Lib.decDigits, dif_pos (by decide)]
    rfl
  · have np := Lib.nDigits_pos n.natAbs
    have nl := nDigits_le n.natAbs (by omega)
    refine dec_loop n _ n.natAbs n [] (Nat.le_refl _) hz h0 h1 (by simp only [List.length_nil]; omega) ?_
    refine ev_succ ?_
    simp only [spec_l01Dec.l0, if_true, List.append_nil, digI_len, show ¬ ((Lib.nDigits n.natAbs : Nat) : Int) = 0 by omega, if_false]
    by_cases hs : n < 0
    · simp only [hs, if_true, strOfNums_size, digI_len, show 1 + Lib.nDigits n.natAbs ≤ 9223372036854775807 by omega]
      refine ev_to (ev_now _) ?_
      unfold decV Lib.itoa
      rw [digI_str, append45, if_pos hs]
    · simp only [hs, if_false]
      refine ev_to (ev_now _) ?_
      unfold decV Lib.itoa
      rw [digI_str, if_neg hs, show n.natAbs = n.toNat by omega]
theorem spec_Decimal_ev (n : Int) (h0 : -9223372036854775808 ≤ n) (h1 : n ≤ 9223372036854775807) : Ev (fun k => spec_Decimal.f k n) (decV n) := by
  simp only [spec_Decimal.f]
  exact Ev.bind (spec_l01Dec_ev n h0 h1) (ev_now _)
theorem impl_Decimal_eq (n : Int) (h0 : -9223372036854775808 ≤ n) (h1 : n ≤ 9223372036854775807) : impl_Decimal.f n = some (decV n) := by
  simp only [impl_Decimal.f, strconv_FormatInt.f, h0, h1, and_self, if_true, Option.bind_some]
  rfl

theorem FnExactDecimal : laws_FnExactDecimal.Pure := by
  intro n hn
  refine Ev.rounds ?_
  have h := wf_range hn
  simp only [laws_FnExactDecimal.f]
  refine Ev.bind (spec_Decimal_ev n h.1 h.2) ?_
  rw [impl_Decimal_eq n h.1 h.2]
  simp only [Option.bind_some, if_true]
  exact ev_now _

end Go.Proofs.YtginmioklkcgbaaDoor.Pure

/- The pure statement of FnExactRopeLengths: numbers and lists alone. No condition. -/
import Derived.Test.YtbcgndhcieeloaaQFnExactRopeLengthsx6
import Derived.Test.YtbcgndhcieeloaaAid
namespace Go.Proofs.Ytbcgndhcieeloaa.Pure
open Go.RowKit Go.Proofs.Ytbcgndhcieeloaa.QFnExactRopeLengths Go.Proofs.YtbcgndhcieeloaaW.PrintWords Go.Proofs.YtbcgndhcieeloaaW.PrintLast Go.Proofs.YtbcgndhcieeloaaW.PrintMore Go.Proofs.Ytbcgndhcieeloaa.Aid
set_option linter.unusedVariables false
set_option linter.unusedSimpArgs false

def conv_Purchase (x : S47) : S45 := ⟨x.f0, x.f1, x.f2⟩
theorem laws_toPurchaseS_ev (xs : List S47) (h : xs.length ≤ 1048576) : Ev (fun k => laws_toPurchaseS.f k xs) (xs.map conv_Purchase) := by
  simp only [laws_toPurchaseS.f, Int.toNat_natCast, show (0 : Int) ≤ (xs.length : Int) from Int.natCast_nonneg _, if_true]
  rw [if_pos_ev (by omega)]
  have e : List.replicate xs.length z45 = (xs.take 0).map conv_Purchase ++ List.replicate (xs.length - 0) z45 := by simp
  have e2 : xs.map conv_Purchase = (xs.take xs.length).map conv_Purchase ++ List.replicate (xs.length - xs.length) z45 := by simp
  rw [e, e2]
  refine ev_fold (len := xs.length) (g := fun k s i => laws_toPurchaseS.l0 k xs s i) (fun n s => s.set n (conv_Purchase (xs.getD n z47))) (fun n => (xs.take n).map conv_Purchase ++ List.replicate (xs.length - n) z45) _ ?_ ?_ ?_
  · intro n hn; exact (fill_step xs conv_Purchase _ _ hn).symm
  · intro n hn r hr
    refine ev_succ ?_
    have l1 : (n : Int) < (((xs.take n).map conv_Purchase ++ List.replicate (xs.length - n) z45).length : Int) := by simp; omega
    simp only [laws_toPurchaseS.l0, laws_toPurchase.f, Option.bind_some, Int.ofNat_lt.2 hn, show (0 : Int) ≤ (n : Int) from Int.natCast_nonneg _, if_true, l1, wnext hn (by omega : xs.length ≤ 9223372036854775807), rd_T47, Int.toNat_natCast]
    exact hr
  · refine ev_succ ?_
    simp only [laws_toPurchaseS.l0, Int.lt_irrefl, if_false]
    exact ev_now _

theorem laws_eqPurchaseS_self (xs : List S45) (h : xs.length ≤ 9223372036854775807) : Ev (fun k => laws_eqPurchaseS.f k xs xs) true := by
  simp only [laws_eqPurchaseS.f, if_true]
  refine ev_to (ev_all (len := xs.length) (g := fun k i => laws_eqPurchaseS.l0 k xs xs i) (fun _ => true) true ?_ (fun n hn hp => by simp at hp) ?_) (by simp)
  · intro n hn hp r hr
    refine ev_succ ?_
    simp only [laws_eqPurchaseS.l0, laws_eqPurchase.f, Option.bind_some, Int.ofNat_lt.2 hn, show (0 : Int) ≤ (n : Int) from Int.natCast_nonneg _, if_true, bne_self_eq_false, Bool.false_eq_true, if_false, wnext hn h]
    exact hr
  · refine ev_succ ?_
    simp only [laws_eqPurchaseS.l0, Int.lt_irrefl, if_false]
    exact ev_now _

theorem laws_eqInt64S_self (xs : List Int) (h : xs.length ≤ 9223372036854775807) : Ev (fun k => laws_eqInt64S.f k xs xs) true := by
  simp only [laws_eqInt64S.f, if_true]
  refine ev_to (ev_all (len := xs.length) (g := fun k i => laws_eqInt64S.l0 k xs xs i) (fun _ => true) true ?_ (fun n hn hp => by simp at hp) ?_) (by simp)
  · intro n hn hp r hr
    refine ev_succ ?_
    simp only [laws_eqInt64S.l0, Int.ofNat_lt.2 hn, show (0 : Int) ≤ (n : Int) from Int.natCast_nonneg _, if_true, wnext hn h]
    exact hr
  · refine ev_succ ?_
    simp only [laws_eqInt64S.l0, Int.lt_irrefl, if_false]
    exact ev_now _

theorem laws_markInt64S_ev (xs : List Int) (h : xs.length ≤ 1048576) : Ev (fun k => laws_markInt64S.f k xs 1) (1 + (xs.length : Int), upI 1 xs.length) := by
  simp only [laws_markInt64S.f]
  have := ev_fold (len := xs.length) (g := fun k (s : List Int × Int) i => laws_markInt64S.l0 k s.1 s.2 i) (fun n s => (s.1.set n s.2, s.2 + 1)) (fun n => (upI 1 n ++ xs.drop n, 1 + (n : Int))) (1 + (xs.length : Int), upI 1 xs.length)
    (fun n hn => by
      rw [Prod.mk.injEq]
      exact ⟨(fill_up xs 1 hn).symm, by omega⟩)
    (fun n hn r hr => by
      refine ev_succ ?_
      have l1 : (n : Int) < ((upI 1 n ++ xs.drop n).length : Int) := by simp [upI_length]; omega
      have e1 : wrap64 (1 + (n : Int) + 1) = 1 + (n : Int) + 1 := w64 (by omega) (by omega)
      simp only [laws_markInt64S.l0, l1, show (0 : Int) ≤ (n : Int) from Int.natCast_nonneg _, if_true, e1, Int.toNat_natCast, wnext hn (by omega : xs.length ≤ 9223372036854775807)]
      exact hr)
    (by
      refine ev_succ ?_
      have l1 : ¬ ((xs.length : Int) < ((upI 1 xs.length ++ xs.drop xs.length).length : Int)) := by simp [upI_length]
      simp only [laws_markInt64S.l0, l1, if_false]
      exact ev_to (ev_now _) (by simp))
  simpa [upI] using this
theorem laws_heldInt64S_ev (n : Nat) (h : n ≤ 1048576) : Ev (fun k => laws_heldInt64S.f k (upI 1 n) 1) (1 + (n : Int)) := by
  simp only [laws_heldInt64S.f]
  have := ev_fold (len := n) (g := fun k (s : Int) i => laws_heldInt64S.l0 k (upI 1 n) s i) (fun _ s => s + 1) (fun i => 1 + (i : Int)) (1 + (n : Int))
    (fun i hi => by omega)
    (fun i hi r hr => by
      refine ev_succ ?_
      have l1 : (i : Int) < ((upI 1 n).length : Int) := by rw [upI_length]; omega
      have e1 : wrap64 (1 + (i : Int) + 1) = 1 + (i : Int) + 1 := w64 (by omega) (by omega)
      have e2 : rd (upI 1 n) (i : Int) = 1 + (i : Int) := by unfold rd; rw [Int.toNat_natCast]; exact upI_get 1 hi
      simp only [laws_heldInt64S.l0, l1, show (0 : Int) ≤ (i : Int) from Int.natCast_nonneg _, if_true, e1, e2, wnext hi (by omega : n ≤ 9223372036854775807)]
      exact hr)
    (by
      refine ev_succ ?_
      have l1 : ¬ ((n : Int) < ((upI 1 n).length : Int)) := by simp [upI_length]
      simp only [laws_heldInt64S.l0, l1, if_false]
      exact ev_now _)
  simpa using this

theorem laws_markPurchaseS_ev (xs : List S45) (h : xs.length ≤ 1048576) : ∃ r, Ev (fun k => laws_markPurchaseS.f k xs 1) r ∧ 0 ≤ r.1 := by
  simp only [laws_markPurchaseS.f]
  refine ev_loop (len := xs.length) (g := fun k (s : List S45 × Int) i => laws_markPurchaseS.l0 k s.1 s.2 i) (fun n s => s.1.length = xs.length ∧ s.2 = 1 + 3 * (n : Int)) (fun r => 0 ≤ r.1) ?_ ?_ (xs, 1) ⟨rfl, by simp⟩
  · rintro n ⟨l, q⟩ hn ⟨h1, h2⟩
    simp only at h1 h2
    subst h2
    have e0 : wrap64 (1 + 3 * (n : Int) + 1) = 1 + 3 * (n : Int) + 1 := w64 (by omega) (by omega)
    have e1 : wrap64 (1 + 3 * (n : Int) + 1 + 1) = 1 + 3 * (n : Int) + 1 + 1 := w64 (by omega) (by omega)
    have e2 : wrap64 (1 + 3 * (n : Int) + 1 + 1 + 1) = 1 + 3 * (n : Int) + 1 + 1 + 1 := w64 (by omega) (by omega)
    have l1 : (n : Int) < (l.length : Int) := by omega
    refine .inr ⟨(?L, ?Q), ⟨?len, ?num⟩, fun r hr => ?go⟩
    case go =>
      refine ev_succ ?_
      simp only [laws_markPurchaseS.l0, l1, show (0 : Int) ≤ (n : Int) from Int.natCast_nonneg _, if_true, e0, e1, e2, Option.bind_some, wnext hn (by omega : xs.length ≤ 9223372036854775807)]
      exact hr
    case len => simp [h1]
    case num => simp only; omega
  · rintro ⟨l, q⟩ ⟨h1, h2⟩
    simp only at h1 h2
    subst h2
    refine ⟨(1 + 3 * (xs.length : Int), l), ev_succ ?_, ?_⟩
    · simp only [laws_markPurchaseS.l0, h1, Int.lt_irrefl, if_false]
      exact ev_now _
    · simp only; omega

theorem spec_l00In_eq (a b c : Int) : spec_l00In.f a b c = some (decide (b ≤ a ∧ a ≤ c)) := by
  unfold spec_l00In.f
  by_cases h : a ≥ b
  · rw [if_pos h]; congr 1; simp; omega
  · rw [if_neg h]; congr 1; simp; omega

theorem spec_l05One_ev (f m : Int) (a : Bool) : Ev (fun k => spec_l05One.f k f m a) (purchB f m a, f, m, a) := by
  simp only [spec_l05One.f, spec_l00In_eq, Option.bind_some]
  unfold purchB
  by_cases h1 : 0 ≤ f ∧ f ≤ 4
  · by_cases h2 : 0 ≤ m ∧ m ≤ 4
    · have e1 : wrap64 (f + m) = f + m := w64 (by omega) (by omega)
      have e2 : wrap64 (m - f) = m - f := w64 (by omega) (by omega)
      have e3 : wrap64 (f - m) = f - m := w64 (by omega) (by omega)
      simp only [h1, h2, decide_true, if_true, Bool.true_and, and_self]
      refine ev_succ ?_
      simp only [spec_l05One.j0, spec_l00In_eq, e1, e2, e3, Option.bind_some, decide_eq_true_eq]
      by_cases h3 : f + m < 1
      · simp only [h3, if_true, show ¬ 1 ≤ f + m by omega, decide_false, Bool.false_and]; exact ev_now _
      · simp only [h3, if_false, show 1 ≤ f + m by omega, decide_true, Bool.true_and]
        cases a <;> exact ev_now _
    · simp only [h1, h2, decide_true, decide_false, if_true, Bool.true_and, Bool.false_and, and_self, Bool.false_eq_true, if_false]
      refine ev_succ ?_
      simp only [spec_l05One.j0, if_true]; exact ev_now _
  · simp only [h1, decide_false, Bool.false_and, Bool.false_eq_true, if_false]
    refine ev_succ ?_
    simp only [spec_l05One.j0, if_true]; exact ev_now _

theorem impl_within_eq (a b c : Int) : impl_within.f a b c = some (decide (b ≤ a ∧ a ≤ c)) := by
  unfold impl_within.f
  by_cases h : a ≥ b
  · rw [if_pos h]; congr 1; simp; omega
  · rw [if_neg h]; congr 1; simp; omega

theorem impl_ValidPurchase_ev (f m : Int) (a : Bool) : Ev (fun k => impl_ValidPurchase.f k f m a) (purchB f m a) := by
  simp only [impl_ValidPurchase.f, impl_within_eq, Option.bind_some]
  unfold purchB
  by_cases h1 : 0 ≤ f ∧ f ≤ 4
  · by_cases h2 : 0 ≤ m ∧ m ≤ 4
    · have e1 : wrap64 (f + m) = f + m := w64 (by omega) (by omega)
      have e2 : wrap64 (m - f) = m - f := w64 (by omega) (by omega)
      have e3 : wrap64 (f - m) = f - m := w64 (by omega) (by omega)
      simp only [h1, h2, decide_true, if_true, Bool.true_and, and_self]
      refine ev_succ ?_
      simp only [impl_ValidPurchase.j0, impl_within_eq, e1, e2, e3, Option.bind_some, beq_iff_eq]
      by_cases h3 : f + m = 0
      · simp only [h3, if_true, show ¬ (1 : Int) ≤ 0 by omega, decide_false, Bool.false_and]; exact ev_now _
      · simp only [h3, if_false, show 1 ≤ f + m by omega, decide_true, Bool.true_and]
        cases a <;> exact ev_now _
    · simp only [h1, h2, decide_true, decide_false, if_true, Bool.true_and, Bool.false_and, and_self, Bool.false_eq_true, if_false]
      refine ev_succ ?_
      simp only [impl_ValidPurchase.j0, if_true]; exact ev_now _
  · simp only [h1, decide_false, Bool.false_and, Bool.false_eq_true, if_false]
    refine ev_succ ?_
    simp only [impl_ValidPurchase.j0, if_true]; exact ev_now _

def pB (p : S45) : Bool := purchB p.f0 p.f1 p.f2
theorem spec_l05OneAt_ev (p : S45) : Ev (fun k => spec_l05OneAt.f k [p]) (pB p) := by
  have e0 : rd_T45 [p] 0 = p := rfl
  have l0 : (0 : Int) < (([p] : List S45).length : Int) := by simp
  simp only [spec_l05OneAt.f, spec_l00In_eq, Option.bind_some, e0, l0, if_true]
  obtain ⟨f, m, a⟩ := p
  unfold pB purchB
  simp only
  by_cases h1 : 0 ≤ f ∧ f ≤ 4
  · by_cases h2 : 0 ≤ m ∧ m ≤ 4
    · have e1 : wrap64 (f + m) = f + m := w64 (by omega) (by omega)
      have e2 : wrap64 (m - f) = m - f := w64 (by omega) (by omega)
      have e3 : wrap64 (f - m) = f - m := w64 (by omega) (by omega)
      simp only [h1, h2, decide_true, if_true, Bool.true_and, and_self]
      refine ev_succ ?_
      simp only [spec_l05OneAt.j0, spec_l00In_eq, e0, l0, e1, e2, e3, Option.bind_some, decide_eq_true_eq, if_true]
      by_cases h3 : f + m < 1
      · simp only [h3, if_true, show ¬ 1 ≤ f + m by omega, decide_false, Bool.false_and]; exact ev_now _
      · simp only [h3, if_false, show 1 ≤ f + m by omega, decide_true, Bool.true_and]
        cases a <;> exact ev_now _
    · simp only [h1, h2, decide_true, decide_false, if_true, Bool.true_and, Bool.false_and, and_self, Bool.false_eq_true, if_false]
      refine ev_succ ?_
      simp only [spec_l05OneAt.j0, if_true]; exact ev_now _
  · simp only [h1, decide_false, Bool.false_and, Bool.false_eq_true, if_false]
    refine ev_succ ?_
    simp only [spec_l05OneAt.j0, if_true]; exact ev_now _
def tackB (xs : List S45) : Bool := decide (1 ≤ xs.length ∧ xs.length ≤ 6) && xs.all pB
theorem spec_l05Ok_ev (xs : List S45) (h : xs.length ≤ 1048576) : Ev (fun k => spec_l05Ok.f k xs) (tackB xs) := by
  simp only [spec_l05Ok.f]
  refine ev_to (ev_all (len := xs.length) (g := fun k i => spec_l05Ok.l0 k xs i) (fun n => pB (xs.getD n z45)) (decide (1 ≤ xs.length ∧ xs.length ≤ 6)) ?_ ?_ ?_) (by rw [range_all xs z45 pB, Bool.and_comm]; rfl)
  · intro n hn hp r hr
    refine ev_succ ?_
    simp only [spec_l05Ok.l0, Int.ofNat_lt.2 hn, show (0 : Int) ≤ (n : Int) from Int.natCast_nonneg _, if_true, rd_T45, Int.toNat_natCast, wnext hn (by omega : xs.length ≤ 9223372036854775807)]
    refine Ev.bind (spec_l05OneAt_ev _) ?_
    simp only [hp, if_true]
    exact hr
  · intro n hn hp
    refine ev_succ ?_
    simp only [spec_l05Ok.l0, Int.ofNat_lt.2 hn, show (0 : Int) ≤ (n : Int) from Int.natCast_nonneg _, if_true, rd_T45, Int.toNat_natCast]
    refine Ev.bind (spec_l05OneAt_ev _) ?_
    simp only [hp, Bool.false_eq_true, if_false]
    exact ev_now _
  · refine ev_succ ?_
    simp only [spec_l05Ok.l0, Int.lt_irrefl, if_false, spec_l00In_eq, Option.bind_some]
    exact ev_to (ev_now _) (by congr 1; simp; omega)
theorem impl_ValidTackle_ev (xs : List S45) (h : xs.length ≤ 1048576) : Ev (fun k => impl_ValidTackle.f k xs) (tackB xs) := by
  simp only [impl_ValidTackle.f]
  by_cases h1 : (xs.length : Int) < 1
  · simp only [h1, if_true]
    refine ev_succ ?_
    simp only [impl_ValidTackle.j0, if_true]
    exact ev_to (ev_now _) (by unfold tackB; rw [show decide (1 ≤ xs.length ∧ xs.length ≤ 6) = false by simp; omega]; rfl)
  · simp only [h1, if_false]
    refine ev_succ ?_
    simp only [impl_ValidTackle.j0]
    by_cases h2 : (xs.length : Int) > 6
    · simp only [h2, decide_true, if_true]
      exact ev_to (ev_now _) (by unfold tackB; rw [show decide (1 ≤ xs.length ∧ xs.length ≤ 6) = false by simp; omega]; rfl)
    · simp only [h2, decide_false, Bool.false_eq_true, if_false]
      refine ev_to (ev_all (len := xs.length) (g := fun k i => impl_ValidTackle.l0 k xs (xs.length : Int) i) (fun n => pB (xs.getD n z45)) true ?_ ?_ ?_) (by rw [range_all xs z45 pB, Bool.and_true]; unfold tackB; rw [show decide (1 ≤ xs.length ∧ xs.length ≤ 6) = true by simp; omega]; rfl)
      · intro n hn hp r hr
        refine ev_succ ?_
        simp only [impl_ValidTackle.l0, Int.ofNat_lt.2 hn, show (0 : Int) ≤ (n : Int) from Int.natCast_nonneg _, if_true, rd_T45, Int.toNat_natCast, wnext hn (by omega : xs.length ≤ 9223372036854775807)]
        refine Ev.bind (impl_ValidPurchase_ev _ _ _) ?_
        rw [show purchB _ _ _ = true from hp]
        simp only [if_true]
        exact hr
      · intro n hn hp
        refine ev_succ ?_
        simp only [impl_ValidTackle.l0, Int.ofNat_lt.2 hn, show (0 : Int) ≤ (n : Int) from Int.natCast_nonneg _, if_true, rd_T45, Int.toNat_natCast]
        refine Ev.bind (impl_ValidPurchase_ev _ _ _) ?_
        rw [show purchB _ _ _ = false from hp]
        simp only [Bool.false_eq_true, if_false]
        exact ev_now _
      · refine ev_succ ?_
        simp only [impl_ValidTackle.l0, Int.lt_irrefl, if_false]
        exact ev_now _

def partsW (p : S45) : Int := if p.f2 = true then wrap64 ((wrap64 (p.f0 + p.f1)) + 1) else wrap64 (p.f0 + p.f1)
theorem spec_l05PartsAt_eq (p : S45) : spec_l05PartsAt.f [p] = some (partsW p) := by
  have e0 : rd_T45 [p] 0 = p := rfl
  have l0 : (0 : Int) < (([p] : List S45).length : Int) := by simp
  simp only [spec_l05PartsAt.f, e0, l0, if_true]
  unfold partsW
  split <;> rfl
theorem impl_partsOf_eq (p : S45) : impl_partsOf.f p.f0 p.f1 p.f2 = some (partsW p) := by
  unfold impl_partsOf.f partsW
  split <;> rfl

def ropF (p : S45) (s : List Int × Int) : List Int × Int := (wrap64 (s.2 * (p.f0 + p.f1 + 1)) :: s.1, wrap64 (s.2 * partsW p))
def ropS (xs : List S45) (w : Int) : Nat → List Int × Int
  | 0 => ([], w)
  | n + 1 => ropF (xs.getD (xs.length - 1 - n) z45) (ropS xs w n)
theorem ropS_len (xs : List S45) (w : Int) (n : Nat) : (ropS xs w n).1.length = n := by
  induction n with
  | zero => rfl
  | succ n ih => simp [ropS, ropF, ih]
theorem wrap_add_l (a b : Int) : wrap64 (wrap64 a + b) = wrap64 (a + b) := by unfold wrap64; omega
theorem pB_small (p : S45) (h : pB p = true) : 0 ≤ p.f0 + p.f1 ∧ p.f0 + p.f1 ≤ 8 := by
  unfold pB purchB at h; simp only [Bool.and_eq_true, decide_eq_true_eq] at h; omega
theorem RopeLengths_ev (xs : List S45) (h : xs.length ≤ 1048576) (a : Int) : ∃ r : List Int × Int, r.1.length ≤ 1048576 ∧ Ev (fun k => spec_RopeLengths.f k xs a) r ∧ Ev (fun k => impl_RopeLengths.f k xs a) r := by
  simp only [spec_RopeLengths.f, impl_RopeLengths.f, spec_l05Way.f, spec_l00In_eq, impl_within_eq, Option.bind_some]
  cases hb : tackB xs
  · refine ⟨([], 1), by simp, Ev.bind (spec_l05Ok_ev xs h) ?_, Ev.bind (impl_ValidTackle_ev xs h) ?_⟩ <;> (simp only [hb, Bool.false_eq_true, if_false]; exact ev_now _)
  by_cases ha : 0 ≤ a ∧ a ≤ 100000
  · have hall : ∀ n, n < xs.length → pB (xs.getD n z45) = true := by
      intro n hn; unfold tackB at hb; simp only [Bool.and_eq_true, List.all_eq_true] at hb; rw [getD_lt xs _ hn]; exact hb.2 _ (List.getElem_mem hn)
    refine ⟨((ropS xs a xs.length).1, 0), by rw [ropS_len]; exact h, Ev.bind (spec_l05Ok_ev xs h) ?_, Ev.bind (impl_ValidTackle_ev xs h) ?_⟩
    · simp only [hb, ha, decide_true, and_self, if_true]
      rw [w64 (n := (xs.length : Int) - 1) (by omega) (by omega)]
      have := ev_fold (len := xs.length) (g := fun k (s : List Int × Int) i => spec_RopeLengths.l0 k xs s.1 s.2 ((xs.length : Int) - 1 - i)) (fun n s => ropF (xs.getD (xs.length - 1 - n) z45) s) (ropS xs a) ((ropS xs a xs.length).1, 0) (fun n hn => rfl)
        (fun n hn r hr => by
          have hm : xs.length - 1 - n < xs.length := by omega
          have sm := pB_small _ (hall _ hm)
          have hlen := ropS_len xs a n
          refine ev_succ ?_
          simp only [spec_RopeLengths.l0, show (xs.length : Int) - 1 - (n : Int) ≥ 0 by omega, show (xs.length : Int) - 1 - (n : Int) < (xs.length : Int) by omega, if_true, rd_T45, show ((xs.length : Int) - 1 - (n : Int)).toNat = xs.length - 1 - n by omega, spec_l05PartsAt_eq, Option.bind_some, hlen, List.length_singleton, show 1 + n < 17592186044416 by omega,
            w64 (show -9223372036854775808 ≤ (xs.getD (xs.length - 1 - n) z45).f0 + (xs.getD (xs.length - 1 - n) z45).f1 by omega) (show (xs.getD (xs.length - 1 - n) z45).f0 + (xs.getD (xs.length - 1 - n) z45).f1 ≤ 9223372036854775807 by omega), wrap_add_l,
            w64 (show -9223372036854775808 ≤ (xs.length : Int) - 1 - (n : Int) - 1 by omega) (show (xs.length : Int) - 1 - (n : Int) - 1 ≤ 9223372036854775807 by omega)]
          rw [show ((n + 1 : Nat) : Int) = (n : Int) + 1 from rfl, show (xs.length : Int) - 1 - ((n : Int) + 1) = (xs.length : Int) - 1 - (n : Int) - 1 by omega] at hr
          simp only [ropF, Int.mul_add, Int.mul_one] at hr ⊢
          exact hr)
        (by
          refine ev_succ ?_
          simp only [spec_RopeLengths.l0, show ¬ (xs.length : Int) - 1 - (xs.length : Int) ≥ 0 by omega, if_false]
          exact ev_now _)
      simpa [ropS] using this
    · simp only [hb, ha, decide_true, and_self, if_true, show (0 : Int) ≤ (xs.length : Int) from Int.natCast_nonneg _, Int.toNat_natCast, show xs.length ≤ 35184372088832 by omega]
      rw [w64 (n := (xs.length : Int) - 1) (by omega) (by omega)]
      have := ev_fold (len := xs.length) (g := fun k (s : List Int × Int) i => impl_RopeLengths.l0 k xs s.1 s.2 ((xs.length : Int) - 1 - i)) (fun n s => (s.1.set (xs.length - 1 - n) (wrap64 (s.2 * ((xs.getD (xs.length - 1 - n) z45).f0 + (xs.getD (xs.length - 1 - n) z45).f1 + 1))), wrap64 (s.2 * partsW (xs.getD (xs.length - 1 - n) z45))))
        (fun n => (List.replicate (xs.length - n) 0 ++ (ropS xs a n).1, (ropS xs a n).2)) ((ropS xs a xs.length).1, 0)
        (fun n hn => by
          rw [Prod.mk.injEq]
          refine ⟨?_, rfl⟩
          simp only [ropS, ropF]
          rw [show xs.length - n = (xs.length - 1 - n) + 1 by omega, List.replicate_succ', List.append_assoc, List.set_append_right _ _ (by simp), List.length_replicate, Nat.sub_self, show xs.length - (n + 1) = xs.length - 1 - n by omega]
          rfl)
        (fun n hn r hr => by
          have hm : xs.length - 1 - n < xs.length := by omega
          have sm := pB_small _ (hall _ hm)
          have hlen := ropS_len xs a n
          have l2 : (xs.length : Int) - 1 - (n : Int) < ((List.replicate (xs.length - n) (0 : Int) ++ (ropS xs a n).1).length : Int) := by rw [List.length_append, List.length_replicate, hlen]; omega
          refine ev_succ ?_
          simp only [impl_RopeLengths.l0, show (xs.length : Int) - 1 - (n : Int) ≥ 0 by omega, show (xs.length : Int) - 1 - (n : Int) < (xs.length : Int) by omega, l2, if_true, rd_T45, show ((xs.length : Int) - 1 - (n : Int)).toNat = xs.length - 1 - n by omega, impl_partsOf_eq, Option.bind_some,
            w64 (show -9223372036854775808 ≤ (xs.getD (xs.length - 1 - n) z45).f0 + (xs.getD (xs.length - 1 - n) z45).f1 by omega) (show (xs.getD (xs.length - 1 - n) z45).f0 + (xs.getD (xs.length - 1 - n) z45).f1 ≤ 9223372036854775807 by omega),
            w64 (show -9223372036854775808 ≤ (xs.getD (xs.length - 1 - n) z45).f0 + (xs.getD (xs.length - 1 - n) z45).f1 + 1 by omega) (show (xs.getD (xs.length - 1 - n) z45).f0 + (xs.getD (xs.length - 1 - n) z45).f1 + 1 ≤ 9223372036854775807 by omega),
            w64 (show -9223372036854775808 ≤ (xs.length : Int) - 1 - (n : Int) - 1 by omega) (show (xs.length : Int) - 1 - (n : Int) - 1 ≤ 9223372036854775807 by omega)]
          rw [show ((n + 1 : Nat) : Int) = (n : Int) + 1 from rfl, show (xs.length : Int) - 1 - ((n : Int) + 1) = (xs.length : Int) - 1 - (n : Int) - 1 by omega] at hr
          exact hr)
        (by
          refine ev_succ ?_
          simp only [impl_RopeLengths.l0, show ¬ (xs.length : Int) - 1 - (xs.length : Int) ≥ 0 by omega, if_false]
          exact ev_to (ev_now _) (by simp))
      simpa [ropS] using this
  · refine ⟨([], 2), by simp, Ev.bind (spec_l05Ok_ev xs h) ?_, Ev.bind (impl_ValidTackle_ev xs h) ?_⟩ <;> (simp only [hb, ha, decide_false, Bool.false_eq_true, if_true, if_false]; exact ev_now _)

theorem FnExactRopeLengths : laws_FnExactRopeLengths.Pure := by
  intro xs a hx ha
  refine Ev.rounds ?_
  simp only [laws_FnExactRopeLengths.f, laws_szPurchaseS.f]
  by_cases h : wrap64 (1048576 - (xs.length : Int)) < 0
  · simp only [h, if_true, Option.bind_some, show (-1 : Int) < 0 by decide]; exact ev_now _
  have hl : xs.length ≤ 1048576 := by have := hx.2.1; rw [maxLen_eq] at this; unfold wrap64 at h; omega
  have hm : (xs.map conv_Purchase).length ≤ 1048576 := by simpa using hl
  simp only [h, if_false, Option.bind_some]
  obtain ⟨r, hr, k1, k2⟩ := RopeLengths_ev _ hm a
  refine Ev.bind (laws_toPurchaseS_ev xs hl) (Ev.bind k1 (Ev.bind (laws_toPurchaseS_ev xs hl) (Ev.bind k2 ?_)))
  refine Ev.bind (laws_eqInt64S_self _ (by omega)) ?_
  simp only [if_true, bne_self_eq_false]
  refine ev_succ ?_
  simp only [laws_FnExactRopeLengths.j0, Bool.false_eq_true, if_false]
  refine Ev.bind (laws_toPurchaseS_ev xs hl) (Ev.bind (laws_eqPurchaseS_self _ (by omega)) ?_)
  simp only [if_true]
  obtain ⟨q, m1, m2⟩ := laws_markPurchaseS_ev _ hm
  refine Ev.bind m1 ?_
  simp only [show ¬ q.1 < 0 by omega, if_false]
  refine Ev.bind (laws_eqInt64S_self _ (by omega)) ?_
  simp only [if_true, bne_self_eq_false]
  refine ev_succ ?_
  simp only [laws_FnExactRopeLengths.j1, Bool.false_eq_true, if_false]
  refine Ev.bind (laws_markInt64S_ev _ hr) (Ev.bind (laws_heldInt64S_ev _ hr) ?_)
  simp only [show ¬ (1 + (r.1.length : Int)) < 0 by omega, if_false, if_true]
  refine Ev.bind (laws_toPurchaseS_ev xs hl) (Ev.bind k2 (Ev.bind (laws_eqInt64S_self _ (by omega)) ?_))
  simp only [if_true, bne_self_eq_false]
  refine ev_succ ?_
  simp only [laws_FnExactRopeLengths.j2, Bool.false_eq_true, if_false]
  refine Ev.bind (laws_heldInt64S_ev _ hr) ?_
  simp only [show ¬ (1 + (r.1.length : Int)) < 0 by omega, if_false, if_true]
  exact ev_now _


end Go.Proofs.Ytbcgndhcieeloaa.Pure

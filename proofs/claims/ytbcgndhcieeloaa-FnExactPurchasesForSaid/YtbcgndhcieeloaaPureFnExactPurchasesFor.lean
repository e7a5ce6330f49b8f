/- The pure statement of FnExactPurchasesFor: numbers and lists alone. No condition. -/
import Derived.Test.YtbcgndhcieeloaaQFnExactPurchasesForx5
import Derived.Test.YtbcgndhcieeloaaAid
namespace Go.Proofs.Ytbcgndhcieeloaa.Pure
open Go.RowKit Go.Proofs.Ytbcgndhcieeloaa.QFnExactPurchasesFor Go.Proofs.YtbcgndhcieeloaaW.PrintWords Go.Proofs.YtbcgndhcieeloaaW.PrintLast Go.Proofs.YtbcgndhcieeloaaW.PrintMore Go.Proofs.Ytbcgndhcieeloaa.Aid
set_option linter.unusedVariables false
set_option linter.unusedSimpArgs false

theorem spec_l00In_eq (a b c : Int) : spec_l00In.f a b c = some (decide (b ≤ a ∧ a ≤ c)) := by
  unfold spec_l00In.f
  by_cases h : a ≥ b
  · rw [if_pos h]; congr 1; simp; omega
  · rw [if_neg h]; congr 1; simp; omega

theorem spec_l05One_ev (f m : Int) (a : Bool) : Ev (fun k => spec_l05One.f k f m a) (purchB f m a, f, m, a) := by
  simp only [spec_l05One.f, spec_l00In_eq, Option.bind_some]
  unfold purchB
  by_cases h1 : 0 ≤ f ∧ f ≤ 4
  · by_cases h2 : 0 ≤ m ∧ m ≤ 4
    · have e1 : wrap64 (f + m) = f + m := w64 (by omega) (by omega)
      have e2 : wrap64 (m - f) = m - f := w64 (by omega) (by omega)
      have e3 : wrap64 (f - m) = f - m := w64 (by omega) (by omega)
      simp only [h1, h2, decide_true, if_true, Bool.true_and, and_self]
      refine ev_succ ?_
      simp only [spec_l05One.j0, spec_l00In_eq, e1, e2, e3, Option.bind_some, decide_eq_true_eq]
      by_cases h3 : f + m < 1
      · simp only [h3, if_true, show ¬ 1 ≤ f + m by omega, decide_false, Bool.false_and]; exact ev_now _
      · simp only [h3, if_false, show 1 ≤ f + m by omega, decide_true, Bool.true_and]
        cases a <;> exact ev_now _
    · simp only [h1, h2, decide_true, decide_false, if_true, Bool.true_and, Bool.false_and, and_self, Bool.false_eq_true, if_false]
      refine ev_succ ?_
      simp only [spec_l05One.j0, if_true]; exact ev_now _
  · simp only [h1, decide_false, Bool.false_and, Bool.false_eq_true, if_false]
    refine ev_succ ?_
    simp only [spec_l05One.j0, if_true]; exact ev_now _

theorem impl_within_eq (a b c : Int) : impl_within.f a b c = some (decide (b ≤ a ∧ a ≤ c)) := by
  unfold impl_within.f
  by_cases h : a ≥ b
  · rw [if_pos h]; congr 1; simp; omega
  · rw [if_neg h]; congr 1; simp; omega

theorem impl_ValidPurchase_ev (f m : Int) (a : Bool) : Ev (fun k => impl_ValidPurchase.f k f m a) (purchB f m a) := by
  simp only [impl_ValidPurchase.f, impl_within_eq, Option.bind_some]
  unfold purchB
  by_cases h1 : 0 ≤ f ∧ f ≤ 4
  · by_cases h2 : 0 ≤ m ∧ m ≤ 4
    · have e1 : wrap64 (f + m) = f + m := w64 (by omega) (by omega)
      have e2 : wrap64 (m - f) = m - f := w64 (by omega) (by omega)
      have e3 : wrap64 (f - m) = f - m := w64 (by omega) (by omega)
      simp only [h1, h2, decide_true, if_true, Bool.true_and, and_self]
      refine ev_succ ?_
      simp only [impl_ValidPurchase.j0, impl_within_eq, e1, e2, e3, Option.bind_some, beq_iff_eq]
      by_cases h3 : f + m = 0
      · simp only [h3, if_true, show ¬ (1 : Int) ≤ 0 by omega, decide_false, Bool.false_and]; exact ev_now _
      · simp only [h3, if_false, show 1 ≤ f + m by omega, decide_true, Bool.true_and]
        cases a <;> exact ev_now _
    · simp only [h1, h2, decide_true, decide_false, if_true, Bool.true_and, Bool.false_and, and_self, Bool.false_eq_true, if_false]
      refine ev_succ ?_
      simp only [impl_ValidPurchase.j0, if_true]; exact ev_now _
  · simp only [h1, decide_false, Bool.false_and, Bool.false_eq_true, if_false]
    refine ev_succ ?_
    simp only [impl_ValidPurchase.j0, if_true]; exact ev_now _

def partsW (p : S45) : Int := if p.f2 = true then wrap64 ((wrap64 (p.f0 + p.f1)) + 1) else wrap64 (p.f0 + p.f1)
theorem spec_l05PartsAt_eq (p : S45) : spec_l05PartsAt.f [p] = some (partsW p) := by
  have e0 : rd_T45 [p] 0 = p := rfl
  have l0 : (0 : Int) < (([p] : List S45).length : Int) := by simp
  simp only [spec_l05PartsAt.f, e0, l0, if_true]
  unfold partsW
  split <;> rfl
theorem impl_partsOf_eq (p : S45) : impl_partsOf.f p.f0 p.f1 p.f2 = some (partsW p) := by
  unfold impl_partsOf.f partsW
  split <;> rfl

theorem laws_eqPurchaseS_self (xs : List S45) (h : xs.length ≤ 9223372036854775807) : Ev (fun k => laws_eqPurchaseS.f k xs xs) true := by
  simp only [laws_eqPurchaseS.f, if_true]
  refine ev_to (ev_all (len := xs.length) (g := fun k i => laws_eqPurchaseS.l0 k xs xs i) (fun _ => true) true ?_ (fun n hn hp => by simp at hp) ?_) (by simp)
  · intro n hn hp r hr
    refine ev_succ ?_
    simp only [laws_eqPurchaseS.l0, laws_eqPurchase.f, Option.bind_some, Int.ofNat_lt.2 hn, show (0 : Int) ≤ (n : Int) from Int.natCast_nonneg _, if_true, bne_self_eq_false, Bool.false_eq_true, if_false, wnext hn h]
    exact hr
  · refine ev_succ ?_
    simp only [laws_eqPurchaseS.l0, Int.lt_irrefl, if_false]
    exact ev_now _

def mkEPurchase (m : Int) : S45 := ⟨m, m + 1, (Int.tmod (m + 1 + 1) 3 == 0)⟩
def MarkedPurchase (xs : List S45) (n : Nat) : Prop := ∀ i, i < n → xs.getD i z45 = mkEPurchase (1 + 3 * (i : Int))
theorem laws_markPurchaseS_ev (xs : List S45) (h : xs.length ≤ 2097152) : ∃ r, Ev (fun k => laws_markPurchaseS.f k xs 1) r ∧ r.1 = 1 + 3 * (xs.length : Int) ∧ r.2.length = xs.length ∧ MarkedPurchase r.2 xs.length := by
  simp only [laws_markPurchaseS.f]
  refine ev_loop (len := xs.length) (g := fun k (s : List S45 × Int) i => laws_markPurchaseS.l0 k s.1 s.2 i) (fun n s => s.1.length = xs.length ∧ s.2 = 1 + 3 * (n : Int) ∧ MarkedPurchase s.1 n) (fun r => r.1 = 1 + 3 * (xs.length : Int) ∧ r.2.length = xs.length ∧ MarkedPurchase r.2 xs.length) ?_ ?_ (xs, 1) ⟨rfl, by simp, fun i hi => absurd hi (by omega)⟩
  · rintro n ⟨l, q⟩ hn ⟨h1, h2, h3⟩
    simp only at h1 h2 h3
    subst h2
    have e0 : wrap64 ((1 + 3 * (n : Int)) + 1) = (1 + 3 * (n : Int)) + 1 := w64 (by omega) (by omega)
    have e1 : wrap64 ((1 + 3 * (n : Int)) + 1 + 1) = (1 + 3 * (n : Int)) + 1 + 1 := w64 (by omega) (by omega)
    have e2 : wrap64 ((1 + 3 * (n : Int)) + 1 + 1 + 1) = (1 + 3 * (n : Int)) + 1 + 1 + 1 := w64 (by omega) (by omega)
    have h0 : n < l.length := by omega
    have l1 : (n : Int) < (l.length : Int) := by omega
    refine .inr ⟨(l.set n (mkEPurchase (1 + 3 * (n : Int))), 1 + 3 * ((n + 1 : Nat) : Int)), ⟨by simp [h1], rfl, ?cell⟩, fun r hr => ?go⟩
    case go =>
      refine ev_succ ?_
      have ee : 1 + 3 * ((n + 1 : Nat) : Int) = 1 + 3 * (n : Int) + 1 + 1 + 1 := by omega
      rw [ee] at hr
      simp only [laws_markPurchaseS.l0, l1, if_true, show (0 : Int) ≤ (n : Int) from Int.natCast_nonneg _]
      simp only [if_true, lset_self h0, List.set_set, List.length_set, l1, Option.bind_some, Int.toNat_natCast, rd_T45, e0, e1, e2, wnext hn (by omega : xs.length ≤ 9223372036854775807), show (0 : Int) ≤ (n : Int) from Int.natCast_nonneg _]
      exact hr
    case cell =>
      intro i hi
      by_cases hin : i = n
      · subst hin; exact lset_self h0
      · show (l.set n _).getD i _ = _
        rw [lset_ne (by omega)]; exact h3 i (by omega)
  · rintro ⟨l, q⟩ ⟨h1, h2, h3⟩
    simp only at h1 h2 h3
    subst h2
    refine ⟨(1 + 3 * (xs.length : Int), l), ev_succ ?_, rfl, h1, h3⟩
    simp only [laws_markPurchaseS.l0, h1, Int.lt_irrefl, if_false]
    exact ev_now _
theorem laws_heldPurchaseS_ev (xs : List S45) (h : xs.length ≤ 2097152) (hm : MarkedPurchase xs xs.length) : Ev (fun k => laws_heldPurchaseS.f k xs 1) (1 + 3 * (xs.length : Int)) := by
  simp only [laws_heldPurchaseS.f]
  have := ev_fold (len := xs.length) (g := fun k (s : Int) i => laws_heldPurchaseS.l0 k xs s i) (fun _ s => s + 3) (fun n => 1 + 3 * (n : Int)) (1 + 3 * (xs.length : Int))
    (fun n hn => by omega)
    (fun n hn r hr => by
      refine ev_succ ?_
      have e0 : wrap64 ((1 + 3 * (n : Int)) + 1) = (1 + 3 * (n : Int)) + 1 := w64 (by omega) (by omega)
      have e1 : wrap64 ((1 + 3 * (n : Int)) + 1 + 1) = (1 + 3 * (n : Int)) + 1 + 1 := w64 (by omega) (by omega)
      have e2 : wrap64 ((1 + 3 * (n : Int)) + 1 + 1 + 1) = (1 + 3 * (n : Int)) + 1 + 1 + 1 := w64 (by omega) (by omega)
      have l1 : (n : Int) < (xs.length : Int) := by omega
      have ee : 1 + 3 * (n : Int) + 3 = 1 + 3 * (n : Int) + 1 + 1 + 1 := by omega
      rw [ee] at hr
      have cell := hm n hn
      simp only [laws_heldPurchaseS.l0, l1, show (0 : Int) ≤ (n : Int) from Int.natCast_nonneg _, if_true, rd_T45, Int.toNat_natCast, cell, mkEPurchase]
      simp only [if_true, e0, e1, e2, bne_self_eq_false, Bool.false_eq_true, if_false, wnext hn (by omega : xs.length ≤ 9223372036854775807)]
      exact hr)
    (by
      refine ev_succ ?_
      simp only [laws_heldPurchaseS.l0, Int.lt_irrefl, if_false]
      exact ev_now _)
  simpa using this

def cntV (f m : Int) : Int := if f > 0 then (if m > 0 then 2 else 1) else 1
def blkV (f m : Int) : Int := wrap64 (mn f 1 + mn m 1)
def cF (b n : Int) : List (Int × Int × Bool) := if (purchB (Int.tdiv (n + 1) 2) (Int.tdiv n 2) false && decide (cntV (Int.tdiv (n + 1) 2) (Int.tdiv n 2) = b)) = true then [(Int.tdiv (n + 1) 2, Int.tdiv n 2, false)] else []
def cT (b n : Int) : List (Int × Int × Bool) := if (purchB (Int.tdiv n 2) (Int.tdiv (n + 1) 2) true && decide (cntV (Int.tdiv n 2) (Int.tdiv (n + 1) 2) = b)) = true then [(Int.tdiv n 2, Int.tdiv (n + 1) 2, true)] else []
def cI (b n : Int) (c : Bool) (f : Int) : List (Int × Int × Bool) := if (purchB f (n - f) c && decide (blkV f (n - f) = b)) = true then [(f, n - f, c)] else []
def mkP (t : Int × Int × Bool) : S45 := ⟨t.1, t.2.1, t.2.2⟩
def specC (i : Nat) : List (Int × Int × Bool) := (List.range 8).flatMap fun (j : Nat) => cF ((i : Int) + 1) ((j : Int) + 1) ++ cT ((i : Int) + 1) ((j : Int) + 1)
def implC3 (i j c : Nat) : List (Int × Int × Bool) := (List.range (j + 2)).flatMap fun (f : Nat) => cI ((i : Int) + 1) ((j : Int) + 1) (rdOf false [false, true] (c : Int)) (f : Int)
def implC2 (i j : Nat) : List (Int × Int × Bool) := (List.range 2).flatMap (implC3 i j)
def implC (i : Nat) : List (Int × Int × Bool) := (List.range 8).flatMap (implC2 i)
theorem same_all : (List.range 2).flatMap specC = (List.range 2).flatMap implC := by decide +kernel
def FP (x : Int) (l : List (Int × Int × Bool)) : List S45 := (l.filter fun t => decide (partsW (mkP t) = x)).map mkP
theorem FP_app (x : Int) (a b) : FP x (a ++ b) = FP x a ++ FP x b := by simp [FP]
theorem FP_len (x : Int) (a) : (FP x a).length ≤ a.length := by unfold FP; rw [List.length_map]; exact List.length_filter_le _ _
theorem cF_len (b n : Int) : (cF b n).length ≤ 1 := by unfold cF; split <;> simp
theorem cT_len (b n : Int) : (cT b n).length ≤ 1 := by unfold cT; split <;> simp
theorem cI_len (b n : Int) (c : Bool) (f : Int) : (cI b n c f).length ≤ 1 := by unfold cI; split <;> simp
theorem spec_l05Count_eq (f m : Int) (a : Bool) : spec_l05Count.f f m a = some (cntV f m, f, m, a) := by
  unfold spec_l05Count.f cntV
  split
  · split <;> rfl
  · rfl
theorem spec_l05Parts_eq (f m : Int) (a : Bool) : spec_l05Parts.f f m a = some (partsW (mkP (f, m, a)), f, m, a) := by
  unfold spec_l05Parts.f partsW mkP
  simp only
  split <;> rfl
theorem half_bd (n : Int) (h : 0 ≤ n ∧ n ≤ 100) : -9223372036854775808 ≤ Int.tdiv n 2 ∧ Int.tdiv n 2 ≤ 9223372036854775807 := by
  rw [Int.tdiv_eq_ediv_of_nonneg h.1]; omega
theorem spec_all_j3 (x b n : Int) (hn : 1 ≤ n ∧ n ≤ 8) (s : List S45) (hs : s.length ≤ 1000) (r : List S45)
    (hr : Ev (fun k => spec_l05All.l1 k x (s ++ FP x (cT b n)) b (n + 1)) r) : Ev (fun k => spec_l05All.j3 k x s b n) r := by
  refine ev_succ ?_
  have b1 := half_bd n (by omega)
  have b2 := half_bd (n + 1) (by omega)
  simp only [spec_l05All.j3, spec_l05Count_eq, spec_l05Parts_eq, Option.bind_some, w64 (show -9223372036854775808 ≤ n + 1 by omega) (show n + 1 ≤ 9223372036854775807 by omega), w64 b1.1 b1.2, w64 b2.1 b2.2]
  refine Ev.bind (spec_l05One_ev _ _ _) ?_
  unfold cT at hr
  cases h1 : purchB (Int.tdiv n 2) (Int.tdiv (n + 1) 2) true
  · simp only [h1, Bool.false_and, Bool.false_eq_true, if_false, FP, List.filter_nil, List.map_nil, List.append_nil] at hr ⊢; exact hr
  · by_cases h2 : cntV (Int.tdiv n 2) (Int.tdiv (n + 1) 2) = b
    · by_cases h3 : partsW (mkP (Int.tdiv n 2, Int.tdiv (n + 1) 2, true)) = x
      · simp only [h1, h2, h3, decide_true, Bool.and_self, if_true, FP, List.filter_cons, List.filter_nil, List.map_cons, List.map_nil, show s.length < 5864062014805 by omega] at hr ⊢; exact hr
      · simp only [h1, h2, h3, decide_true, decide_false, Bool.false_eq_true, Bool.and_self, if_true, if_false, FP, List.filter_cons, List.filter_nil, List.map_nil, List.append_nil] at hr ⊢; exact hr
    · simp only [h1, h2, decide_false, Bool.and_false, Bool.false_eq_true, if_true, if_false, FP, List.filter_nil, List.map_nil, List.append_nil] at hr ⊢; exact hr
theorem spec_all_l1 (x b n : Int) (hn : 1 ≤ n ∧ n ≤ 8) (s : List S45) (hs : s.length ≤ 900) (r : List S45)
    (hr : Ev (fun k => spec_l05All.l1 k x (s ++ FP x (cF b n ++ cT b n)) b (n + 1)) r) : Ev (fun k => spec_l05All.l1 k x s b n) r := by
  refine ev_succ ?_
  have b1 := half_bd n (by omega)
  have b2 := half_bd (n + 1) (by omega)
  rw [FP_app, ← List.append_assoc] at hr
  simp only [spec_l05All.l1, hn.2, if_true, spec_l05Count_eq, spec_l05Parts_eq, Option.bind_some, w64 (show -9223372036854775808 ≤ n + 1 by omega) (show n + 1 ≤ 9223372036854775807 by omega), w64 b1.1 b1.2, w64 b2.1 b2.2]
  refine Ev.bind (spec_l05One_ev _ _ _) ?_
  have j := spec_all_j3 x b n hn (s ++ FP x (cF b n)) (by have := FP_len x (cF b n); have := cF_len b n; rw [List.length_append]; omega) r hr
  unfold cF at j
  cases h1 : purchB (Int.tdiv (n + 1) 2) (Int.tdiv n 2) false
  · simp only [h1, Bool.false_and, Bool.false_eq_true, if_false, FP, List.filter_nil, List.map_nil, List.append_nil] at j ⊢
    refine ev_succ ?_; simp only [spec_l05All.j2, Bool.false_eq_true, if_false]; exact j
  · by_cases h2 : cntV (Int.tdiv (n + 1) 2) (Int.tdiv n 2) = b
    · by_cases h3 : partsW (mkP (Int.tdiv (n + 1) 2, Int.tdiv n 2, false)) = x
      · simp only [h1, h2, h3, decide_true, Bool.and_self, if_true, FP, List.filter_cons, List.filter_nil, List.map_cons, List.map_nil, beq_self_eq_true] at j ⊢
        refine ev_succ ?_; simp only [spec_l05All.j2, if_true, show s.length < 5864062014805 by omega]; exact j
      · simp only [h1, h2, h3, decide_true, decide_false, Bool.false_eq_true, Bool.and_self, if_true, if_false, FP, List.filter_cons, List.filter_nil, List.map_nil, List.append_nil, beq_eq_false_iff_ne.2 h3] at j ⊢
        refine ev_succ ?_; simp only [spec_l05All.j2, Bool.false_eq_true, if_false]; exact j
    · simp only [h1, h2, decide_false, Bool.and_false, Bool.false_eq_true, if_true, if_false, FP, List.filter_nil, List.map_nil, List.append_nil] at j ⊢
      refine ev_succ ?_; simp only [spec_l05All.j2, Bool.false_eq_true, if_false]; exact j
theorem specC_len (i : Nat) : (specC i).length ≤ 16 := flat_len (len := 8) (m := 2) _ (fun n _ => by have := cF_len ((i : Int) + 1) ((n : Int) + 1); have := cT_len ((i : Int) + 1) ((n : Int) + 1); rw [List.length_append]; omega)
theorem spec_all_l0 (x : Int) (i : Nat) (hi : i < 2) (s : List S45) (hs : s.length ≤ 800) (r : List S45)
    (hr : Ev (fun k => spec_l05All.l0 k x (s ++ FP x (specC i)) ((i : Int) + 1 + 1)) r) : Ev (fun k => spec_l05All.l0 k x s ((i : Int) + 1)) r := by
  refine ev_succ ?_
  simp only [spec_l05All.l0, show (i : Int) + 1 ≤ 2 by omega, if_true]
  refine ev_flat (len := 8) (m := 2) (g := fun k s j => spec_l05All.l1 k x s ((i : Int) + 1) (j + 1)) (FP x) rfl (FP_app x) (FP_len x) (fun j => cF ((i : Int) + 1) ((j : Int) + 1) ++ cT ((i : Int) + 1) ((j : Int) + 1))
    (fun n _ => by have := cF_len ((i : Int) + 1) ((n : Int) + 1); have := cT_len ((i : Int) + 1) ((n : Int) + 1); rw [List.length_append]; omega) s r ?_ ?_
  · intro n hn s' hs' r' hr'
    exact spec_all_l1 x _ _ (by omega) s' (by omega) r' hr'
  · refine ev_succ ?_
    simp only [spec_l05All.l1, show ¬ ((8 : Nat) : Int) + 1 ≤ 8 by decide, if_false, w64 (show -9223372036854775808 ≤ (i : Int) + 1 + 1 by omega) (show (i : Int) + 1 + 1 ≤ 9223372036854775807 by omega)]
    exact hr
theorem spec_l05All_ev (x : Int) : Ev (fun k => spec_l05All.f k x) (FP x ((List.range 2).flatMap specC)) := by
  simp only [spec_l05All.f]
  refine ev_flat (len := 2) (m := 16) (g := fun k s j => spec_l05All.l0 k x s (j + 1)) (FP x) rfl (FP_app x) (FP_len x) specC (fun n _ => specC_len n) [] _ ?_ ?_
  · intro n hn s' hs' r' hr'
    exact spec_all_l0 x n hn s' (by simp at hs'; omega) r' hr'
  · refine ev_succ ?_
    simp only [spec_l05All.l0, show ¬ ((2 : Nat) : Int) + 1 ≤ 2 by decide, if_false, List.nil_append]
    exact ev_now _
def FM (l : List (Int × Int × Bool)) : List S45 := l.map mkP
theorem FM_app (a b) : FM (a ++ b) = FM a ++ FM b := by simp [FM]
theorem FM_len (a) : (FM a).length ≤ a.length := by simp [FM]
theorem impl_all_l3 (i j c : Nat) (hj : j < 8) (x17 : List Bool) (s : List S45) (hs : s.length ≤ 700) (r : List S45)
    (hr : Ev (fun k => impl_allPurchases.l2 k (s ++ FM (implC3 i j c)) ((i : Int) + 1) ((j : Int) + 1) x17 2 (wrap64 ((c : Int) + 1))) r) :
    Ev (fun k => impl_allPurchases.l3 k s ((i : Int) + 1) ((j : Int) + 1) (rdOf false [false, true] (c : Int)) 0 x17 2 (c : Int)) r := by
  refine ev_flat (len := j + 2) (m := 1) (g := fun k s f => impl_allPurchases.l3 k s ((i : Int) + 1) ((j : Int) + 1) (rdOf false [false, true] (c : Int)) f x17 2 (c : Int)) FM rfl FM_app FM_len (fun f => cI ((i : Int) + 1) ((j : Int) + 1) (rdOf false [false, true] (c : Int)) (f : Int)) (fun n _ => cI_len _ _ _ _) s r ?_ ?_
  · intro n hn s' hs' r' hr'
    refine ev_succ ?_
    simp only [impl_allPurchases.l3, show (n : Int) ≤ (j : Int) + 1 by omega, if_true, w64 (show -9223372036854775808 ≤ (j : Int) + 1 - (n : Int) by omega) (show (j : Int) + 1 - (n : Int) ≤ 9223372036854775807 by omega), impl_blocksOf.f, Option.bind_some, w64 (show -9223372036854775808 ≤ (n : Int) + 1 by omega) (show (n : Int) + 1 ≤ 9223372036854775807 by omega)]
    refine Ev.bind (impl_ValidPurchase_ev _ _ _) ?_
    unfold cI blkV at hr'
    cases h1 : purchB (n : Int) ((j : Int) + 1 - (n : Int)) (rdOf false [false, true] (c : Int))
    · simp only [h1, Bool.false_and, Bool.false_eq_true, if_false, FM, List.map_nil, List.append_nil] at hr' ⊢; exact hr'
    · by_cases h2 : wrap64 (mn (n : Int) 1 + mn ((j : Int) + 1 - (n : Int)) 1) = (i : Int) + 1
      · simp only [h1, h2, decide_true, Bool.and_self, if_true, FM, List.map_cons, List.map_nil, show s'.length < 5864062014805 by omega] at hr' ⊢; exact hr'
      · simp only [h1, h2, decide_false, Bool.and_false, Bool.false_eq_true, if_true, if_false, FM, List.map_nil, List.append_nil] at hr' ⊢; exact hr'
  · refine ev_succ ?_
    simp only [impl_allPurchases.l3, show ¬ ((j + 2 : Nat) : Int) ≤ (j : Int) + 1 by omega, if_false]
    exact hr
theorem implC3_len (i j c : Nat) (hj : j < 8) : (implC3 i j c).length ≤ 9 := by
  have := flat_len (len := j + 2) (m := 1) (fun f : Nat => cI ((i : Int) + 1) ((j : Int) + 1) (rdOf false [false, true] (c : Int)) (f : Int)) (fun n _ => cI_len _ _ _ _)
  unfold implC3; omega
theorem implC2_len (i j : Nat) (hj : j < 8) : (implC2 i j).length ≤ 18 := flat_len (len := 2) (m := 9) _ (fun n _ => implC3_len i j n hj)
theorem implC_len (i : Nat) : (implC i).length ≤ 144 := flat_len (len := 8) (m := 18) _ (fun n hn => implC2_len i n hn)
theorem impl_all_l1 (i j : Nat) (hj : j < 8) (s : List S45) (hs : s.length ≤ 600) (r : List S45)
    (hr : Ev (fun k => impl_allPurchases.l1 k (s ++ FM (implC2 i j)) ((i : Int) + 1) ((j : Int) + 1 + 1)) r) : Ev (fun k => impl_allPurchases.l1 k s ((i : Int) + 1) ((j : Int) + 1)) r := by
  refine ev_succ ?_
  simp only [impl_allPurchases.l1, show (j : Int) + 1 ≤ 8 by omega, if_true, Option.bind_some, show (([false, true] : List Bool).length : Int) = 2 from rfl]
  refine ev_flat (len := 2) (m := 9) (g := fun k s c => impl_allPurchases.l2 k s ((i : Int) + 1) ((j : Int) + 1) [false, true] 2 c) FM rfl FM_app FM_len (implC3 i j) (fun n _ => implC3_len i j n hj) s r ?_ ?_
  · intro n hn s' hs' r' hr'
    refine ev_succ ?_
    simp only [impl_allPurchases.l2, show (n : Int) < 2 by omega, show (0 : Int) ≤ (n : Int) from Int.natCast_nonneg _, show (n : Int) < (([false, true] : List Bool).length : Int) by simp; omega, if_true]
    exact impl_all_l3 i j n hj [false, true] s' (by omega) r' (by rw [wnext hn (by omega)]; exact hr')
  · refine ev_succ ?_
    simp only [impl_allPurchases.l2, show ¬ ((2 : Nat) : Int) < 2 by decide, if_false, w64 (show -9223372036854775808 ≤ (j : Int) + 1 + 1 by omega) (show (j : Int) + 1 + 1 ≤ 9223372036854775807 by omega)]
    exact hr
theorem impl_all_l0 (i : Nat) (hi : i < 2) (s : List S45) (hs : s.length ≤ 400) (r : List S45)
    (hr : Ev (fun k => impl_allPurchases.l0 k (s ++ FM (implC i)) ((i : Int) + 1 + 1)) r) : Ev (fun k => impl_allPurchases.l0 k s ((i : Int) + 1)) r := by
  refine ev_succ ?_
  simp only [impl_allPurchases.l0, show (i : Int) + 1 ≤ 2 by omega, if_true]
  refine ev_flat (len := 8) (m := 18) (g := fun k s j => impl_allPurchases.l1 k s ((i : Int) + 1) (j + 1)) FM rfl FM_app FM_len (implC2 i) (fun n hn => implC2_len i n hn) s r ?_ ?_
  · intro n hn s' hs' r' hr'
    exact impl_all_l1 i n hn s' (by omega) r' hr'
  · refine ev_succ ?_
    simp only [impl_allPurchases.l1, show ¬ ((8 : Nat) : Int) + 1 ≤ 8 by decide, if_false, w64 (show -9223372036854775808 ≤ (i : Int) + 1 + 1 by omega) (show (i : Int) + 1 + 1 ≤ 9223372036854775807 by omega)]
    exact hr
theorem impl_allPurchases_ev : Ev (fun k => impl_allPurchases.f k) (FM ((List.range 2).flatMap implC)) := by
  simp only [impl_allPurchases.f]
  refine ev_flat (len := 2) (m := 144) (g := fun k s j => impl_allPurchases.l0 k s (j + 1)) FM rfl FM_app FM_len implC (fun n _ => implC_len n) [] _ ?_ ?_
  · intro n hn s' hs' r' hr'
    exact impl_all_l0 n hn s' (by simp at hs'; omega) r' hr'
  · refine ev_succ ?_
    simp only [impl_allPurchases.l0, show ¬ ((2 : Nat) : Int) + 1 ≤ 2 by decide, if_false, List.nil_append]
    exact ev_now _
theorem all_len : (FP 0 []).length = 0 ∧ ((List.range 2).flatMap implC).length ≤ 288 := ⟨rfl, flat_len (len := 2) (m := 144) _ (fun n _ => implC_len n)⟩
theorem impl_purchasesFor_ev (x : Int) : Ev (fun k => impl_purchasesFor.f k x) (FP x ((List.range 2).flatMap implC)) := by
  simp only [impl_purchasesFor.f]
  refine Ev.bind impl_allPurchases_ev ?_
  have hl := all_len.2
  generalize (List.range 2).flatMap implC = L at hl ⊢
  have e : FP x L = (FM L).filter fun p => decide (partsW p = x) := by
    unfold FP FM; rw [List.filter_map]; rfl
  rw [e]
  have hm : (FM L).length ≤ 288 := by have := FM_len L; omega
  generalize FM L = xs at hm
  have ee : ∀ n, ((xs.take n).foldl (fun (s : List S45) p => if partsW p = x then s ++ [p] else s) []) = (xs.take n).filter fun p => decide (partsW p = x) := by
    intro n
    generalize xs.take n = ys
    suffices ∀ s, ys.foldl (fun (s : List S45) p => if partsW p = x then s ++ [p] else s) s = s ++ ys.filter fun p => decide (partsW p = x) by simpa using this []
    induction ys with
    | nil => intro s; simp
    | cons y ys ih => intro s; rw [List.foldl_cons, ih, List.filter_cons]; by_cases h : partsW y = x <;> simp [h]
  have ef := ee xs.length
  rw [List.take_length] at ef
  rw [← ef]
  refine ev_foldl xs z45 _ [] (g := fun k s i => impl_purchasesFor.l0 k x s xs (xs.length : Int) i) (fun s => s) ?_ ?_
  · intro n hn s hs r hr
    have hlen : s.length < 5864062014805 := by
      rw [hs, ee]
      have := List.length_filter_le (fun p => decide (partsW p = x)) (xs.take n)
      rw [List.length_take] at this; omega
    refine ev_succ ?_
    simp only [impl_purchasesFor.l0, Int.ofNat_lt.2 hn, show (0 : Int) ≤ (n : Int) from Int.natCast_nonneg _, if_true, rd_T45, Int.toNat_natCast, impl_partsOf_eq, Option.bind_some, hlen, wnext hn (by omega : xs.length ≤ 9223372036854775807)]
    by_cases h : partsW (xs.getD n z45) = x
    · simp only [h, if_true] at hr ⊢; exact hr
    · simp only [h, if_false] at hr ⊢; exact hr
  · refine ev_succ ?_
    simp only [impl_purchasesFor.l0, Int.lt_irrefl, if_false]
    exact ev_now _
theorem PurchasesFor_ev (a : Int) : ∃ r : List S45 × Int, r.1.length ≤ 1048576 ∧ Ev (fun k => spec_PurchasesFor.f k a) r ∧ Ev (fun k => impl_PurchasesFor.f k a) r := by
  simp only [spec_PurchasesFor.f, impl_PurchasesFor.f, spec_l05Wanted.f, spec_l00In_eq, impl_within_eq, Option.bind_some]
  by_cases ha : 1 ≤ a ∧ a ≤ 5000
  · simp only [ha, and_self, decide_true, if_true]
    refine ⟨(FP a ((List.range 2).flatMap implC), 0), ?_, ?_, Ev.bind (impl_purchasesFor_ev a) (ev_now _)⟩
    · have := FP_len a ((List.range 2).flatMap implC); have := all_len.2; simp only; omega
    · rw [← same_all]; exact Ev.bind (spec_l05All_ev a) (ev_now _)
  · simp only [ha, decide_false, Bool.false_eq_true, if_false]; exact ⟨_, by simp, ev_now _, ev_now _⟩
theorem FnExactPurchasesFor : laws_FnExactPurchasesFor.Pure := by
  intro a ha
  refine Ev.rounds ?_
  simp only [laws_FnExactPurchasesFor.f]
  obtain ⟨r, hl, k1, k2⟩ := PurchasesFor_ev a
  obtain ⟨⟨cnt', ml'⟩, n1, n2, n3, n4⟩ := laws_markPurchaseS_ev r.1 (by omega)
  have hh := laws_heldPurchaseS_ev ml' (by simp only at n3; omega) (by simp only at n3 n4; rw [n3]; exact n4)
  simp only at n2 n3
  rw [n3, ← n2] at hh
  refine Ev.bind k1 (Ev.bind k2 (Ev.bind (laws_eqPurchaseS_self _ (by omega)) ?_))
  simp only [if_true, bne_self_eq_false]
  refine ev_succ ?_
  simp only [laws_FnExactPurchasesFor.j0, Bool.false_eq_true, if_false]
  refine Ev.bind n1 (Ev.bind hh ?_)
  simp only [show ¬ cnt' < 0 by omega, if_false, if_true]
  refine Ev.bind k2 (Ev.bind (laws_eqPurchaseS_self _ (by omega)) ?_)
  simp only [if_true, bne_self_eq_false]
  refine ev_succ ?_
  simp only [laws_FnExactPurchasesFor.j1, Bool.false_eq_true, if_false]
  refine Ev.bind hh ?_
  simp only [show ¬ cnt' < 0 by omega, if_false, if_true]
  exact ev_now _

end Go.Proofs.Ytbcgndhcieeloaa.Pure

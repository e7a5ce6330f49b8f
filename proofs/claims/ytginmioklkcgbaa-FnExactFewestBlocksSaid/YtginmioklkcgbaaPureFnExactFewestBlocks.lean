/- The pure statement of FnExactFewestBlocks: numbers and lists alone. No condition. -/
import Derived.Test.YtginmioklkcgbaaQFnExactFewestBlocksx8
import Derived.Test.YtginmioklkcgbaaAid
namespace Go.Proofs.Ytginmioklkcgbaa.Pure
open Go.RowKit Go.Proofs.Ytginmioklkcgbaa.QFnExactFewestBlocks Go.Proofs.YtginmioklkcgbaaW.PrintWords Go.Proofs.YtginmioklkcgbaaW.PrintLast Go.Proofs.YtginmioklkcgbaaW.PrintMore Go.Proofs.Ytginmioklkcgbaa.Aid
set_option linter.unusedVariables false
set_option linter.unusedSimpArgs false

theorem spec_l00In_eq (a b c : Int) : spec_l00In.f a b c = some (decide (b ≤ a ∧ a ≤ c)) := by
  unfold spec_l00In.f
  by_cases h : a ≥ b
  · rw [if_pos h]; congr 1; simp; omega
  · rw [if_neg h]; congr 1; simp; omega

theorem spec_l05One_ev (f m : Int) (a : Bool) : Ev (fun k => spec_l05One.f k f m a) (purchB f m a, f, m, a) := by
  simp only [spec_l05One.f, spec_l00In_eq, Option.bind_some]
  unfold purchB
  by_cases h1 : 0 ≤ f ∧ f ≤ 4
  · by_cases h2 : 0 ≤ m ∧ m ≤ 4
    · have e1 : wrap64 (f + m) = f + m := w64 (by omega) (by omega)
      have e2 : wrap64 (m - f) = m - f := w64 (by omega) (by omega)
      have e3 : wrap64 (f - m) = f - m := w64 (by omega) (by omega)
      simp only [h1, h2, decide_true, if_true, Bool.true_and, and_self]
      refine ev_succ ?_
      simp only [spec_l05One.j0, spec_l00In_eq, e1, e2, e3, Option.bind_some, decide_eq_true_eq]
      by_cases h3 : f + m < 1
      · simp only [h3, if_true, show ¬ 1 ≤ f + m by omega, decide_false, Bool.false_and]; exact ev_now _
      · simp only [h3, if_false, show 1 ≤ f + m by omega, decide_true, Bool.true_and]
        cases a <;> exact ev_now _
    · simp only [h1, h2, decide_true, decide_false, if_true, Bool.true_and, Bool.false_and, and_self, Bool.false_eq_true, if_false]
      refine ev_succ ?_
      simp only [spec_l05One.j0, if_true]; exact ev_now _
  · simp only [h1, decide_false, Bool.false_and, Bool.false_eq_true, if_false]
    refine ev_succ ?_
    simp only [spec_l05One.j0, if_true]; exact ev_now _

theorem impl_within_eq (a b c : Int) : impl_within.f a b c = some (decide (b ≤ a ∧ a ≤ c)) := by
  unfold impl_within.f
  by_cases h : a ≥ b
  · rw [if_pos h]; congr 1; simp; omega
  · rw [if_neg h]; congr 1; simp; omega

theorem impl_ValidPurchase_ev (f m : Int) (a : Bool) : Ev (fun k => impl_ValidPurchase.f k f m a) (purchB f m a) := by
  simp only [impl_ValidPurchase.f, impl_within_eq, Option.bind_some]
  unfold purchB
  by_cases h1 : 0 ≤ f ∧ f ≤ 4
  · by_cases h2 : 0 ≤ m ∧ m ≤ 4
    · have e1 : wrap64 (f + m) = f + m := w64 (by omega) (by omega)
      have e2 : wrap64 (m - f) = m - f := w64 (by omega) (by omega)
      have e3 : wrap64 (f - m) = f - m := w64 (by omega) (by omega)
      simp only [h1, h2, decide_true, if_true, Bool.true_and, and_self]
      refine ev_succ ?_
      simp only [impl_ValidPurchase.j0, impl_within_eq, e1, e2, e3, Option.bind_some, beq_iff_eq]
      by_cases h3 : f + m = 0
      · simp only [h3, if_true, show ¬ (1 : Int) ≤ 0 by omega, decide_false, Bool.false_and]; exact ev_now _
      · simp only [h3, if_false, show 1 ≤ f + m by omega, decide_true, Bool.true_and]
        cases a <;> exact ev_now _
    · simp only [h1, h2, decide_true, decide_false, if_true, Bool.true_and, Bool.false_and, and_self, Bool.false_eq_true, if_false]
      refine ev_succ ?_
      simp only [impl_ValidPurchase.j0, if_true]; exact ev_now _
  · simp only [h1, decide_false, Bool.false_and, Bool.false_eq_true, if_false]
    refine ev_succ ?_
    simp only [impl_ValidPurchase.j0, if_true]; exact ev_now _

def partsW (p : S140) : Int := if p.f2 = true then wrap64 ((wrap64 (p.f0 + p.f1)) + 1) else wrap64 (p.f0 + p.f1)
theorem spec_l05PartsAt_eq (p : S140) : spec_l05PartsAt.f [p] = some (partsW p) := by
  have e0 : rd_T140 [p] 0 = p := rfl
  have l0 : (0 : Int) < (([p] : List S140).length : Int) := by simp
  simp only [spec_l05PartsAt.f, e0, l0, if_true]
  unfold partsW
  split <;> rfl
theorem impl_partsOf_eq (p : S140) : impl_partsOf.f p.f0 p.f1 p.f2 = some (partsW p) := by
  unfold impl_partsOf.f partsW
  split <;> rfl

def cntV (f m : Int) : Int := if f > 0 then (if m > 0 then 2 else 1) else 1
def blkV (f m : Int) : Int := wrap64 (mn f 1 + mn m 1)
def cF (b n : Int) : List (Int × Int × Bool) := if (purchB (Int.tdiv (n + 1) 2) (Int.tdiv n 2) false && decide (cntV (Int.tdiv (n + 1) 2) (Int.tdiv n 2) = b)) = true then [(Int.tdiv (n + 1) 2, Int.tdiv n 2, false)] else []
def cT (b n : Int) : List (Int × Int × Bool) := if (purchB (Int.tdiv n 2) (Int.tdiv (n + 1) 2) true && decide (cntV (Int.tdiv n 2) (Int.tdiv (n + 1) 2) = b)) = true then [(Int.tdiv n 2, Int.tdiv (n + 1) 2, true)] else []
def cI (b n : Int) (c : Bool) (f : Int) : List (Int × Int × Bool) := if (purchB f (n - f) c && decide (blkV f (n - f) = b)) = true then [(f, n - f, c)] else []
def mkP (t : Int × Int × Bool) : S140 := ⟨t.1, t.2.1, t.2.2⟩
def specC (i : Nat) : List (Int × Int × Bool) := (List.range 8).flatMap fun (j : Nat) => cF ((i : Int) + 1) ((j : Int) + 1) ++ cT ((i : Int) + 1) ((j : Int) + 1)
def implC3 (i j c : Nat) : List (Int × Int × Bool) := (List.range (j + 2)).flatMap fun (f : Nat) => cI ((i : Int) + 1) ((j : Int) + 1) (rdOf false [false, true] (c : Int)) (f : Int)
def implC2 (i j : Nat) : List (Int × Int × Bool) := (List.range 2).flatMap (implC3 i j)
def implC (i : Nat) : List (Int × Int × Bool) := (List.range 8).flatMap (implC2 i)
theorem same_all : (List.range 2).flatMap specC = (List.range 2).flatMap implC := by decide +kernel
def FP (x : Int) (l : List (Int × Int × Bool)) : List S140 := (l.filter fun t => decide (partsW (mkP t) = x)).map mkP
theorem FP_app (x : Int) (a b) : FP x (a ++ b) = FP x a ++ FP x b := by simp [FP]
theorem FP_len (x : Int) (a) : (FP x a).length ≤ a.length := by unfold FP; rw [List.length_map]; exact List.length_filter_le _ _
theorem cF_len (b n : Int) : (cF b n).length ≤ 1 := by unfold cF; split <;> simp
theorem cT_len (b n : Int) : (cT b n).length ≤ 1 := by unfold cT; split <;> simp
theorem cI_len (b n : Int) (c : Bool) (f : Int) : (cI b n c f).length ≤ 1 := by unfold cI; split <;> simp
theorem spec_l05Count_eq (f m : Int) (a : Bool) : spec_l05Count.f f m a = some (cntV f m, f, m, a) := by
  unfold spec_l05Count.f cntV
  split
  · split <;> rfl
  · rfl
theorem spec_l05Parts_eq (f m : Int) (a : Bool) : spec_l05Parts.f f m a = some (partsW (mkP (f, m, a)), f, m, a) := by
  unfold spec_l05Parts.f partsW mkP
  simp only
  split <;> rfl
theorem half_bd (n : Int) (h : 0 ≤ n ∧ n ≤ 100) : -9223372036854775808 ≤ Int.tdiv n 2 ∧ Int.tdiv n 2 ≤ 9223372036854775807 := by
  rw [Int.tdiv_eq_ediv_of_nonneg h.1]; omega
theorem spec_all_j3 (x b n : Int) (hn : 1 ≤ n ∧ n ≤ 8) (s : List S140) (hs : s.length ≤ 1000) (r : List S140)
    (hr : Ev (fun k => spec_l05All.l1 k x (s ++ FP x (cT b n)) b (n + 1)) r) : Ev (fun k => spec_l05All.j3 k x s b n) r := by
  refine ev_succ ?_
  have b1 := half_bd n (by omega)
  have b2 := half_bd (n + 1) (by omega)
  simp only [spec_l05All.j3, spec_l05Count_eq, spec_l05Parts_eq, Option.bind_some, w64 (show -9223372036854775808 ≤ n + 1 by omega) (show n + 1 ≤ 9223372036854775807 by omega), w64 b1.1 b1.2, w64 b2.1 b2.2]
  refine Ev.bind (spec_l05One_ev _ _ _) ?_
  unfold cT at hr
  cases h1 : purchB (Int.tdiv n 2) (Int.tdiv (n + 1) 2) true
  · simp only [h1, Bool.false_and, Bool.false_eq_true, if_false, FP, List.filter_nil, List.map_nil, List.append_nil] at hr ⊢; exact hr
  · by_cases h2 : cntV (Int.tdiv n 2) (Int.tdiv (n + 1) 2) = b
    · by_cases h3 : partsW (mkP (Int.tdiv n 2, Int.tdiv (n + 1) 2, true)) = x
      · simp only [h1, h2, h3, decide_true, Bool.and_self, if_true, FP, List.filter_cons, List.filter_nil, List.map_cons, List.map_nil, show s.length < 5864062014805 by omega] at hr ⊢; exact hr
      · simp only [h1, h2, h3, decide_true, decide_false, Bool.false_eq_true, Bool.and_self, if_true, if_false, FP, List.filter_cons, List.filter_nil, List.map_nil, List.append_nil] at hr ⊢; exact hr
    · simp only [h1, h2, decide_false, Bool.and_false, Bool.false_eq_true, if_true, if_false, FP, List.filter_nil, List.map_nil, List.append_nil] at hr ⊢; exact hr
theorem spec_all_l1 (x b n : Int) (hn : 1 ≤ n ∧ n ≤ 8) (s : List S140) (hs : s.length ≤ 900) (r : List S140)
    (hr : Ev (fun k => spec_l05All.l1 k x (s ++ FP x (cF b n ++ cT b n)) b (n + 1)) r) : Ev (fun k => spec_l05All.l1 k x s b n) r := by
  refine ev_succ ?_
  have b1 := half_bd n (by omega)
  have b2 := half_bd (n + 1) (by omega)
  rw [FP_app, ← List.append_assoc] at hr
  simp only [spec_l05All.l1, hn.2, if_true, spec_l05Count_eq, spec_l05Parts_eq, Option.bind_some, w64 (show -9223372036854775808 ≤ n + 1 by omega) (show n + 1 ≤ 9223372036854775807 by omega), w64 b1.1 b1.2, w64 b2.1 b2.2]
  refine Ev.bind (spec_l05One_ev _ _ _) ?_
  have j := spec_all_j3 x b n hn (s ++ FP x (cF b n)) (by have := FP_len x (cF b n); have := cF_len b n; rw [List.length_append]; omega) r hr
  unfold cF at j
  cases h1 : purchB (Int.tdiv (n + 1) 2) (Int.tdiv n 2) false
  · simp only [h1, Bool.false_and, Bool.false_eq_true, if_false, FP, List.filter_nil, List.map_nil, List.append_nil] at j ⊢
    refine ev_succ ?_; simp only [spec_l05All.j2, Bool.false_eq_true, if_false]; exact j
  · by_cases h2 : cntV (Int.tdiv (n + 1) 2) (Int.tdiv n 2) = b
    · by_cases h3 : partsW (mkP (Int.tdiv (n + 1) 2, Int.tdiv n 2, false)) = x
      · simp only [h1, h2, h3, decide_true, Bool.and_self, if_true, FP, List.filter_cons, List.filter_nil, List.map_cons, List.map_nil, beq_self_eq_true] at j ⊢
        refine ev_succ ?_; simp only [spec_l05All.j2, if_true, show s.length < 5864062014805 by omega]; exact j
      · simp only [h1, h2, h3, decide_true, decide_false, Bool.false_eq_true, Bool.and_self, if_true, if_false, FP, List.filter_cons, List.filter_nil, List.map_nil, List.append_nil, beq_eq_false_iff_ne.2 h3] at j ⊢
        refine ev_succ ?_; simp only [spec_l05All.j2, Bool.false_eq_true, if_false]; exact j
    · simp only [h1, h2, decide_false, Bool.and_false, Bool.false_eq_true, if_true, if_false, FP, List.filter_nil, List.map_nil, List.append_nil] at j ⊢
      refine ev_succ ?_; simp only [spec_l05All.j2, Bool.false_eq_true, if_false]; exact j
theorem specC_len (i : Nat) : (specC i).length ≤ 16 := flat_len (len := 8) (m := 2) _ (fun n _ => by have := cF_len ((i : Int) + 1) ((n : Int) + 1); have := cT_len ((i : Int) + 1) ((n : Int) + 1); rw [List.length_append]; omega)
theorem spec_all_l0 (x : Int) (i : Nat) (hi : i < 2) (s : List S140) (hs : s.length ≤ 800) (r : List S140)
    (hr : Ev (fun k => spec_l05All.l0 k x (s ++ FP x (specC i)) ((i : Int) + 1 + 1)) r) : Ev (fun k => spec_l05All.l0 k x s ((i : Int) + 1)) r := by
  refine ev_succ ?_
  simp only [spec_l05All.l0, show (i : Int) + 1 ≤ 2 by omega, if_true]
  refine ev_flat (len := 8) (m := 2) (g := fun k s j => spec_l05All.l1 k x s ((i : Int) + 1) (j + 1)) (FP x) rfl (FP_app x) (FP_len x) (fun j => cF ((i : Int) + 1) ((j : Int) + 1) ++ cT ((i : Int) + 1) ((j : Int) + 1))
    (fun n _ => by have := cF_len ((i : Int) + 1) ((n : Int) + 1); have := cT_len ((i : Int) + 1) ((n : Int) + 1); rw [List.length_append]; omega) s r ?_ ?_
  · intro n hn s' hs' r' hr'
    exact spec_all_l1 x _ _ (by omega) s' (by omega) r' hr'
  · refine ev_succ ?_
    simp only [spec_l05All.l1, show ¬ ((8 : Nat) : Int) + 1 ≤ 8 by decide, if_false, w64 (show -9223372036854775808 ≤ (i : Int) + 1 + 1 by omega) (show (i : Int) + 1 + 1 ≤ 9223372036854775807 by omega)]
    exact hr
theorem spec_l05All_ev (x : Int) : Ev (fun k => spec_l05All.f k x) (FP x ((List.range 2).flatMap specC)) := by
  simp only [spec_l05All.f]
  refine ev_flat (len := 2) (m := 16) (g := fun k s j => spec_l05All.l0 k x s (j + 1)) (FP x) rfl (FP_app x) (FP_len x) specC (fun n _ => specC_len n) [] _ ?_ ?_
  · intro n hn s' hs' r' hr'
    exact spec_all_l0 x n hn s' (by simp at hs'; omega) r' hr'
  · refine ev_succ ?_
    simp only [spec_l05All.l0, show ¬ ((2 : Nat) : Int) + 1 ≤ 2 by decide, if_false, List.nil_append]
    exact ev_now _
def FM (l : List (Int × Int × Bool)) : List S140 := l.map mkP
theorem FM_app (a b) : FM (a ++ b) = FM a ++ FM b := by simp [FM]
theorem FM_len (a) : (FM a).length ≤ a.length := by simp [FM]
theorem impl_all_l3 (i j c : Nat) (hj : j < 8) (x17 : List Bool) (s : List S140) (hs : s.length ≤ 700) (r : List S140)
    (hr : Ev (fun k => impl_allPurchases.l2 k (s ++ FM (implC3 i j c)) ((i : Int) + 1) ((j : Int) + 1) x17 2 (wrap64 ((c : Int) + 1))) r) :
    Ev (fun k => impl_allPurchases.l3 k s ((i : Int) + 1) ((j : Int) + 1) (rdOf false [false, true] (c : Int)) 0 x17 2 (c : Int)) r := by
  refine ev_flat (len := j + 2) (m := 1) (g := fun k s f => impl_allPurchases.l3 k s ((i : Int) + 1) ((j : Int) + 1) (rdOf false [false, true] (c : Int)) f x17 2 (c : Int)) FM rfl FM_app FM_len (fun f => cI ((i : Int) + 1) ((j : Int) + 1) (rdOf false [false, true] (c : Int)) (f : Int)) (fun n _ => cI_len _ _ _ _) s r ?_ ?_
  · intro n hn s' hs' r' hr'
    refine ev_succ ?_
    simp only [impl_allPurchases.l3, show (n : Int) ≤ (j : Int) + 1 by omega, if_true, w64 (show -9223372036854775808 ≤ (j : Int) + 1 - (n : Int) by omega) (show (j : Int) + 1 - (n : Int) ≤ 9223372036854775807 by omega), impl_blocksOf.f, Option.bind_some, w64 (show -9223372036854775808 ≤ (n : Int) + 1 by omega) (show (n : Int) + 1 ≤ 9223372036854775807 by omega)]
    refine Ev.bind (impl_ValidPurchase_ev _ _ _) ?_
    unfold cI blkV at hr'
    cases h1 : purchB (n : Int) ((j : Int) + 1 - (n : Int)) (rdOf false [false, true] (c : Int))
    · simp only [h1, Bool.false_and, Bool.false_eq_true, if_false, FM, List.map_nil, List.append_nil] at hr' ⊢; exact hr'
    · by_cases h2 : wrap64 (mn (n : Int) 1 + mn ((j : Int) + 1 - (n : Int)) 1) = (i : Int) + 1
      · simp only [h1, h2, decide_true, Bool.and_self, if_true, FM, List.map_cons, List.map_nil, show s'.length < 5864062014805 by omega] at hr' ⊢; exact hr'
      · simp only [h1, h2, decide_false, Bool.and_false, Bool.false_eq_true, if_true, if_false, FM, List.map_nil, List.append_nil] at hr' ⊢; exact hr'
  · refine ev_succ ?_
    simp only [impl_allPurchases.l3, show ¬ ((j + 2 : Nat) : Int) ≤ (j : Int) + 1 by omega, if_false]
    exact hr
theorem implC3_len (i j c : Nat) (hj : j < 8) : (implC3 i j c).length ≤ 9 := by
  have := flat_len (len := j + 2) (m := 1) (fun f : Nat => cI ((i : Int) + 1) ((j : Int) + 1) (rdOf false [false, true] (c : Int)) (f : Int)) (fun n _ => cI_len _ _ _ _)
  unfold implC3; omega
theorem implC2_len (i j : Nat) (hj : j < 8) : (implC2 i j).length ≤ 18 := flat_len (len := 2) (m := 9) _ (fun n _ => implC3_len i j n hj)
theorem implC_len (i : Nat) : (implC i).length ≤ 144 := flat_len (len := 8) (m := 18) _ (fun n hn => implC2_len i n hn)
theorem impl_all_l1 (i j : Nat) (hj : j < 8) (s : List S140) (hs : s.length ≤ 600) (r : List S140)
    (hr : Ev (fun k => impl_allPurchases.l1 k (s ++ FM (implC2 i j)) ((i : Int) + 1) ((j : Int) + 1 + 1)) r) : Ev (fun k => impl_allPurchases.l1 k s ((i : Int) + 1) ((j : Int) + 1)) r := by
  refine ev_succ ?_
  simp only [impl_allPurchases.l1, show (j : Int) + 1 ≤ 8 by omega, if_true, Option.bind_some, show (([false, true] : List Bool).length : Int) = 2 from rfl]
  refine ev_flat (len := 2) (m := 9) (g := fun k s c => impl_allPurchases.l2 k s ((i : Int) + 1) ((j : Int) + 1) [false, true] 2 c) FM rfl FM_app FM_len (implC3 i j) (fun n _ => implC3_len i j n hj) s r ?_ ?_
  · intro n hn s' hs' r' hr'
    refine ev_succ ?_
    simp only [impl_allPurchases.l2, show (n : Int) < 2 by omega, show (0 : Int) ≤ (n : Int) from Int.natCast_nonneg _, show (n : Int) < (([false, true] : List Bool).length : Int) by simp; omega, if_true]
    exact impl_all_l3 i j n hj [false, true] s' (by omega) r' (by rw [wnext hn (by omega)]; exact hr')
  · refine ev_succ ?_
    simp only [impl_allPurchases.l2, show ¬ ((2 : Nat) : Int) < 2 by decide, if_false, w64 (show -9223372036854775808 ≤ (j : Int) + 1 + 1 by omega) (show (j : Int) + 1 + 1 ≤ 9223372036854775807 by omega)]
    exact hr
theorem impl_all_l0 (i : Nat) (hi : i < 2) (s : List S140) (hs : s.length ≤ 400) (r : List S140)
    (hr : Ev (fun k => impl_allPurchases.l0 k (s ++ FM (implC i)) ((i : Int) + 1 + 1)) r) : Ev (fun k => impl_allPurchases.l0 k s ((i : Int) + 1)) r := by
  refine ev_succ ?_
  simp only [impl_allPurchases.l0, show (i : Int) + 1 ≤ 2 by omega, if_true]
  refine ev_flat (len := 8) (m := 18) (g := fun k s j => impl_allPurchases.l1 k s ((i : Int) + 1) (j + 1)) FM rfl FM_app FM_len (implC2 i) (fun n hn => implC2_len i n hn) s r ?_ ?_
  · intro n hn s' hs' r' hr'
    exact impl_all_l1 i n hn s' (by omega) r' hr'
  · refine ev_succ ?_
    simp only [impl_allPurchases.l1, show ¬ ((8 : Nat) : Int) + 1 ≤ 8 by decide, if_false, w64 (show -9223372036854775808 ≤ (i : Int) + 1 + 1 by omega) (show (i : Int) + 1 + 1 ≤ 9223372036854775807 by omega)]
    exact hr
theorem impl_allPurchases_ev : Ev (fun k => impl_allPurchases.f k) (FM ((List.range 2).flatMap implC)) := by
  simp only [impl_allPurchases.f]
  refine ev_flat (len := 2) (m := 144) (g := fun k s j => impl_allPurchases.l0 k s (j + 1)) FM rfl FM_app FM_len implC (fun n _ => implC_len n) [] _ ?_ ?_
  · intro n hn s' hs' r' hr'
    exact impl_all_l0 n hn s' (by simp at hs'; omega) r' hr'
  · refine ev_succ ?_
    simp only [impl_allPurchases.l0, show ¬ ((2 : Nat) : Int) + 1 ≤ 2 by decide, if_false, List.nil_append]
    exact ev_now _
theorem all_len : (FP 0 []).length = 0 ∧ ((List.range 2).flatMap implC).length ≤ 288 := ⟨rfl, flat_len (len := 2) (m := 144) _ (fun n _ => implC_len n)⟩
theorem impl_purchasesFor_ev (x : Int) : Ev (fun k => impl_purchasesFor.f k x) (FP x ((List.range 2).flatMap implC)) := by
  simp only [impl_purchasesFor.f]
  refine Ev.bind impl_allPurchases_ev ?_
  have hl := all_len.2
  generalize (List.range 2).flatMap implC = L at hl ⊢
  have e : FP x L = (FM L).filter fun p => decide (partsW p = x) := by
    unfold FP FM; rw [List.filter_map]; rfl
  rw [e]
  have hm : (FM L).length ≤ 288 := by have := FM_len L; omega
  generalize FM L = xs at hm
  have ee : ∀ n, ((xs.take n).foldl (fun (s : List S140) p => if partsW p = x then s ++ [p] else s) []) = (xs.take n).filter fun p => decide (partsW p = x) := by
    intro n
    generalize xs.take n = ys
    suffices ∀ s, ys.foldl (fun (s : List S140) p => if partsW p = x then s ++ [p] else s) s = s ++ ys.filter fun p => decide (partsW p = x) by simpa using this []
    induction ys with
    | nil => intro s; simp
    | cons y ys ih => intro s; rw [List.foldl_cons, ih, List.filter_cons]; by_cases h : partsW y = x <;> simp [h]
  have ef := ee xs.length
  rw [List.take_length] at ef
  rw [← ef]
  refine ev_foldl xs z140 _ [] (g := fun k s i => impl_purchasesFor.l0 k x s xs (xs.length : Int) i) (fun s => s) ?_ ?_
  · intro n hn s hs r hr
    have hlen : s.length < 5864062014805 := by
      rw [hs, ee]
      have := List.length_filter_le (fun p => decide (partsW p = x)) (xs.take n)
      rw [List.length_take] at this; omega
    refine ev_succ ?_
    simp only [impl_purchasesFor.l0, Int.ofNat_lt.2 hn, show (0 : Int) ≤ (n : Int) from Int.natCast_nonneg _, if_true, rd_T140, Int.toNat_natCast, impl_partsOf_eq, Option.bind_some, hlen, wnext hn (by omega : xs.length ≤ 9223372036854775807)]
    by_cases h : partsW (xs.getD n z140) = x
    · simp only [h, if_true] at hr ⊢; exact hr
    · simp only [h, if_false] at hr ⊢; exact hr
  · refine ev_succ ?_
    simp only [impl_purchasesFor.l0, Int.lt_irrefl, if_false]
    exact ev_now _

def pB (p : S140) : Bool := purchB p.f0 p.f1 p.f2
theorem spec_l05OneAt_ev (p : S140) : Ev (fun k => spec_l05OneAt.f k [p]) (pB p) := by
  have e0 : rd_T140 [p] 0 = p := rfl
  have l0 : (0 : Int) < (([p] : List S140).length : Int) := by simp
  simp only [spec_l05OneAt.f, spec_l00In_eq, Option.bind_some, e0, l0, if_true]
  obtain ⟨f, m, a⟩ := p
  unfold pB purchB
  simp only
  by_cases h1 : 0 ≤ f ∧ f ≤ 4
  · by_cases h2 : 0 ≤ m ∧ m ≤ 4
    · have e1 : wrap64 (f + m) = f + m := w64 (by omega) (by omega)
      have e2 : wrap64 (m - f) = m - f := w64 (by omega) (by omega)
      have e3 : wrap64 (f - m) = f - m := w64 (by omega) (by omega)
      simp only [h1, h2, decide_true, if_true, Bool.true_and, and_self]
      refine ev_succ ?_
      simp only [spec_l05OneAt.j0, spec_l00In_eq, e0, l0, e1, e2, e3, Option.bind_some, decide_eq_true_eq, if_true]
      by_cases h3 : f + m < 1
      · simp only [h3, if_true, show ¬ 1 ≤ f + m by omega, decide_false, Bool.false_and]; exact ev_now _
      · simp only [h3, if_false, show 1 ≤ f + m by omega, decide_true, Bool.true_and]
        cases a <;> exact ev_now _
    · simp only [h1, h2, decide_true, decide_false, if_true, Bool.true_and, Bool.false_and, and_self, Bool.false_eq_true, if_false]
      refine ev_succ ?_
      simp only [spec_l05OneAt.j0, if_true]; exact ev_now _
  · simp only [h1, decide_false, Bool.false_and, Bool.false_eq_true, if_false]
    refine ev_succ ?_
    simp only [spec_l05OneAt.j0, if_true]; exact ev_now _
def tackB (xs : List S140) : Bool := decide (1 ≤ xs.length ∧ xs.length ≤ 6) && xs.all pB
theorem impl_ValidTackle_ev (xs : List S140) (h : xs.length ≤ 1048576) : Ev (fun k => impl_ValidTackle.f k xs) (tackB xs) := by
  simp only [impl_ValidTackle.f]
  by_cases h1 : (xs.length : Int) < 1
  · simp only [h1, if_true]
    refine ev_succ ?_
    simp only [impl_ValidTackle.j0, if_true]
    exact ev_to (ev_now _) (by unfold tackB; rw [show decide (1 ≤ xs.length ∧ xs.length ≤ 6) = false by simp; omega]; rfl)
  · simp only [h1, if_false]
    refine ev_succ ?_
    simp only [impl_ValidTackle.j0]
    by_cases h2 : (xs.length : Int) > 6
    · simp only [h2, decide_true, if_true]
      exact ev_to (ev_now _) (by unfold tackB; rw [show decide (1 ≤ xs.length ∧ xs.length ≤ 6) = false by simp; omega]; rfl)
    · simp only [h2, decide_false, Bool.false_eq_true, if_false]
      refine ev_to (ev_all (len := xs.length) (g := fun k i => impl_ValidTackle.l0 k xs (xs.length : Int) i) (fun n => pB (xs.getD n z140)) true ?_ ?_ ?_) (by rw [range_all xs z140 pB, Bool.and_true]; unfold tackB; rw [show decide (1 ≤ xs.length ∧ xs.length ≤ 6) = true by simp; omega]; rfl)
      · intro n hn hp r hr
        refine ev_succ ?_
        simp only [impl_ValidTackle.l0, Int.ofNat_lt.2 hn, show (0 : Int) ≤ (n : Int) from Int.natCast_nonneg _, if_true, rd_T140, Int.toNat_natCast, wnext hn (by omega : xs.length ≤ 9223372036854775807)]
        refine Ev.bind (impl_ValidPurchase_ev _ _ _) ?_
        rw [show purchB _ _ _ = true from hp]
        simp only [if_true]
        exact hr
      · intro n hn hp
        refine ev_succ ?_
        simp only [impl_ValidTackle.l0, Int.ofNat_lt.2 hn, show (0 : Int) ≤ (n : Int) from Int.natCast_nonneg _, if_true, rd_T140, Int.toNat_natCast]
        refine Ev.bind (impl_ValidPurchase_ev _ _ _) ?_
        rw [show purchB _ _ _ = false from hp]
        simp only [Bool.false_eq_true, if_false]
        exact ev_now _
      · refine ev_succ ?_
        simp only [impl_ValidTackle.l0, Int.lt_irrefl, if_false]
        exact ev_now _

def countW (p : S140) : Int := if p.f0 > 0 ∧ p.f1 > 0 then 2 else 1
theorem impl_blocksOf_eq (p : S140) (h : pB p = true) : impl_blocksOf.f p.f0 p.f1 p.f2 = some (countW p) := by
  unfold pB purchB at h
  simp only [Bool.and_eq_true, decide_eq_true_eq] at h
  obtain ⟨h1, h2, h3, h4⟩ := h
  unfold impl_blocksOf.f countW mn
  congr 1
  have e : wrap64 ((if (1 : Int) < p.f0 then 1 else p.f0) + (if (1 : Int) < p.f1 then 1 else p.f1)) = (if (1 : Int) < p.f0 then 1 else p.f0) + (if (1 : Int) < p.f1 then 1 else p.f1) := by
    refine w64 ?_ ?_ <;> (split <;> split <;> omega)
  rw [e]
  cases p.f2 <;> simp at h4 <;> (split <;> split <;> split <;> omega)
theorem countW_bd (p : S140) : 1 ≤ countW p ∧ countW p ≤ 2 := by unfold countW; split <;> omega
theorem spec_l05CountAt_head (xs : List S140) (h : 0 < xs.length) : spec_l05CountAt.f xs = some (countW (rd_T140 xs 0)) := by
  have l0 : (0 : Int) < (xs.length : Int) := by omega
  simp only [spec_l05CountAt.f, l0, if_true]
  unfold countW
  by_cases h1 : (rd_T140 xs 0).f0 > 0 <;> by_cases h2 : (rd_T140 xs 0).f1 > 0 <;> simp [h1, h2]
def allC : List (Int × Int × Bool) := (List.range 2).flatMap implC
def firstP (a : Int) : S140 := rd_T140 (FP a allC) 0
theorem first_ok : (List.range 8).all (fun i => decide (0 < (FP ((i : Int) + 2) allC).length) && pB (firstP ((i : Int) + 2))) = true := by decide +kernel
theorem first_at (a : Int) (h0 : 2 ≤ a) (h1 : a ≤ 9) : 0 < (FP a allC).length ∧ pB (firstP a) = true := by
  have h := first_ok
  rw [List.all_eq_true] at h
  have := h (a - 2).toNat (List.mem_range.2 (by omega))
  rw [show (((a - 2).toNat : Nat) : Int) + 2 = a by omega] at this
  simpa using this
theorem l05All_first (a : Int) : Ev (fun k => spec_l05All.f k a) (FP a allC) := by
  unfold allC
  rw [← same_all]
  exact spec_l05All_ev a
theorem purchasesFor_first (a : Int) : Ev (fun k => impl_purchasesFor.f k a) (FP a allC) := impl_purchasesFor_ev a
theorem firsts_ev : ∀ (d : Nat) (a : Int) (F0 : Int → S140), a + (d : Int) = 10 → 2 ≤ a → (∀ c, 2 ≤ c → c < a → F0 c = firstP c) →
    ∃ F : Int → S140, (∀ c, 2 ≤ c → c ≤ 9 → F c = firstP c) ∧ Ev (fun k => impl_bestTackle.l k a F0) F := by
  intro d
  induction d with
  | zero =>
    intro a F0 ha h2 hF
    refine ⟨F0, fun c h0 h1 => hF c h0 (by omega), ev_succ ?_⟩
    simp only [impl_bestTackle.l, show ¬ a ≤ 9 by omega, if_false]
    exact ev_now _
  | succ d ih =>
    intro a F0 ha h2 hF
    obtain ⟨hp, _⟩ := first_at a h2 (by omega)
    obtain ⟨F, h1, h3⟩ := ih (a + 1) (fun c => if c = a then firstP a else F0 c) (by omega) (by omega) (fun c h0 h1 => by
      by_cases hc : c = a
      · simp only [hc, if_true]
      · simp only [hc, if_false]; exact hF c h0 (by omega))
    refine ⟨F, h1, ev_succ ?_⟩
    simp only [impl_bestTackle.l, show a ≤ 9 by omega, if_true]
    refine Ev.bind (purchasesFor_first a) ?_
    simp only [hp, if_true, w64 (show -9223372036854775808 ≤ a + 1 by omega) (show a + 1 ≤ 9223372036854775807 by omega)]
    exact h3
def sumC (xs : List S140) : Int := (xs.map countW).sum
theorem sumC_snoc (xs : List S140) (p : S140) : sumC (xs ++ [p]) = sumC xs + countW p := by simp [sumC]
def Found (xs : List S140) (b : Int) : Prop := 1 ≤ xs.length ∧ xs.length ≤ 6 ∧ xs.all pB = true ∧ sumC xs = b
def Rel (few : Int) (best : Option (List S140)) (fi : Int) : Prop := (few = -1 ∧ best = none) ∨ ∃ xs, best = some xs ∧ few = fi ∧ 0 ≤ fi ∧ Found xs fi
theorem prune {F : Int → S140} (hF : ∀ c, 2 ≤ c → c ≤ 9 → F c = firstP c) (xs : List S140) (fi : Int) : ∀ (d : Nat) (list : List S140) (left most blocks : Int), list.length + d = 6 → most ≤ 9 → 0 ≤ blocks → blocks ≤ 2 * (list.length : Int) → fi ≤ blocks →
    Ev (fun k => impl_extend.f F k list left most blocks (some xs) fi) (some xs, fi) := by
  intro d
  induction d with
  | zero =>
    intro list left most blocks hd hm h0 hb hf
    refine ev_succ ?_
    simp only [impl_extend.f]
    by_cases h1 : left = 1
    · simp only [h1, if_true, Option.isNone_some, Bool.false_eq_true, false_or, show ¬ blocks < fi by omega, if_false]; exact ev_now _
    · simp only [h1, if_false, show list.length = 6 by omega, if_true]; exact ev_now _
  | succ d ih =>
    intro list left most blocks hd hm h0 hb hf
    have loop : ∀ (e : Nat) (a : Int), a ≤ (e : Int) + 1 → a ≤ 9 → Ev (fun k => impl_extend.l F k list left blocks a (some xs) fi) (some xs, fi) := by
      intro e
      induction e with
      | zero =>
        intro a ha h9
        refine ev_succ ?_
        simp only [impl_extend.l, show ¬ a ≥ 2 by omega, if_false]
        exact ev_now _
      | succ e ihe =>
        intro a ha h9
        by_cases h2 : a ≥ 2
        · refine ev_succ ?_
          have ew : wrap64 (a - 1) = a - 1 := w64 (by omega) (by omega)
          simp only [impl_extend.l, h2, if_true, ew]
          by_cases h3 : Int.tmod left a = 0
          · simp only [h3, if_true]
            obtain ⟨_, hp⟩ := first_at a h2 h9
            have hc := countW_bd (firstP a)
            rw [hF a h2 h9, impl_blocksOf_eq _ hp]
            simp only [Option.bind_some, w64 (show -9223372036854775808 ≤ blocks + countW (firstP a) by omega) (show blocks + countW (firstP a) ≤ 9223372036854775807 by omega)]
            exact Ev.bind (ih (list ++ [firstP a]) _ a _ (by rw [List.length_append]; simp; omega) h9 (by omega) (by rw [List.length_append]; simp; omega) (by omega)) (ihe (a - 1) (by omega) (by omega))
          · simp only [h3, if_false]
            exact ihe (a - 1) (by omega) (by omega)
        · refine ev_succ ?_
          simp only [impl_extend.l, h2, if_false]
          exact ev_now _
    refine ev_succ ?_
    simp only [impl_extend.f]
    by_cases h1 : left = 1
    · simp only [h1, if_true, Option.isNone_some, Bool.false_eq_true, false_or, show ¬ blocks < fi by omega, if_false]; exact ev_now _
    · simp only [h1, if_false, show ¬ list.length = 6 by omega]
      exact loop 10 _ (by split <;> omega) (by split <;> omega)
theorem both {F : Int → S140} (hF : ∀ c, 2 ≤ c → c ≤ 9 → F c = firstP c) : ∀ (d : Nat) (list : List S140) (left most blocks few : Int) (best : Option (List S140)) (fi : Int), list.length + d = 6 → most ≤ 9 → 0 ≤ blocks → blocks ≤ 2 * (list.length : Int) →
    (left = 1 → 1 ≤ list.length) → list.all pB = true → sumC list = blocks → Rel few best fi →
    ∃ (few' : Int) (best' : Option (List S140)) (fi' : Int), Rel few' best' fi' ∧ Ev (fun k => spec_walk.f k list.length few left most blocks) few' ∧ Ev (fun k => impl_extend.f F k list left most blocks best fi) (best', fi') := by
  intro d
  induction d with
  | zero =>
    intro list left most blocks few best fi hd hm h0 hb hl hall hs hR
    by_cases hp : few ≥ 0 ∧ blocks ≥ few
    · rcases hR with ⟨h1, _⟩ | ⟨xs, rfl, rfl, hfi, hg⟩
      · omega
      · refine ⟨few, some xs, few, .inr ⟨xs, rfl, rfl, hfi, hg⟩, ev_succ ?_, prune hF xs few 0 list left most blocks hd hm h0 hb hp.2⟩
        simp only [spec_walk.f, hp, and_self, if_true]; exact ev_now _
    · by_cases h1 : left = 1
      · refine ⟨blocks, some list, blocks, .inr ⟨list, rfl, rfl, h0, hl h1, by omega, hall, hs⟩, ev_succ ?_, ev_succ ?_⟩
        · simp only [spec_walk.f, hp, if_false, h1, if_true]; exact ev_now _
        · have hc : best.isNone = true ∨ blocks < fi := by
            rcases hR with ⟨_, rfl⟩ | ⟨xs, rfl, rfl, hfi, hg⟩
            · exact .inl rfl
            · exact .inr (by omega)
          simp only [impl_extend.f, h1, if_true, hc]; exact ev_now _
      · refine ⟨few, best, fi, hR, ev_succ ?_, ev_succ ?_⟩
        · simp only [spec_walk.f, hp, if_false, h1, show list.length = 6 by omega, if_true]; exact ev_now _
        · simp only [impl_extend.f, h1, if_false, show list.length = 6 by omega, if_true]; exact ev_now _
  | succ d ih =>
    intro list left most blocks few best fi hd hm h0 hb hl hall hs hR
    by_cases hp : few ≥ 0 ∧ blocks ≥ few
    · rcases hR with ⟨h1, _⟩ | ⟨xs, rfl, rfl, hfi, hg⟩
      · omega
      · refine ⟨few, some xs, few, .inr ⟨xs, rfl, rfl, hfi, hg⟩, ev_succ ?_, prune hF xs few (d + 1) list left most blocks hd hm h0 hb hp.2⟩
        simp only [spec_walk.f, hp, and_self, if_true]; exact ev_now _
    · by_cases h1 : left = 1
      · refine ⟨blocks, some list, blocks, .inr ⟨list, rfl, rfl, h0, hl h1, by omega, hall, hs⟩, ev_succ ?_, ev_succ ?_⟩
        · simp only [spec_walk.f, hp, if_false, h1, if_true]; exact ev_now _
        · have hc : best.isNone = true ∨ blocks < fi := by
            rcases hR with ⟨_, rfl⟩ | ⟨xs, rfl, rfl, hfi, hg⟩
            · exact .inl rfl
            · exact .inr (by omega)
          simp only [impl_extend.f, h1, if_true, hc]; exact ev_now _
      · have loop : ∀ (e : Nat) (a few : Int) (best : Option (List S140)) (fi : Int), a ≤ (e : Int) + 1 → a ≤ 9 → Rel few best fi →
            ∃ (few' : Int) (best' : Option (List S140)) (fi' : Int), Rel few' best' fi' ∧ Ev (fun k => spec_walk.l k list.length few left blocks a) few' ∧ Ev (fun k => impl_extend.l F k list left blocks a best fi) (best', fi') := by
          intro e
          induction e with
          | zero =>
            intro a few best fi ha h9 hR
            refine ⟨few, best, fi, hR, ev_succ ?_, ev_succ ?_⟩
            · simp only [spec_walk.l, show ¬ a ≥ 2 by omega, if_false]; exact ev_now _
            · simp only [impl_extend.l, show ¬ a ≥ 2 by omega, if_false]; exact ev_now _
          | succ e ihe =>
            intro a few best fi ha h9 hR
            by_cases h2 : a ≥ 2
            · have ew : wrap64 (a - 1) = a - 1 := w64 (by omega) (by omega)
              by_cases h3 : Int.tmod left a = 0
              · obtain ⟨hpos, hpb⟩ := first_at a h2 h9
                have hc := countW_bd (firstP a)
                have eb : wrap64 (blocks + countW (firstP a)) = blocks + countW (firstP a) := w64 (by omega) (by omega)
                have hlen : (list ++ [firstP a]).length = list.length + 1 := by simp
                obtain ⟨f1, b1, i1, hR1, s1, e1⟩ := ih (list ++ [firstP a]) (wrap64 (Int.tdiv left a)) a (blocks + countW (firstP a)) few best fi (by omega) h9 (by omega) (by omega) (fun _ => by omega) (by rw [List.all_append, hall]; simp [hpb]) (by rw [sumC_snoc, hs]) hR
                obtain ⟨f2, b2, i2, hR2, s2, e2⟩ := ihe (a - 1) f1 b1 i1 (by omega) (by omega) hR1
                refine ⟨f2, b2, i2, hR2, ev_succ ?_, ev_succ ?_⟩
                · simp only [spec_walk.l, h2, if_true, h3, ew]
                  refine Ev.bind (l05All_first a) ?_
                  rw [hlen] at s1
                  simp only [show ¬ (FP a allC).length = 0 by omega, if_false, spec_l05CountAt_head _ hpos, Option.bind_some]
                  rw [show rd_T140 (FP a allC) 0 = firstP a from rfl, eb]
                  exact Ev.bind s1 s2
                · simp only [impl_extend.l, h2, if_true, h3, ew]
                  rw [hF a h2 h9, impl_blocksOf_eq _ hpb]
                  simp only [Option.bind_some, eb]
                  exact Ev.bind e1 e2
              · obtain ⟨f2, b2, i2, hR2, s2, e2⟩ := ihe (a - 1) few best fi (by omega) (by omega) hR
                refine ⟨f2, b2, i2, hR2, ev_succ ?_, ev_succ ?_⟩
                · simp only [spec_walk.l, h2, if_true, h3, if_false, ew]; exact s2
                · simp only [impl_extend.l, h2, if_true, h3, if_false, ew]; exact e2
            · refine ⟨few, best, fi, hR, ev_succ ?_, ev_succ ?_⟩
              · simp only [spec_walk.l, h2, if_false]; exact ev_now _
              · simp only [impl_extend.l, h2, if_false]; exact ev_now _
        have hmin : (if most < left then most else left) = (if left < most then left else most) := by split <;> split <;> omega
        obtain ⟨f2, b2, i2, hR2, s2, e2⟩ := loop 10 (if left < most then left else most) few best fi (by split <;> omega) (by split <;> omega) hR
        refine ⟨f2, b2, i2, hR2, ev_succ ?_, ev_succ ?_⟩
        · simp only [spec_walk.f, hp, if_false, h1, show ¬ list.length = 6 by omega]
          refine Ev.bind (a := if left < most then left else most) (ev_const ?_) s2
          unfold spec_l00Min.f
          rw [← hmin]
          split <;> rfl
        · simp only [impl_extend.f, h1, if_false, show ¬ list.length = 6 by omega]
          exact e2
theorem fold_sum : ∀ (xs : List S140) (s : Int), 0 ≤ s → s + 2 * (xs.length : Int) ≤ 1000 → xs.foldl (fun a p => wrap64 (a + countW p)) s = s + sumC xs := by
  intro xs
  induction xs with
  | nil => intro s _ _; simp [sumC]
  | cons p xs ih =>
    intro s h0 h1
    have hc := countW_bd p
    simp only [List.length_cons] at h1
    rw [List.foldl_cons, w64 (by omega) (by omega), ih _ (by omega) (by omega)]
    simp only [sumC, List.map_cons, List.sum_cons]
    omega
theorem impl_BlocksOf_ok (xs : List S140) (h1 : 1 ≤ xs.length) (h6 : xs.length ≤ 6) (hall : xs.all pB = true) : Ev (fun k => impl_BlocksOf.f k xs) (sumC xs, 0) := by
  simp only [impl_BlocksOf.f]
  have hb : tackB xs = true := by unfold tackB; rw [hall]; simp; omega
  have hat : ∀ n, n < xs.length → pB (xs.getD n z140) = true := by
    intro n hn
    rw [List.all_eq_true] at hall
    rw [getD_lt xs _ hn]
    exact hall _ (List.getElem_mem hn)
  refine Ev.bind (impl_ValidTackle_ev xs (by omega)) ?_
  simp only [hb, if_true]
  have e := fold_sum xs 0 (by omega) (by omega)
  rw [Int.zero_add] at e
  rw [← e]
  refine ev_foldl xs z140 (fun a p => wrap64 (a + countW p)) 0 (g := fun k s i => impl_BlocksOf.l0 k s xs (xs.length : Int) i) (fun s => (s, 0)) ?_ ?_
  · intro n hn s _ r hr
    refine ev_succ ?_
    simp only [impl_BlocksOf.l0, Int.ofNat_lt.2 hn, show (0 : Int) ≤ (n : Int) from Int.natCast_nonneg _, if_true, rd_T140, Int.toNat_natCast, impl_blocksOf_eq _ (hat n hn), Option.bind_some, wnext hn (by omega : xs.length ≤ 9223372036854775807)]
    exact hr
  · refine ev_succ ?_
    simp only [impl_BlocksOf.l0, Int.lt_irrefl, if_false]
    exact ev_now _
theorem FewestBlocks_ev (a : Int) : ∃ r : Int × Int, Ev (fun k => spec_FewestBlocks.f k a) r ∧ Ev (fun k => impl_FewestBlocks.f k a) r := by
  simp only [spec_FewestBlocks.f, impl_FewestBlocks.f, spec_l05Wanted.f, spec_l00In_eq, impl_within_eq, Option.bind_some]
  by_cases ha : 1 ≤ a ∧ a ≤ 5000
  · simp only [ha, and_self, decide_true, if_true]
    by_cases h1 : a = 1
    · subst h1
      refine ⟨(1, 0), ?_, ?_⟩
      · simp only [spec_l05Best.f, if_true, Option.bind_some, show ¬ (1 : Int) < 0 by decide, if_false]; exact ev_now _
      · simp only [impl_bestTackle.f, if_true, Option.bind_some, Option.elim_some]
        exact ev_to (impl_BlocksOf_ok _ (by simp) (by simp) (by decide)) (by decide)
    · obtain ⟨F, hF, eF⟩ := firsts_ev 8 2 (fun _ => z140) (by omega) (by omega) (fun c h0 h2 => by omega)
      obtain ⟨few, best, fi, hR, hs, he⟩ := both hF 6 [] a 9 0 (-1) none 0 rfl (by omega) (by omega) (by simp) (fun h => absurd h h1) rfl rfl (.inl ⟨rfl, rfl⟩)
      simp only [spec_l05Best.f, impl_bestTackle.f, h1, if_false]
      rcases hR with ⟨rfl, rfl⟩ | ⟨xs, rfl, rfl, hfi, g1, g2, g3, g4⟩
      · refine ⟨(0, 3), Ev.bind hs ?_, Ev.bind (a := none) (Ev.bind eF (Ev.bind he (ev_now _))) ?_⟩
        · simp only [show ((-1 : Int)) < 0 by decide, if_true]; exact ev_now _
        · simp only [Option.elim_none]; exact ev_now _
      · refine ⟨(few, 0), Ev.bind hs ?_, Ev.bind (a := some xs) (Ev.bind eF (Ev.bind he (ev_now _))) ?_⟩
        · simp only [show ¬ few < 0 by omega, if_false]; exact ev_now _
        · simp only [Option.elim_some]; exact ev_to (impl_BlocksOf_ok xs g1 g2 g3) (by rw [g4])
  · simp only [ha, decide_false, Bool.false_eq_true, if_false]; exact ⟨_, ev_now _, ev_now _⟩
theorem FnExactFewestBlocks : laws_FnExactFewestBlocks.Pure := by
  intro a _
  obtain ⟨⟨r1, r2⟩, ⟨K1, h1⟩, ⟨K2, h2⟩⟩ := FewestBlocks_ev a
  exact ⟨K1 + K2, r1, r2, h1 _ (by omega), h2 _ (by omega)⟩

end Go.Proofs.Ytginmioklkcgbaa.Pure

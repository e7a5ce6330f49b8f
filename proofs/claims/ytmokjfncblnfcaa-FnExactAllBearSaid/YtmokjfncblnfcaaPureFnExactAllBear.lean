/- The pure statement of FnExactAllBear: numbers and lists alone. No condition. -/
import Derived.Test.YtmokjfncblnfcaaQFnExactAllBearx5
import Derived.Test.YtmokjfncblnfcaaAid
namespace Go.Proofs.Ytmokjfncblnfcaa.Pure
open Go.RowKit Go.Proofs.Ytmokjfncblnfcaa.QFnExactAllBear Go.Proofs.YtmokjfncblnfcaaW.PrintWords Go.Proofs.YtmokjfncblnfcaaW.PrintLast Go.Proofs.YtmokjfncblnfcaaW.PrintMore Go.Proofs.Ytmokjfncblnfcaa.Aid
set_option linter.unusedVariables false
set_option linter.unusedSimpArgs false

theorem spec_l00In_eq (a b c : Int) : spec_l00In.f a b c = some (decide (b ≤ a ∧ a ≤ c)) := by
  unfold spec_l00In.f
  by_cases h : a ≥ b
  · rw [if_pos h]; congr 1; simp; omega
  · rw [if_neg h]; congr 1; simp; omega

theorem impl_within_eq (a b c : Int) : impl_within.f a b c = some (decide (b ≤ a ∧ a ≤ c)) := by
  unfold impl_within.f
  by_cases h : a ≥ b
  · rw [if_pos h]; congr 1; simp; omega
  · rw [if_neg h]; congr 1; simp; omega

theorem spec_l04One_eq (l s : Int) : spec_l04One.f l s = some (springB l s) := by
  simp only [spec_l04One.f, spec_l00In_eq, Option.bind_some]
  unfold springB
  by_cases h1 : 1 ≤ l ∧ l ≤ 60
  · simp only [h1, decide_true, if_true, Bool.true_and, and_self]
  · simp only [h1, decide_false, Bool.false_and, Bool.false_eq_true, if_false]
theorem impl_validSpring_eq (l s : Int) : impl_validSpring.f l s = some (springB l s) := by
  simp only [impl_validSpring.f, impl_within_eq, Option.bind_some]
  unfold springB
  by_cases h1 : 1 ≤ l ∧ l ≤ 60
  · simp only [h1, decide_true, if_true, Bool.true_and, and_self]
  · simp only [h1, decide_false, Bool.false_and, Bool.false_eq_true, if_false]

def springsB (xs : List S28) : Bool := decide (1 ≤ xs.length ∧ xs.length ≤ 4) && xs.all fun x => springB x.f0 x.f1
theorem spec_l04Ok_ev (xs : List S28) (h : xs.length ≤ 1048576) : Ev (fun k => spec_l04Ok.f k xs) (springsB xs) := by
  simp only [spec_l04Ok.f]
  refine ev_to (ev_all (len := xs.length) (g := fun k i => spec_l04Ok.l0 k xs i) (fun n => (fun x : S28 => springB x.f0 x.f1) (xs.getD n z28)) (decide (1 ≤ xs.length ∧ xs.length ≤ 4)) ?_ ?_ ?_) (by rw [range_all xs z28 (fun x => springB x.f0 x.f1), Bool.and_comm]; rfl)
  · intro n hn hp r hr
    refine ev_succ ?_
    simp only [spec_l04Ok.l0, spec_l04One_eq, Option.bind_some, Int.ofNat_lt.2 hn, show (0 : Int) ≤ (n : Int) from Int.natCast_nonneg _, if_true, rd_T28, Int.toNat_natCast, hp, wnext hn (by omega : xs.length ≤ 9223372036854775807)]
    exact hr
  · intro n hn hp
    refine ev_succ ?_
    simp only [spec_l04Ok.l0, spec_l04One_eq, Option.bind_some, Int.ofNat_lt.2 hn, show (0 : Int) ≤ (n : Int) from Int.natCast_nonneg _, if_true, rd_T28, Int.toNat_natCast, hp, Bool.false_eq_true, if_false]
    exact ev_now _
  · refine ev_succ ?_
    simp only [spec_l04Ok.l0, Int.lt_irrefl, if_false, spec_l00In_eq, Option.bind_some]
    exact ev_to (ev_now _) (by congr 1; simp; omega)
theorem impl_ValidSprings_ev (xs : List S28) (h : xs.length ≤ 1048576) : Ev (fun k => impl_ValidSprings.f k xs) (springsB xs) := by
  simp only [impl_ValidSprings.f]
  by_cases h1 : (xs.length : Int) < 1
  · simp only [h1, if_true]
    refine ev_succ ?_
    simp only [impl_ValidSprings.j0, if_true]
    exact ev_to (ev_now _) (by unfold springsB; rw [show decide (1 ≤ xs.length ∧ xs.length ≤ 4) = false by simp; omega]; rfl)
  · simp only [h1, if_false]
    refine ev_succ ?_
    simp only [impl_ValidSprings.j0]
    by_cases h2 : (xs.length : Int) > 4
    · simp only [h2, decide_true, if_true]
      exact ev_to (ev_now _) (by unfold springsB; rw [show decide (1 ≤ xs.length ∧ xs.length ≤ 4) = false by simp; omega]; rfl)
    · simp only [h2, decide_false, Bool.false_eq_true, if_false]
      refine ev_to (ev_all (len := xs.length) (g := fun k i => impl_ValidSprings.l0 k xs (xs.length : Int) i) (fun n => (fun x : S28 => springB x.f0 x.f1) (xs.getD n z28)) true ?_ ?_ ?_) (by rw [range_all xs z28 (fun x => springB x.f0 x.f1), Bool.and_true]; unfold springsB; rw [show decide (1 ≤ xs.length ∧ xs.length ≤ 4) = true by simp; omega]; rfl)
      · intro n hn hp r hr
        refine ev_succ ?_
        simp only [impl_ValidSprings.l0, impl_validSpring_eq, Option.bind_some, Int.ofNat_lt.2 hn, show (0 : Int) ≤ (n : Int) from Int.natCast_nonneg _, if_true, rd_T28, Int.toNat_natCast, hp, wnext hn (by omega : xs.length ≤ 9223372036854775807)]
        exact hr
      · intro n hn hp
        refine ev_succ ?_
        simp only [impl_ValidSprings.l0, impl_validSpring_eq, Option.bind_some, Int.ofNat_lt.2 hn, show (0 : Int) ≤ (n : Int) from Int.natCast_nonneg _, if_true, rd_T28, Int.toNat_natCast, hp, Bool.false_eq_true, if_false]
        exact ev_now _
      · refine ev_succ ?_
        simp only [impl_ValidSprings.l0, Int.lt_irrefl, if_false]
        exact ev_now _

theorem mkF_scale (c n d : Int) (hc : 0 < c) : mkF (c * n) (c * d) = mkF n d := by
  unfold mkF
  have e : (Int.gcd (c * n) (c * d) : Int) = c * (Int.gcd n d : Int) := by
    rw [Int.gcd_mul_left]; push_cast; rw [Int.natAbs_of_nonneg (by omega)]
  rw [e, Int.mul_tdiv_mul_of_pos _ _ hc, Int.mul_tdiv_mul_of_pos _ _ hc]
theorem mkF_mul (n d : Int) (hd : 0 < d) : ∃ g : Int, 0 < g ∧ n = g * (mkF n d).1 ∧ d = g * (mkF n d).2 := by
  have pos : 0 < Int.gcd n d := Int.gcd_pos_of_ne_zero_right n (by omega)
  exact ⟨(Int.gcd n d : Nat), by omega, (Int.mul_tdiv_cancel' (Int.gcd_dvd_left ..)).symm, (Int.mul_tdiv_cancel' (Int.gcd_dvd_right ..)).symm⟩
theorem pos_of_mul {g x : Int} (hg : 0 < g) (h : 0 < g * x) : 0 < x := by
  rcases Int.lt_or_le 0 x with q | q
  · exact q
  · have := Int.mul_le_mul_of_nonneg_left q (Int.le_of_lt hg); omega
theorem nonneg_of_mul {g x : Int} (hg : 0 < g) (h : 0 ≤ g * x) : 0 ≤ x := by
  rcases Int.lt_or_le x 0 with q | q
  · have := Int.mul_lt_mul_of_pos_left q hg; omega
  · exact q
theorem le_mul_pos {g x : Int} (hg : 0 < g) (hx : 0 ≤ x) : x ≤ g * x := by
  have := Int.mul_le_mul_of_nonneg_right (show (1 : Int) ≤ g by omega) hx; omega
theorem mul_bd {a b A B : Int} (h0 : 0 ≤ a) (h1 : a ≤ A) (h2 : 0 ≤ b) (h3 : b ≤ B) : 0 ≤ a * b ∧ a * b ≤ A * B :=
  ⟨Int.mul_nonneg h0 h2, Int.mul_le_mul h1 h3 h2 (by omega)⟩
theorem mkF_pos (n d : Int) (hn : 0 ≤ n) (hd : 0 < d) : 0 ≤ (mkF n d).1 ∧ (mkF n d).1 ≤ n ∧ 0 < (mkF n d).2 ∧ (mkF n d).2 ≤ d := by
  obtain ⟨g, hg, e1, e2⟩ := mkF_mul n d hd
  have a := nonneg_of_mul hg (show 0 ≤ g * (mkF n d).1 by omega)
  have b := pos_of_mul hg (show 0 < g * (mkF n d).2 by omega)
  have c := le_mul_pos hg a
  have e := le_mul_pos hg (Int.le_of_lt b)
  exact ⟨a, by omega, b, by omega⟩

/-! ### lines that share a load, in whole numbers: everything is scaled by bigK, which each length divides -/
def bigK : Int := 9690712164777231700912800
theorem bigK_div : ∀ i : Fin 60, ((i.val : Int) + 1) * (bigK / ((i.val : Int) + 1)) = bigK := by decide +kernel
theorem bigK_of {l : Int} (h : 1 ≤ l ∧ l ≤ 60) : l * (bigK / l) = bigK := by
  have := bigK_div ⟨(l - 1).toNat, by omega⟩
  rw [show (((⟨(l - 1).toNat, by omega⟩ : Fin 60).val : Int) + 1) = l by show (((l - 1).toNat : Nat) : Int) + 1 = l; omega] at this
  exact this
theorem bigK_pos : 0 < bigK := by decide +kernel
theorem bigK_div_pos {l : Int} (h : 1 ≤ l ∧ l ≤ 60) : 0 < bigK / l := by
  have h1 := bigK_of h
  have h2 := bigK_pos
  rcases Int.lt_trichotomy 0 (bigK / l) with h3 | h3 | h3
  · exact h3
  · rw [← h3] at h1; omega
  · have := Int.mul_neg_of_pos_of_neg (show 0 < l by omega) h3; omega
theorem cross_lt {a b c d m : Int} (hm : 0 < m) (h1 : a * m = c * d) : (a ≤ b ↔ c * d ≤ b * m) := by
  rw [← h1]
  exact ⟨fun h => Int.mul_le_mul_of_nonneg_right h (by omega), fun h => Int.le_of_mul_le_mul_right h hm⟩
def sumS (l : List S28) : Int := (l.map fun x => x.f1).sum
def sumQ (l : List S28) : Int := (l.map fun x => x.f1 * (bigK / x.f0)).sum
def sumW (t : Int) (l : List S28) : Int := (l.map fun x => x.f1 * ((t - x.f0) * (bigK / x.f0))).sum
def okS (l : List S28) : Prop := ∀ x ∈ l, springB x.f0 x.f1 = true
theorem ok_of {x : S28} (h : springB x.f0 x.f1 = true) : (1 ≤ x.f0 ∧ x.f0 ≤ 60) ∧ (1 ≤ x.f1 ∧ x.f1 ≤ 1000) := by
  unfold springB at h
  simpa using h
theorem sumW_eq (t : Int) : ∀ l : List S28, okS l → sumW t l = t * sumQ l - bigK * sumS l
  | [], _ => by simp [sumW, sumQ, sumS]
  | x :: l, h => by
    have ih := sumW_eq t l (fun y hy => h y (List.mem_cons_of_mem _ hy))
    have k := bigK_of (ok_of (h x List.mem_cons_self)).1
    simp only [sumW, sumQ, sumS, List.map_cons, List.sum_cons] at ih ⊢
    rw [ih, Int.mul_add, Int.mul_add, Int.sub_mul, k, Int.mul_sub, Int.mul_left_comm t x.f1, Int.mul_comm bigK x.f1]
    omega
theorem sumW_mono {t t' : Int} (h : t ≤ t') : ∀ l : List S28, okS l → sumW t l ≤ sumW t' l
  | [], _ => Int.le_refl _
  | x :: l, hl => by
    have ih := sumW_mono h l (fun y hy => hl y (List.mem_cons_of_mem _ hy))
    have o := ok_of (hl x List.mem_cons_self)
    have k := bigK_div_pos o.1
    simp only [sumW, List.map_cons, List.sum_cons] at ih ⊢
    have m : x.f1 * ((t - x.f0) * (bigK / x.f0)) ≤ x.f1 * ((t' - x.f0) * (bigK / x.f0)) :=
      Int.mul_le_mul_of_nonneg_left (Int.mul_le_mul_of_nonneg_right (by omega) (by omega)) (by omega)
    omega
theorem sumW_append (t : Int) (l m : List S28) : sumW t (l ++ m) = sumW t l + sumW t m := by simp [sumW]
theorem sumW_nonneg {t : Int} : ∀ l : List S28, okS l → (∀ x ∈ l, x.f0 ≤ t) → 0 ≤ sumW t l
  | [], _, _ => Int.le_refl _
  | x :: l, h, g => by
    have ih := sumW_nonneg l (fun y hy => h y (List.mem_cons_of_mem _ hy)) (fun y hy => g y (List.mem_cons_of_mem _ hy))
    have o := ok_of (h x List.mem_cons_self)
    have k := bigK_div_pos o.1
    have gx := g x List.mem_cons_self
    simp only [sumW, List.map_cons, List.sum_cons] at ih ⊢
    have m : 0 ≤ x.f1 * ((t - x.f0) * (bigK / x.f0)) := Int.mul_nonneg (by omega) (Int.mul_nonneg (by omega) (by omega))
    omega
theorem sumW_perm (t : Int) {l m : List S28} (h : l.Perm m) : sumW t l = sumW t m := by
  unfold sumW
  induction h with
  | nil => rfl
  | cons x _ ih => simp only [List.map_cons, List.sum_cons, ih]
  | swap x y l => simp only [List.map_cons, List.sum_cons]; omega
  | trans _ _ i1 i2 => exact i1.trans i2
/-- A fraction that is a sum of Stiff / Length, scaled. -/
def isQ (q : Int × Int) (l : List S28) : Prop := 0 < q.2 ∧ 0 ≤ q.1 ∧ q.1 * bigK = sumQ l * q.2
theorem sumQ_append (l m : List S28) : sumQ (l ++ m) = sumQ l + sumQ m := by simp [sumQ]
theorem sumS_append (l m : List S28) : sumS (l ++ m) = sumS l + sumS m := by simp [sumS]
def qStep (s : Int × Int) (x : S28) : Int × Int := mkF (s.1 * x.f0 + x.f1 * s.2) (s.2 * x.f0)
theorem isQ_step {s : Int × Int} {l : List S28} {x : S28} (h : isQ s l) (hx : springB x.f0 x.f1 = true) : isQ (qStep s x) (l ++ [x]) := by
  obtain ⟨h1, h2, h3⟩ := h
  have o := ok_of hx
  have k := bigK_of o.1
  have p : 0 < s.2 * x.f0 := Int.mul_pos h1 (by omega)
  have nn : 0 ≤ s.1 * x.f0 + x.f1 * s.2 := Int.add_nonneg (Int.mul_nonneg h2 (by omega)) (Int.mul_nonneg (by omega) (by omega))
  obtain ⟨g, hg, e1, e2⟩ := mkF_mul (s.1 * x.f0 + x.f1 * s.2) (s.2 * x.f0) p
  have d2 : 0 < (qStep s x).2 := by
    unfold qStep
    generalize mkF (s.1 * x.f0 + x.f1 * s.2) (s.2 * x.f0) = r at e1 e2 ⊢
    rcases Int.lt_trichotomy 0 r.2 with h3 | h3 | h3
    · exact h3
    · rw [← h3] at e2; omega
    · have := Int.mul_neg_of_pos_of_neg hg h3; omega
  refine ⟨d2, ?_, ?_⟩
  · unfold qStep
    generalize mkF (s.1 * x.f0 + x.f1 * s.2) (s.2 * x.f0) = r at e1 e2 ⊢
    by_cases h3 : r.1 < 0
    · have := Int.mul_neg_of_pos_of_neg hg h3; omega
    · omega
  · have e3 : (s.1 * x.f0 + x.f1 * s.2) * bigK = sumQ (l ++ [x]) * (s.2 * x.f0) := by
      rw [sumQ_append, Int.add_mul, Int.add_mul, Int.mul_right_comm, h3]
      have : sumQ [x] = x.f1 * (bigK / x.f0) := by simp [sumQ]
      have e4 : x.f1 * s.2 * bigK = x.f1 * (bigK / x.f0) * (s.2 * x.f0) := by
        conv => lhs; rw [← k]
        ac_rfl
      have e5 : sumQ l * s.2 * x.f0 = sumQ l * (s.2 * x.f0) := Int.mul_assoc ..
      rw [this, e4, e5]
    unfold qStep
    generalize mkF (s.1 * x.f0 + x.f1 * s.2) (s.2 * x.f0) = r at e1 e2 ⊢
    rw [e1, e2, Int.mul_assoc, Int.mul_left_comm (sumQ (l ++ [x]))] at e3
    exact Int.eq_of_mul_eq_mul_left (by omega) e3
theorem sumQ_pos {l : List S28} (h : okS l) (hne : l ≠ []) : 0 < sumQ l := by
  have nn : ∀ l : List S28, okS l → 0 ≤ sumQ l := by
    intro l
    induction l with
    | nil => intro _; exact Int.le_refl _
    | cons x l ih =>
      intro h
      have := ih (fun y hy => h y (List.mem_cons_of_mem _ hy))
      have o := ok_of (h x List.mem_cons_self)
      have k := bigK_div_pos o.1
      have := Int.mul_nonneg (show 0 ≤ x.f1 by omega) (show 0 ≤ bigK / x.f0 by omega)
      simp only [sumQ, List.map_cons, List.sum_cons] at *
      omega
  cases l with
  | nil => exact absurd rfl hne
  | cons x l =>
    have := nn l (fun y hy => h y (List.mem_cons_of_mem _ hy))
    have o := ok_of (h x List.mem_cons_self)
    have k := bigK_div_pos o.1
    have := Int.mul_pos (show 0 < x.f1 by omega) k
    simp only [sumQ, List.map_cons, List.sum_cons] at *
    omega
/-- The length at which the lines l bear p: at most t just where p is at most what they bear there. -/
theorem out_le {q r : Int × Int} {l : List S28} {p t : Int} (hl : okS l) (hne : l ≠ []) (hq : isQ q l) (hr : r = mkF ((p + sumS l) * q.2) q.1) : 0 < r.2 ∧ (r.1 ≤ t * r.2 ↔ p * bigK ≤ sumW t l) := by
  obtain ⟨h1, h2, h3⟩ := hq
  have qp : 0 < q.1 := by
    by_cases h : 0 < q.1
    · exact h
    · have : q.1 = 0 := by omega
      rw [this] at h3
      have := Int.mul_pos (sumQ_pos hl hne) h1
      omega
  obtain ⟨g, hg, e1, e2⟩ := mkF_mul ((p + sumS l) * q.2) q.1 qp
  rw [← hr] at e1 e2
  have r2 : 0 < r.2 := by
    rcases Int.lt_trichotomy 0 r.2 with h3 | h3 | h3
    · exact h3
    · rw [← h3] at e2; omega
    · have := Int.mul_neg_of_pos_of_neg hg h3; omega
  refine ⟨r2, ?_⟩
  rw [sumW_eq t l hl]
  have a1 : r.1 ≤ t * r.2 ↔ (p + sumS l) * q.2 ≤ t * q.1 := by
    rw [e1]
    constructor
    · intro h
      have := Int.mul_le_mul_of_nonneg_left h (show 0 ≤ g by omega)
      rw [Int.mul_left_comm g t, ← e2] at this
      exact this
    · intro h
      refine Int.le_of_mul_le_mul_left ?_ hg
      rw [Int.mul_left_comm g t, ← e2]
      exact h
  have a2 : (p + sumS l) * q.2 ≤ t * q.1 ↔ ((p + sumS l) * bigK) * q.2 ≤ (t * sumQ l) * q.2 := by
    have b1 : ((p + sumS l) * bigK) * q.2 = ((p + sumS l) * q.2) * bigK := by rw [Int.mul_right_comm]
    have b2 : (t * sumQ l) * q.2 = (t * q.1) * bigK := by rw [Int.mul_assoc, ← h3, Int.mul_assoc]
    rw [b1, b2]
    exact ⟨fun h => Int.mul_le_mul_of_nonneg_right h (Int.le_of_lt bigK_pos), fun h => Int.le_of_mul_le_mul_right h bigK_pos⟩
  have a3 : ((p + sumS l) * bigK) * q.2 ≤ (t * sumQ l) * q.2 ↔ (p + sumS l) * bigK ≤ t * sumQ l := ⟨fun h => Int.le_of_mul_le_mul_right h h1, fun h => Int.mul_le_mul_of_nonneg_right h (by omega)⟩
  rw [a1, a2, a3, Int.add_mul, Int.mul_comm bigK (sumS l)]
  omega
def shR (p : Int) (pre : List S28) (q : Int × Int) : List S28 → Int × Int
  | [] => (0, 0)
  | [x] => mkF ((p + sumS (pre ++ [x])) * (qStep q x).2) (qStep q x).1
  | x :: y :: rest =>
    if (mkF ((p + sumS (pre ++ [x])) * (qStep q x).2) (qStep q x).1).1 ≤ y.f0 * (mkF ((p + sumS (pre ++ [x])) * (qStep q x).2) (qStep q x).1).2 then mkF ((p + sumS (pre ++ [x])) * (qStep q x).2) (qStep q x).1
    else shR p (pre ++ [x]) (qStep q x) (y :: rest)
theorem shR_le (p L : Int) : ∀ (rest pre : List S28) (q : Int × Int), rest ≠ [] → okS (pre ++ rest) → (∀ x ∈ pre ++ rest, x.f0 ≤ L) → isQ q pre →
    0 < (shR p pre q rest).2 ∧ ((shR p pre q rest).1 ≤ L * (shR p pre q rest).2 ↔ p * bigK ≤ sumW L (pre ++ rest))
  | [], _, _, h, _, _, _ => absurd rfl h
  | [x], pre, q, _, ho, _, hq => out_le ho (by simp) (isQ_step hq (ho x (by simp))) rfl
  | x :: y :: rest, pre, q, _, ho, hL, hq => by
    have hx := ho x (by simp)
    have ha : pre ++ x :: y :: rest = (pre ++ [x]) ++ (y :: rest) := by simp
    have ho1 : okS (pre ++ [x]) := fun z hz => ho z (by simp at hz ⊢; rcases hz with hz | hz <;> simp [hz])
    have hq1 := isQ_step hq hx
    unfold shR
    split
    · rename_i hc
      have o1 := fun t => out_le (p := p) (t := t) ho1 (by simp) hq1 rfl
      refine ⟨(o1 L).1, ⟨fun _ => ?_, fun _ => ?_⟩⟩
      · have b1 := (o1 y.f0).2.1 hc
        have b2 := sumW_mono (hL y (by simp)) (pre ++ [x]) ho1
        have b3 : 0 ≤ sumW L (y :: rest) := sumW_nonneg _ (fun z hz => ho z (by rw [ha]; exact List.mem_append_right _ hz)) (fun z hz => hL z (by rw [ha]; exact List.mem_append_right _ hz))
        rw [ha, sumW_append]
        omega
      · exact (o1 L).2.2 (Int.le_trans ((o1 y.f0).2.1 hc) (sumW_mono (hL y (by simp)) _ ho1))
    · rw [ha] at ho hL ⊢
      exact shR_le p L (y :: rest) (pre ++ [x]) _ (by simp) ho hL hq1

theorem spec_l00Gcd_ev (m : Nat) : ∀ a b : Int, b.toNat = m → 0 ≤ a → 0 ≤ b → Ev (fun k => spec_l00Gcd.l0 k a b) (Nat.gcd a.toNat b.toNat : Nat) := by
  induction m using Nat.strongRecOn with
  | _ m ih =>
    intro a b hm ha hb
    refine ev_succ ?_
    by_cases h : b = 0
    · subst h
      simp only [spec_l00Gcd.l0, if_true]
      exact ev_to (ev_now _) (by simp; omega)
    · obtain ⟨h1, h2, h3⟩ := gcd_step (a := a) (b := b) ha (by omega)
      simp only [spec_l00Gcd.l0, h, if_false]
      exact ev_to (ih _ (by omega) b _ rfl hb h1) (by rw [h3])
theorem spec_l01Make_ev (n d : Int) (hn : -4611686018427387904 ≤ n ∧ n ≤ 4611686018427387904) (hd : 0 < d ∧ d ≤ 4611686018427387904) : Ev (fun k => spec_l01Make.f k n d) (mkF n d) := by
  have e0 : spec_l00Size.f n = some (n.natAbs : Int) := by
    unfold spec_l00Size.f
    by_cases h : n < 0
    · rw [if_pos h, w64 (by omega) (by omega)]; congr 1; omega
    · rw [if_neg h]; congr 1; omega
  simp only [spec_l01Make.f, spec_l00Gcd.f, e0, Option.bind_some]
  have g := spec_l00Gcd_ev d.toNat (n.natAbs : Int) d rfl (by omega) (by omega)
  have eg : Nat.gcd ((n.natAbs : Int)).toNat d.toNat = Int.gcd n d := by rw [Int.gcd, Int.toNat_natCast]; congr 1; omega
  rw [eg] at g
  have pos : 0 < Int.gcd n d := Int.gcd_pos_of_ne_zero_right n (by omega)
  refine Ev.bind g ?_
  have b1 := tdiv_bound n (Int.gcd n d)
  have b2 := tdiv_bound d (Int.gcd n d)
  simp only [show ¬ ((Int.gcd n d : Nat) : Int) = 0 by omega, if_false, w64 (n := Int.tdiv n (Int.gcd n d : Nat)) (by omega) (by omega), w64 (n := Int.tdiv d (Int.gcd n d : Nat)) (by omega) (by omega)]
  exact ev_now _

/-! ### the lines by ascending lengths -/
def posG (out : List S28) (l : Int) : Nat → Nat
  | 0 => 0
  | k + 1 => if (out.getD k z28).f0 > l then posG out l k else k + 1
theorem posG_le (out : List S28) (l : Int) : ∀ k, posG out l k ≤ k
  | 0 => Nat.le_refl _
  | k + 1 => by
    unfold posG
    split
    · have := posG_le out l k; omega
    · exact Nat.le_refl _
def insS (out : List S28) (x : S28) : List S28 := (out.take (posG out x.f0 out.length) ++ [x]) ++ out.drop (posG out x.f0 out.length)
theorem insS_perm (out : List S28) (x : S28) : (insS out x).Perm (x :: out) := by
  unfold insS
  rw [List.append_assoc, List.singleton_append]
  exact List.perm_middle.trans (List.Perm.of_eq (by rw [List.take_append_drop]))
theorem insS_length (out : List S28) (x : S28) : (insS out x).length = out.length + 1 := by
  have := (insS_perm out x).length_eq; simpa using this
def sortL (xs : List S28) (n : Nat) : List S28 := (xs.take n).foldl insS []
theorem foldl_insS (xs : List S28) : ∀ out : List S28, (xs.foldl insS out).Perm (xs ++ out) := by
  induction xs with
  | nil => intro out; exact List.Perm.refl _
  | cons x xs ih =>
    intro out
    refine (ih (insS out x)).trans ?_
    refine ((insS_perm out x).append_left xs).trans ?_
    exact List.perm_middle
theorem sortL_perm (xs : List S28) (n : Nat) : (sortL xs n).Perm (xs.take n) := by
  have := foldl_insS (xs.take n) []
  simpa [sortL] using this
theorem sortL_all (xs : List S28) : (sortL xs xs.length).Perm xs := by
  have := sortL_perm xs xs.length
  rwa [List.take_length] at this
theorem sortL_length (xs : List S28) {n : Nat} (h : n ≤ xs.length) : (sortL xs n).length = n := by
  rw [(sortL_perm xs n).length_eq, List.length_take]; omega
theorem spec_l04Sorted_ev (xs : List S28) (h : xs.length ≤ 1048576) : Ev (fun k => spec_l04Sorted.f k xs) (sortL xs xs.length) := by
  simp only [spec_l04Sorted.f]
  refine ev_fold (len := xs.length) (g := fun k s i => spec_l04Sorted.l0 k xs s i) (fun n s => insS s (xs.getD n z28)) (sortL xs) _ (fun n hn => foldl_take_succ xs _ _ _ hn) ?_ ?_
  · intro n hn r hr
    have hl := sortL_length xs (show n ≤ xs.length by omega)
    generalize sortL xs n = out at hl hr ⊢
    refine ev_succ ?_
    simp only [spec_l04Sorted.l0, Int.ofNat_lt.2 hn, if_true]
    have key : ∀ m, m ≤ out.length → posG out (xs.getD n z28).f0 m = posG out (xs.getD n z28).f0 out.length → Ev (fun k => spec_l04Sorted.l1 k xs out (n : Int) (m : Int)) r := by
      intro m
      have fin : ∀ m : Nat, m ≤ out.length → m = posG out (xs.getD n z28).f0 out.length → Ev (fun k => spec_l04Sorted.l0 k xs ((out.take m ++ [xs.getD n z28]) ++ out.drop m) (wrap64 ((n : Int) + 1))) r := by
        intro m hm he
        rw [wnext hn (by omega : xs.length ≤ 9223372036854775807), he]
        exact hr
      induction m with
      | zero =>
        intro hm he
        have f := fin 0 hm (by rw [← he]; rfl)
        refine ev_succ ?_
        simp only [spec_l04Sorted.l1, show ¬ (((0 : Nat) : Int) > 0) by omega, if_false, Option.bind_some, List.length_nil, Int.toNat_natCast, List.nil_append, List.take_zero, List.drop_zero,
          show (0 : Int) ≤ ((0 : Nat) : Int) by omega, show ((0 : Nat) : Int) ≤ (out.length : Int) by omega, if_true, Nat.add_zero, show (0 : Nat) < 8796093022208 by decide, Int.ofNat_lt.2 hn, show (0 : Int) ≤ (n : Int) from Int.natCast_nonneg _, List.length_cons, Nat.zero_add,
          rd_T28, show 1 + out.length < 8796093022208 by omega]
        simpa using f
      | succ m ih =>
        intro hm he
        have w1 : wrap64 (((m + 1 : Nat) : Int) - 1) = (m : Int) := by rw [w64 (by omega) (by omega)]; omega
        refine ev_succ ?_
        by_cases hc : (out.getD m z28).f0 > (xs.getD n z28).f0
        · have e2 : posG out (xs.getD n z28).f0 m = posG out (xs.getD n z28).f0 out.length := by rw [← he]; show _ = (if _ then _ else _); rw [if_pos hc]
          simp only [spec_l04Sorted.l1, w1, show ((m + 1 : Nat) : Int) > 0 by omega, show (0 : Int) ≤ (m : Int) by omega, show (m : Int) < (out.length : Int) by omega, if_true, show (0 : Int) ≤ (n : Int) by omega, Int.ofNat_lt.2 hn, rd_T28, Int.toNat_natCast, hc]
          exact ih (by omega) e2
        · have e2 : m + 1 = posG out (xs.getD n z28).f0 out.length := by rw [← he]; show _ = (if _ then _ else _); rw [if_neg hc]
          have f := fin (m + 1) hm e2
          have t1 : (out.take (m + 1)).length = m + 1 := by rw [List.length_take]; omega
          have t2 : (out.drop (m + 1)).length = out.length - (m + 1) := List.length_drop
          simp only [spec_l04Sorted.l1, w1, show ((m + 1 : Nat) : Int) > 0 by omega, show (0 : Int) ≤ (m : Int) by omega, show (m : Int) < (out.length : Int) by omega, if_true, show (0 : Int) ≤ (n : Int) by omega, Int.ofNat_lt.2 hn, rd_T28, Int.toNat_natCast, hc, if_false,
            Option.bind_some, List.length_nil, List.nil_append, show (0 : Int) ≤ ((m + 1 : Nat) : Int) by omega, show ((m + 1 : Nat) : Int) ≤ (out.length : Int) by omega, Nat.zero_add, List.length_append, List.length_cons, t1, t2,
            show m + 1 < 8796093022208 by omega, show m + 1 + 1 + (out.length - (m + 1)) < 8796093022208 by omega]
          exact f
    exact key out.length (Nat.le_refl _) rfl
  · refine ev_succ ?_
    simp only [spec_l04Sorted.l0, Int.lt_irrefl, if_false]
    exact ev_now _
/-! ### fractions that are sums over lines, scaled -/
def frI (V : Int) (n : Nat) (s : Int × Int) : Prop := 0 < s.2 ∧ 0 ≤ s.1 ∧ s.1 * bigK = V * s.2 ∧ s.2 ≤ 60 ^ n
theorem pow_le60 {n : Nat} (h : n ≤ 4) : (60 : Int) ^ n ≤ 12960000 := by
  have : n = 0 ∨ n = 1 ∨ n = 2 ∨ n = 3 ∨ n = 4 := by omega
  rcases this with rfl | rfl | rfl | rfl | rfl <;> decide
theorem fr_bd {V : Int} {n : Nat} {s : Int × Int} {M : Int} (h : frI V n s) (hn : n ≤ 4) (hV : V ≤ M * bigK) : s.2 ≤ 12960000 ∧ s.1 ≤ M * s.2 := by
  obtain ⟨h1, h2, h3, h4⟩ := h
  refine ⟨by have := pow_le60 hn; omega, ?_⟩
  refine Int.le_of_mul_le_mul_right ?_ bigK_pos
  rw [h3, Int.mul_right_comm]
  exact Int.mul_le_mul_of_nonneg_right hV (by omega)
theorem fr_next {V : Int} {n : Nat} {s : Int × Int} {c l : Int} (h : frI V n s) (hl : 1 ≤ l ∧ l ≤ 60) (hc : 0 ≤ c) : frI (V + c * (bigK / l)) (n + 1) (mkF (s.1 * l + c * s.2) (s.2 * l)) := by
  obtain ⟨h1, h2, h3, h4⟩ := h
  have k := bigK_of hl
  have p : 0 < s.2 * l := Int.mul_pos h1 (by omega)
  have nn : 0 ≤ s.1 * l + c * s.2 := Int.add_nonneg (Int.mul_nonneg h2 (by omega)) (Int.mul_nonneg hc (by omega))
  obtain ⟨g, hg, e1, e2⟩ := mkF_mul (s.1 * l + c * s.2) (s.2 * l) p
  have q := mkF_pos (s.1 * l + c * s.2) (s.2 * l) nn p
  have e3 : (s.1 * l + c * s.2) * bigK = (V + c * (bigK / l)) * (s.2 * l) := by
    rw [Int.add_mul, Int.add_mul, Int.mul_right_comm, h3]
    have e4 : c * s.2 * bigK = c * (bigK / l) * (s.2 * l) := by
      conv => lhs; rw [← k]
      ac_rfl
    rw [e4, Int.mul_assoc V]
  refine ⟨q.2.2.1, q.1, ?_, ?_⟩
  · generalize mkF (s.1 * l + c * s.2) (s.2 * l) = r at e1 e2 ⊢
    rw [e1, e2, Int.mul_assoc, Int.mul_left_comm (V + c * (bigK / l))] at e3
    exact Int.eq_of_mul_eq_mul_left (by omega) e3
  · have a := q.2.2.2
    have b : s.2 * l ≤ 60 ^ n * 60 := Int.mul_le_mul h4 hl.2 (by omega) (by have := Int.pow_pos (n := 60) (m := n) (by decide); omega)
    rw [Int.pow_succ]; omega
theorem sumQ_snoc (l : List S28) (x : S28) : sumQ (l ++ [x]) = sumQ l + x.f1 * (bigK / x.f0) := by simp [sumQ]
theorem sumS_snoc (l : List S28) (x : S28) : sumS (l ++ [x]) = sumS l + x.f1 := by simp [sumS]
theorem sumS_bd : ∀ l : List S28, okS l → 0 ≤ sumS l ∧ sumS l ≤ 1000 * l.length
  | [], _ => ⟨Int.le_refl _, Int.le_refl _⟩
  | x :: l, h => by
    have ih := sumS_bd l (fun y hy => h y (List.mem_cons_of_mem _ hy))
    have o := ok_of (h x List.mem_cons_self)
    simp only [sumS, List.map_cons, List.sum_cons, List.length_cons] at ih ⊢
    omega
theorem kdiv_le {l : Int} (h : 1 ≤ l ∧ l ≤ 60) : bigK / l ≤ bigK := by
  have k := bigK_of h
  have := le_mul_pos (show 0 < l by omega) (Int.le_of_lt (bigK_div_pos h))
  omega
theorem sumQ_bd : ∀ l : List S28, okS l → 0 ≤ sumQ l ∧ sumQ l ≤ (1000 * (l.length : Int)) * bigK
  | [], _ => ⟨Int.le_refl _, by simp [sumQ]⟩
  | x :: l, h => by
    have ih := sumQ_bd l (fun y hy => h y (List.mem_cons_of_mem _ hy))
    have o := ok_of (h x List.mem_cons_self)
    have kp := bigK_div_pos o.1
    have m := mul_bd (show 0 ≤ x.f1 by omega) o.2.2 (Int.le_of_lt kp) (kdiv_le o.1)
    have e : (1000 * ((l.length + 1 : Nat) : Int)) * bigK = (1000 * (l.length : Int)) * bigK + 1000 * bigK := by
      rw [show (1000 * ((l.length + 1 : Nat) : Int)) = 1000 * (l.length : Int) + 1000 by omega, Int.add_mul]
    simp only [sumQ, List.map_cons, List.sum_cons, List.length_cons] at ih ⊢
    omega
/-! ### the length that lines share -/
theorem len_cons2 {α : Type} (pre : List α) (x y : α) (rest : List α) : ¬ (((pre.length + 1 : Nat) : Int) = ((pre ++ x :: y :: rest).length : Int)) ∧ ((pre.length + 1 : Nat) : Int) < ((pre ++ x :: y :: rest).length : Int) := by
  rw [List.length_append, List.length_cons, List.length_cons]; omega
theorem shared_loop (p : Int) (hp : 1 ≤ p ∧ p ≤ 10000) : ∀ (rest pre : List S28) (q : Int × Int) (a b : Int), rest ≠ [] → okS (pre ++ rest) → (pre ++ rest).length ≤ 4 → frI (sumQ pre) pre.length q →
    Ev (fun k => spec_l04Shared.l0 k p (pre ++ rest) (sumS pre) q.1 q.2 (pre.length : Int) a b) (shR p pre q rest)
  | [], _, _, _, _, h, _, _, _ => absurd rfl h
  | x :: rest, pre, q, a, b, _, ho, hl, hq => by
    have hx := ho x (by simp)
    have o := ok_of hx
    have ho0 : okS pre := fun z hz => ho z (by simp [hz])
    have ho1 : okS (pre ++ [x]) := fun z hz => ho z (by simp at hz ⊢; rcases hz with hz | hz <;> simp [hz])
    have hlen : pre.length + 1 ≤ 4 := by simp at hl; omega
    have hn := fr_next (c := x.f1) hq o.1 (by omega)
    rw [← sumQ_snoc] at hn
    have hn' : frI (sumQ (pre ++ [x])) (pre ++ [x]).length (qStep q x) := by simpa [qStep] using hn
    have b0 := fr_bd (M := 4000) hq (by omega) (by have := (sumQ_bd pre ho0).2; have : (1000 * (pre.length : Int)) * bigK ≤ 4000 * bigK := Int.mul_le_mul_of_nonneg_right (by omega) (Int.le_of_lt bigK_pos); omega)
    have b1 := fr_bd (M := 4000) hn (by omega) (by have := (sumQ_bd _ ho1).2; have : (1000 * ((pre ++ [x]).length : Int)) * bigK ≤ 4000 * bigK := Int.mul_le_mul_of_nonneg_right (by simp; omega) (Int.le_of_lt bigK_pos); omega)
    have s0 := sumS_bd pre ho0
    have s1 := sumS_bd _ ho1
    have gx : (pre ++ x :: rest).getD pre.length z28 = x := by simp [List.getD_eq_getElem?_getD]
    have m1 := mul_bd hq.2.1 (show q.1 ≤ 51840000000 by omega) (show 0 ≤ x.f0 by omega) o.1.2
    have m2 := mul_bd (show 0 ≤ x.f1 by omega) o.2.2 (Int.le_of_lt hq.1) b0.1
    have m3 := mul_bd (Int.le_of_lt hq.1) b0.1 (show 0 ≤ x.f0 by omega) o.1.2
    have p3 : 0 < q.2 * x.f0 := Int.mul_pos hq.1 (by omega)
    have qp : 0 < (qStep q x).1 := by
      have e := hn'.2.2.1
      have := Int.mul_pos (sumQ_pos ho1 (by simp)) hn'.1
      rcases Int.lt_or_le 0 (qStep q x).1 with h | h
      · exact h
      · have h0 := hn'.2.1; rw [show (qStep q x).1 = 0 by omega] at e; omega
    have n1 : (qStep q x).1 ≤ 51840000000 := by have := b1.2; unfold qStep; omega
    have n2 : (qStep q x).2 ≤ 12960000 := b1.1
    have m4 := mul_bd (show 0 ≤ p + sumS (pre ++ [x]) by omega) (show p + sumS (pre ++ [x]) ≤ 14000 by have := s1.2; simp at this; omega) (Int.le_of_lt hn'.1) n2
    have mp := mkF_pos ((p + sumS (pre ++ [x])) * (qStep q x).2) (qStep q x).1 m4.1 qp
    refine ev_succ ?_
    simp only [spec_l04Shared.l0, show ((pre.length : Nat) : Int) < ((pre ++ x :: rest).length : Int) by simp; omega, show (0 : Int) ≤ (pre.length : Int) from Int.natCast_nonneg _, if_true, rd_T28, Int.toNat_natCast, gx]
    rw [w64 (n := q.1 * x.f0) (by omega) (by omega), w64 (n := x.f1 * q.2) (by omega) (by omega), w64 (n := q.1 * x.f0 + x.f1 * q.2) (by omega) (by omega), w64 (n := q.2 * x.f0) (by omega) (by omega), w64 (n := sumS pre + x.f1) (by omega) (by omega), ← sumS_snoc, w64 (n := p + sumS (pre ++ [x])) (by omega) (by have := s1.2; simp at this; omega)]
    refine Ev.bind (spec_l01Make_ev _ _ (by omega) (by omega)) ?_
    show Ev (fun k => (spec_l01Make.f k (wrap64 ((p + sumS (pre ++ [x])) * (qStep q x).2)) (qStep q x).1).bind _) _
    rw [w64 (n := (p + sumS (pre ++ [x])) * (qStep q x).2) (by omega) (by omega)]
    refine Ev.bind (spec_l01Make_ev _ _ (by omega) (by omega)) ?_
    have wn : wrap64 ((pre.length : Int) + 1) = ((pre.length + 1 : Nat) : Int) := by rw [w64 (by omega) (by omega)]; omega
    rw [wn]
    cases rest with
    | nil =>
      simp only [List.length_append, List.length_cons, List.length_nil, Nat.zero_add, if_true]
      exact ev_now _
    | cons y rest =>
      have gy : (pre ++ x :: y :: rest).getD (pre.length + 1) z28 = y := by simp [List.getD_eq_getElem?_getD]
      have hA := (len_cons2 pre x y rest).1
      have hB := (len_cons2 pre x y rest).2
      have hC : (0 : Int) ≤ ((pre.length + 1 : Nat) : Int) := Int.natCast_nonneg _
      have oy := ok_of (ho y (by simp))
      have m5 := mul_bd (show 0 ≤ y.f0 by omega) oy.1.2 (Int.le_of_lt mp.2.2.1) (Int.le_refl _)
      simp only [hA, if_false, hC, hB, if_true, Int.toNat_natCast, gy]
      rw [w64 (n := y.f0 * (mkF ((p + sumS (pre ++ [x])) * (qStep q x).2) (qStep q x).1).2) (by omega) (by omega)]
      unfold shR
      by_cases hc : (mkF ((p + sumS (pre ++ [x])) * (qStep q x).2) (qStep q x).1).1 ≤ y.f0 * (mkF ((p + sumS (pre ++ [x])) * (qStep q x).2) (qStep q x).1).2
      · simp only [hc, if_true]; exact ev_now _
      · simp only [hc, if_false]
        have ha : pre ++ x :: y :: rest = (pre ++ [x]) ++ (y :: rest) := by simp
        have := shared_loop p hp (y :: rest) (pre ++ [x]) (qStep q x) (mkF ((p + sumS (pre ++ [x])) * (qStep q x).2) (qStep q x).1).1 (mkF ((p + sumS (pre ++ [x])) * (qStep q x).2) (qStep q x).1).2 (by simp) (by rw [← ha]; exact ho) (by rw [← ha]; exact hl) hn'
        rw [← ha, show ((pre ++ [x]).length : Int) = ((pre.length + 1 : Nat) : Int) by simp] at this
        exact this
def sharedV (xs : List S28) (p : Int) : Int × Int := if p = 0 then (((sortL xs xs.length).getD 0 z28).f0, 1) else shR p [] (0, 1) (sortL xs xs.length)
theorem spec_l04Shared_ev (xs : List S28) (p : Int) (hp : 0 ≤ p ∧ p ≤ 10000) (hl : 1 ≤ xs.length ∧ xs.length ≤ 4) (ho : okS xs) : Ev (fun k => spec_l04Shared.f k xs p) (sharedV xs p) := by
  simp only [spec_l04Shared.f]
  have hsl := sortL_length xs (Nat.le_refl _)
  have hso : okS (sortL xs xs.length) := fun x hx => ho x ((sortL_all xs).mem_iff.1 hx)
  refine Ev.bind (spec_l04Sorted_ev xs (by omega)) ?_
  unfold sharedV
  by_cases h : p = 0
  · simp only [h, if_true, show (0 : Int) < ((sortL xs xs.length).length : Int) by omega, rd_T28]
    exact ev_now _
  · simp only [h, if_false]
    have := shared_loop p (by omega) (sortL xs xs.length) [] (0, 1) 0 0 (by intro e; rw [e] at hsl; simp at hsl; omega) hso (by simpa using (by omega : (sortL xs xs.length).length ≤ 4)) ⟨by decide, by decide, by simp [sumQ], by simp⟩
    simpa [sumS] using this
theorem sharedV_le (xs : List S28) (p L : Int) (hp : 0 ≤ p ∧ p ≤ 10000) (hl : 1 ≤ xs.length ∧ xs.length ≤ 4) (ho : okS xs) (hL : ∀ x ∈ xs, x.f0 ≤ L) :
    0 < (sharedV xs p).2 ∧ ((sharedV xs p).1 ≤ L * (sharedV xs p).2 ↔ p * bigK ≤ sumW L xs) := by
  have hsl := sortL_length xs (Nat.le_refl _)
  have hso : okS (sortL xs xs.length) := fun x hx => ho x ((sortL_all xs).mem_iff.1 hx)
  unfold sharedV
  by_cases h : p = 0
  · simp only [h, if_true]
    have hm : (sortL xs xs.length).getD 0 z28 ∈ xs := by
      refine (sortL_all xs).mem_iff.1 ?_
      rw [getD_lt _ _ (by omega)]
      exact List.getElem_mem _
    refine ⟨by decide, ⟨fun _ => ?_, fun _ => ?_⟩⟩
    · rw [Int.zero_mul]; exact sumW_nonneg xs ho hL
    · rw [Int.mul_one]; exact hL _ hm
  · simp only [h, if_false]
    have := shR_le p L (sortL xs xs.length) [] (0, 1) (by intro e; rw [e] at hsl; simp at hsl; omega) hso (fun x hx => hL x ((sortL_all xs).mem_iff.1 hx)) ⟨by decide, by decide, by simp [sumQ]⟩
    rw [List.nil_append, sumW_perm L (sortL_all xs)] at this
    exact this
/-! ### the lines that bear nothing -/
def slackL (r : Int × Int) (xs : List S28) (n : Nat) : List Int := List.map (fun i : Nat => (i : Int)) (List.filter (fun i => decide (r.1 ≤ (xs.getD i z28).f0 * r.2)) (List.range n))
theorem slackL_succ (r : Int × Int) (xs : List S28) (n : Nat) : slackL r xs (n + 1) = if r.1 ≤ (xs.getD n z28).f0 * r.2 then slackL r xs n ++ [(n : Int)] else slackL r xs n := by
  unfold slackL
  rw [List.range_succ, List.filter_append, List.map_append, List.filter_cons, List.filter_nil]
  by_cases h : r.1 ≤ (xs.getD n z28).f0 * r.2
  · rw [if_pos h, if_pos (by rw [decide_eq_true_eq]; exact h)]; rfl
  · rw [if_neg h, if_neg (by rw [decide_eq_true_eq]; exact h), List.map_nil, List.append_nil]
theorem slackL_len (r : Int × Int) (xs : List S28) (n : Nat) : (slackL r xs n).length ≤ n := by
  unfold slackL
  rw [List.length_map]
  exact Nat.le_trans (List.length_filter_le _ _) (by simp)
theorem slackL_nil (r : Int × Int) (xs : List S28) : (slackL r xs xs.length).length = 0 ↔ ∀ x ∈ xs, ¬ r.1 ≤ x.f0 * r.2 := by
  unfold slackL
  rw [List.length_map, List.length_eq_zero_iff, List.filter_eq_nil_iff]
  constructor
  · intro h x hx
    obtain ⟨i, hi, rfl⟩ := List.getElem_of_mem hx
    have := h i (List.mem_range.2 hi)
    rw [getD_lt _ _ hi] at this
    simpa using this
  · intro h i hi
    have hi' := List.mem_range.1 hi
    rw [getD_lt _ _ hi']
    have := h _ (List.getElem_mem hi')
    simpa using this
/-- How large the shared length's parts are. -/
theorem shR_bd (p : Int) (hp : 1 ≤ p ∧ p ≤ 10000) : ∀ (rest pre : List S28) (q : Int × Int), rest ≠ [] → okS (pre ++ rest) → (pre ++ rest).length ≤ 4 → frI (sumQ pre) pre.length q →
    0 ≤ (shR p pre q rest).1 ∧ (shR p pre q rest).1 ≤ 181440000000 ∧ 0 < (shR p pre q rest).2 ∧ (shR p pre q rest).2 ≤ 51840000000
  | [], _, _, h, _, _, _ => absurd rfl h
  | x :: rest, pre, q, _, ho, hl, hq => by
    have hx := ho x (by simp)
    have o := ok_of hx
    have ho1 : okS (pre ++ [x]) := fun z hz => ho z (by simp at hz ⊢; rcases hz with hz | hz <;> simp [hz])
    have hlen : pre.length + 1 ≤ 4 := by simp at hl; omega
    have hn := fr_next (c := x.f1) hq o.1 (by omega)
    rw [← sumQ_snoc] at hn
    have hn' : frI (sumQ (pre ++ [x])) (pre ++ [x]).length (qStep q x) := by simpa [qStep] using hn
    have b1 := fr_bd (M := 4000) hn (by omega) (by have := (sumQ_bd _ ho1).2; have : (1000 * ((pre ++ [x]).length : Int)) * bigK ≤ 4000 * bigK := Int.mul_le_mul_of_nonneg_right (by simp; omega) (Int.le_of_lt bigK_pos); omega)
    have s1 := sumS_bd _ ho1
    have qp : 0 < (qStep q x).1 := by
      have e := hn'.2.2.1
      have := Int.mul_pos (sumQ_pos ho1 (by simp)) hn'.1
      rcases Int.lt_or_le 0 (qStep q x).1 with h | h
      · exact h
      · have h0 := hn'.2.1; rw [show (qStep q x).1 = 0 by omega] at e; omega
    have n1 : (qStep q x).1 ≤ 51840000000 := by have := b1.2; unfold qStep; omega
    have n2 : (qStep q x).2 ≤ 12960000 := b1.1
    have m4 := mul_bd (show 0 ≤ p + sumS (pre ++ [x]) by omega) (show p + sumS (pre ++ [x]) ≤ 14000 by have := s1.2; simp at this; omega) (Int.le_of_lt hn'.1) n2
    have mp := mkF_pos ((p + sumS (pre ++ [x])) * (qStep q x).2) (qStep q x).1 m4.1 qp
    cases rest with
    | nil => exact ⟨mp.1, by have := mp.2.1; show (mkF _ _).1 ≤ _; omega, mp.2.2.1, by have := mp.2.2.2; show (mkF _ _).2 ≤ _; omega⟩
    | cons y rest =>
      unfold shR
      split
      · exact ⟨mp.1, by omega, mp.2.2.1, by omega⟩
      · have ha : pre ++ x :: y :: rest = (pre ++ [x]) ++ (y :: rest) := by simp
        exact shR_bd p hp (y :: rest) (pre ++ [x]) (qStep q x) (by simp) (by rw [← ha]; exact ho) (by rw [← ha]; exact hl) hn'
theorem sharedV_bd (xs : List S28) (p : Int) (hp : 0 ≤ p ∧ p ≤ 10000) (hl : 1 ≤ xs.length ∧ xs.length ≤ 4) (ho : okS xs) :
    0 ≤ (sharedV xs p).1 ∧ (sharedV xs p).1 ≤ 181440000000 ∧ 0 < (sharedV xs p).2 ∧ (sharedV xs p).2 ≤ 51840000000 := by
  have hsl := sortL_length xs (Nat.le_refl _)
  have hso : okS (sortL xs xs.length) := fun x hx => ho x ((sortL_all xs).mem_iff.1 hx)
  unfold sharedV
  by_cases h : p = 0
  · simp only [h, if_true]
    have hm : (sortL xs xs.length).getD 0 z28 ∈ xs := by
      refine (sortL_all xs).mem_iff.1 ?_
      rw [getD_lt _ _ (by omega)]
      exact List.getElem_mem _
    have o := ok_of (ho _ hm)
    exact ⟨by omega, by omega, by decide, by decide⟩
  · simp only [h, if_false]
    exact shR_bd p (by omega) (sortL xs xs.length) [] (0, 1) (by intro e; rw [e] at hsl; simp at hsl; omega) hso (by simpa using (by omega : (sortL xs xs.length).length ≤ 4)) ⟨by decide, by decide, by simp [sumQ], by simp⟩

theorem impl_gcd_loop (m : Nat) : ∀ a b : Int, b.toNat = m → 0 ≤ a → 0 ≤ b → Ev (fun k => impl_gcd.l0 k a b) (Nat.gcd a.toNat b.toNat : Nat) := by
  induction m using Nat.strongRecOn with
  | _ m ih =>
    intro a b hm ha hb
    refine ev_succ ?_
    by_cases h : b = 0
    · subst h
      simp only [impl_gcd.l0, if_true]
      exact ev_to (ev_now _) (by simp; omega)
    · obtain ⟨h1, h2, h3⟩ := gcd_step (a := a) (b := b) ha (by omega)
      simp only [impl_gcd.l0, h, if_false]
      exact ev_to (ih _ (by omega) b _ rfl hb h1) (by rw [h3])
theorem impl_gcd_ev (n d : Int) (hn : -4611686018427387904 ≤ n ∧ n ≤ 4611686018427387904) (hd : 0 ≤ d) : Ev (fun k => impl_gcd.f k n d) (Int.gcd n d : Nat) := by
  have g := impl_gcd_loop d.toNat (n.natAbs : Int) d rfl (by omega) (by omega)
  have eg : Nat.gcd ((n.natAbs : Int)).toNat d.toNat = Int.gcd n d := by rw [Int.gcd, Int.toNat_natCast]; congr 1; omega
  rw [eg] at g
  simp only [impl_gcd.f]
  by_cases h : n < 0
  · simp only [h, if_true]
    refine ev_succ ?_
    simp only [impl_gcd.j0]
    rw [w64 (by omega) (by omega), show -n = (n.natAbs : Int) by omega]
    exact g
  · simp only [h, if_false]
    refine ev_succ ?_
    simp only [impl_gcd.j0]
    rw [show (n : Int) = (n.natAbs : Int) by omega]
    rw [show ((n.natAbs : Int)).gcd d = n.gcd d by simp [Int.gcd]]
    exact g
theorem impl_fraction_ev (n d : Int) (hn : -4611686018427387904 ≤ n ∧ n ≤ 4611686018427387904) (hd : 0 < d ∧ d ≤ 4611686018427387904) : Ev (fun k => impl_fraction.f k n d) (mkF n d) := by
  simp only [impl_fraction.f, show ¬ d < 0 by omega, if_false]
  have pos : 0 < Int.gcd n d := Int.gcd_pos_of_ne_zero_right n (by omega)
  refine Ev.bind (impl_gcd_ev n d hn (by omega)) ?_
  have b1 := tdiv_bound n (Int.gcd n d)
  have b2 := tdiv_bound d (Int.gcd n d)
  simp only [show ¬ ((Int.gcd n d : Nat) : Int) = 0 by omega, if_false, w64 (n := Int.tdiv n (Int.gcd n d : Nat)) (by omega) (by omega), w64 (n := Int.tdiv d (Int.gcd n d : Nat)) (by omega) (by omega)]
  exact ev_now _

theorem impl_addFractions_ev (n1 d1 n2 d2 : Int) (h1 : 0 ≤ n1) (h2 : 0 ≤ n2) (k1 : 0 < d1) (k2 : 0 < d2) (b1 : n1 * d2 + n2 * d1 ≤ 4611686018427387904) (b2 : d1 * d2 ≤ 4611686018427387904) :
    Ev (fun k => impl_addFractions.f k n1 d1 n2 d2) (mkF (n1 * d2 + n2 * d1) (d1 * d2)) := by
  simp only [impl_addFractions.f]
  have pos : 0 < Int.gcd d1 d2 := Int.gcd_pos_of_ne_zero_right d1 (by omega)
  have q1 : (Int.gcd d1 d2 : Int) * Int.tdiv d1 (Int.gcd d1 d2 : Nat) = d1 := Int.mul_tdiv_cancel' (Int.gcd_dvd_left ..)
  have q2 : (Int.gcd d1 d2 : Int) * Int.tdiv d2 (Int.gcd d1 d2 : Nat) = d2 := Int.mul_tdiv_cancel' (Int.gcd_dvd_right ..)
  have kd : d1 ≤ d1 * d2 := by have := Int.mul_le_mul_of_nonneg_left (show 1 ≤ d2 by omega) (show 0 ≤ d1 by omega); omega
  have kd2 : d2 ≤ d1 * d2 := le_mul_pos k1 (by omega)
  refine Ev.bind (impl_gcd_ev d1 d2 (by omega) (by omega)) ?_
  have gne : ¬ ((Int.gcd d1 d2 : Nat) : Int) = 0 := by omega
  simp only [gne, if_false]
  generalize hg : ((Int.gcd d1 d2 : Nat) : Int) = g at q1 q2 gne ⊢
  generalize he1 : Int.tdiv d1 g = e1 at q1 ⊢
  generalize he2 : Int.tdiv d2 g = e2 at q2 ⊢
  have gp : 0 < g := by omega
  have p1 : 0 < e1 := pos_of_mul gp (by omega)
  have p2 : 0 < e2 := pos_of_mul gp (by omega)
  have l1 : e1 ≤ d1 := by have := le_mul_pos gp (Int.le_of_lt p1); omega
  have l2 : e2 ≤ d2 := by have := le_mul_pos gp (Int.le_of_lt p2); omega
  have m1 := mul_bd h1 (Int.le_refl n1) (Int.le_of_lt p2) l2
  have m2 := mul_bd h2 (Int.le_refl n2) (Int.le_of_lt p1) l1
  have m3 := mul_bd (Int.le_of_lt p1) l1 (Int.le_of_lt k2) (Int.le_refl d2)
  have m4 : 0 < e1 * d2 := Int.mul_pos p1 k2
  have z1 := mul_bd h1 (Int.le_refl n1) (Int.le_of_lt k2) (Int.le_refl d2)
  have z2 := mul_bd h2 (Int.le_refl n2) (Int.le_of_lt k1) (Int.le_refl d1)
  rw [w64 (n := e2) (by omega) (by omega), w64 (n := e1) (by omega) (by omega), w64 (n := n1 * e2) (by omega) (by omega), w64 (n := n2 * e1) (by omega) (by omega), w64 (n := n1 * e2 + n2 * e1) (by omega) (by omega), w64 (n := e1 * d2) (by omega) (by omega)]
  refine Ev.bind (impl_fraction_ev _ _ (by omega) (by omega)) (ev_to (ev_now _) ?_)
  rw [← mkF_scale g _ _ gp]
  have s1 : g * (n1 * e2 + n2 * e1) = n1 * d2 + n2 * d1 := by
    rw [Int.mul_add, ← q1, ← q2]; congr 1 <;> rw [Int.mul_left_comm]
  have s2 : g * (e1 * d2) = d1 * d2 := by rw [← Int.mul_assoc, q1]
  rw [s1, s2]

def conv_Spring (x : S23) : S28 := ⟨x.f0, x.f1⟩
theorem laws_toSpringS_ev (xs : List S23) (h : xs.length ≤ 1048576) : Ev (fun k => laws_toSpringS.f k xs) (xs.map conv_Spring) := by
  simp only [laws_toSpringS.f, Int.toNat_natCast, show (0 : Int) ≤ (xs.length : Int) from Int.natCast_nonneg _, if_true]
  rw [if_pos_ev (by omega)]
  have e : List.replicate xs.length z28 = (xs.take 0).map conv_Spring ++ List.replicate (xs.length - 0) z28 := by simp
  have e2 : xs.map conv_Spring = (xs.take xs.length).map conv_Spring ++ List.replicate (xs.length - xs.length) z28 := by simp
  rw [e, e2]
  refine ev_fold (len := xs.length) (g := fun k s i => laws_toSpringS.l0 k xs s i) (fun n s => s.set n (conv_Spring (xs.getD n z23))) (fun n => (xs.take n).map conv_Spring ++ List.replicate (xs.length - n) z28) _ ?_ ?_ ?_
  · intro n hn; exact (fill_step xs conv_Spring _ _ hn).symm
  · intro n hn r hr
    refine ev_succ ?_
    have l1 : (n : Int) < (((xs.take n).map conv_Spring ++ List.replicate (xs.length - n) z28).length : Int) := by simp; omega
    simp only [laws_toSpringS.l0, laws_toSpring.f, Option.bind_some, Int.ofNat_lt.2 hn, show (0 : Int) ≤ (n : Int) from Int.natCast_nonneg _, if_true, l1, wnext hn (by omega : xs.length ≤ 9223372036854775807), rd_T23, Int.toNat_natCast]
    exact hr
  · refine ev_succ ?_
    simp only [laws_toSpringS.l0, Int.lt_irrefl, if_false]
    exact ev_now _

theorem laws_eqSpringS_self (xs : List S28) (h : xs.length ≤ 9223372036854775807) : Ev (fun k => laws_eqSpringS.f k xs xs) true := by
  simp only [laws_eqSpringS.f, if_true]
  refine ev_to (ev_all (len := xs.length) (g := fun k i => laws_eqSpringS.l0 k xs xs i) (fun _ => true) true ?_ (fun n hn hp => by simp at hp) ?_) (by simp)
  · intro n hn hp r hr
    refine ev_succ ?_
    simp only [laws_eqSpringS.l0, laws_eqSpring.f, Option.bind_some, Int.ofNat_lt.2 hn, show (0 : Int) ≤ (n : Int) from Int.natCast_nonneg _, if_true, bne_self_eq_false, Bool.false_eq_true, if_false, wnext hn h]
    exact hr
  · refine ev_succ ?_
    simp only [laws_eqSpringS.l0, Int.lt_irrefl, if_false]
    exact ev_now _

theorem mkF_one (p : Int) : mkF p 1 = (p, 1) := by
  unfold mkF; rw [Int.gcd_one]; simp
theorem mkF_zero (d : Int) (h : 0 < d) : mkF 0 d = (0, 1) := by
  unfold mkF; rw [Int.gcd_zero_left, Int.natAbs_of_nonneg (by omega), Int.zero_tdiv, Int.tdiv_self (by omega)]
theorem okS_of {xs : List S28} (h : springsB xs = true) : (1 ≤ xs.length ∧ xs.length ≤ 4) ∧ okS xs := by
  unfold springsB at h
  simp only [Bool.and_eq_true, decide_eq_true_eq, List.all_eq_true] at h
  exact h
theorem spec_l04Slack_ev (xs : List S28) (p : Int) (hp : 0 ≤ p ∧ p ≤ 10000) (hl : 1 ≤ xs.length ∧ xs.length ≤ 4) (ho : okS xs) : Ev (fun k => spec_l04Slack.f k xs p) (slackL (sharedV xs p) xs xs.length) := by
  simp only [spec_l04Slack.f]
  refine Ev.bind (spec_l04Shared_ev xs p hp hl ho) ?_
  have bd := sharedV_bd xs p hp hl ho
  generalize sharedV xs p = q at bd ⊢
  show Ev (fun k => spec_l04Slack.l0 k xs (slackL q xs 0) 0 q.1 q.2) _
  refine ev_fold (len := xs.length) (g := fun k s i => spec_l04Slack.l0 k xs s i q.1 q.2) (fun n s => if q.1 ≤ (xs.getD n z28).f0 * q.2 then s ++ [(n : Int)] else s) (slackL q xs) _ (fun n hn => slackL_succ q xs n) ?_ ?_
  · intro n hn r hr
    have hs := slackL_len q xs n
    have o := ok_of (ho (xs.getD n z28) (by rw [getD_lt _ _ hn]; exact List.getElem_mem _))
    have m := mul_bd (show 0 ≤ (xs.getD n z28).f0 by omega) o.1.2 (Int.le_of_lt bd.2.2.1) bd.2.2.2
    refine ev_succ ?_
    simp only [spec_l04Slack.l0, Int.ofNat_lt.2 hn, show (0 : Int) ≤ (n : Int) from Int.natCast_nonneg _, if_true, rd_T28, Int.toNat_natCast, wnext hn (by omega : xs.length ≤ 9223372036854775807), show (slackL q xs n).length < 17592186044416 by omega]
    rw [w64 (n := (xs.getD n z28).f0 * q.2) (by omega) (by omega)]
    by_cases hc : q.1 ≤ (xs.getD n z28).f0 * q.2
    · simp only [hc, if_true] at hr ⊢; exact hr
    · simp only [hc, if_false] at hr ⊢; exact hr
  · refine ev_succ ?_
    simp only [spec_l04Slack.l0, Int.lt_irrefl, if_false]
    exact ev_now _
def longS (xs : List S28) : Int := xs.foldl (fun s x => mx s x.f0) 0
theorem mx_le (a b : Int) : a ≤ mx a b ∧ b ≤ mx a b ∧ (mx a b = a ∨ mx a b = b) := by unfold mx; split <;> omega
theorem longS_go (xs : List S28) : ∀ s : Int, s ≤ xs.foldl (fun s x => mx s x.f0) s ∧ (∀ x ∈ xs, x.f0 ≤ xs.foldl (fun s x => mx s x.f0) s) ∧ (xs.foldl (fun s x => mx s x.f0) s = s ∨ ∃ x ∈ xs, xs.foldl (fun s x => mx s x.f0) s = x.f0) := by
  induction xs with
  | nil => intro s; exact ⟨Int.le_refl _, by simp, .inl rfl⟩
  | cons y xs ih =>
    intro s
    obtain ⟨i1, i2, i3⟩ := ih (mx s y.f0)
    have m := mx_le s y.f0
    simp only [List.foldl_cons]
    refine ⟨by omega, ?_, ?_⟩
    · intro x hx
      rcases List.mem_cons.1 hx with rfl | hx
      · omega
      · exact i2 x hx
    · rcases i3 with i3 | ⟨x, hx, i3⟩
      · rcases m.2.2 with m3 | m3
        · exact .inl (by omega)
        · exact .inr ⟨y, List.mem_cons_self, by omega⟩
      · exact .inr ⟨x, List.mem_cons_of_mem _ hx, i3⟩
/-- A load that all bear. -/
theorem slack_nil (xs : List S28) (p : Int) (hp : 0 ≤ p ∧ p ≤ 10000) (hl : 1 ≤ xs.length ∧ xs.length ≤ 4) (ho : okS xs) :
    ((slackL (sharedV xs p) xs xs.length).length = 0 ↔ ¬ p * bigK ≤ sumW (longS xs) xs) := by
  obtain ⟨i1, i2, i3⟩ := longS_go xs 0
  have h := sharedV_le xs p (longS xs) hp hl ho i2
  rw [slackL_nil, ← h.2]
  constructor
  · intro hh hc
    rcases i3 with i3 | ⟨x, hx, i3⟩
    · cases xs with
      | nil => simp at hl
      | cons x xs => have := i2 x List.mem_cons_self; have := (ok_of (ho x List.mem_cons_self)).1; omega
    · refine hh x hx ?_
      unfold longS at hc; rw [i3] at hc; exact hc
  · intro hh x hx hc
    refine hh (Int.le_trans hc ?_)
    exact Int.mul_le_mul_of_nonneg_right (i2 x hx) (Int.le_of_lt h.1)
def bearV (m : Int) : Int × Int := if m > 10000 then (0, 3) else (m, 0)
/-- The search between a load that leaves a line slack and one that doesn't. -/
theorem spec_search (xs : List S28) (hl : 1 ≤ xs.length ∧ xs.length ≤ 4) (ho : okS xs) : ∀ (d : Nat) (a b : Int), (b - a).toNat = d → 0 ≤ a → a < b → b ≤ 10001 → a * bigK ≤ sumW (longS xs) xs → (b = 10001 ∨ ¬ b * bigK ≤ sumW (longS xs) xs) →
    ∃ m, Ev (fun k => spec_AllBear.l0 k xs a b) (bearV m) ∧ 0 ≤ m - 1 ∧ m ≤ 10001 ∧ (m - 1) * bigK ≤ sumW (longS xs) xs ∧ (m = 10001 ∨ ¬ m * bigK ≤ sumW (longS xs) xs) := by
  intro d
  induction d using Nat.strongRecOn with
  | _ d ih =>
    intro a b hd ha hab hb h1 h2
    by_cases hc : b - a > 1
    · have e1 : wrap64 (b - a) = b - a := w64 (by omega) (by omega)
      have e2 : wrap64 (a + b) = a + b := w64 (by omega) (by omega)
      have e3 : wrap64 (Int.tdiv (a + b) 2) = (a + b) / 2 := by rw [Int.tdiv_eq_ediv_of_nonneg (by omega)]; exact w64 (by omega) (by omega)
      generalize hmid : (a + b) / 2 = mid at e3
      have hm : a < mid ∧ mid < b := by omega
      have sn := slack_nil xs mid (by omega) hl ho
      have se := spec_l04Slack_ev xs mid (by omega) hl ho
      by_cases hs : (slackL (sharedV xs mid) xs xs.length).length = 0
      · obtain ⟨m, k1, k2⟩ := ih (mid - a).toNat (by omega) a mid rfl ha hm.1 (by omega) h1 (.inr (sn.1 hs))
        refine ⟨m, ?_, k2⟩
        refine ev_succ ?_
        simp only [spec_AllBear.l0, e1, e2, e3, hc, if_true]
        refine Ev.bind se ?_
        simp only [show ((slackL (sharedV xs mid) xs xs.length).length : Int) = 0 by omega, if_true]
        exact k1
      · have h3 : mid * bigK ≤ sumW (longS xs) xs := Classical.byContradiction fun h => hs (sn.2 h)
        obtain ⟨m, k1, k2⟩ := ih (b - mid).toNat (by omega) mid b rfl (by omega) hm.2 hb h3 h2
        refine ⟨m, ?_, k2⟩
        refine ev_succ ?_
        simp only [spec_AllBear.l0, e1, e2, e3, hc, if_true]
        refine Ev.bind se ?_
        simp only [show ¬ ((slackL (sharedV xs mid) xs xs.length).length : Int) = 0 by omega, if_false]
        exact k1
    · have e : b = a + 1 := by omega
      refine ⟨b, ?_, by omega, hb, by rw [show b - 1 = a by omega]; exact h1, h2⟩
      refine ev_succ ?_
      unfold bearV
      simp only [spec_AllBear.l0, w64 (n := b - a) (by omega) (by omega), hc, if_false]
      by_cases h : b > 10000
      · simp only [h, if_true]; exact ev_now _
      · simp only [h, if_false]; exact ev_now _
theorem sumW_snoc (t : Int) (l : List S28) (x : S28) : sumW t (l ++ [x]) = sumW t l + (x.f1 * (t - x.f0)) * (bigK / x.f0) := by simp [sumW, Int.mul_assoc]
theorem sumW_bd (t : Int) (ht : t ≤ 60) : ∀ l : List S28, okS l → (∀ x ∈ l, x.f0 ≤ t) → sumW t l ≤ (60000 * (l.length : Int)) * bigK
  | [], _, _ => by simp [sumW]
  | x :: l, h, g => by
    have ih := sumW_bd t ht l (fun y hy => h y (List.mem_cons_of_mem _ hy)) (fun y hy => g y (List.mem_cons_of_mem _ hy))
    have o := ok_of (h x List.mem_cons_self)
    have gx := g x List.mem_cons_self
    have kp := bigK_div_pos o.1
    have m1 := mul_bd (show 0 ≤ t - x.f0 by omega) (show t - x.f0 ≤ 60 by omega) (Int.le_of_lt kp) (kdiv_le o.1)
    have m := mul_bd (show 0 ≤ x.f1 by omega) o.2.2 m1.1 m1.2
    have e : (60000 * ((l.length + 1 : Nat) : Int)) * bigK = (60000 * (l.length : Int)) * bigK + 1000 * (60 * bigK) := by
      rw [show (60000 * ((l.length + 1 : Nat) : Int)) = 60000 * (l.length : Int) + 60000 by omega, Int.add_mul]; omega
    simp only [sumW, List.map_cons, List.sum_cons, List.length_cons] at ih ⊢
    omega
def wStep (t : Int) (s : Int × Int) (x : S28) : Int × Int := mkF (s.1 * x.f0 + (x.f1 * (t - x.f0)) * s.2) (s.2 * x.f0)
def wL (t : Int) (xs : List S28) (n : Nat) : Int × Int := (xs.take n).foldl (wStep t) (0, 1)
theorem ok_at {xs : List S28} (ho : okS xs) {n : Nat} (h : n < xs.length) : springB (xs.getD n z28).f0 (xs.getD n z28).f1 = true := ho _ (by rw [getD_lt _ _ h]; exact List.getElem_mem _)
theorem wL_inv (t : Int) (xs : List S28) (ho : okS xs) (ht : ∀ x ∈ xs, x.f0 ≤ t) : ∀ n, n ≤ xs.length → frI (sumW t (xs.take n)) n (wL t xs n) := by
  intro n
  induction n with
  | zero => intro _; exact ⟨Int.one_pos, Int.le_refl _, by simp [sumW, wL], by simp [wL]⟩
  | succ n ih =>
    intro h
    have i := ih (by omega)
    have hb := ok_at ho (show n < xs.length by omega)
    have hx := ht (xs.getD n z28) (by rw [getD_lt _ _ (show n < xs.length by omega)]; exact List.getElem_mem _)
    have := fr_next (c := (xs.getD n z28).f1 * (t - (xs.getD n z28).f0)) i (ok_of hb).1 (Int.mul_nonneg (by have := (ok_of hb).2; omega) (by omega))
    rw [← sumW_snoc] at this
    unfold wL at this ⊢
    rw [foldl_take_succ xs z28 (wStep t) (0, 1) (by omega), List.take_succ_eq_append_getElem (by omega)]
    rw [getD_lt _ _ (show n < xs.length by omega)] at this ⊢
    exact this
theorem springForce_ev (l s t : Int) (h : springB l s = true) (ht : l ≤ t ∧ t ≤ 60) : Ev (fun k => impl_springForce.f k l s t 1) (mkF (s * (t - l)) l) := by
  have o : (1 ≤ l ∧ l ≤ 60) ∧ (1 ≤ s ∧ s ≤ 1000) := by unfold springB at h; simpa using h
  have m := mul_bd (show 0 ≤ s by omega) o.2.2 (show 0 ≤ t - l by omega) (show t - l ≤ 60 by omega)
  simp only [impl_springForce.f]
  rw [Int.mul_one, w64 (n := l) (by omega) (by omega)]
  by_cases hc : t ≤ l
  · simp only [hc, if_true]
    rw [show t - l = 0 by omega, Int.mul_zero, mkF_zero l (by omega)]
    refine Ev.bind (impl_fraction_ev 0 1 (by omega) (by omega)) ?_
    rw [mkF_one]
    exact ev_now _
  · simp only [hc, if_false]
    rw [w64 (n := t - l) (by omega) (by omega), w64 (n := s * (t - l)) (by omega) (by omega)]
    exact Ev.bind (impl_fraction_ev _ l (by omega) (by omega)) (ev_now _)
def loadV (q : Int × Int) : Int × Int := bearV (q.1 / q.2 + 1)
theorem impl_sum_loop (xs : List S28) (hl : 1 ≤ xs.length ∧ xs.length ≤ 4) (ho : okS xs) (t : Int) (ht : ∀ x ∈ xs, x.f0 ≤ t) (ht2 : 0 ≤ t ∧ t ≤ 60) :
    Ev (fun k => impl_AllBear.l1 k t xs (xs.length : Int) 0 0 1) (loadV (wL t xs xs.length)) := by
  have bd : ∀ n, n ≤ xs.length → (wL t xs n).2 ≤ 12960000 ∧ (wL t xs n).1 ≤ 240000 * (wL t xs n).2 := by
    intro n hn
    refine fr_bd (wL_inv t xs ho ht n hn) (by omega) ?_
    have h1 := sumW_bd t ht2.2 (xs.take n) (fun x hx => ho x (List.mem_of_mem_take hx)) (fun x hx => ht x (List.mem_of_mem_take hx))
    have h2 : (60000 * ((xs.take n).length : Int)) * bigK ≤ 240000 * bigK := Int.mul_le_mul_of_nonneg_right (by rw [List.length_take]; omega) (Int.le_of_lt bigK_pos)
    omega
  refine ev_fold (len := xs.length) (g := fun k (s : Int × Int) i => impl_AllBear.l1 k t xs (xs.length : Int) i s.1 s.2) (fun n s => wStep t s (xs.getD n z28)) (wL t xs) _ (fun n hn => foldl_take_succ xs _ _ _ hn) ?_ ?_
  · intro n hn r hr
    have i := wL_inv t xs ho ht n (by omega)
    have b := bd n (by omega)
    have hb := ok_at ho hn
    have o := ok_of hb
    have hx := ht (xs.getD n z28) (by rw [getD_lt _ _ hn]; exact List.getElem_mem _)
    refine ev_succ ?_
    simp only [impl_AllBear.l1, Int.ofNat_lt.2 hn, show (0 : Int) ≤ (n : Int) from Int.natCast_nonneg _, if_true, rd_T28, Int.toNat_natCast, wnext hn (by omega : xs.length ≤ 9223372036854775807)]
    refine Ev.bind (impl_fraction_ev t 1 (by omega) (by omega)) ?_
    rw [mkF_one]
    refine Ev.bind (springForce_ev _ _ t hb ⟨hx, ht2.2⟩) ?_
    have hr' : Ev (fun k => impl_AllBear.l1 k t xs (xs.length : Int) ((n + 1 : Nat) : Int) (wStep t (wL t xs n) (xs.getD n z28)).1 (wStep t (wL t xs n) (xs.getD n z28)).2) r := hr
    generalize xs.getD n z28 = x at *
    generalize wL t xs n = q at *
    have m1 := mul_bd (show 0 ≤ x.f1 by omega) o.2.2 (show 0 ≤ t - x.f0 by omega) (show t - x.f0 ≤ 60 by omega)
    have m := mkF_mul (x.f1 * (t - x.f0)) x.f0 (by omega)
    have mp := mkF_pos (x.f1 * (t - x.f0)) x.f0 m1.1 (by omega)
    unfold wStep at hr'
    generalize x.f1 * (t - x.f0) = c at *
    generalize mkF c x.f0 = u at *
    obtain ⟨g, hg, e1, e2⟩ := m
    have z1 : q.1 * x.f0 + c * q.2 = g * (q.1 * u.2 + u.1 * q.2) := by rw [e1, e2, Int.mul_add, Int.mul_left_comm, Int.mul_assoc]
    have z2 : q.2 * x.f0 = g * (q.2 * u.2) := by rw [e2, Int.mul_left_comm]
    have y1 := mul_bd i.2.1 (show q.1 ≤ 3110400000000 by omega) (show 0 ≤ u.2 by omega) (show u.2 ≤ 60 by omega)
    have y2 := mul_bd mp.1 (show u.1 ≤ 60000 by omega) (show 0 ≤ q.2 by have := i.1; omega) b.1
    have y3 := mul_bd (show 0 ≤ q.2 by have := i.1; omega) b.1 (show 0 ≤ u.2 by omega) (show u.2 ≤ 60 by omega)
    refine Ev.bind (impl_addFractions_ev q.1 q.2 u.1 u.2 i.2.1 mp.1 i.1 mp.2.2.1 (by omega) (by omega)) ?_
    rw [← mkF_scale g _ _ hg, ← z1, ← z2]
    exact hr'
  · have i := wL_inv t xs ho ht xs.length (Nat.le_refl _)
    have b := bd xs.length (Nat.le_refl _)
    refine ev_succ ?_
    generalize wL t xs xs.length = q at *
    have hdv : q.1 / q.2 ≤ 240000 := Int.ediv_le_of_le_mul i.1 b.2
    have hdn : 0 ≤ q.1 / q.2 := Int.ediv_nonneg i.2.1 (Int.le_of_lt i.1)
    simp only [impl_AllBear.l1, Int.lt_irrefl, if_false, show ¬ q.2 = 0 by have := i.1; omega]
    rw [Int.tdiv_eq_ediv_of_nonneg i.2.1, w64 (n := q.1 / q.2) (by omega) (by omega), w64 (n := q.1 / q.2 + 1) (by omega) (by omega)]
    unfold loadV bearV
    by_cases h : q.1 / q.2 + 1 > 10000
    · simp only [h, if_true]; exact ev_now _
    · simp only [h, if_false]; exact ev_now _
theorem load_uniq {W q1 q2 m : Int} (h0 : 0 < q2) (h2 : q1 * bigK = W * q2) (k1 : (m - 1) * bigK ≤ W) (k2 : ¬ m * bigK ≤ W) : q1 / q2 + 1 = m := by
  have a : ∀ p : Int, p * bigK ≤ W ↔ p ≤ q1 / q2 := by
    intro p
    rw [Int.le_ediv_iff_mul_le h0]
    constructor
    · intro h
      refine Int.le_of_mul_le_mul_right ?_ bigK_pos
      rw [h2, Int.mul_right_comm]
      exact Int.mul_le_mul_of_nonneg_right h (Int.le_of_lt h0)
    · intro h
      refine Int.le_of_mul_le_mul_right ?_ h0
      rw [← h2, Int.mul_right_comm]
      exact Int.mul_le_mul_of_nonneg_right h (Int.le_of_lt bigK_pos)
  have b1 := (a (m - 1)).1 k1
  have b2 : ¬ m ≤ q1 / q2 := fun h => k2 ((a m).2 h)
  omega
theorem load_big {W q1 q2 : Int} (h0 : 0 < q2) (h2 : q1 * bigK = W * q2) (k1 : 10000 * bigK ≤ W) : q1 / q2 + 1 > 10000 := by
  have : 10000 ≤ q1 / q2 := by
    rw [Int.le_ediv_iff_mul_le h0]
    refine Int.le_of_mul_le_mul_right ?_ bigK_pos
    rw [h2, Int.mul_right_comm]
    exact Int.mul_le_mul_of_nonneg_right k1 (Int.le_of_lt h0)
  omega
theorem impl_long_loop (xs : List S28) (h : xs.length ≤ 1048576) {r : Int × Int} (hr : Ev (fun k => impl_AllBear.l1 k (longS xs) xs (xs.length : Int) 0 0 1) r) : Ev (fun k => impl_AllBear.l0 k xs 0 xs (xs.length : Int) 0) r := by
  refine ev_fold (len := xs.length) (g := fun k s i => impl_AllBear.l0 k xs s xs (xs.length : Int) i) (fun n s => mx s (xs.getD n z28).f0) (fun n => (xs.take n).foldl (fun s x => mx s x.f0) 0) _ (fun n hn => foldl_take_succ xs z28 (fun s x => mx s x.f0) 0 hn) ?_ ?_
  · intro n hn r hr
    refine ev_succ ?_
    simp only [impl_AllBear.l0, Int.ofNat_lt.2 hn, show (0 : Int) ≤ (n : Int) from Int.natCast_nonneg _, if_true, rd_T28, Int.toNat_natCast, wnext hn (by omega : xs.length ≤ 9223372036854775807)]
    exact hr
  · refine ev_succ ?_
    simp only [impl_AllBear.l0, Int.lt_irrefl, if_false]
    refine Ev.bind (impl_fraction_ev 0 1 (by omega) (by omega)) ?_
    rw [mkF_one, List.take_length]
    exact hr
theorem AllBear_ev (xs : List S28) (h : xs.length ≤ 1048576) : ∃ r, Ev (fun k => spec_AllBear.f k xs) r ∧ Ev (fun k => impl_AllBear.f k xs) r := by
  simp only [spec_AllBear.f, impl_AllBear.f]
  cases hb : springsB xs
  · refine ⟨(0, 1), Ev.bind (spec_l04Ok_ev xs h) ?_, Ev.bind (impl_ValidSprings_ev xs h) ?_⟩
    · simp only [hb, Bool.false_eq_true, if_false]; exact ev_now _
    · simp only [hb, Bool.false_eq_true, if_false]; exact ev_now _
  · obtain ⟨hl, ho⟩ := okS_of hb
    obtain ⟨i1, i2, i3⟩ := longS_go xs 0
    have ht2 : 0 ≤ longS xs ∧ longS xs ≤ 60 := by
      refine ⟨i1, ?_⟩
      rcases i3 with i3 | ⟨x, hx, i3⟩
      · unfold longS; omega
      · have := (ok_of (ho x hx)).1; unfold longS; omega
    obtain ⟨m, k1, k2, k3, k4, k5⟩ := spec_search xs hl ho _ 0 10001 rfl (by decide) (by decide) (by decide) (by rw [Int.zero_mul]; exact sumW_nonneg xs ho i2) (.inl rfl)
    have lv := impl_sum_loop xs hl ho (longS xs) i2 ht2
    have wi := wL_inv (longS xs) xs ho i2 xs.length (Nat.le_refl _)
    rw [List.take_length] at wi
    have e : loadV (wL (longS xs) xs xs.length) = bearV m := by
      unfold loadV
      rcases k5 with k5 | k5
      · have := load_big wi.1 wi.2.2.1 (by rw [k5] at k4; exact k4)
        unfold bearV
        rw [if_pos this, if_pos (by omega)]
      · rw [load_uniq wi.1 wi.2.2.1 k4 k5]
    rw [e] at lv
    refine ⟨bearV m, Ev.bind (spec_l04Ok_ev xs h) ?_, Ev.bind (impl_ValidSprings_ev xs h) ?_⟩
    · simp only [hb, if_true]; exact k1
    · simp only [hb, if_true]; exact impl_long_loop xs h lv
theorem FnExactAllBear : laws_FnExactAllBear.Pure := by
  intro xs hx
  refine Ev.rounds ?_
  simp only [laws_FnExactAllBear.f, laws_szSpringS.f]
  by_cases h : wrap64 (1048576 - (xs.length : Int)) < 0
  · simp only [h, if_true, Option.bind_some, show (-1 : Int) < 0 by decide]; exact ev_now _
  have hl : xs.length ≤ 1048576 := by have := hx.2.1; rw [maxLen_eq] at this; unfold wrap64 at h; omega
  have hm : (xs.map conv_Spring).length ≤ 1048576 := by simpa using hl
  simp only [h, if_false, Option.bind_some]
  obtain ⟨r, k1, k2⟩ := AllBear_ev _ hm
  refine Ev.bind (laws_toSpringS_ev xs hl) (Ev.bind k1 (Ev.bind (laws_toSpringS_ev xs hl) (Ev.bind k2 ?_)))
  simp only [if_true, bne_self_eq_false]
  refine ev_succ ?_
  simp only [laws_FnExactAllBear.j0, Bool.false_eq_true, if_false]
  refine Ev.bind (laws_toSpringS_ev xs hl) (Ev.bind (laws_eqSpringS_self _ (by omega)) ?_)
  simp only [if_true]
  exact ev_now _

end Go.Proofs.Ytmokjfncblnfcaa.Pure

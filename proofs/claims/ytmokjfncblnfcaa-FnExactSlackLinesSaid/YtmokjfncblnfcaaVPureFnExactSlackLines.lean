/- The pure statement of FnExactSlackLines: numbers and lists alone. No condition. -/
import Derived.Test.YtmokjfncblnfcaaVQFnExactSlackLinesx9
import Derived.Test.YtmokjfncblnfcaaVAid
namespace Go.Proofs.Ytmokjfncblnfcaa.Pure
open Go.RowKit Go.Proofs.Ytmokjfncblnfcaa.QFnExactSlackLines Go.Proofs.YtmokjfncblnfcaaW.PrintWords Go.Proofs.YtmokjfncblnfcaaW.PrintLast Go.Proofs.YtmokjfncblnfcaaW.PrintMore Go.Proofs.Ytmokjfncblnfcaa.Aid
set_option linter.unusedVariables false
set_option linter.unusedSimpArgs false

theorem spec_l00In_eq (a b c : Int) : spec_l00In.f a b c = some (decide (b ≤ a ∧ a ≤ c)) := by
  unfold spec_l00In.f
  by_cases h : a ≥ b
  · rw [if_pos h]; congr 1; simp; omega
  · rw [if_neg h]; congr 1; simp; omega

theorem impl_within_eq (a b c : Int) : impl_within.f a b c = some (decide (b ≤ a ∧ a ≤ c)) := by
  unfold impl_within.f
  by_cases h : a ≥ b
  · rw [if_pos h]; congr 1; simp; omega
  · rw [if_neg h]; congr 1; simp; omega

theorem spec_l04One_eq (l s : Int) : spec_l04One.f l s = some (springB l s) := by
  simp only [spec_l04One.f, spec_l00In_eq, Option.bind_some]
  unfold springB
  by_cases h1 : 1 ≤ l ∧ l ≤ 60
  · simp only [h1, decide_true, if_true, Bool.true_and, and_self]
  · simp only [h1, decide_false, Bool.false_and, Bool.false_eq_true, if_false]
theorem impl_validSpring_eq (l s : Int) : impl_validSpring.f l s = some (springB l s) := by
  simp only [impl_validSpring.f, impl_within_eq, Option.bind_some]
  unfold springB
  by_cases h1 : 1 ≤ l ∧ l ≤ 60
  · simp only [h1, decide_true, if_true, Bool.true_and, and_self]
  · simp only [h1, decide_false, Bool.false_and, Bool.false_eq_true, if_false]

def springsB (xs : List S28) : Bool := decide (1 ≤ xs.length ∧ xs.length ≤ 4) && xs.all fun x => springB x.f0 x.f1
theorem spec_l04Ok_ev (xs : List S28) (h : xs.length ≤ 1048576) : Ev (fun k => spec_l04Ok.f k xs) (springsB xs) := by
  simp only [spec_l04Ok.f]
  refine ev_to (ev_all (len := xs.length) (g := fun k i => spec_l04Ok.l0 k xs i) (fun n => (fun x : S28 => springB x.f0 x.f1) (xs.getD n z28)) (decide (1 ≤ xs.length ∧ xs.length ≤ 4)) ?_ ?_ ?_) (by rw [range_all xs z28 (fun x => springB x.f0 x.f1), Bool.and_comm]; rfl)
  · intro n hn hp r hr
    refine ev_succ ?_
    simp only [spec_l04Ok.l0, spec_l04One_eq, Option.bind_some, Int.ofNat_lt.2 hn, show (0 : Int) ≤ (n : Int) from Int.natCast_nonneg _, if_true, rd_T28, Int.toNat_natCast, hp, wnext hn (by omega : xs.length ≤ 9223372036854775807)]
    exact hr
  · intro n hn hp
    refine ev_succ ?_
    simp only [spec_l04Ok.l0, spec_l04One_eq, Option.bind_some, Int.ofNat_lt.2 hn, show (0 : Int) ≤ (n : Int) from Int.natCast_nonneg _, if_true, rd_T28, Int.toNat_natCast, hp, Bool.false_eq_true, if_false]
    exact ev_now _
  · refine ev_succ ?_
    simp only [spec_l04Ok.l0, Int.lt_irrefl, if_false, spec_l00In_eq, Option.bind_some]
    exact ev_to (ev_now _) (by congr 1; simp; omega)
theorem impl_ValidSprings_ev (xs : List S28) (h : xs.length ≤ 1048576) : Ev (fun k => impl_ValidSprings.f k xs) (springsB xs) := by
  simp only [impl_ValidSprings.f]
  by_cases h1 : (xs.length : Int) < 1
  · simp only [h1, if_true]
    refine ev_succ ?_
    simp only [impl_ValidSprings.j0, if_true]
    exact ev_to (ev_now _) (by unfold springsB; rw [show decide (1 ≤ xs.length ∧ xs.length ≤ 4) = false by simp; omega]; rfl)
  · simp only [h1, if_false]
    refine ev_succ ?_
    simp only [impl_ValidSprings.j0]
    by_cases h2 : (xs.length : Int) > 4
    · simp only [h2, decide_true, if_true]
      exact ev_to (ev_now _) (by unfold springsB; rw [show decide (1 ≤ xs.length ∧ xs.length ≤ 4) = false by simp; omega]; rfl)
    · simp only [h2, decide_false, Bool.false_eq_true, if_false]
      refine ev_to (ev_all (len := xs.length) (g := fun k i => impl_ValidSprings.l0 k xs (xs.length : Int) i) (fun n => (fun x : S28 => springB x.f0 x.f1) (xs.getD n z28)) true ?_ ?_ ?_) (by rw [range_all xs z28 (fun x => springB x.f0 x.f1), Bool.and_true]; unfold springsB; rw [show decide (1 ≤ xs.length ∧ xs.length ≤ 4) = true by simp; omega]; rfl)
      · intro n hn hp r hr
        refine ev_succ ?_
        simp only [impl_ValidSprings.l0, impl_validSpring_eq, Option.bind_some, Int.ofNat_lt.2 hn, show (0 : Int) ≤ (n : Int) from Int.natCast_nonneg _, if_true, rd_T28, Int.toNat_natCast, hp, wnext hn (by omega : xs.length ≤ 9223372036854775807)]
        exact hr
      · intro n hn hp
        refine ev_succ ?_
        simp only [impl_ValidSprings.l0, impl_validSpring_eq, Option.bind_some, Int.ofNat_lt.2 hn, show (0 : Int) ≤ (n : Int) from Int.natCast_nonneg _, if_true, rd_T28, Int.toNat_natCast, hp, Bool.false_eq_true, if_false]
        exact ev_now _
      · refine ev_succ ?_
        simp only [impl_ValidSprings.l0, Int.lt_irrefl, if_false]
        exact ev_now _

theorem mkF_scale (c n d : Int) (hc : 0 < c) : mkF (c * n) (c * d) = mkF n d := by
  unfold mkF
  have e : (Int.gcd (c * n) (c * d) : Int) = c * (Int.gcd n d : Int) := by
    rw [Int.gcd_mul_left]; push_cast; rw [Int.natAbs_of_nonneg (by omega)]
  rw [e, Int.mul_tdiv_mul_of_pos _ _ hc, Int.mul_tdiv_mul_of_pos _ _ hc]
theorem mkF_mul (n d : Int) (hd : 0 < d) : ∃ g : Int, 0 < g ∧ n = g * (mkF n d).1 ∧ d = g * (mkF n d).2 := by
  have pos : 0 < Int.gcd n d := Int.gcd_pos_of_ne_zero_right n (by omega)
  exact ⟨(Int.gcd n d : Nat), by omega, (Int.mul_tdiv_cancel' (Int.gcd_dvd_left ..)).symm, (Int.mul_tdiv_cancel' (Int.gcd_dvd_right ..)).symm⟩
theorem pos_of_mul {g x : Int} (hg : 0 < g) (h : 0 < g * x) : 0 < x := by
  rcases Int.lt_or_le 0 x with q | q
  · exact q
  · have := Int.mul_le_mul_of_nonneg_left q (Int.le_of_lt hg); omega
theorem nonneg_of_mul {g x : Int} (hg : 0 < g) (h : 0 ≤ g * x) : 0 ≤ x := by
  rcases Int.lt_or_le x 0 with q | q
  · have := Int.mul_lt_mul_of_pos_left q hg; omega
  · exact q
theorem le_mul_pos {g x : Int} (hg : 0 < g) (hx : 0 ≤ x) : x ≤ g * x := by
  have := Int.mul_le_mul_of_nonneg_right (show (1 : Int) ≤ g by omega) hx; omega
theorem mul_bd {a b A B : Int} (h0 : 0 ≤ a) (h1 : a ≤ A) (h2 : 0 ≤ b) (h3 : b ≤ B) : 0 ≤ a * b ∧ a * b ≤ A * B :=
  ⟨Int.mul_nonneg h0 h2, Int.mul_le_mul h1 h3 h2 (by omega)⟩
theorem mkF_pos (n d : Int) (hn : 0 ≤ n) (hd : 0 < d) : 0 ≤ (mkF n d).1 ∧ (mkF n d).1 ≤ n ∧ 0 < (mkF n d).2 ∧ (mkF n d).2 ≤ d := by
  obtain ⟨g, hg, e1, e2⟩ := mkF_mul n d hd
  have a := nonneg_of_mul hg (show 0 ≤ g * (mkF n d).1 by omega)
  have b := pos_of_mul hg (show 0 < g * (mkF n d).2 by omega)
  have c := le_mul_pos hg a
  have e := le_mul_pos hg (Int.le_of_lt b)
  exact ⟨a, by omega, b, by omega⟩

/-! ### lines that share a load, in whole numbers: everything is scaled by bigK, which each length divides -/
def bigK : Int := 9690712164777231700912800
theorem bigK_div : ∀ i : Fin 60, ((i.val : Int) + 1) * (bigK / ((i.val : Int) + 1)) = bigK := by decide +kernel
theorem bigK_of {l : Int} (h : 1 ≤ l ∧ l ≤ 60) : l * (bigK / l) = bigK := by
  have := bigK_div ⟨(l - 1).toNat, by omega⟩
  rw [show (((⟨(l - 1).toNat, by omega⟩ : Fin 60).val : Int) + 1) = l by show (((l - 1).toNat : Nat) : Int) + 1 = l; omega] at this
  exact this
theorem bigK_pos : 0 < bigK := by decide +kernel
theorem bigK_div_pos {l : Int} (h : 1 ≤ l ∧ l ≤ 60) : 0 < bigK / l := by
  have h1 := bigK_of h
  have h2 := bigK_pos
  rcases Int.lt_trichotomy 0 (bigK / l) with h3 | h3 | h3
  · exact h3
  · rw [← h3] at h1; omega
  · have := Int.mul_neg_of_pos_of_neg (show 0 < l by omega) h3; omega
theorem cross_lt {a b c d m : Int} (hm : 0 < m) (h1 : a * m = c * d) : (a ≤ b ↔ c * d ≤ b * m) := by
  rw [← h1]
  exact ⟨fun h => Int.mul_le_mul_of_nonneg_right h (by omega), fun h => Int.le_of_mul_le_mul_right h hm⟩
def sumS (l : List S28) : Int := (l.map fun x => x.f1).sum
def sumQ (l : List S28) : Int := (l.map fun x => x.f1 * (bigK / x.f0)).sum
def sumW (t : Int) (l : List S28) : Int := (l.map fun x => x.f1 * ((t - x.f0) * (bigK / x.f0))).sum
def okS (l : List S28) : Prop := ∀ x ∈ l, springB x.f0 x.f1 = true
theorem ok_of {x : S28} (h : springB x.f0 x.f1 = true) : (1 ≤ x.f0 ∧ x.f0 ≤ 60) ∧ (1 ≤ x.f1 ∧ x.f1 ≤ 1000) := by
  unfold springB at h
  simpa using h
theorem sumW_eq (t : Int) : ∀ l : List S28, okS l → sumW t l = t * sumQ l - bigK * sumS l
  | [], _ => by simp [sumW, sumQ, sumS]
  | x :: l, h => by
    have ih := sumW_eq t l (fun y hy => h y (List.mem_cons_of_mem _ hy))
    have k := bigK_of (ok_of (h x List.mem_cons_self)).1
    simp only [sumW, sumQ, sumS, List.map_cons, List.sum_cons] at ih ⊢
    rw [ih, Int.mul_add, Int.mul_add, Int.sub_mul, k, Int.mul_sub, Int.mul_left_comm t x.f1, Int.mul_comm bigK x.f1]
    omega
theorem sumW_mono {t t' : Int} (h : t ≤ t') : ∀ l : List S28, okS l → sumW t l ≤ sumW t' l
  | [], _ => Int.le_refl _
  | x :: l, hl => by
    have ih := sumW_mono h l (fun y hy => hl y (List.mem_cons_of_mem _ hy))
    have o := ok_of (hl x List.mem_cons_self)
    have k := bigK_div_pos o.1
    simp only [sumW, List.map_cons, List.sum_cons] at ih ⊢
    have m : x.f1 * ((t - x.f0) * (bigK / x.f0)) ≤ x.f1 * ((t' - x.f0) * (bigK / x.f0)) :=
      Int.mul_le_mul_of_nonneg_left (Int.mul_le_mul_of_nonneg_right (by omega) (by omega)) (by omega)
    omega
theorem sumW_append (t : Int) (l m : List S28) : sumW t (l ++ m) = sumW t l + sumW t m := by simp [sumW]
theorem sumW_nonneg {t : Int} : ∀ l : List S28, okS l → (∀ x ∈ l, x.f0 ≤ t) → 0 ≤ sumW t l
  | [], _, _ => Int.le_refl _
  | x :: l, h, g => by
    have ih := sumW_nonneg l (fun y hy => h y (List.mem_cons_of_mem _ hy)) (fun y hy => g y (List.mem_cons_of_mem _ hy))
    have o := ok_of (h x List.mem_cons_self)
    have k := bigK_div_pos o.1
    have gx := g x List.mem_cons_self
    simp only [sumW, List.map_cons, List.sum_cons] at ih ⊢
    have m : 0 ≤ x.f1 * ((t - x.f0) * (bigK / x.f0)) := Int.mul_nonneg (by omega) (Int.mul_nonneg (by omega) (by omega))
    omega
theorem sumW_perm (t : Int) {l m : List S28} (h : l.Perm m) : sumW t l = sumW t m := by
  unfold sumW
  induction h with
  | nil => rfl
  | cons x _ ih => simp only [List.map_cons, List.sum_cons, ih]
  | swap x y l => simp only [List.map_cons, List.sum_cons]; omega
  | trans _ _ i1 i2 => exact i1.trans i2
/-- A fraction that is a sum of Stiff / Length, scaled. -/
def isQ (q : Int × Int) (l : List S28) : Prop := 0 < q.2 ∧ 0 ≤ q.1 ∧ q.1 * bigK = sumQ l * q.2
theorem sumQ_append (l m : List S28) : sumQ (l ++ m) = sumQ l + sumQ m := by simp [sumQ]
theorem sumS_append (l m : List S28) : sumS (l ++ m) = sumS l + sumS m := by simp [sumS]
def qStep (s : Int × Int) (x : S28) : Int × Int := mkF (s.1 * x.f0 + x.f1 * s.2) (s.2 * x.f0)
theorem isQ_step {s : Int × Int} {l : List S28} {x : S28} (h : isQ s l) (hx : springB x.f0 x.f1 = true) : isQ (qStep s x) (l ++ [x]) := by
  obtain ⟨h1, h2, h3⟩ := h
  have o := ok_of hx
  have k := bigK_of o.1
  have p : 0 < s.2 * x.f0 := Int.mul_pos h1 (by omega)
  have nn : 0 ≤ s.1 * x.f0 + x.f1 * s.2 := Int.add_nonneg (Int.mul_nonneg h2 (by omega)) (Int.mul_nonneg (by omega) (by omega))
  obtain ⟨g, hg, e1, e2⟩ := mkF_mul (s.1 * x.f0 + x.f1 * s.2) (s.2 * x.f0) p
  have d2 : 0 < (qStep s x).2 := by
    unfold qStep
    generalize mkF (s.1 * x.f0 + x.f1 * s.2) (s.2 * x.f0) = r at e1 e2 ⊢
    rcases Int.lt_trichotomy 0 r.2 with h3 | h3 | h3
    · exact h3
    · rw [← h3] at e2; omega
    · have := Int.mul_neg_of_pos_of_neg hg h3; omega
  refine ⟨d2, ?_, ?_⟩
  · unfold qStep
    generalize mkF (s.1 * x.f0 + x.f1 * s.2) (s.2 * x.f0) = r at e1 e2 ⊢
    by_cases h3 : r.1 < 0
    · have := Int.mul_neg_of_pos_of_neg hg h3; omega
    · omega
  · have e3 : (s.1 * x.f0 + x.f1 * s.2) * bigK = sumQ (l ++ [x]) * (s.2 * x.f0) := by
      rw [sumQ_append, Int.add_mul, Int.add_mul, Int.mul_right_comm, h3]
      have : sumQ [x] = x.f1 * (bigK / x.f0) := by simp [sumQ]
      have e4 : x.f1 * s.2 * bigK = x.f1 * (bigK / x.f0) * (s.2 * x.f0) := by
        conv => lhs; rw [← k]
        ac_rfl
      have e5 : sumQ l * s.2 * x.f0 = sumQ l * (s.2 * x.f0) := Int.mul_assoc ..
      rw [this, e4, e5]
    unfold qStep
    generalize mkF (s.1 * x.f0 + x.f1 * s.2) (s.2 * x.f0) = r at e1 e2 ⊢
    rw [e1, e2, Int.mul_assoc, Int.mul_left_comm (sumQ (l ++ [x]))] at e3
    exact Int.eq_of_mul_eq_mul_left (by omega) e3
theorem sumQ_pos {l : List S28} (h : okS l) (hne : l ≠ []) : 0 < sumQ l := by
  have nn : ∀ l : List S28, okS l → 0 ≤ sumQ l := by
    intro l
    induction l with
    | nil => intro _; exact Int.le_refl _
    | cons x l ih =>
      intro h
      have := ih (fun y hy => h y (List.mem_cons_of_mem _ hy))
      have o := ok_of (h x List.mem_cons_self)
      have k := bigK_div_pos o.1
      have := Int.mul_nonneg (show 0 ≤ x.f1 by omega) (show 0 ≤ bigK / x.f0 by omega)
      simp only [sumQ, List.map_cons, List.sum_cons] at *
      omega
  cases l with
  | nil => exact absurd rfl hne
  | cons x l =>
    have := nn l (fun y hy => h y (List.mem_cons_of_mem _ hy))
    have o := ok_of (h x List.mem_cons_self)
    have k := bigK_div_pos o.1
    have := Int.mul_pos (show 0 < x.f1 by omega) k
    simp only [sumQ, List.map_cons, List.sum_cons] at *
    omega
/-- The length at which the lines l bear p: at most t just where p is at most what they bear there. -/
theorem out_le {q r : Int × Int} {l : List S28} {p t : Int} (hl : okS l) (hne : l ≠ []) (hq : isQ q l) (hr : r = mkF ((p + sumS l) * q.2) q.1) : 0 < r.2 ∧ (r.1 ≤ t * r.2 ↔ p * bigK ≤ sumW t l) := by
  obtain ⟨h1, h2, h3⟩ := hq
  have qp : 0 < q.1 := by
    by_cases h : 0 < q.1
    · exact h
    · have : q.1 = 0 := by omega
      rw [this] at h3
      have := Int.mul_pos (sumQ_pos hl hne) h1
      omega
  obtain ⟨g, hg, e1, e2⟩ := mkF_mul ((p + sumS l) * q.2) q.1 qp
  rw [← hr] at e1 e2
  have r2 : 0 < r.2 := by
    rcases Int.lt_trichotomy 0 r.2 with h3 | h3 | h3
    · exact h3
    · rw [← h3] at e2; omega
    · have := Int.mul_neg_of_pos_of_neg hg h3; omega
  refine ⟨r2, ?_⟩
  rw [sumW_eq t l hl]
  have a1 : r.1 ≤ t * r.2 ↔ (p + sumS l) * q.2 ≤ t * q.1 := by
    rw [e1]
    constructor
    · intro h
      have := Int.mul_le_mul_of_nonneg_left h (show 0 ≤ g by omega)
      rw [Int.mul_left_comm g t, ← e2] at this
      exact this
    · intro h
      refine Int.le_of_mul_le_mul_left ?_ hg
      rw [Int.mul_left_comm g t, ← e2]
      exact h
  have a2 : (p + sumS l) * q.2 ≤ t * q.1 ↔ ((p + sumS l) * bigK) * q.2 ≤ (t * sumQ l) * q.2 := by
    have b1 : ((p + sumS l) * bigK) * q.2 = ((p + sumS l) * q.2) * bigK := by rw [Int.mul_right_comm]
    have b2 : (t * sumQ l) * q.2 = (t * q.1) * bigK := by rw [Int.mul_assoc, ← h3, Int.mul_assoc]
    rw [b1, b2]
    exact ⟨fun h => Int.mul_le_mul_of_nonneg_right h (Int.le_of_lt bigK_pos), fun h => Int.le_of_mul_le_mul_right h bigK_pos⟩
  have a3 : ((p + sumS l) * bigK) * q.2 ≤ (t * sumQ l) * q.2 ↔ (p + sumS l) * bigK ≤ t * sumQ l := ⟨fun h => Int.le_of_mul_le_mul_right h h1, fun h => Int.mul_le_mul_of_nonneg_right h (by omega)⟩
  rw [a1, a2, a3, Int.add_mul, Int.mul_comm bigK (sumS l)]
  omega
def shR (p : Int) (pre : List S28) (q : Int × Int) : List S28 → Int × Int
  | [] => (0, 0)
  | [x] => mkF ((p + sumS (pre ++ [x])) * (qStep q x).2) (qStep q x).1
  | x :: y :: rest =>
    if (mkF ((p + sumS (pre ++ [x])) * (qStep q x).2) (qStep q x).1).1 ≤ y.f0 * (mkF ((p + sumS (pre ++ [x])) * (qStep q x).2) (qStep q x).1).2 then mkF ((p + sumS (pre ++ [x])) * (qStep q x).2) (qStep q x).1
    else shR p (pre ++ [x]) (qStep q x) (y :: rest)
theorem shR_le (p L : Int) : ∀ (rest pre : List S28) (q : Int × Int), rest ≠ [] → okS (pre ++ rest) → (∀ x ∈ pre ++ rest, x.f0 ≤ L) → isQ q pre →
    0 < (shR p pre q rest).2 ∧ ((shR p pre q rest).1 ≤ L * (shR p pre q rest).2 ↔ p * bigK ≤ sumW L (pre ++ rest))
  | [], _, _, h, _, _, _ => absurd rfl h
  | [x], pre, q, _, ho, _, hq => out_le ho (by simp) (isQ_step hq (ho x (by simp))) rfl
  | x :: y :: rest, pre, q, _, ho, hL, hq => by
    have hx := ho x (by simp)
    have ha : pre ++ x :: y :: rest = (pre ++ [x]) ++ (y :: rest) := by simp
    have ho1 : okS (pre ++ [x]) := fun z hz => ho z (by simp at hz ⊢; rcases hz with hz | hz <;> simp [hz])
    have hq1 := isQ_step hq hx
    unfold shR
    split
    · rename_i hc
      have o1 := fun t => out_le (p := p) (t := t) ho1 (by simp) hq1 rfl
      refine ⟨(o1 L).1, ⟨fun _ => ?_, fun _ => ?_⟩⟩
      · have b1 := (o1 y.f0).2.1 hc
        have b2 := sumW_mono (hL y (by simp)) (pre ++ [x]) ho1
        have b3 : 0 ≤ sumW L (y :: rest) := sumW_nonneg _ (fun z hz => ho z (by rw [ha]; exact List.mem_append_right _ hz)) (fun z hz => hL z (by rw [ha]; exact List.mem_append_right _ hz))
        rw [ha, sumW_append]
        omega
      · exact (o1 L).2.2 (Int.le_trans ((o1 y.f0).2.1 hc) (sumW_mono (hL y (by simp)) _ ho1))
    · rw [ha] at ho hL ⊢
      exact shR_le p L (y :: rest) (pre ++ [x]) _ (by simp) ho hL hq1

theorem spec_l00Gcd_ev (m : Nat) : ∀ a b : Int, b.toNat = m → 0 ≤ a → 0 ≤ b → Ev (fun k => spec_l00Gcd.l0 k a b) (Nat.gcd a.toNat b.toNat : Nat) := by
  induction m using Nat.strongRecOn with
  | _ m ih =>
    intro a b hm ha hb
    refine ev_succ ?_
    by_cases h : b = 0
    · subst h
      simp only [spec_l00Gcd.l0, if_true]
      exact ev_to (ev_now _) (by simp; omega)
    · obtain ⟨h1, h2, h3⟩ := gcd_step (a := a) (b := b) ha (by omega)
      simp only [spec_l00Gcd.l0, h, if_false]
      exact ev_to (ih _ (by omega) b _ rfl hb h1) (by rw [h3])
theorem spec_l01Make_ev (n d : Int) (hn : -4611686018427387904 ≤ n ∧ n ≤ 4611686018427387904) (hd : 0 < d ∧ d ≤ 4611686018427387904) : Ev (fun k => spec_l01Make.f k n d) (mkF n d) := by
  have e0 : spec_l00Size.f n = some (n.natAbs : Int) := by
    unfold spec_l00Size.f
    by_cases h : n < 0
    · rw [if_pos h, w64 (by omega) (by omega)]; congr 1; omega
    · rw [if_neg h]; congr 1; omega
  simp only [spec_l01Make.f, spec_l00Gcd.f, e0, Option.bind_some]
  have g := spec_l00Gcd_ev d.toNat (n.natAbs : Int) d rfl (by omega) (by omega)
  have eg : Nat.gcd ((n.natAbs : Int)).toNat d.toNat = Int.gcd n d := by rw [Int.gcd, Int.toNat_natCast]; congr 1; omega
  rw [eg] at g
  have pos : 0 < Int.gcd n d := Int.gcd_pos_of_ne_zero_right n (by omega)
  refine Ev.bind g ?_
  have b1 := tdiv_bound n (Int.gcd n d)
  have b2 := tdiv_bound d (Int.gcd n d)
  simp only [show ¬ ((Int.gcd n d : Nat) : Int) = 0 by omega, if_false, w64 (n := Int.tdiv n (Int.gcd n d : Nat)) (by omega) (by omega), w64 (n := Int.tdiv d (Int.gcd n d : Nat)) (by omega) (by omega)]
  exact ev_now _

/-! ### the lines by ascending lengths -/
def posG (out : List S28) (l : Int) : Nat → Nat
  | 0 => 0
  | k + 1 => if (out.getD k z28).f0 > l then posG out l k else k + 1
theorem posG_le (out : List S28) (l : Int) : ∀ k, posG out l k ≤ k
  | 0 => Nat.le_refl _
  | k + 1 => by
    unfold posG
    split
    · have := posG_le out l k; omega
    · exact Nat.le_refl _
def insS (out : List S28) (x : S28) : List S28 := (out.take (posG out x.f0 out.length) ++ [x]) ++ out.drop (posG out x.f0 out.length)
theorem insS_perm (out : List S28) (x : S28) : (insS out x).Perm (x :: out) := by
  unfold insS
  rw [List.append_assoc, List.singleton_append]
  exact List.perm_middle.trans (List.Perm.of_eq (by rw [List.take_append_drop]))
theorem insS_length (out : List S28) (x : S28) : (insS out x).length = out.length + 1 := by
  have := (insS_perm out x).length_eq; simpa using this
def sortL (xs : List S28) (n : Nat) : List S28 := (xs.take n).foldl insS []
theorem foldl_insS (xs : List S28) : ∀ out : List S28, (xs.foldl insS out).Perm (xs ++ out) := by
  induction xs with
  | nil => intro out; exact List.Perm.refl _
  | cons x xs ih =>
    intro out
    refine (ih (insS out x)).trans ?_
    refine ((insS_perm out x).append_left xs).trans ?_
    exact List.perm_middle
theorem sortL_perm (xs : List S28) (n : Nat) : (sortL xs n).Perm (xs.take n) := by
  have := foldl_insS (xs.take n) []
  simpa [sortL] using this
theorem sortL_all (xs : List S28) : (sortL xs xs.length).Perm xs := by
  have := sortL_perm xs xs.length
  rwa [List.take_length] at this
theorem sortL_length (xs : List S28) {n : Nat} (h : n ≤ xs.length) : (sortL xs n).length = n := by
  rw [(sortL_perm xs n).length_eq, List.length_take]; omega
theorem spec_l04Sorted_ev (xs : List S28) (h : xs.length ≤ 1048576) : Ev (fun k => spec_l04Sorted.f k xs) (sortL xs xs.length) := by
  simp only [spec_l04Sorted.f]
  refine ev_fold (len := xs.length) (g := fun k s i => spec_l04Sorted.l0 k xs s i) (fun n s => insS s (xs.getD n z28)) (sortL xs) _ (fun n hn => foldl_take_succ xs _ _ _ hn) ?_ ?_
  · intro n hn r hr
    have hl := sortL_length xs (show n ≤ xs.length by omega)
    generalize sortL xs n = out at hl hr ⊢
    refine ev_succ ?_
    simp only [spec_l04Sorted.l0, Int.ofNat_lt.2 hn, if_true]
    have key : ∀ m, m ≤ out.length → posG out (xs.getD n z28).f0 m = posG out (xs.getD n z28).f0 out.length → Ev (fun k => spec_l04Sorted.l1 k xs out (n : Int) (m : Int)) r := by
      intro m
      have fin : ∀ m : Nat, m ≤ out.length → m = posG out (xs.getD n z28).f0 out.length → Ev (fun k => spec_l04Sorted.l0 k xs ((out.take m ++ [xs.getD n z28]) ++ out.drop m) (wrap64 ((n : Int) + 1))) r := by
        intro m hm he
        rw [wnext hn (by omega : xs.length ≤ 9223372036854775807), he]
        exact hr
      induction m with
      | zero =>
        intro hm he
        have f := fin 0 hm (by rw [← he]; rfl)
        refine ev_succ ?_
        simp only [spec_l04Sorted.l1, show ¬ (((0 : Nat) : Int) > 0) by omega, if_false, Option.bind_some, List.length_nil, Int.toNat_natCast, List.nil_append, List.take_zero, List.drop_zero,
          show (0 : Int) ≤ ((0 : Nat) : Int) by omega, show ((0 : Nat) : Int) ≤ (out.length : Int) by omega, if_true, Nat.add_zero, show (0 : Nat) < 8796093022208 by decide, Int.ofNat_lt.2 hn, show (0 : Int) ≤ (n : Int) from Int.natCast_nonneg _, List.length_cons, Nat.zero_add,
          rd_T28, show 1 + out.length < 8796093022208 by omega]
        simpa using f
      | succ m ih =>
        intro hm he
        have w1 : wrap64 (((m + 1 : Nat) : Int) - 1) = (m : Int) := by rw [w64 (by omega) (by omega)]; omega
        refine ev_succ ?_
        by_cases hc : (out.getD m z28).f0 > (xs.getD n z28).f0
        · have e2 : posG out (xs.getD n z28).f0 m = posG out (xs.getD n z28).f0 out.length := by rw [← he]; show _ = (if _ then _ else _); rw [if_pos hc]
          simp only [spec_l04Sorted.l1, w1, show ((m + 1 : Nat) : Int) > 0 by omega, show (0 : Int) ≤ (m : Int) by omega, show (m : Int) < (out.length : Int) by omega, if_true, show (0 : Int) ≤ (n : Int) by omega, Int.ofNat_lt.2 hn, rd_T28, Int.toNat_natCast, hc]
          exact ih (by omega) e2
        · have e2 : m + 1 = posG out (xs.getD n z28).f0 out.length := by rw [← he]; show _ = (if _ then _ else _); rw [if_neg hc]
          have f := fin (m + 1) hm e2
          have t1 : (out.take (m + 1)).length = m + 1 := by rw [List.length_take]; omega
          have t2 : (out.drop (m + 1)).length = out.length - (m + 1) := List.length_drop
          simp only [spec_l04Sorted.l1, w1, show ((m + 1 : Nat) : Int) > 0 by omega, show (0 : Int) ≤ (m : Int) by omega, show (m : Int) < (out.length : Int) by omega, if_true, show (0 : Int) ≤ (n : Int) by omega, Int.ofNat_lt.2 hn, rd_T28, Int.toNat_natCast, hc, if_false,
            Option.bind_some, List.length_nil, List.nil_append, show (0 : Int) ≤ ((m + 1 : Nat) : Int) by omega, show ((m + 1 : Nat) : Int) ≤ (out.length : Int) by omega, Nat.zero_add, List.length_append, List.length_cons, t1, t2,
            show m + 1 < 8796093022208 by omega, show m + 1 + 1 + (out.length - (m + 1)) < 8796093022208 by omega]
          exact f
    exact key out.length (Nat.le_refl _) rfl
  · refine ev_succ ?_
    simp only [spec_l04Sorted.l0, Int.lt_irrefl, if_false]
    exact ev_now _
/-! ### fractions that are sums over lines, scaled -/
def frI (V : Int) (n : Nat) (s : Int × Int) : Prop := 0 < s.2 ∧ 0 ≤ s.1 ∧ s.1 * bigK = V * s.2 ∧ s.2 ≤ 60 ^ n
theorem pow_le60 {n : Nat} (h : n ≤ 4) : (60 : Int) ^ n ≤ 12960000 := by
  have : n = 0 ∨ n = 1 ∨ n = 2 ∨ n = 3 ∨ n = 4 := by omega
  rcases this with rfl | rfl | rfl | rfl | rfl <;> decide
theorem fr_bd {V : Int} {n : Nat} {s : Int × Int} {M : Int} (h : frI V n s) (hn : n ≤ 4) (hV : V ≤ M * bigK) : s.2 ≤ 12960000 ∧ s.1 ≤ M * s.2 := by
  obtain ⟨h1, h2, h3, h4⟩ := h
  refine ⟨by have := pow_le60 hn; omega, ?_⟩
  refine Int.le_of_mul_le_mul_right ?_ bigK_pos
  rw [h3, Int.mul_right_comm]
  exact Int.mul_le_mul_of_nonneg_right hV (by omega)
theorem fr_next {V : Int} {n : Nat} {s : Int × Int} {c l : Int} (h : frI V n s) (hl : 1 ≤ l ∧ l ≤ 60) (hc : 0 ≤ c) : frI (V + c * (bigK / l)) (n + 1) (mkF (s.1 * l + c * s.2) (s.2 * l)) := by
  obtain ⟨h1, h2, h3, h4⟩ := h
  have k := bigK_of hl
  have p : 0 < s.2 * l := Int.mul_pos h1 (by omega)
  have nn : 0 ≤ s.1 * l + c * s.2 := Int.add_nonneg (Int.mul_nonneg h2 (by omega)) (Int.mul_nonneg hc (by omega))
  obtain ⟨g, hg, e1, e2⟩ := mkF_mul (s.1 * l + c * s.2) (s.2 * l) p
  have q := mkF_pos (s.1 * l + c * s.2) (s.2 * l) nn p
  have e3 : (s.1 * l + c * s.2) * bigK = (V + c * (bigK / l)) * (s.2 * l) := by
    rw [Int.add_mul, Int.add_mul, Int.mul_right_comm, h3]
    have e4 : c * s.2 * bigK = c * (bigK / l) * (s.2 * l) := by
      conv => lhs; rw [← k]
      ac_rfl
    rw [e4, Int.mul_assoc V]
  refine ⟨q.2.2.1, q.1, ?_, ?_⟩
  · generalize mkF (s.1 * l + c * s.2) (s.2 * l) = r at e1 e2 ⊢
    rw [e1, e2, Int.mul_assoc, Int.mul_left_comm (V + c * (bigK / l))] at e3
    exact Int.eq_of_mul_eq_mul_left (by omega) e3
  · have a := q.2.2.2
    have b : s.2 * l ≤ 60 ^ n * 60 := Int.mul_le_mul h4 hl.2 (by omega) (by have := Int.pow_pos (n := 60) (m := n) (by decide); omega)
    rw [Int.pow_succ]; omega
theorem sumQ_snoc (l : List S28) (x : S28) : sumQ (l ++ [x]) = sumQ l + x.f1 * (bigK / x.f0) := by simp [sumQ]
theorem sumS_snoc (l : List S28) (x : S28) : sumS (l ++ [x]) = sumS l + x.f1 := by simp [sumS]
theorem sumS_bd : ∀ l : List S28, okS l → 0 ≤ sumS l ∧ sumS l ≤ 1000 * l.length
  | [], _ => ⟨Int.le_refl _, Int.le_refl _⟩
  | x :: l, h => by
    have ih := sumS_bd l (fun y hy => h y (List.mem_cons_of_mem _ hy))
    have o := ok_of (h x List.mem_cons_self)
    simp only [sumS, List.map_cons, List.sum_cons, List.length_cons] at ih ⊢
    omega
theorem kdiv_le {l : Int} (h : 1 ≤ l ∧ l ≤ 60) : bigK / l ≤ bigK := by
  have k := bigK_of h
  have := le_mul_pos (show 0 < l by omega) (Int.le_of_lt (bigK_div_pos h))
  omega
theorem sumQ_bd : ∀ l : List S28, okS l → 0 ≤ sumQ l ∧ sumQ l ≤ (1000 * (l.length : Int)) * bigK
  | [], _ => ⟨Int.le_refl _, by simp [sumQ]⟩
  | x :: l, h => by
    have ih := sumQ_bd l (fun y hy => h y (List.mem_cons_of_mem _ hy))
    have o := ok_of (h x List.mem_cons_self)
    have kp := bigK_div_pos o.1
    have m := mul_bd (show 0 ≤ x.f1 by omega) o.2.2 (Int.le_of_lt kp) (kdiv_le o.1)
    have e : (1000 * ((l.length + 1 : Nat) : Int)) * bigK = (1000 * (l.length : Int)) * bigK + 1000 * bigK := by
      rw [show (1000 * ((l.length + 1 : Nat) : Int)) = 1000 * (l.length : Int) + 1000 by omega, Int.add_mul]
    simp only [sumQ, List.map_cons, List.sum_cons, List.length_cons] at ih ⊢
    omega
/-! ### the length that lines share -/
theorem len_cons2 {α : Type} (pre : List α) (x y : α) (rest : List α) : ¬ (((pre.length + 1 : Nat) : Int) = ((pre ++ x :: y :: rest).length : Int)) ∧ ((pre.length + 1 : Nat) : Int) < ((pre ++ x :: y :: rest).length : Int) := by
  rw [List.length_append, List.length_cons, List.length_cons]; omega
theorem shared_loop (p : Int) (hp : 1 ≤ p ∧ p ≤ 10000) : ∀ (rest pre : List S28) (q : Int × Int) (a b : Int), rest ≠ [] → okS (pre ++ rest) → (pre ++ rest).length ≤ 4 → frI (sumQ pre) pre.length q →
    Ev (fun k => spec_l04Shared.l0 k p (pre ++ rest) (sumS pre) q.1 q.2 (pre.length : Int) a b) (shR p pre q rest)
  | [], _, _, _, _, h, _, _, _ => absurd rfl h
  | x :: rest, pre, q, a, b, _, ho, hl, hq => by
    have hx := ho x (by simp)
    have o := ok_of hx
    have ho0 : okS pre := fun z hz => ho z (by simp [hz])
    have ho1 : okS (pre ++ [x]) := fun z hz => ho z (by simp at hz ⊢; rcases hz with hz | hz <;> simp [hz])
    have hlen : pre.length + 1 ≤ 4 := by simp at hl; omega
    have hn := fr_next (c := x.f1) hq o.1 (by omega)
    rw [← sumQ_snoc] at hn
    have hn' : frI (sumQ (pre ++ [x])) (pre ++ [x]).length (qStep q x) := by simpa [qStep] using hn
    have b0 := fr_bd (M := 4000) hq (by omega) (by have := (sumQ_bd pre ho0).2; have : (1000 * (pre.length : Int)) * bigK ≤ 4000 * bigK := Int.mul_le_mul_of_nonneg_right (by omega) (Int.le_of_lt bigK_pos); omega)
    have b1 := fr_bd (M := 4000) hn (by omega) (by have := (sumQ_bd _ ho1).2; have : (1000 * ((pre ++ [x]).length : Int)) * bigK ≤ 4000 * bigK := Int.mul_le_mul_of_nonneg_right (by simp; omega) (Int.le_of_lt bigK_pos); omega)
    have s0 := sumS_bd pre ho0
    have s1 := sumS_bd _ ho1
    have gx : (pre ++ x :: rest).getD pre.length z28 = x := by simp [List.getD_eq_getElem?_getD]
    have m1 := mul_bd hq.2.1 (show q.1 ≤ 51840000000 by omega) (show 0 ≤ x.f0 by omega) o.1.2
    have m2 := mul_bd (show 0 ≤ x.f1 by omega) o.2.2 (Int.le_of_lt hq.1) b0.1
    have m3 := mul_bd (Int.le_of_lt hq.1) b0.1 (show 0 ≤ x.f0 by omega) o.1.2
    have p3 : 0 < q.2 * x.f0 := Int.mul_pos hq.1 (by omega)
    have qp : 0 < (qStep q x).1 := by
      have e := hn'.2.2.1
      have := Int.mul_pos (sumQ_pos ho1 (by simp)) hn'.1
      rcases Int.lt_or_le 0 (qStep q x).1 with h | h
      · exact h
      · have h0 := hn'.2.1; rw [show (qStep q x).1 = 0 by omega] at e; omega
    have n1 : (qStep q x).1 ≤ 51840000000 := by have := b1.2; unfold qStep; omega
    have n2 : (qStep q x).2 ≤ 12960000 := b1.1
    have m4 := mul_bd (show 0 ≤ p + sumS (pre ++ [x]) by omega) (show p + sumS (pre ++ [x]) ≤ 14000 by have := s1.2; simp at this; omega) (Int.le_of_lt hn'.1) n2
    have mp := mkF_pos ((p + sumS (pre ++ [x])) * (qStep q x).2) (qStep q x).1 m4.1 qp
    refine ev_succ ?_
    simp only [spec_l04Shared.l0, show ((pre.length : Nat) : Int) < ((pre ++ x :: rest).length : Int) by simp; omega, show (0 : Int) ≤ (pre.length : Int) from Int.natCast_nonneg _, if_true, rd_T28, Int.toNat_natCast, gx]
    rw [w64 (n := q.1 * x.f0) (by omega) (by omega), w64 (n := x.f1 * q.2) (by omega) (by omega), w64 (n := q.1 * x.f0 + x.f1 * q.2) (by omega) (by omega), w64 (n := q.2 * x.f0) (by omega) (by omega), w64 (n := sumS pre + x.f1) (by omega) (by omega), ← sumS_snoc, w64 (n := p + sumS (pre ++ [x])) (by omega) (by have := s1.2; simp at this; omega)]
    refine Ev.bind (spec_l01Make_ev _ _ (by omega) (by omega)) ?_
    show Ev (fun k => (spec_l01Make.f k (wrap64 ((p + sumS (pre ++ [x])) * (qStep q x).2)) (qStep q x).1).bind _) _
    rw [w64 (n := (p + sumS (pre ++ [x])) * (qStep q x).2) (by omega) (by omega)]
    refine Ev.bind (spec_l01Make_ev _ _ (by omega) (by omega)) ?_
    have wn : wrap64 ((pre.length : Int) + 1) = ((pre.length + 1 : Nat) : Int) := by rw [w64 (by omega) (by omega)]; omega
    rw [wn]
    cases rest with
    | nil =>
      simp only [List.length_append, List.length_cons, List.length_nil, Nat.zero_add, if_true]
      exact ev_now _
    | cons y rest =>
      have gy : (pre ++ x :: y :: rest).getD (pre.length + 1) z28 = y := by simp [List.getD_eq_getElem?_getD]
      have hA := (len_cons2 pre x y rest).1
      have hB := (len_cons2 pre x y rest).2
      have hC : (0 : Int) ≤ ((pre.length + 1 : Nat) : Int) := Int.natCast_nonneg _
      have oy := ok_of (ho y (by simp))
      have m5 := mul_bd (show 0 ≤ y.f0 by omega) oy.1.2 (Int.le_of_lt mp.2.2.1) (Int.le_refl _)
      simp only [hA, if_false, hC, hB, if_true, Int.toNat_natCast, gy]
      rw [w64 (n := y.f0 * (mkF ((p + sumS (pre ++ [x])) * (qStep q x).2) (qStep q x).1).2) (by omega) (by omega)]
      unfold shR
      by_cases hc : (mkF ((p + sumS (pre ++ [x])) * (qStep q x).2) (qStep q x).1).1 ≤ y.f0 * (mkF ((p + sumS (pre ++ [x])) * (qStep q x).2) (qStep q x).1).2
      · simp only [hc, if_true]; exact ev_now _
      · simp only [hc, if_false]
        have ha : pre ++ x :: y :: rest = (pre ++ [x]) ++ (y :: rest) := by simp
        have := shared_loop p hp (y :: rest) (pre ++ [x]) (qStep q x) (mkF ((p + sumS (pre ++ [x])) * (qStep q x).2) (qStep q x).1).1 (mkF ((p + sumS (pre ++ [x])) * (qStep q x).2) (qStep q x).1).2 (by simp) (by rw [← ha]; exact ho) (by rw [← ha]; exact hl) hn'
        rw [← ha, show ((pre ++ [x]).length : Int) = ((pre.length + 1 : Nat) : Int) by simp] at this
        exact this
def sharedV (xs : List S28) (p : Int) : Int × Int := if p = 0 then (((sortL xs xs.length).getD 0 z28).f0, 1) else shR p [] (0, 1) (sortL xs xs.length)
theorem spec_l04Shared_ev (xs : List S28) (p : Int) (hp : 0 ≤ p ∧ p ≤ 10000) (hl : 1 ≤ xs.length ∧ xs.length ≤ 4) (ho : okS xs) : Ev (fun k => spec_l04Shared.f k xs p) (sharedV xs p) := by
  simp only [spec_l04Shared.f]
  have hsl := sortL_length xs (Nat.le_refl _)
  have hso : okS (sortL xs xs.length) := fun x hx => ho x ((sortL_all xs).mem_iff.1 hx)
  refine Ev.bind (spec_l04Sorted_ev xs (by omega)) ?_
  unfold sharedV
  by_cases h : p = 0
  · simp only [h, if_true, show (0 : Int) < ((sortL xs xs.length).length : Int) by omega, rd_T28]
    exact ev_now _
  · simp only [h, if_false]
    have := shared_loop p (by omega) (sortL xs xs.length) [] (0, 1) 0 0 (by intro e; rw [e] at hsl; simp at hsl; omega) hso (by simpa using (by omega : (sortL xs xs.length).length ≤ 4)) ⟨by decide, by decide, by simp [sumQ], by simp⟩
    simpa [sumS] using this
theorem sharedV_le (xs : List S28) (p L : Int) (hp : 0 ≤ p ∧ p ≤ 10000) (hl : 1 ≤ xs.length ∧ xs.length ≤ 4) (ho : okS xs) (hL : ∀ x ∈ xs, x.f0 ≤ L) :
    0 < (sharedV xs p).2 ∧ ((sharedV xs p).1 ≤ L * (sharedV xs p).2 ↔ p * bigK ≤ sumW L xs) := by
  have hsl := sortL_length xs (Nat.le_refl _)
  have hso : okS (sortL xs xs.length) := fun x hx => ho x ((sortL_all xs).mem_iff.1 hx)
  unfold sharedV
  by_cases h : p = 0
  · simp only [h, if_true]
    have hm : (sortL xs xs.length).getD 0 z28 ∈ xs := by
      refine (sortL_all xs).mem_iff.1 ?_
      rw [getD_lt _ _ (by omega)]
      exact List.getElem_mem _
    refine ⟨by decide, ⟨fun _ => ?_, fun _ => ?_⟩⟩
    · rw [Int.zero_mul]; exact sumW_nonneg xs ho hL
    · rw [Int.mul_one]; exact hL _ hm
  · simp only [h, if_false]
    have := shR_le p L (sortL xs xs.length) [] (0, 1) (by intro e; rw [e] at hsl; simp at hsl; omega) hso (fun x hx => hL x ((sortL_all xs).mem_iff.1 hx)) ⟨by decide, by decide, by simp [sumQ]⟩
    rw [List.nil_append, sumW_perm L (sortL_all xs)] at this
    exact this
/-! ### the lines that bear nothing -/
def slackL (r : Int × Int) (xs : List S28) (n : Nat) : List Int := List.map (fun i : Nat => (i : Int)) (List.filter (fun i => decide (r.1 ≤ (xs.getD i z28).f0 * r.2)) (List.range n))
theorem slackL_succ (r : Int × Int) (xs : List S28) (n : Nat) : slackL r xs (n + 1) = if r.1 ≤ (xs.getD n z28).f0 * r.2 then slackL r xs n ++ [(n : Int)] else slackL r xs n := by
  unfold slackL
  rw [List.range_succ, List.filter_append, List.map_append, List.filter_cons, List.filter_nil]
  by_cases h : r.1 ≤ (xs.getD n z28).f0 * r.2
  · rw [if_pos h, if_pos (by rw [decide_eq_true_eq]; exact h)]; rfl
  · rw [if_neg h, if_neg (by rw [decide_eq_true_eq]; exact h), List.map_nil, List.append_nil]
theorem slackL_len (r : Int × Int) (xs : List S28) (n : Nat) : (slackL r xs n).length ≤ n := by
  unfold slackL
  rw [List.length_map]
  exact Nat.le_trans (List.length_filter_le _ _) (by simp)
theorem slackL_nil (r : Int × Int) (xs : List S28) : (slackL r xs xs.length).length = 0 ↔ ∀ x ∈ xs, ¬ r.1 ≤ x.f0 * r.2 := by
  unfold slackL
  rw [List.length_map, List.length_eq_zero_iff, List.filter_eq_nil_iff]
  constructor
  · intro h x hx
    obtain ⟨i, hi, rfl⟩ := List.getElem_of_mem hx
    have := h i (List.mem_range.2 hi)
    rw [getD_lt _ _ hi] at this
    simpa using this
  · intro h i hi
    have hi' := List.mem_range.1 hi
    rw [getD_lt _ _ hi']
    have := h _ (List.getElem_mem hi')
    simpa using this
/-- How large the shared length's parts are. -/
theorem shR_bd (p : Int) (hp : 1 ≤ p ∧ p ≤ 10000) : ∀ (rest pre : List S28) (q : Int × Int), rest ≠ [] → okS (pre ++ rest) → (pre ++ rest).length ≤ 4 → frI (sumQ pre) pre.length q →
    0 ≤ (shR p pre q rest).1 ∧ (shR p pre q rest).1 ≤ 181440000000 ∧ 0 < (shR p pre q rest).2 ∧ (shR p pre q rest).2 ≤ 51840000000
  | [], _, _, h, _, _, _ => absurd rfl h
  | x :: rest, pre, q, _, ho, hl, hq => by
    have hx := ho x (by simp)
    have o := ok_of hx
    have ho1 : okS (pre ++ [x]) := fun z hz => ho z (by simp at hz ⊢; rcases hz with hz | hz <;> simp [hz])
    have hlen : pre.length + 1 ≤ 4 := by simp at hl; omega
    have hn := fr_next (c := x.f1) hq o.1 (by omega)
    rw [← sumQ_snoc] at hn
    have hn' : frI (sumQ (pre ++ [x])) (pre ++ [x]).length (qStep q x) := by simpa [qStep] using hn
    have b1 := fr_bd (M := 4000) hn (by omega) (by have := (sumQ_bd _ ho1).2; have : (1000 * ((pre ++ [x]).length : Int)) * bigK ≤ 4000 * bigK := Int.mul_le_mul_of_nonneg_right (by simp; omega) (Int.le_of_lt bigK_pos); omega)
    have s1 := sumS_bd _ ho1
    have qp : 0 < (qStep q x).1 := by
      have e := hn'.2.2.1
      have := Int.mul_pos (sumQ_pos ho1 (by simp)) hn'.1
      rcases Int.lt_or_le 0 (qStep q x).1 with h | h
      · exact h
      · have h0 := hn'.2.1; rw [show (qStep q x).1 = 0 by omega] at e; omega
    have n1 : (qStep q x).1 ≤ 51840000000 := by have := b1.2; unfold qStep; omega
    have n2 : (qStep q x).2 ≤ 12960000 := b1.1
    have m4 := mul_bd (show 0 ≤ p + sumS (pre ++ [x]) by omega) (show p + sumS (pre ++ [x]) ≤ 14000 by have := s1.2; simp at this; omega) (Int.le_of_lt hn'.1) n2
    have mp := mkF_pos ((p + sumS (pre ++ [x])) * (qStep q x).2) (qStep q x).1 m4.1 qp
    cases rest with
    | nil => exact ⟨mp.1, by have := mp.2.1; show (mkF _ _).1 ≤ _; omega, mp.2.2.1, by have := mp.2.2.2; show (mkF _ _).2 ≤ _; omega⟩
    | cons y rest =>
      unfold shR
      split
      · exact ⟨mp.1, by omega, mp.2.2.1, by omega⟩
      · have ha : pre ++ x :: y :: rest = (pre ++ [x]) ++ (y :: rest) := by simp
        exact shR_bd p hp (y :: rest) (pre ++ [x]) (qStep q x) (by simp) (by rw [← ha]; exact ho) (by rw [← ha]; exact hl) hn'
theorem sharedV_bd (xs : List S28) (p : Int) (hp : 0 ≤ p ∧ p ≤ 10000) (hl : 1 ≤ xs.length ∧ xs.length ≤ 4) (ho : okS xs) :
    0 ≤ (sharedV xs p).1 ∧ (sharedV xs p).1 ≤ 181440000000 ∧ 0 < (sharedV xs p).2 ∧ (sharedV xs p).2 ≤ 51840000000 := by
  have hsl := sortL_length xs (Nat.le_refl _)
  have hso : okS (sortL xs xs.length) := fun x hx => ho x ((sortL_all xs).mem_iff.1 hx)
  unfold sharedV
  by_cases h : p = 0
  · simp only [h, if_true]
    have hm : (sortL xs xs.length).getD 0 z28 ∈ xs := by
      refine (sortL_all xs).mem_iff.1 ?_
      rw [getD_lt _ _ (by omega)]
      exact List.getElem_mem _
    have o := ok_of (ho _ hm)
    exact ⟨by omega, by omega, by decide, by decide⟩
  · simp only [h, if_false]
    exact shR_bd p (by omega) (sortL xs xs.length) [] (0, 1) (by intro e; rw [e] at hsl; simp at hsl; omega) hso (by simpa using (by omega : (sortL xs xs.length).length ≤ 4)) ⟨by decide, by decide, by simp [sumQ], by simp⟩

theorem impl_gcd_loop (m : Nat) : ∀ a b : Int, b.toNat = m → 0 ≤ a → 0 ≤ b → Ev (fun k => impl_gcd.l0 k a b) (Nat.gcd a.toNat b.toNat : Nat) := by
  induction m using Nat.strongRecOn with
  | _ m ih =>
    intro a b hm ha hb
    refine ev_succ ?_
    by_cases h : b = 0
    · subst h
      simp only [impl_gcd.l0, if_true]
      exact ev_to (ev_now _) (by simp; omega)
    · obtain ⟨h1, h2, h3⟩ := gcd_step (a := a) (b := b) ha (by omega)
      simp only [impl_gcd.l0, h, if_false]
      exact ev_to (ih _ (by omega) b _ rfl hb h1) (by rw [h3])
theorem impl_gcd_ev (n d : Int) (hn : -4611686018427387904 ≤ n ∧ n ≤ 4611686018427387904) (hd : 0 ≤ d) : Ev (fun k => impl_gcd.f k n d) (Int.gcd n d : Nat) := by
  have g := impl_gcd_loop d.toNat (n.natAbs : Int) d rfl (by omega) (by omega)
  have eg : Nat.gcd ((n.natAbs : Int)).toNat d.toNat = Int.gcd n d := by rw [Int.gcd, Int.toNat_natCast]; congr 1; omega
  rw [eg] at g
  simp only [impl_gcd.f]
  by_cases h : n < 0
  · simp only [h, if_true]
    refine ev_succ ?_
    simp only [impl_gcd.j0]
    rw [w64 (by omega) (by omega), show -n = (n.natAbs : Int) by omega]
    exact g
  · simp only [h, if_false]
    refine ev_succ ?_
    simp only [impl_gcd.j0]
    rw [show (n : Int) = (n.natAbs : Int) by omega]
    rw [show ((n.natAbs : Int)).gcd d = n.gcd d by simp [Int.gcd]]
    exact g
theorem impl_fraction_ev (n d : Int) (hn : -4611686018427387904 ≤ n ∧ n ≤ 4611686018427387904) (hd : 0 < d ∧ d ≤ 4611686018427387904) : Ev (fun k => impl_fraction.f k n d) (mkF n d) := by
  simp only [impl_fraction.f, show ¬ d < 0 by omega, if_false]
  have pos : 0 < Int.gcd n d := Int.gcd_pos_of_ne_zero_right n (by omega)
  refine Ev.bind (impl_gcd_ev n d hn (by omega)) ?_
  have b1 := tdiv_bound n (Int.gcd n d)
  have b2 := tdiv_bound d (Int.gcd n d)
  simp only [show ¬ ((Int.gcd n d : Nat) : Int) = 0 by omega, if_false, w64 (n := Int.tdiv n (Int.gcd n d : Nat)) (by omega) (by omega), w64 (n := Int.tdiv d (Int.gcd n d : Nat)) (by omega) (by omega)]
  exact ev_now _

theorem impl_addFractions_ev (n1 d1 n2 d2 : Int) (h1 : 0 ≤ n1) (h2 : 0 ≤ n2) (k1 : 0 < d1) (k2 : 0 < d2) (b1 : n1 * d2 + n2 * d1 ≤ 4611686018427387904) (b2 : d1 * d2 ≤ 4611686018427387904) :
    Ev (fun k => impl_addFractions.f k n1 d1 n2 d2) (mkF (n1 * d2 + n2 * d1) (d1 * d2)) := by
  simp only [impl_addFractions.f]
  have pos : 0 < Int.gcd d1 d2 := Int.gcd_pos_of_ne_zero_right d1 (by omega)
  have q1 : (Int.gcd d1 d2 : Int) * Int.tdiv d1 (Int.gcd d1 d2 : Nat) = d1 := Int.mul_tdiv_cancel' (Int.gcd_dvd_left ..)
  have q2 : (Int.gcd d1 d2 : Int) * Int.tdiv d2 (Int.gcd d1 d2 : Nat) = d2 := Int.mul_tdiv_cancel' (Int.gcd_dvd_right ..)
  have kd : d1 ≤ d1 * d2 := by have := Int.mul_le_mul_of_nonneg_left (show 1 ≤ d2 by omega) (show 0 ≤ d1 by omega); omega
  have kd2 : d2 ≤ d1 * d2 := le_mul_pos k1 (by omega)
  refine Ev.bind (impl_gcd_ev d1 d2 (by omega) (by omega)) ?_
  have gne : ¬ ((Int.gcd d1 d2 : Nat) : Int) = 0 := by omega
  simp only [gne, if_false]
  generalize hg : ((Int.gcd d1 d2 : Nat) : Int) = g at q1 q2 gne ⊢
  generalize he1 : Int.tdiv d1 g = e1 at q1 ⊢
  generalize he2 : Int.tdiv d2 g = e2 at q2 ⊢
  have gp : 0 < g := by omega
  have p1 : 0 < e1 := pos_of_mul gp (by omega)
  have p2 : 0 < e2 := pos_of_mul gp (by omega)
  have l1 : e1 ≤ d1 := by have := le_mul_pos gp (Int.le_of_lt p1); omega
  have l2 : e2 ≤ d2 := by have := le_mul_pos gp (Int.le_of_lt p2); omega
  have m1 := mul_bd h1 (Int.le_refl n1) (Int.le_of_lt p2) l2
  have m2 := mul_bd h2 (Int.le_refl n2) (Int.le_of_lt p1) l1
  have m3 := mul_bd (Int.le_of_lt p1) l1 (Int.le_of_lt k2) (Int.le_refl d2)
  have m4 : 0 < e1 * d2 := Int.mul_pos p1 k2
  have z1 := mul_bd h1 (Int.le_refl n1) (Int.le_of_lt k2) (Int.le_refl d2)
  have z2 := mul_bd h2 (Int.le_refl n2) (Int.le_of_lt k1) (Int.le_refl d1)
  rw [w64 (n := e2) (by omega) (by omega), w64 (n := e1) (by omega) (by omega), w64 (n := n1 * e2) (by omega) (by omega), w64 (n := n2 * e1) (by omega) (by omega), w64 (n := n1 * e2 + n2 * e1) (by omega) (by omega), w64 (n := e1 * d2) (by omega) (by omega)]
  refine Ev.bind (impl_fraction_ev _ _ (by omega) (by omega)) (ev_to (ev_now _) ?_)
  rw [← mkF_scale g _ _ gp]
  have s1 : g * (n1 * e2 + n2 * e1) = n1 * d2 + n2 * d1 := by
    rw [Int.mul_add, ← q1, ← q2]; congr 1 <;> rw [Int.mul_left_comm]
  have s2 : g * (e1 * d2) = d1 * d2 := by rw [← Int.mul_assoc, q1]
  rw [s1, s2]

/-! ### the program's sort of at most twelve lines -/
theorem cmpS (a b c d : Int) : ∃ r, impl_sharedLength_1.f a b c d = some r ∧ (r < 0 ↔ a < c) := by
  simp only [impl_sharedLength_1.f, cmp_Compare_int64.f, cmp_isNaN_int64.f, Option.bind_some, bne_self_eq_false, Bool.false_eq_true, if_false]
  by_cases h : a < c
  · exact ⟨-1, by simp only [h, if_true, Option.bind_some], by simp [h]⟩
  · by_cases h2 : a > c
    · exact ⟨1, by simp only [h, h2, if_true, if_false, Option.bind_some], by simp [h]⟩
    · exact ⟨0, by simp only [h, h2, if_false, Option.bind_some], by simp [h]⟩
theorem swap_at {α : Type} (z : α) (A B : List α) (y x : α) : (A ++ y :: x :: B).getD (A.length + 1) z = x ∧ (A ++ y :: x :: B).getD A.length z = y ∧ ((A ++ y :: x :: B).set (A.length + 1) y).set A.length x = A ++ x :: y :: B := by
  refine ⟨by simp [List.getD_eq_getElem?_getD], by simp [List.getD_eq_getElem?_getD], ?_⟩
  rw [List.set_append_right _ _ (by omega), List.set_append_right _ _ (by omega)]
  simp
theorem impl_insert_loop (s B : List S28) (x : S28) (i : Int) (b : Int) (hl : s.length + 1 + B.length ≤ 1048576) {r : List S28}
    (hr : Ev (fun k => impl_Spring_78.l0 k (insS s x ++ B) 0 b (wrap64 (i + 1))) r) : ∀ m, m ≤ s.length → posG s x.f0 m = posG s x.f0 s.length →
    Ev (fun k => impl_Spring_78.l1 k ((s.take m ++ x :: s.drop m) ++ B) 0 b i (m : Int)) r := by
  have fin : ∀ m : Nat, m ≤ s.length → m = posG s x.f0 s.length → Ev (fun k => impl_Spring_78.l0 k ((s.take m ++ x :: s.drop m) ++ B) 0 b (wrap64 (i + 1))) r := by
    intro m hm he
    have : insS s x = s.take m ++ x :: s.drop m := by unfold insS; rw [← he]; simp
    rw [← this]; exact hr
  intro m
  induction m with
  | zero =>
    intro hm he
    refine ev_succ ?_
    simp only [impl_Spring_78.l1, show ¬ (((0 : Nat) : Int) > 0) by omega, if_false]
    exact fin 0 hm (by rw [← he]; rfl)
  | succ m ih =>
    intro hm he
    have hs : s.take (m + 1) = s.take m ++ [s.getD m z28] := by rw [List.take_succ_eq_append_getElem (by omega), getD_lt _ _ (by omega)]
    have hd : s.drop m = s.getD m z28 :: s.drop (m + 1) := by rw [List.drop_eq_getElem_cons (by omega), getD_lt _ _ (by omega)]
    have tl : (s.take m).length = m := by rw [List.length_take]; omega
    have e0 : (s.take (m + 1) ++ x :: s.drop (m + 1)) ++ B = s.take m ++ s.getD m z28 :: x :: (s.drop (m + 1) ++ B) := by rw [hs]; simp
    have w1 : wrap64 (((m + 1 : Nat) : Int) - 1) = (m : Int) := by rw [w64 (by omega) (by omega)]; omega
    have len : (s.take m ++ s.getD m z28 :: x :: (s.drop (m + 1) ++ B)).length = s.length + 1 + B.length := by simp; omega
    obtain ⟨g1, g2, g3⟩ := swap_at z28 (s.take m) (s.drop (m + 1) ++ B) (s.getD m z28) x
    rw [tl] at g1 g2 g3
    obtain ⟨c, hc1, hc2⟩ := cmpS x.f0 x.f1 (s.getD m z28).f0 (s.getD m z28).f1
    rw [e0]
    refine ev_succ ?_
    simp only [impl_Spring_78.l1, w1, show ((m + 1 : Nat) : Int) > 0 by omega, show (0 : Int) ≤ ((m + 1 : Nat) : Int) by omega, len, show ((m + 1 : Nat) : Int) < ((s.length + 1 + B.length : Nat) : Int) by omega, show (0 : Int) ≤ (m : Int) by omega, show (m : Int) < ((s.length + 1 + B.length : Nat) : Int) by omega, if_true, rd_T28, Int.toNat_natCast, g1, g2, hc1, Option.bind_some]
    by_cases h : (s.getD m z28).f0 > x.f0
    · have e2 : posG s x.f0 m = posG s x.f0 s.length := by rw [← he]; show _ = (if _ then _ else _); rw [if_pos h]
      have i1 := ih (by omega) e2
      have e3 : (s.take m ++ x :: s.drop m) ++ B = s.take m ++ x :: s.getD m z28 :: (s.drop (m + 1) ++ B) := by rw [hd]; simp
      rw [e3] at i1
      simp only [show c < 0 from hc2.2 h, if_true]
      show Ev (fun k => impl_Spring_78.l1 k (((s.take m ++ s.getD m z28 :: x :: (s.drop (m + 1) ++ B)).set (m + 1) (s.getD m z28)).set m x) 0 b i (m : Int)) r
      rw [g3]
      exact i1
    · have e2 : m + 1 = posG s x.f0 s.length := by rw [← he]; show _ = (if _ then _ else _); rw [if_neg h]
      have f := fin (m + 1) hm e2
      rw [e0] at f
      simp only [show ¬ c < 0 from fun q => h (hc2.1 q), if_false]
      exact f
theorem impl_isort_ev (xs : List S28) (h1 : 1 ≤ xs.length) (h : xs.length ≤ 1048576) : Ev (fun k => impl_Spring_78.f k xs 0 (xs.length : Int) 0) (sortL xs xs.length) := by
  simp only [impl_Spring_78.f]
  have key : ∀ d n, n + d = xs.length → 1 ≤ n → Ev (fun k => impl_Spring_78.l0 k (sortL xs n ++ xs.drop n) 0 (xs.length : Int) (n : Int)) (sortL xs xs.length) := by
    intro d
    induction d with
    | zero =>
      intro n hn _
      simp only [Nat.add_zero] at hn
      subst hn
      refine ev_succ ?_
      simp only [impl_Spring_78.l0, Int.lt_irrefl, if_false, List.drop_length, List.append_nil]
      exact ev_now _
    | succ d ih =>
      intro n hn h0
      have hl := sortL_length xs (show n ≤ xs.length by omega)
      have e1 : sortL xs (n + 1) = insS (sortL xs n) (xs.getD n z28) := foldl_take_succ xs _ _ _ (by omega)
      have hd : xs.drop n = xs.getD n z28 :: xs.drop (n + 1) := by rw [List.drop_eq_getElem_cons (by omega), getD_lt _ _ (by omega)]
      have i1 := ih (n + 1) (by omega) (by omega)
      rw [e1, show ((n + 1 : Nat) : Int) = wrap64 ((n : Int) + 1) by rw [w64 (by omega) (by omega)]; omega] at i1
      have l := impl_insert_loop (sortL xs n) (xs.drop (n + 1)) (xs.getD n z28) (n : Int) (xs.length : Int) (by rw [hl, List.length_drop]; omega) i1 (sortL xs n).length (Nat.le_refl _) rfl
      rw [List.take_length, List.drop_length, hl] at l
      refine ev_succ ?_
      simp only [impl_Spring_78.l0, show (n : Int) < (xs.length : Int) by omega, if_true]
      rw [hd]
      simpa using l
  have e0 : xs = sortL xs 1 ++ xs.drop 1 := by
    cases xs with
    | nil => simp at h1
    | cons x xs => simp [sortL, insS, posG]
  have := key (xs.length - 1) 1 (by omega) (by omega)
  rw [← e0] at this
  rw [show wrap64 (0 + 1) = ((1 : Nat) : Int) by unfold wrap64; omega]
  exact this
set_option maxRecDepth 20000 in
theorem bits_Len_ex (n : Nat) (h : n ≤ 4) : ∃ r, Ev (fun k => bits_Len.f k (IntKind.u64.wrap (n : Int))) r := by
  have e : IntKind.u64.wrap (n : Int) = (n : Int) := by simp only [IntKind.wrap, IntKind.bits, IntKind.signed]; simp; omega
  rw [e]
  simp only [bits_Len.f, bits_Len64.f, show ¬ ((n : Int) ≥ 4294967296) by omega, if_false]
  have j : ∃ r, Ev (fun k => bits_Len64.j0 k (n : Int) 0) r := by
    have j1 : ∃ r, ∀ k, bits_Len64.j0 (k + 1) (n : Int) 0 = some r := by
      refine ⟨?R, fun k => ?go⟩
      case go =>
        show (if (n : Int) ≥ 65536 then _ else _) = _
        rw [if_neg (show ¬ ((n : Int) ≥ 65536) by omega), if_neg (show ¬ ((n : Int) ≥ 256) by omega), if_pos (show (0 : Int) ≤ (n : Int) % 256 by omega), if_pos (show (n : Int) % 256 < 256 by omega)]
    obtain ⟨r, hr⟩ := j1
    exact ⟨r, ev_succ (by simp only [hr]; exact ev_now _)⟩
  obtain ⟨r, hr⟩ := j
  exact ⟨r, Ev.bind hr (ev_now _)⟩
theorem impl_sort_ev (xs : List S28) (h : 1 ≤ xs.length ∧ xs.length ≤ 4) : Ev (fun k => impl_Spring_71.f k xs 0) (sortL xs xs.length) := by
  obtain ⟨n, hn⟩ := bits_Len_ex xs.length h.2
  simp only [impl_Spring_71.f]
  refine Ev.bind hn ?_
  refine Ev.bind (a := sortL xs xs.length) (ev_succ ?_) (ev_now _)
  simp only [impl_Spring_75.f]
  refine ev_succ ?_
  simp only [impl_Spring_75.l0, show wrap64 ((xs.length : Int) - 0) ≤ 12 by rw [w64 (by omega) (by omega)]; omega, if_true]
  exact Ev.bind (impl_isort_ev xs h.1 (by omega)) (ev_now _)
/-! ### the length that lines share, as the program finds it -/
theorem mkF_one (p : Int) : mkF p 1 = (p, 1) := by
  unfold mkF; rw [Int.gcd_one]; simp
theorem sumS_w (p : Int) (hp : 1 ≤ p ∧ p ≤ 10000) (pre : List S28) (x : S28) (ho : okS (pre ++ [x])) (hl : pre.length + 1 ≤ 4) : wrap64 (sumS pre + x.f1) = sumS (pre ++ [x]) ∧ wrap64 (p + sumS (pre ++ [x])) = p + sumS (pre ++ [x]) := by
  have s1 := sumS_bd _ ho
  rw [List.length_append, List.length_singleton] at s1
  have e := sumS_snoc pre x
  rw [← e]
  generalize sumS (pre ++ [x]) = z at *
  constructor
  · exact w64 (by omega) (by omega)
  · exact w64 (by omega) (by omega)
theorem impl_shared_loop (p : Int) (hp : 1 ≤ p ∧ p ≤ 10000) (s : List S28) (os : okS s) (ls : s.length ≤ 4) : ∀ (rest pre : List S28) (q : Int × Int) (a b : Int), rest ≠ [] → s = pre ++ rest → frI (sumQ pre) pre.length q →
    Ev (fun k => impl_sharedLength.l0 k p s (sumS pre) s (s.length : Int) (pre.length : Int) q.1 q.2 a b) (shR p pre q rest)
  | [], _, _, _, _, h, _, _ => absurd rfl h
  | x :: rest, pre, q, a, b, _, he, hq => by
    have ho : okS (pre ++ x :: rest) := he ▸ os
    have hl : (pre ++ x :: rest).length ≤ 4 := he ▸ ls
    have hx := ho x (by simp)
    have o := ok_of hx
    have ho0 : okS pre := fun z hz => ho z (by simp [hz])
    have ho1 : okS (pre ++ [x]) := fun z hz => ho z (by simp at hz ⊢; rcases hz with hz | hz <;> simp [hz])
    have hlen : pre.length + 1 ≤ 4 := by simp at hl; omega
    have hn := fr_next (c := x.f1) hq o.1 (by omega)
    rw [← sumQ_snoc] at hn
    have hn' : frI (sumQ (pre ++ [x])) (pre ++ [x]).length (qStep q x) := by simpa [qStep] using hn
    have b0 := fr_bd (M := 4000) hq (by omega) (by have := (sumQ_bd pre ho0).2; have : (1000 * (pre.length : Int)) * bigK ≤ 4000 * bigK := Int.mul_le_mul_of_nonneg_right (by omega) (Int.le_of_lt bigK_pos); omega)
    have b1 := fr_bd (M := 4000) hn (by omega) (by have := (sumQ_bd _ ho1).2; have : (1000 * ((pre ++ [x]).length : Int)) * bigK ≤ 4000 * bigK := Int.mul_le_mul_of_nonneg_right (by simp; omega) (Int.le_of_lt bigK_pos); omega)
    have s0 := sumS_bd pre ho0
    have s1 := sumS_bd _ ho1
    have gx : (pre ++ x :: rest).getD pre.length z28 = x := by simp [List.getD_eq_getElem?_getD]
    have qp : 0 < (qStep q x).1 := by
      have e := hn'.2.2.1
      have := Int.mul_pos (sumQ_pos ho1 (by simp)) hn'.1
      rcases Int.lt_or_le 0 (qStep q x).1 with h | h
      · exact h
      · have h0 := hn'.2.1; rw [show (qStep q x).1 = 0 by omega] at e; omega
    have n1 : (qStep q x).1 ≤ 51840000000 := by have := b1.2; unfold qStep; omega
    have n2 : (qStep q x).2 ≤ 12960000 := b1.1
    have m4 := mul_bd (show 0 ≤ p + sumS (pre ++ [x]) by omega) (show p + sumS (pre ++ [x]) ≤ 14000 by have := s1.2; simp at this; omega) (Int.le_of_lt hn'.1) n2
    have mp := mkF_pos ((p + sumS (pre ++ [x])) * (qStep q x).2) (qStep q x).1 m4.1 qp
    have um := mkF_mul x.f1 x.f0 (by omega)
    have up := mkF_pos x.f1 x.f0 (by omega) (by omega)
    have qe : qStep q x = mkF (q.1 * (mkF x.f1 x.f0).2 + (mkF x.f1 x.f0).1 * q.2) (q.2 * (mkF x.f1 x.f0).2) := by
      unfold qStep
      obtain ⟨g, hg, e1, e2⟩ := um
      generalize mkF x.f1 x.f0 = u at e1 e2 ⊢
      have z1 : q.1 * x.f0 + x.f1 * q.2 = g * (q.1 * u.2 + u.1 * q.2) := by rw [e1, e2, Int.mul_add, Int.mul_left_comm, Int.mul_assoc]
      have z2 : q.2 * x.f0 = g * (q.2 * u.2) := by rw [e2, Int.mul_left_comm]
      rw [z1, z2, mkF_scale g _ _ hg]
    have y1 := mul_bd hq.2.1 (show q.1 ≤ 51840000000 by omega) (show 0 ≤ (mkF x.f1 x.f0).2 by omega) (show (mkF x.f1 x.f0).2 ≤ 60 by omega)
    have y2 := mul_bd up.1 (show (mkF x.f1 x.f0).1 ≤ 1000 by omega) (show 0 ≤ q.2 by have := hq.1; omega) b0.1
    have y3 := mul_bd (show 0 ≤ q.2 by have := hq.1; omega) b0.1 (show 0 ≤ (mkF x.f1 x.f0).2 by omega) (show (mkF x.f1 x.f0).2 ≤ 60 by omega)
    have af := impl_addFractions_ev q.1 q.2 (mkF x.f1 x.f0).1 (mkF x.f1 x.f0).2 hq.2.1 up.1 hq.1 up.2.2.1 (by omega) (by omega)
    rw [← qe] at af
    have hA : (pre.length : Int) < (s.length : Int) := by rw [he, List.length_append, List.length_cons]; omega
    have wn : wrap64 ((pre.length : Int) + 1) = ((pre.length + 1 : Nat) : Int) := by rw [w64 (by omega) (by omega)]; omega
    have gs : s.getD pre.length z28 = x := by rw [he]; exact gx
    refine ev_succ ?_
    simp only [impl_sharedLength.l0, hA, show (0 : Int) ≤ (pre.length : Int) from Int.natCast_nonneg _, if_true, rd_T28, Int.toNat_natCast, gs]
    refine Ev.bind (impl_fraction_ev x.f1 x.f0 (by omega) (by omega)) (Ev.bind af ?_)
    rw [(sumS_w p hp pre x ho1 hlen).1, (sumS_w p hp pre x ho1 hlen).2, w64 (n := (p + sumS (pre ++ [x])) * (qStep q x).2) (by omega) (by omega)]
    refine Ev.bind (impl_fraction_ev _ _ (by omega) (by omega)) ?_
    rw [wn]
    cases rest with
    | nil =>
      have hE : ((pre.length + 1 : Nat) : Int) = (s.length : Int) := by rw [he]; simp
      simp only [hE, if_true]
      exact ev_now _
    | cons y rest =>
      have gy : s.getD (pre.length + 1) z28 = y := by rw [he]; simp [List.getD_eq_getElem?_getD]
      have hB : ¬ (((pre.length + 1 : Nat) : Int) = (s.length : Int)) := by rw [he]; exact (len_cons2 pre x y rest).1
      have hC : ((pre.length + 1 : Nat) : Int) < (s.length : Int) := by rw [he]; exact (len_cons2 pre x y rest).2
      have hD : (0 : Int) ≤ ((pre.length + 1 : Nat) : Int) := Int.natCast_nonneg _
      have oy := ok_of (ho y (by simp))
      have m5 := mul_bd (show 0 ≤ y.f0 by omega) oy.1.2 (Int.le_of_lt mp.2.2.1) (Int.le_refl _)
      simp only [hB, if_false, hD, hC, if_true, Int.toNat_natCast, gy]
      rw [w64 (n := y.f0 * (mkF ((p + sumS (pre ++ [x])) * (qStep q x).2) (qStep q x).1).2) (by omega) (by omega)]
      unfold shR
      by_cases hc : (mkF ((p + sumS (pre ++ [x])) * (qStep q x).2) (qStep q x).1).1 ≤ y.f0 * (mkF ((p + sumS (pre ++ [x])) * (qStep q x).2) (qStep q x).1).2
      · simp only [hc, if_true]; exact ev_now _
      · simp only [hc, if_false]
        have := impl_shared_loop p hp s os ls (y :: rest) (pre ++ [x]) (qStep q x) (mkF ((p + sumS (pre ++ [x])) * (qStep q x).2) (qStep q x).1).1 (mkF ((p + sumS (pre ++ [x])) * (qStep q x).2) (qStep q x).1).2 (by simp) (by rw [he]; simp) hn'
        rw [show ((pre ++ [x]).length : Int) = ((pre.length + 1 : Nat) : Int) by simp] at this
        exact this
theorem impl_sharedLength_ev (xs : List S28) (p : Int) (hp : 0 ≤ p ∧ p ≤ 10000) (hl : 1 ≤ xs.length ∧ xs.length ≤ 4) (ho : okS xs) : Ev (fun k => impl_sharedLength.f k xs p) (sharedV xs p) := by
  have hsl := sortL_length xs (Nat.le_refl _)
  have hso : okS (sortL xs xs.length) := fun x hx => ho x ((sortL_all xs).mem_iff.1 hx)
  simp only [impl_sharedLength.f, Option.bind_some, List.length_nil, List.nil_append, show 0 + xs.length < 8796093022208 by omega, if_true]
  refine Ev.bind (impl_sort_ev xs hl) ?_
  unfold sharedV
  by_cases h : p = 0
  · have hm : (sortL xs xs.length).getD 0 z28 ∈ xs := by
      refine (sortL_all xs).mem_iff.1 ?_
      rw [getD_lt _ _ (by omega)]
      exact List.getElem_mem _
    have o := ok_of (ho _ hm)
    simp only [h, if_true, show (0 : Int) < (xs.length : Int) by omega, rd_T28]
    refine Ev.bind (impl_fraction_ev _ 1 (by have e : (0 : Int).toNat = 0 := rfl; rw [e]; omega) (by omega)) ?_
    rw [mkF_one]
    exact ev_now _
  · simp only [h, if_false]
    refine Ev.bind (impl_fraction_ev 0 1 (by omega) (by omega)) ?_
    rw [mkF_one]
    have := impl_shared_loop p (by omega) (sortL xs xs.length) hso (by omega) (sortL xs xs.length) [] (0, 1) 0 0 (by intro e; rw [e] at hsl; simp at hsl; omega) rfl ⟨by decide, by decide, by simp [sumQ], by simp⟩
    rw [hsl] at this
    simpa [sumS] using this
theorem okS_of {xs : List S28} (h : springsB xs = true) : (1 ≤ xs.length ∧ xs.length ≤ 4) ∧ okS xs := by
  unfold springsB at h
  simp only [Bool.and_eq_true, decide_eq_true_eq, List.all_eq_true] at h
  exact h
/-- The code of lines and a load. -/
def codeV (xs : List S28) (p : Int) : Int := if springsB xs = true then if 0 ≤ p ∧ p ≤ 10000 then 0 else 2 else 1
theorem spec_l04Code_ev (xs : List S28) (h : xs.length ≤ 1048576) (p : Int) : Ev (fun k => spec_l04Code.f k xs p) (codeV xs p) := by
  simp only [spec_l04Code.f, spec_l04Pull.f, spec_l00In_eq, Option.bind_some]
  refine Ev.bind (spec_l04Ok_ev xs h) ?_
  unfold codeV
  cases springsB xs
  · simp only [Bool.false_eq_true, if_false]; exact ev_now _
  · by_cases hp : 0 ≤ p ∧ p ≤ 10000
    · simp only [hp, and_self, decide_true, if_true]; exact ev_now _
    · simp only [hp, decide_false, if_true, Bool.false_eq_true, if_false]; exact ev_now _

/-! ### the lines that bear nothing, in the specification -/
theorem spec_l04Slack_ev (xs : List S28) (p : Int) (hp : 0 ≤ p ∧ p ≤ 10000) (hl : 1 ≤ xs.length ∧ xs.length ≤ 4) (ho : okS xs) : Ev (fun k => spec_l04Slack.f k xs p) (slackL (sharedV xs p) xs xs.length) := by
  simp only [spec_l04Slack.f]
  refine Ev.bind (spec_l04Shared_ev xs p hp hl ho) ?_
  have bd := sharedV_bd xs p hp hl ho
  generalize sharedV xs p = q at bd ⊢
  show Ev (fun k => spec_l04Slack.l0 k xs (slackL q xs 0) 0 q.1 q.2) _
  refine ev_fold (len := xs.length) (g := fun k s i => spec_l04Slack.l0 k xs s i q.1 q.2) (fun n s => if q.1 ≤ (xs.getD n z28).f0 * q.2 then s ++ [(n : Int)] else s) (slackL q xs) _ (fun n hn => slackL_succ q xs n) ?_ ?_
  · intro n hn r hr
    have hs := slackL_len q xs n
    have o := ok_of (ho (xs.getD n z28) (by rw [getD_lt _ _ hn]; exact List.getElem_mem _))
    have m := mul_bd (show 0 ≤ (xs.getD n z28).f0 by omega) o.1.2 (Int.le_of_lt bd.2.2.1) bd.2.2.2
    refine ev_succ ?_
    simp only [spec_l04Slack.l0, Int.ofNat_lt.2 hn, show (0 : Int) ≤ (n : Int) from Int.natCast_nonneg _, if_true, rd_T28, Int.toNat_natCast, wnext hn (by omega : xs.length ≤ 9223372036854775807), show (slackL q xs n).length < 17592186044416 by omega]
    rw [w64 (n := (xs.getD n z28).f0 * q.2) (by omega) (by omega)]
    by_cases hc : q.1 ≤ (xs.getD n z28).f0 * q.2
    · simp only [hc, if_true] at hr ⊢; exact hr
    · simp only [hc, if_false] at hr ⊢; exact hr
  · refine ev_succ ?_
    simp only [spec_l04Slack.l0, Int.lt_irrefl, if_false]
    exact ev_now _

/-! ### the force of a line at a shared length -/
theorem mkF_zero (d : Int) (h : 0 < d) : mkF 0 d = (0, 1) := by
  unfold mkF; rw [Int.gcd_zero_left, Int.natAbs_of_nonneg (by omega), Int.zero_tdiv, Int.tdiv_self (by omega)]
def forceV (x : S28) (q : Int × Int) : Int × Int := if q.1 ≤ x.f0 * q.2 then (0, 1) else mkF (x.f1 * (q.1 - x.f0 * q.2)) (x.f0 * q.2)
theorem forceV_zero (x : S28) (q : Int × Int) (h : springB x.f0 x.f1 = true) (bd : 0 ≤ q.1 ∧ q.1 ≤ 181440000000 ∧ 0 < q.2 ∧ q.2 ≤ 51840000000) : (forceV x q).1 = 0 ↔ q.1 ≤ x.f0 * q.2 := by
  have o := ok_of h
  unfold forceV
  by_cases hc : q.1 ≤ x.f0 * q.2
  · simp [hc]
  · simp only [hc, if_false, iff_false]
    have m := Int.mul_pos (show 0 < x.f1 by omega) (show 0 < q.1 - x.f0 * q.2 by omega)
    have d := Int.mul_pos (show 0 < x.f0 by omega) bd.2.2.1
    obtain ⟨g, hg, e1, e2⟩ := mkF_mul (x.f1 * (q.1 - x.f0 * q.2)) (x.f0 * q.2) d
    intro hz
    rw [hz] at e1
    omega
theorem impl_springForce_ev (x : S28) (q : Int × Int) (h : springB x.f0 x.f1 = true) (bd : 0 ≤ q.1 ∧ q.1 ≤ 181440000000 ∧ 0 < q.2 ∧ q.2 ≤ 51840000000) : Ev (fun k => impl_springForce.f k x.f0 x.f1 q.1 q.2) (forceV x q) := by
  have o := ok_of h
  have m := mul_bd (show 0 ≤ x.f0 by omega) o.1.2 (Int.le_of_lt bd.2.2.1) bd.2.2.2
  have d := Int.mul_pos (show 0 < x.f0 by omega) bd.2.2.1
  simp only [impl_springForce.f]
  unfold forceV
  rw [w64 (n := x.f0 * q.2) (by omega) (by omega)]
  by_cases hc : q.1 ≤ x.f0 * q.2
  · simp only [hc, if_true]
    refine Ev.bind (impl_fraction_ev 0 1 (by omega) (by omega)) ?_
    rw [mkF_one]
    exact ev_now _
  · simp only [hc, if_false]
    have m2 := mul_bd (show 0 ≤ x.f1 by omega) o.2.2 (show 0 ≤ q.1 - x.f0 * q.2 by omega) (show q.1 - x.f0 * q.2 ≤ 181440000000 by omega)
    rw [w64 (n := q.1 - x.f0 * q.2) (by omega) (by omega), w64 (n := x.f1 * (q.1 - x.f0 * q.2)) (by omega) (by omega)]
    exact Ev.bind (impl_fraction_ev _ _ (by omega) (by omega)) (ev_now _)

def conv_Spring (x : S23) : S28 := ⟨x.f0, x.f1⟩
theorem laws_toSpringS_ev (xs : List S23) (h : xs.length ≤ 1048576) : Ev (fun k => laws_toSpringS.f k xs) (xs.map conv_Spring) := by
  simp only [laws_toSpringS.f, Int.toNat_natCast, show (0 : Int) ≤ (xs.length : Int) from Int.natCast_nonneg _, if_true]
  rw [if_pos_ev (by omega)]
  have e : List.replicate xs.length z28 = (xs.take 0).map conv_Spring ++ List.replicate (xs.length - 0) z28 := by simp
  have e2 : xs.map conv_Spring = (xs.take xs.length).map conv_Spring ++ List.replicate (xs.length - xs.length) z28 := by simp
  rw [e, e2]
  refine ev_fold (len := xs.length) (g := fun k s i => laws_toSpringS.l0 k xs s i) (fun n s => s.set n (conv_Spring (xs.getD n z23))) (fun n => (xs.take n).map conv_Spring ++ List.replicate (xs.length - n) z28) _ ?_ ?_ ?_
  · intro n hn; exact (fill_step xs conv_Spring _ _ hn).symm
  · intro n hn r hr
    refine ev_succ ?_
    have l1 : (n : Int) < (((xs.take n).map conv_Spring ++ List.replicate (xs.length - n) z28).length : Int) := by simp; omega
    simp only [laws_toSpringS.l0, laws_toSpring.f, Option.bind_some, Int.ofNat_lt.2 hn, show (0 : Int) ≤ (n : Int) from Int.natCast_nonneg _, if_true, l1, wnext hn (by omega : xs.length ≤ 9223372036854775807), rd_T23, Int.toNat_natCast]
    exact hr
  · refine ev_succ ?_
    simp only [laws_toSpringS.l0, Int.lt_irrefl, if_false]
    exact ev_now _

theorem laws_eqSpringS_self (xs : List S28) (h : xs.length ≤ 9223372036854775807) : Ev (fun k => laws_eqSpringS.f k xs xs) true := by
  simp only [laws_eqSpringS.f, if_true]
  refine ev_to (ev_all (len := xs.length) (g := fun k i => laws_eqSpringS.l0 k xs xs i) (fun _ => true) true ?_ (fun n hn hp => by simp at hp) ?_) (by simp)
  · intro n hn hp r hr
    refine ev_succ ?_
    simp only [laws_eqSpringS.l0, laws_eqSpring.f, Option.bind_some, Int.ofNat_lt.2 hn, show (0 : Int) ≤ (n : Int) from Int.natCast_nonneg _, if_true, bne_self_eq_false, Bool.false_eq_true, if_false, wnext hn h]
    exact hr
  · refine ev_succ ?_
    simp only [laws_eqSpringS.l0, Int.lt_irrefl, if_false]
    exact ev_now _

theorem laws_markSpringS_ev (xs : List S28) (h : xs.length ≤ 1048576) : ∃ r, Ev (fun k => laws_markSpringS.f k xs 1) r ∧ 0 ≤ r.1 := by
  simp only [laws_markSpringS.f]
  refine ev_loop (len := xs.length) (g := fun k (s : List S28 × Int) i => laws_markSpringS.l0 k s.1 s.2 i) (fun n s => s.1.length = xs.length ∧ s.2 = 1 + 2 * (n : Int)) (fun r => 0 ≤ r.1) ?_ ?_ (xs, 1) ⟨rfl, by simp⟩
  · rintro n ⟨l, q⟩ hn ⟨h1, h2⟩
    simp only at h1 h2
    subst h2
    have e0 : wrap64 (1 + 2 * (n : Int) + 1) = 1 + 2 * (n : Int) + 1 := w64 (by omega) (by omega)
    have e1 : wrap64 (1 + 2 * (n : Int) + 1 + 1) = 1 + 2 * (n : Int) + 1 + 1 := w64 (by omega) (by omega)
    have l1 : (n : Int) < (l.length : Int) := by omega
    refine .inr ⟨(?L, ?Q), ⟨?len, ?num⟩, fun r hr => ?go⟩
    case go =>
      refine ev_succ ?_
      simp only [laws_markSpringS.l0, l1, show (0 : Int) ≤ (n : Int) from Int.natCast_nonneg _, if_true, e0, e1, Option.bind_some, wnext hn (by omega : xs.length ≤ 9223372036854775807)]
      exact hr
    case len => simp [h1]
    case num => simp only; omega
  · rintro ⟨l, q⟩ ⟨h1, h2⟩
    simp only at h1 h2
    subst h2
    refine ⟨(1 + 2 * (xs.length : Int), l), ev_succ ?_, ?_⟩
    · simp only [laws_markSpringS.l0, h1, Int.lt_irrefl, if_false]
      exact ev_now _
    · simp only; omega

theorem laws_eqInt64S_self (xs : List Int) (h : xs.length ≤ 9223372036854775807) : Ev (fun k => laws_eqInt64S.f k xs xs) true := by
  simp only [laws_eqInt64S.f, if_true]
  refine ev_to (ev_all (len := xs.length) (g := fun k i => laws_eqInt64S.l0 k xs xs i) (fun _ => true) true ?_ (fun n hn hp => by simp at hp) ?_) (by simp)
  · intro n hn hp r hr
    refine ev_succ ?_
    simp only [laws_eqInt64S.l0, Int.ofNat_lt.2 hn, show (0 : Int) ≤ (n : Int) from Int.natCast_nonneg _, if_true, wnext hn h]
    exact hr
  · refine ev_succ ?_
    simp only [laws_eqInt64S.l0, Int.lt_irrefl, if_false]
    exact ev_now _

theorem laws_markInt64S_ev (xs : List Int) (h : xs.length ≤ 1048576) : Ev (fun k => laws_markInt64S.f k xs 1) (1 + (xs.length : Int), upI 1 xs.length) := by
  simp only [laws_markInt64S.f]
  have := ev_fold (len := xs.length) (g := fun k (s : List Int × Int) i => laws_markInt64S.l0 k s.1 s.2 i) (fun n s => (s.1.set n s.2, s.2 + 1)) (fun n => (upI 1 n ++ xs.drop n, 1 + (n : Int))) (1 + (xs.length : Int), upI 1 xs.length)
    (fun n hn => by
      rw [Prod.mk.injEq]
      exact ⟨(fill_up xs 1 hn).symm, by omega⟩)
    (fun n hn r hr => by
      refine ev_succ ?_
      have l1 : (n : Int) < ((upI 1 n ++ xs.drop n).length : Int) := by simp [upI_length]; omega
      have e1 : wrap64 (1 + (n : Int) + 1) = 1 + (n : Int) + 1 := w64 (by omega) (by omega)
      simp only [laws_markInt64S.l0, l1, show (0 : Int) ≤ (n : Int) from Int.natCast_nonneg _, if_true, e1, Int.toNat_natCast, wnext hn (by omega : xs.length ≤ 9223372036854775807)]
      exact hr)
    (by
      refine ev_succ ?_
      have l1 : ¬ ((xs.length : Int) < ((upI 1 xs.length ++ xs.drop xs.length).length : Int)) := by simp [upI_length]
      simp only [laws_markInt64S.l0, l1, if_false]
      exact ev_to (ev_now _) (by simp))
  simpa [upI] using this
theorem laws_heldInt64S_ev (n : Nat) (h : n ≤ 1048576) : Ev (fun k => laws_heldInt64S.f k (upI 1 n) 1) (1 + (n : Int)) := by
  simp only [laws_heldInt64S.f]
  have := ev_fold (len := n) (g := fun k (s : Int) i => laws_heldInt64S.l0 k (upI 1 n) s i) (fun _ s => s + 1) (fun i => 1 + (i : Int)) (1 + (n : Int))
    (fun i hi => by omega)
    (fun i hi r hr => by
      refine ev_succ ?_
      have l1 : (i : Int) < ((upI 1 n).length : Int) := by rw [upI_length]; omega
      have e1 : wrap64 (1 + (i : Int) + 1) = 1 + (i : Int) + 1 := w64 (by omega) (by omega)
      have e2 : rd (upI 1 n) (i : Int) = 1 + (i : Int) := by unfold rd; rw [Int.toNat_natCast]; exact upI_get 1 hi
      simp only [laws_heldInt64S.l0, l1, show (0 : Int) ≤ (i : Int) from Int.natCast_nonneg _, if_true, e1, e2, wnext hi (by omega : n ≤ 9223372036854775807)]
      exact hr)
    (by
      refine ev_succ ?_
      have l1 : ¬ ((n : Int) < ((upI 1 n).length : Int)) := by simp [upI_length]
      simp only [laws_heldInt64S.l0, l1, if_false]
      exact ev_now _)
  simpa using this

def slackV (xs : List S28) (p : Int) : List Int × Int := if springsB xs = true then if 0 ≤ p ∧ p ≤ 10000 then (slackL (sharedV xs p) xs xs.length, 0) else ([], 2) else ([], 1)
theorem slackV_len (xs : List S28) (h : xs.length ≤ 1048576) (p : Int) : (slackV xs p).1.length ≤ 1048576 := by
  have := slackL_len (sharedV xs p) xs xs.length
  unfold slackV
  split
  · split
    · simp only; omega
    · simp
  · simp
theorem spec_SlackLines_ev (xs : List S28) (h : xs.length ≤ 1048576) (p : Int) : Ev (fun k => spec_SlackLines.f k xs p) (slackV xs p) := by
  simp only [spec_SlackLines.f]
  have sc := spec_l04Code_ev xs h p
  refine Ev.bind sc ?_
  unfold codeV slackV
  cases hb : springsB xs
  · simp only [Bool.false_eq_true, if_false, show ¬ (1 : Int) = 0 by decide]; exact ev_now _
  · obtain ⟨hl, ho⟩ := okS_of hb
    simp only [if_true]
    by_cases hp : 0 ≤ p ∧ p ≤ 10000
    · simp only [hp, and_self, if_true]
      exact Ev.bind (spec_l04Slack_ev xs p hp hl ho) (ev_now _)
    · simp only [hp, if_false, show ¬ (2 : Int) = 0 by decide]; exact ev_now _
theorem impl_SlackLines_ev (xs : List S28) (h : xs.length ≤ 1048576) (p : Int) : Ev (fun k => impl_SlackLines.f k xs p) (slackV xs p) := by
  simp only [impl_SlackLines.f, impl_within_eq, Option.bind_some]
  refine Ev.bind (impl_ValidSprings_ev xs h) ?_
  unfold slackV
  cases hb : springsB xs
  · simp only [Bool.false_eq_true, if_false]; exact ev_now _
  · obtain ⟨hl, ho⟩ := okS_of hb
    simp only [if_true]
    by_cases hp : 0 ≤ p ∧ p ≤ 10000
    · simp only [hp, and_self, decide_true, if_true]
      refine Ev.bind (impl_sharedLength_ev xs p hp hl ho) ?_
      have bd := sharedV_bd xs p hp hl ho
      generalize sharedV xs p = q at bd ⊢
      show Ev (fun k => impl_SlackLines.l0 k (slackL q xs 0) xs (xs.length : Int) 0 q.1 q.2) _
      refine ev_fold (len := xs.length) (g := fun k s i => impl_SlackLines.l0 k s xs (xs.length : Int) i q.1 q.2) (fun n s => if q.1 ≤ (xs.getD n z28).f0 * q.2 then s ++ [(n : Int)] else s) (slackL q xs) _ (fun n hn => slackL_succ q xs n) ?_ ?_
      · intro n hn r hr
        have hs := slackL_len q xs n
        have ok := ho (xs.getD n z28) (by rw [getD_lt _ _ hn]; exact List.getElem_mem _)
        have fz := forceV_zero _ q ok bd
        have fe := impl_springForce_ev _ q ok bd
        refine ev_succ ?_
        simp only [impl_SlackLines.l0, Int.ofNat_lt.2 hn, show (0 : Int) ≤ (n : Int) from Int.natCast_nonneg _, if_true, rd_T28, Int.toNat_natCast, wnext hn (by omega : xs.length ≤ 9223372036854775807), show (slackL q xs n).length < 17592186044416 by omega]
        refine Ev.bind fe ?_
        by_cases hc : q.1 ≤ (xs.getD n z28).f0 * q.2
        · simp only [fz.2 hc, if_true]; simp only [hc, if_true] at hr; exact hr
        · simp only [show ¬ (forceV (xs.getD n z28) q).1 = 0 from fun e => hc (fz.1 e), if_false]; simp only [hc, if_false] at hr; exact hr
      · refine ev_succ ?_
        simp only [impl_SlackLines.l0, Int.lt_irrefl, if_false]
        exact ev_now _
    · simp only [hp, decide_false, Bool.false_eq_true, if_false]; exact ev_now _
theorem FnExactSlackLines : laws_FnExactSlackLines.Pure := by
  intro xs p hx hp
  refine Ev.rounds ?_
  simp only [laws_FnExactSlackLines.f, laws_szSpringS.f]
  by_cases h : wrap64 (1048576 - (xs.length : Int)) < 0
  · simp only [h, if_true, Option.bind_some, show (-1 : Int) < 0 by decide]; exact ev_now _
  have hl : xs.length ≤ 1048576 := by have := hx.2.1; rw [maxLen_eq] at this; unfold wrap64 at h; omega
  have hm : (xs.map conv_Spring).length ≤ 1048576 := by simpa using hl
  simp only [h, if_false, Option.bind_some]
  have k1 := spec_SlackLines_ev _ hm p
  have k2 := impl_SlackLines_ev _ hm p
  have kl := slackV_len _ hm p
  generalize slackV (xs.map conv_Spring) p = r at k1 k2 kl
  obtain ⟨⟨cnt, ml⟩, m1, m2⟩ := laws_markSpringS_ev (xs.map conv_Spring) hm
  have n1 := laws_markInt64S_ev r.1 kl
  have hh := laws_heldInt64S_ev r.1.length kl
  simp only at m2
  refine Ev.bind (laws_toSpringS_ev xs hl) (Ev.bind k1 (Ev.bind (laws_toSpringS_ev xs hl) (Ev.bind k2 (Ev.bind (laws_eqInt64S_self _ (by omega)) ?_))))
  simp only [if_true, bne_self_eq_false]
  refine ev_succ ?_
  simp only [laws_FnExactSlackLines.j0, Bool.false_eq_true, if_false]
  refine Ev.bind (laws_toSpringS_ev xs hl) (Ev.bind (laws_eqSpringS_self _ (by omega)) ?_)
  simp only [if_true]
  refine Ev.bind m1 ?_
  simp only [show ¬ cnt < 0 by omega, if_false]
  refine Ev.bind (laws_eqInt64S_self _ (by omega)) ?_
  simp only [if_true, bne_self_eq_false]
  refine ev_succ ?_
  simp only [laws_FnExactSlackLines.j1, Bool.false_eq_true, if_false]
  refine Ev.bind n1 (Ev.bind hh ?_)
  simp only [show ¬ (1 + (r.1.length : Int)) < 0 by omega, if_false, if_true]
  refine Ev.bind (laws_toSpringS_ev xs hl) (Ev.bind k2 (Ev.bind (laws_eqInt64S_self _ (by omega)) ?_))
  simp only [if_true, bne_self_eq_false]
  refine ev_succ ?_
  simp only [laws_FnExactSlackLines.j2, Bool.false_eq_true, if_false]
  refine Ev.bind hh ?_
  simp only [show ¬ (1 + (r.1.length : Int)) < 0 by omega, if_false, if_true]
  exact ev_now _

end Go.Proofs.Ytmokjfncblnfcaa.Pure

/- The pure statement of FnSharedLoads: numbers and lists alone. No condition. -/
import Derived.Test.YtmokjfncblnfcaaVQFnSharedLoadsx8
import Derived.Test.YtmokjfncblnfcaaVAid
namespace Go.Proofs.Ytmokjfncblnfcaa.Pure
open Go.RowKit Go.Proofs.Ytmokjfncblnfcaa.QFnSharedLoads Go.Proofs.YtmokjfncblnfcaaW.PrintWords Go.Proofs.YtmokjfncblnfcaaW.PrintLast Go.Proofs.YtmokjfncblnfcaaW.PrintMore Go.Proofs.Ytmokjfncblnfcaa.Aid
set_option linter.unusedVariables false
set_option linter.unusedSimpArgs false


theorem impl_within_eq (a b c : Int) : impl_within.f a b c = some (decide (b ≤ a ∧ a ≤ c)) := by
  unfold impl_within.f
  by_cases h : a ≥ b
  · rw [if_pos h]; congr 1; simp; omega
  · rw [if_neg h]; congr 1; simp; omega

theorem impl_validSpring_eq (l s : Int) : impl_validSpring.f l s = some (springB l s) := by
  simp only [impl_validSpring.f, impl_within_eq, Option.bind_some]
  unfold springB
  by_cases h1 : 1 ≤ l ∧ l ≤ 60
  · simp only [h1, decide_true, if_true, Bool.true_and, and_self]
  · simp only [h1, decide_false, Bool.false_and, Bool.false_eq_true, if_false]

def springsB (xs : List S28) : Bool := decide (1 ≤ xs.length ∧ xs.length ≤ 4) && xs.all fun x => springB x.f0 x.f1
theorem impl_ValidSprings_ev (xs : List S28) (h : xs.length ≤ 1048576) : Ev (fun k => impl_ValidSprings.f k xs) (springsB xs) := by
  simp only [impl_ValidSprings.f]
  by_cases h1 : (xs.length : Int) < 1
  · simp only [h1, if_true]
    refine ev_succ ?_
    simp only [impl_ValidSprings.j0, if_true]
    exact ev_to (ev_now _) (by unfold springsB; rw [show decide (1 ≤ xs.length ∧ xs.length ≤ 4) = false by simp; omega]; rfl)
  · simp only [h1, if_false]
    refine ev_succ ?_
    simp only [impl_ValidSprings.j0]
    by_cases h2 : (xs.length : Int) > 4
    · simp only [h2, decide_true, if_true]
      exact ev_to (ev_now _) (by unfold springsB; rw [show decide (1 ≤ xs.length ∧ xs.length ≤ 4) = false by simp; omega]; rfl)
    · simp only [h2, decide_false, Bool.false_eq_true, if_false]
      refine ev_to (ev_all (len := xs.length) (g := fun k i => impl_ValidSprings.l0 k xs (xs.length : Int) i) (fun n => (fun x : S28 => springB x.f0 x.f1) (xs.getD n z28)) true ?_ ?_ ?_) (by rw [range_all xs z28 (fun x => springB x.f0 x.f1), Bool.and_true]; unfold springsB; rw [show decide (1 ≤ xs.length ∧ xs.length ≤ 4) = true by simp; omega]; rfl)
      · intro n hn hp r hr
        refine ev_succ ?_
        simp only [impl_ValidSprings.l0, impl_validSpring_eq, Option.bind_some, Int.ofNat_lt.2 hn, show (0 : Int) ≤ (n : Int) from Int.natCast_nonneg _, if_true, rd_T28, Int.toNat_natCast, hp, wnext hn (by omega : xs.length ≤ 9223372036854775807)]
        exact hr
      · intro n hn hp
        refine ev_succ ?_
        simp only [impl_ValidSprings.l0, impl_validSpring_eq, Option.bind_some, Int.ofNat_lt.2 hn, show (0 : Int) ≤ (n : Int) from Int.natCast_nonneg _, if_true, rd_T28, Int.toNat_natCast, hp, Bool.false_eq_true, if_false]
        exact ev_now _
      · refine ev_succ ?_
        simp only [impl_ValidSprings.l0, Int.lt_irrefl, if_false]
        exact ev_now _

theorem mkF_scale (c n d : Int) (hc : 0 < c) : mkF (c * n) (c * d) = mkF n d := by
  unfold mkF
  have e : (Int.gcd (c * n) (c * d) : Int) = c * (Int.gcd n d : Int) := by
    rw [Int.gcd_mul_left]; push_cast; rw [Int.natAbs_of_nonneg (by omega)]
  rw [e, Int.mul_tdiv_mul_of_pos _ _ hc, Int.mul_tdiv_mul_of_pos _ _ hc]
theorem mkF_mul (n d : Int) (hd : 0 < d) : ∃ g : Int, 0 < g ∧ n = g * (mkF n d).1 ∧ d = g * (mkF n d).2 := by
  have pos : 0 < Int.gcd n d := Int.gcd_pos_of_ne_zero_right n (by omega)
  exact ⟨(Int.gcd n d : Nat), by omega, (Int.mul_tdiv_cancel' (Int.gcd_dvd_left ..)).symm, (Int.mul_tdiv_cancel' (Int.gcd_dvd_right ..)).symm⟩
theorem pos_of_mul {g x : Int} (hg : 0 < g) (h : 0 < g * x) : 0 < x := by
  rcases Int.lt_or_le 0 x with q | q
  · exact q
  · have := Int.mul_le_mul_of_nonneg_left q (Int.le_of_lt hg); omega
theorem nonneg_of_mul {g x : Int} (hg : 0 < g) (h : 0 ≤ g * x) : 0 ≤ x := by
  rcases Int.lt_or_le x 0 with q | q
  · have := Int.mul_lt_mul_of_pos_left q hg; omega
  · exact q
theorem le_mul_pos {g x : Int} (hg : 0 < g) (hx : 0 ≤ x) : x ≤ g * x := by
  have := Int.mul_le_mul_of_nonneg_right (show (1 : Int) ≤ g by omega) hx; omega
theorem mul_bd {a b A B : Int} (h0 : 0 ≤ a) (h1 : a ≤ A) (h2 : 0 ≤ b) (h3 : b ≤ B) : 0 ≤ a * b ∧ a * b ≤ A * B :=
  ⟨Int.mul_nonneg h0 h2, Int.mul_le_mul h1 h3 h2 (by omega)⟩
theorem mkF_pos (n d : Int) (hn : 0 ≤ n) (hd : 0 < d) : 0 ≤ (mkF n d).1 ∧ (mkF n d).1 ≤ n ∧ 0 < (mkF n d).2 ∧ (mkF n d).2 ≤ d := by
  obtain ⟨g, hg, e1, e2⟩ := mkF_mul n d hd
  have a := nonneg_of_mul hg (show 0 ≤ g * (mkF n d).1 by omega)
  have b := pos_of_mul hg (show 0 < g * (mkF n d).2 by omega)
  have c := le_mul_pos hg a
  have e := le_mul_pos hg (Int.le_of_lt b)
  exact ⟨a, by omega, b, by omega⟩

/-! ### lines that share a load, in whole numbers: everything is scaled by bigK, which each length divides -/
def bigK : Int := 9690712164777231700912800
theorem bigK_div : ∀ i : Fin 60, ((i.val : Int) + 1) * (bigK / ((i.val : Int) + 1)) = bigK := by decide +kernel
theorem bigK_of {l : Int} (h : 1 ≤ l ∧ l ≤ 60) : l * (bigK / l) = bigK := by
  have := bigK_div ⟨(l - 1).toNat, by omega⟩
  rw [show (((⟨(l - 1).toNat, by omega⟩ : Fin 60).val : Int) + 1) = l by show (((l - 1).toNat : Nat) : Int) + 1 = l; omega] at this
  exact this
theorem bigK_pos : 0 < bigK := by decide +kernel
theorem bigK_div_pos {l : Int} (h : 1 ≤ l ∧ l ≤ 60) : 0 < bigK / l := by
  have h1 := bigK_of h
  have h2 := bigK_pos
  rcases Int.lt_trichotomy 0 (bigK / l) with h3 | h3 | h3
  · exact h3
  · rw [← h3] at h1; omega
  · have := Int.mul_neg_of_pos_of_neg (show 0 < l by omega) h3; omega
theorem cross_lt {a b c d m : Int} (hm : 0 < m) (h1 : a * m = c * d) : (a ≤ b ↔ c * d ≤ b * m) := by
  rw [← h1]
  exact ⟨fun h => Int.mul_le_mul_of_nonneg_right h (by omega), fun h => Int.le_of_mul_le_mul_right h hm⟩
def sumS (l : List S28) : Int := (l.map fun x => x.f1).sum
def sumQ (l : List S28) : Int := (l.map fun x => x.f1 * (bigK / x.f0)).sum
def sumW (t : Int) (l : List S28) : Int := (l.map fun x => x.f1 * ((t - x.f0) * (bigK / x.f0))).sum
def okS (l : List S28) : Prop := ∀ x ∈ l, springB x.f0 x.f1 = true
theorem ok_of {x : S28} (h : springB x.f0 x.f1 = true) : (1 ≤ x.f0 ∧ x.f0 ≤ 60) ∧ (1 ≤ x.f1 ∧ x.f1 ≤ 1000) := by
  unfold springB at h
  simpa using h
theorem sumW_eq (t : Int) : ∀ l : List S28, okS l → sumW t l = t * sumQ l - bigK * sumS l
  | [], _ => by simp [sumW, sumQ, sumS]
  | x :: l, h => by
    have ih := sumW_eq t l (fun y hy => h y (List.mem_cons_of_mem _ hy))
    have k := bigK_of (ok_of (h x List.mem_cons_self)).1
    simp only [sumW, sumQ, sumS, List.map_cons, List.sum_cons] at ih ⊢
    rw [ih, Int.mul_add, Int.mul_add, Int.sub_mul, k, Int.mul_sub, Int.mul_left_comm t x.f1, Int.mul_comm bigK x.f1]
    omega
theorem sumW_mono {t t' : Int} (h : t ≤ t') : ∀ l : List S28, okS l → sumW t l ≤ sumW t' l
  | [], _ => Int.le_refl _
  | x :: l, hl => by
    have ih := sumW_mono h l (fun y hy => hl y (List.mem_cons_of_mem _ hy))
    have o := ok_of (hl x List.mem_cons_self)
    have k := bigK_div_pos o.1
    simp only [sumW, List.map_cons, List.sum_cons] at ih ⊢
    have m : x.f1 * ((t - x.f0) * (bigK / x.f0)) ≤ x.f1 * ((t' - x.f0) * (bigK / x.f0)) :=
      Int.mul_le_mul_of_nonneg_left (Int.mul_le_mul_of_nonneg_right (by omega) (by omega)) (by omega)
    omega
theorem sumW_append (t : Int) (l m : List S28) : sumW t (l ++ m) = sumW t l + sumW t m := by simp [sumW]
theorem sumW_nonneg {t : Int} : ∀ l : List S28, okS l → (∀ x ∈ l, x.f0 ≤ t) → 0 ≤ sumW t l
  | [], _, _ => Int.le_refl _
  | x :: l, h, g => by
    have ih := sumW_nonneg l (fun y hy => h y (List.mem_cons_of_mem _ hy)) (fun y hy => g y (List.mem_cons_of_mem _ hy))
    have o := ok_of (h x List.mem_cons_self)
    have k := bigK_div_pos o.1
    have gx := g x List.mem_cons_self
    simp only [sumW, List.map_cons, List.sum_cons] at ih ⊢
    have m : 0 ≤ x.f1 * ((t - x.f0) * (bigK / x.f0)) := Int.mul_nonneg (by omega) (Int.mul_nonneg (by omega) (by omega))
    omega
theorem sumW_perm (t : Int) {l m : List S28} (h : l.Perm m) : sumW t l = sumW t m := by
  unfold sumW
  induction h with
  | nil => rfl
  | cons x _ ih => simp only [List.map_cons, List.sum_cons, ih]
  | swap x y l => simp only [List.map_cons, List.sum_cons]; omega
  | trans _ _ i1 i2 => exact i1.trans i2
/-- A fraction that is a sum of Stiff / Length, scaled. -/
def isQ (q : Int × Int) (l : List S28) : Prop := 0 < q.2 ∧ 0 ≤ q.1 ∧ q.1 * bigK = sumQ l * q.2
theorem sumQ_append (l m : List S28) : sumQ (l ++ m) = sumQ l + sumQ m := by simp [sumQ]
theorem sumS_append (l m : List S28) : sumS (l ++ m) = sumS l + sumS m := by simp [sumS]
def qStep (s : Int × Int) (x : S28) : Int × Int := mkF (s.1 * x.f0 + x.f1 * s.2) (s.2 * x.f0)
theorem isQ_step {s : Int × Int} {l : List S28} {x : S28} (h : isQ s l) (hx : springB x.f0 x.f1 = true) : isQ (qStep s x) (l ++ [x]) := by
  obtain ⟨h1, h2, h3⟩ := h
  have o := ok_of hx
  have k := bigK_of o.1
  have p : 0 < s.2 * x.f0 := Int.mul_pos h1 (by omega)
  have nn : 0 ≤ s.1 * x.f0 + x.f1 * s.2 := Int.add_nonneg (Int.mul_nonneg h2 (by omega)) (Int.mul_nonneg (by omega) (by omega))
  obtain ⟨g, hg, e1, e2⟩ := mkF_mul (s.1 * x.f0 + x.f1 * s.2) (s.2 * x.f0) p
  have d2 : 0 < (qStep s x).2 := by
    unfold qStep
    generalize mkF (s.1 * x.f0 + x.f1 * s.2) (s.2 * x.f0) = r at e1 e2 ⊢
    rcases Int.lt_trichotomy 0 r.2 with h3 | h3 | h3
    · exact h3
    · rw [← h3] at e2; omega
    · have := Int.mul_neg_of_pos_of_neg hg h3; omega
  refine ⟨d2, ?_, ?_⟩
  · unfold qStep
    generalize mkF (s.1 * x.f0 + x.f1 * s.2) (s.2 * x.f0) = r at e1 e2 ⊢
    by_cases h3 : r.1 < 0
    · have := Int.mul_neg_of_pos_of_neg hg h3; omega
    · omega
  · have e3 : (s.1 * x.f0 + x.f1 * s.2) * bigK = sumQ (l ++ [x]) * (s.2 * x.f0) := by
      rw [sumQ_append, Int.add_mul, Int.add_mul, Int.mul_right_comm, h3]
      have : sumQ [x] = x.f1 * (bigK / x.f0) := by simp [sumQ]
      have e4 : x.f1 * s.2 * bigK = x.f1 * (bigK / x.f0) * (s.2 * x.f0) := by
        conv => lhs; rw [← k]
        ac_rfl
      have e5 : sumQ l * s.2 * x.f0 = sumQ l * (s.2 * x.f0) := Int.mul_assoc ..
      rw [this, e4, e5]
    unfold qStep
    generalize mkF (s.1 * x.f0 + x.f1 * s.2) (s.2 * x.f0) = r at e1 e2 ⊢
    rw [e1, e2, Int.mul_assoc, Int.mul_left_comm (sumQ (l ++ [x]))] at e3
    exact Int.eq_of_mul_eq_mul_left (by omega) e3
theorem sumQ_pos {l : List S28} (h : okS l) (hne : l ≠ []) : 0 < sumQ l := by
  have nn : ∀ l : List S28, okS l → 0 ≤ sumQ l := by
    intro l
    induction l with
    | nil => intro _; exact Int.le_refl _
    | cons x l ih =>
      intro h
      have := ih (fun y hy => h y (List.mem_cons_of_mem _ hy))
      have o := ok_of (h x List.mem_cons_self)
      have k := bigK_div_pos o.1
      have := Int.mul_nonneg (show 0 ≤ x.f1 by omega) (show 0 ≤ bigK / x.f0 by omega)
      simp only [sumQ, List.map_cons, List.sum_cons] at *
      omega
  cases l with
  | nil => exact absurd rfl hne
  | cons x l =>
    have := nn l (fun y hy => h y (List.mem_cons_of_mem _ hy))
    have o := ok_of (h x List.mem_cons_self)
    have k := bigK_div_pos o.1
    have := Int.mul_pos (show 0 < x.f1 by omega) k
    simp only [sumQ, List.map_cons, List.sum_cons] at *
    omega
/-- The length at which the lines l bear p: at most t just where p is at most what they bear there. -/
theorem out_le {q r : Int × Int} {l : List S28} {p t : Int} (hl : okS l) (hne : l ≠ []) (hq : isQ q l) (hr : r = mkF ((p + sumS l) * q.2) q.1) : 0 < r.2 ∧ (r.1 ≤ t * r.2 ↔ p * bigK ≤ sumW t l) := by
  obtain ⟨h1, h2, h3⟩ := hq
  have qp : 0 < q.1 := by
    by_cases h : 0 < q.1
    · exact h
    · have : q.1 = 0 := by omega
      rw [this] at h3
      have := Int.mul_pos (sumQ_pos hl hne) h1
      omega
  obtain ⟨g, hg, e1, e2⟩ := mkF_mul ((p + sumS l) * q.2) q.1 qp
  rw [← hr] at e1 e2
  have r2 : 0 < r.2 := by
    rcases Int.lt_trichotomy 0 r.2 with h3 | h3 | h3
    · exact h3
    · rw [← h3] at e2; omega
    · have := Int.mul_neg_of_pos_of_neg hg h3; omega
  refine ⟨r2, ?_⟩
  rw [sumW_eq t l hl]
  have a1 : r.1 ≤ t * r.2 ↔ (p + sumS l) * q.2 ≤ t * q.1 := by
    rw [e1]
    constructor
    · intro h
      have := Int.mul_le_mul_of_nonneg_left h (show 0 ≤ g by omega)
      rw [Int.mul_left_comm g t, ← e2] at this
      exact this
    · intro h
      refine Int.le_of_mul_le_mul_left ?_ hg
      rw [Int.mul_left_comm g t, ← e2]
      exact h
  have a2 : (p + sumS l) * q.2 ≤ t * q.1 ↔ ((p + sumS l) * bigK) * q.2 ≤ (t * sumQ l) * q.2 := by
    have b1 : ((p + sumS l) * bigK) * q.2 = ((p + sumS l) * q.2) * bigK := by rw [Int.mul_right_comm]
    have b2 : (t * sumQ l) * q.2 = (t * q.1) * bigK := by rw [Int.mul_assoc, ← h3, Int.mul_assoc]
    rw [b1, b2]
    exact ⟨fun h => Int.mul_le_mul_of_nonneg_right h (Int.le_of_lt bigK_pos), fun h => Int.le_of_mul_le_mul_right h bigK_pos⟩
  have a3 : ((p + sumS l) * bigK) * q.2 ≤ (t * sumQ l) * q.2 ↔ (p + sumS l) * bigK ≤ t * sumQ l := ⟨fun h => Int.le_of_mul_le_mul_right h h1, fun h => Int.mul_le_mul_of_nonneg_right h (by omega)⟩
  rw [a1, a2, a3, Int.add_mul, Int.mul_comm bigK (sumS l)]
  omega
def shR (p : Int) (pre : List S28) (q : Int × Int) : List S28 → Int × Int
  | [] => (0, 0)
  | [x] => mkF ((p + sumS (pre ++ [x])) * (qStep q x).2) (qStep q x).1
  | x :: y :: rest =>
    if (mkF ((p + sumS (pre ++ [x])) * (qStep q x).2) (qStep q x).1).1 ≤ y.f0 * (mkF ((p + sumS (pre ++ [x])) * (qStep q x).2) (qStep q x).1).2 then mkF ((p + sumS (pre ++ [x])) * (qStep q x).2) (qStep q x).1
    else shR p (pre ++ [x]) (qStep q x) (y :: rest)
theorem shR_le (p L : Int) : ∀ (rest pre : List S28) (q : Int × Int), rest ≠ [] → okS (pre ++ rest) → (∀ x ∈ pre ++ rest, x.f0 ≤ L) → isQ q pre →
    0 < (shR p pre q rest).2 ∧ ((shR p pre q rest).1 ≤ L * (shR p pre q rest).2 ↔ p * bigK ≤ sumW L (pre ++ rest))
  | [], _, _, h, _, _, _ => absurd rfl h
  | [x], pre, q, _, ho, _, hq => out_le ho (by simp) (isQ_step hq (ho x (by simp))) rfl
  | x :: y :: rest, pre, q, _, ho, hL, hq => by
    have hx := ho x (by simp)
    have ha : pre ++ x :: y :: rest = (pre ++ [x]) ++ (y :: rest) := by simp
    have ho1 : okS (pre ++ [x]) := fun z hz => ho z (by simp at hz ⊢; rcases hz with hz | hz <;> simp [hz])
    have hq1 := isQ_step hq hx
    unfold shR
    split
    · rename_i hc
      have o1 := fun t => out_le (p := p) (t := t) ho1 (by simp) hq1 rfl
      refine ⟨(o1 L).1, ⟨fun _ => ?_, fun _ => ?_⟩⟩
      · have b1 := (o1 y.f0).2.1 hc
        have b2 := sumW_mono (hL y (by simp)) (pre ++ [x]) ho1
        have b3 : 0 ≤ sumW L (y :: rest) := sumW_nonneg _ (fun z hz => ho z (by rw [ha]; exact List.mem_append_right _ hz)) (fun z hz => hL z (by rw [ha]; exact List.mem_append_right _ hz))
        rw [ha, sumW_append]
        omega
      · exact (o1 L).2.2 (Int.le_trans ((o1 y.f0).2.1 hc) (sumW_mono (hL y (by simp)) _ ho1))
    · rw [ha] at ho hL ⊢
      exact shR_le p L (y :: rest) (pre ++ [x]) _ (by simp) ho hL hq1


/-! ### the lines by ascending lengths -/
def posG (out : List S28) (l : Int) : Nat → Nat
  | 0 => 0
  | k + 1 => if (out.getD k z28).f0 > l then posG out l k else k + 1
theorem posG_le (out : List S28) (l : Int) : ∀ k, posG out l k ≤ k
  | 0 => Nat.le_refl _
  | k + 1 => by
    unfold posG
    split
    · have := posG_le out l k; omega
    · exact Nat.le_refl _
def insS (out : List S28) (x : S28) : List S28 := (out.take (posG out x.f0 out.length) ++ [x]) ++ out.drop (posG out x.f0 out.length)
theorem insS_perm (out : List S28) (x : S28) : (insS out x).Perm (x :: out) := by
  unfold insS
  rw [List.append_assoc, List.singleton_append]
  exact List.perm_middle.trans (List.Perm.of_eq (by rw [List.take_append_drop]))
theorem insS_length (out : List S28) (x : S28) : (insS out x).length = out.length + 1 := by
  have := (insS_perm out x).length_eq; simpa using this
def sortL (xs : List S28) (n : Nat) : List S28 := (xs.take n).foldl insS []
theorem foldl_insS (xs : List S28) : ∀ out : List S28, (xs.foldl insS out).Perm (xs ++ out) := by
  induction xs with
  | nil => intro out; exact List.Perm.refl _
  | cons x xs ih =>
    intro out
    refine (ih (insS out x)).trans ?_
    refine ((insS_perm out x).append_left xs).trans ?_
    exact List.perm_middle
theorem sortL_perm (xs : List S28) (n : Nat) : (sortL xs n).Perm (xs.take n) := by
  have := foldl_insS (xs.take n) []
  simpa [sortL] using this
theorem sortL_all (xs : List S28) : (sortL xs xs.length).Perm xs := by
  have := sortL_perm xs xs.length
  rwa [List.take_length] at this
theorem sortL_length (xs : List S28) {n : Nat} (h : n ≤ xs.length) : (sortL xs n).length = n := by
  rw [(sortL_perm xs n).length_eq, List.length_take]; omega
/-! ### fractions that are sums over lines, scaled -/
def frI (V : Int) (n : Nat) (s : Int × Int) : Prop := 0 < s.2 ∧ 0 ≤ s.1 ∧ s.1 * bigK = V * s.2 ∧ s.2 ≤ 60 ^ n
theorem pow_le60 {n : Nat} (h : n ≤ 4) : (60 : Int) ^ n ≤ 12960000 := by
  have : n = 0 ∨ n = 1 ∨ n = 2 ∨ n = 3 ∨ n = 4 := by omega
  rcases this with rfl | rfl | rfl | rfl | rfl <;> decide
theorem fr_bd {V : Int} {n : Nat} {s : Int × Int} {M : Int} (h : frI V n s) (hn : n ≤ 4) (hV : V ≤ M * bigK) : s.2 ≤ 12960000 ∧ s.1 ≤ M * s.2 := by
  obtain ⟨h1, h2, h3, h4⟩ := h
  refine ⟨by have := pow_le60 hn; omega, ?_⟩
  refine Int.le_of_mul_le_mul_right ?_ bigK_pos
  rw [h3, Int.mul_right_comm]
  exact Int.mul_le_mul_of_nonneg_right hV (by omega)
theorem fr_next {V : Int} {n : Nat} {s : Int × Int} {c l : Int} (h : frI V n s) (hl : 1 ≤ l ∧ l ≤ 60) (hc : 0 ≤ c) : frI (V + c * (bigK / l)) (n + 1) (mkF (s.1 * l + c * s.2) (s.2 * l)) := by
  obtain ⟨h1, h2, h3, h4⟩ := h
  have k := bigK_of hl
  have p : 0 < s.2 * l := Int.mul_pos h1 (by omega)
  have nn : 0 ≤ s.1 * l + c * s.2 := Int.add_nonneg (Int.mul_nonneg h2 (by omega)) (Int.mul_nonneg hc (by omega))
  obtain ⟨g, hg, e1, e2⟩ := mkF_mul (s.1 * l + c * s.2) (s.2 * l) p
  have q := mkF_pos (s.1 * l + c * s.2) (s.2 * l) nn p
  have e3 : (s.1 * l + c * s.2) * bigK = (V + c * (bigK / l)) * (s.2 * l) := by
    rw [Int.add_mul, Int.add_mul, Int.mul_right_comm, h3]
    have e4 : c * s.2 * bigK = c * (bigK / l) * (s.2 * l) := by
      conv => lhs; rw [← k]
      ac_rfl
    rw [e4, Int.mul_assoc V]
  refine ⟨q.2.2.1, q.1, ?_, ?_⟩
  · generalize mkF (s.1 * l + c * s.2) (s.2 * l) = r at e1 e2 ⊢
    rw [e1, e2, Int.mul_assoc, Int.mul_left_comm (V + c * (bigK / l))] at e3
    exact Int.eq_of_mul_eq_mul_left (by omega) e3
  · have a := q.2.2.2
    have b : s.2 * l ≤ 60 ^ n * 60 := Int.mul_le_mul h4 hl.2 (by omega) (by have := Int.pow_pos (n := 60) (m := n) (by decide); omega)
    rw [Int.pow_succ]; omega
theorem sumQ_snoc (l : List S28) (x : S28) : sumQ (l ++ [x]) = sumQ l + x.f1 * (bigK / x.f0) := by simp [sumQ]
theorem sumS_snoc (l : List S28) (x : S28) : sumS (l ++ [x]) = sumS l + x.f1 := by simp [sumS]
theorem sumS_bd : ∀ l : List S28, okS l → 0 ≤ sumS l ∧ sumS l ≤ 1000 * l.length
  | [], _ => ⟨Int.le_refl _, Int.le_refl _⟩
  | x :: l, h => by
    have ih := sumS_bd l (fun y hy => h y (List.mem_cons_of_mem _ hy))
    have o := ok_of (h x List.mem_cons_self)
    simp only [sumS, List.map_cons, List.sum_cons, List.length_cons] at ih ⊢
    omega
theorem kdiv_le {l : Int} (h : 1 ≤ l ∧ l ≤ 60) : bigK / l ≤ bigK := by
  have k := bigK_of h
  have := le_mul_pos (show 0 < l by omega) (Int.le_of_lt (bigK_div_pos h))
  omega
theorem sumQ_bd : ∀ l : List S28, okS l → 0 ≤ sumQ l ∧ sumQ l ≤ (1000 * (l.length : Int)) * bigK
  | [], _ => ⟨Int.le_refl _, by simp [sumQ]⟩
  | x :: l, h => by
    have ih := sumQ_bd l (fun y hy => h y (List.mem_cons_of_mem _ hy))
    have o := ok_of (h x List.mem_cons_self)
    have kp := bigK_div_pos o.1
    have m := mul_bd (show 0 ≤ x.f1 by omega) o.2.2 (Int.le_of_lt kp) (kdiv_le o.1)
    have e : (1000 * ((l.length + 1 : Nat) : Int)) * bigK = (1000 * (l.length : Int)) * bigK + 1000 * bigK := by
      rw [show (1000 * ((l.length + 1 : Nat) : Int)) = 1000 * (l.length : Int) + 1000 by omega, Int.add_mul]
    simp only [sumQ, List.map_cons, List.sum_cons, List.length_cons] at ih ⊢
    omega
/-! ### the length that lines share -/
theorem len_cons2 {α : Type} (pre : List α) (x y : α) (rest : List α) : ¬ (((pre.length + 1 : Nat) : Int) = ((pre ++ x :: y :: rest).length : Int)) ∧ ((pre.length + 1 : Nat) : Int) < ((pre ++ x :: y :: rest).length : Int) := by
  rw [List.length_append, List.length_cons, List.length_cons]; omega
def sharedV (xs : List S28) (p : Int) : Int × Int := if p = 0 then (((sortL xs xs.length).getD 0 z28).f0, 1) else shR p [] (0, 1) (sortL xs xs.length)
theorem sharedV_le (xs : List S28) (p L : Int) (hp : 0 ≤ p ∧ p ≤ 10000) (hl : 1 ≤ xs.length ∧ xs.length ≤ 4) (ho : okS xs) (hL : ∀ x ∈ xs, x.f0 ≤ L) :
    0 < (sharedV xs p).2 ∧ ((sharedV xs p).1 ≤ L * (sharedV xs p).2 ↔ p * bigK ≤ sumW L xs) := by
  have hsl := sortL_length xs (Nat.le_refl _)
  have hso : okS (sortL xs xs.length) := fun x hx => ho x ((sortL_all xs).mem_iff.1 hx)
  unfold sharedV
  by_cases h : p = 0
  · simp only [h, if_true]
    have hm : (sortL xs xs.length).getD 0 z28 ∈ xs := by
      refine (sortL_all xs).mem_iff.1 ?_
      rw [getD_lt _ _ (by omega)]
      exact List.getElem_mem _
    refine ⟨by decide, ⟨fun _ => ?_, fun _ => ?_⟩⟩
    · rw [Int.zero_mul]; exact sumW_nonneg xs ho hL
    · rw [Int.mul_one]; exact hL _ hm
  · simp only [h, if_false]
    have := shR_le p L (sortL xs xs.length) [] (0, 1) (by intro e; rw [e] at hsl; simp at hsl; omega) hso (fun x hx => hL x ((sortL_all xs).mem_iff.1 hx)) ⟨by decide, by decide, by simp [sumQ]⟩
    rw [List.nil_append, sumW_perm L (sortL_all xs)] at this
    exact this
/-! ### the lines that bear nothing -/
def slackL (r : Int × Int) (xs : List S28) (n : Nat) : List Int := List.map (fun i : Nat => (i : Int)) (List.filter (fun i => decide (r.1 ≤ (xs.getD i z28).f0 * r.2)) (List.range n))
theorem slackL_succ (r : Int × Int) (xs : List S28) (n : Nat) : slackL r xs (n + 1) = if r.1 ≤ (xs.getD n z28).f0 * r.2 then slackL r xs n ++ [(n : Int)] else slackL r xs n := by
  unfold slackL
  rw [List.range_succ, List.filter_append, List.map_append, List.filter_cons, List.filter_nil]
  by_cases h : r.1 ≤ (xs.getD n z28).f0 * r.2
  · rw [if_pos h, if_pos (by rw [decide_eq_true_eq]; exact h)]; rfl
  · rw [if_neg h, if_neg (by rw [decide_eq_true_eq]; exact h), List.map_nil, List.append_nil]
theorem slackL_len (r : Int × Int) (xs : List S28) (n : Nat) : (slackL r xs n).length ≤ n := by
  unfold slackL
  rw [List.length_map]
  exact Nat.le_trans (List.length_filter_le _ _) (by simp)
theorem slackL_nil (r : Int × Int) (xs : List S28) : (slackL r xs xs.length).length = 0 ↔ ∀ x ∈ xs, ¬ r.1 ≤ x.f0 * r.2 := by
  unfold slackL
  rw [List.length_map, List.length_eq_zero_iff, List.filter_eq_nil_iff]
  constructor
  · intro h x hx
    obtain ⟨i, hi, rfl⟩ := List.getElem_of_mem hx
    have := h i (List.mem_range.2 hi)
    rw [getD_lt _ _ hi] at this
    simpa using this
  · intro h i hi
    have hi' := List.mem_range.1 hi
    rw [getD_lt _ _ hi']
    have := h _ (List.getElem_mem hi')
    simpa using this
/-- How large the shared length's parts are. -/
theorem shR_bd (p : Int) (hp : 1 ≤ p ∧ p ≤ 10000) : ∀ (rest pre : List S28) (q : Int × Int), rest ≠ [] → okS (pre ++ rest) → (pre ++ rest).length ≤ 4 → frI (sumQ pre) pre.length q →
    0 ≤ (shR p pre q rest).1 ∧ (shR p pre q rest).1 ≤ 181440000000 ∧ 0 < (shR p pre q rest).2 ∧ (shR p pre q rest).2 ≤ 51840000000
  | [], _, _, h, _, _, _ => absurd rfl h
  | x :: rest, pre, q, _, ho, hl, hq => by
    have hx := ho x (by simp)
    have o := ok_of hx
    have ho1 : okS (pre ++ [x]) := fun z hz => ho z (by simp at hz ⊢; rcases hz with hz | hz <;> simp [hz])
    have hlen : pre.length + 1 ≤ 4 := by simp at hl; omega
    have hn := fr_next (c := x.f1) hq o.1 (by omega)
    rw [← sumQ_snoc] at hn
    have hn' : frI (sumQ (pre ++ [x])) (pre ++ [x]).length (qStep q x) := by simpa [qStep] using hn
    have b1 := fr_bd (M := 4000) hn (by omega) (by have := (sumQ_bd _ ho1).2; have : (1000 * ((pre ++ [x]).length : Int)) * bigK ≤ 4000 * bigK := Int.mul_le_mul_of_nonneg_right (by simp; omega) (Int.le_of_lt bigK_pos); omega)
    have s1 := sumS_bd _ ho1
    have qp : 0 < (qStep q x).1 := by
      have e := hn'.2.2.1
      have := Int.mul_pos (sumQ_pos ho1 (by simp)) hn'.1
      rcases Int.lt_or_le 0 (qStep q x).1 with h | h
      · exact h
      · have h0 := hn'.2.1; rw [show (qStep q x).1 = 0 by omega] at e; omega
    have n1 : (qStep q x).1 ≤ 51840000000 := by have := b1.2; unfold qStep; omega
    have n2 : (qStep q x).2 ≤ 12960000 := b1.1
    have m4 := mul_bd (show 0 ≤ p + sumS (pre ++ [x]) by omega) (show p + sumS (pre ++ [x]) ≤ 14000 by have := s1.2; simp at this; omega) (Int.le_of_lt hn'.1) n2
    have mp := mkF_pos ((p + sumS (pre ++ [x])) * (qStep q x).2) (qStep q x).1 m4.1 qp
    cases rest with
    | nil => exact ⟨mp.1, by have := mp.2.1; show (mkF _ _).1 ≤ _; omega, mp.2.2.1, by have := mp.2.2.2; show (mkF _ _).2 ≤ _; omega⟩
    | cons y rest =>
      unfold shR
      split
      · exact ⟨mp.1, by omega, mp.2.2.1, by omega⟩
      · have ha : pre ++ x :: y :: rest = (pre ++ [x]) ++ (y :: rest) := by simp
        exact shR_bd p hp (y :: rest) (pre ++ [x]) (qStep q x) (by simp) (by rw [← ha]; exact ho) (by rw [← ha]; exact hl) hn'
theorem sharedV_bd (xs : List S28) (p : Int) (hp : 0 ≤ p ∧ p ≤ 10000) (hl : 1 ≤ xs.length ∧ xs.length ≤ 4) (ho : okS xs) :
    0 ≤ (sharedV xs p).1 ∧ (sharedV xs p).1 ≤ 181440000000 ∧ 0 < (sharedV xs p).2 ∧ (sharedV xs p).2 ≤ 51840000000 := by
  have hsl := sortL_length xs (Nat.le_refl _)
  have hso : okS (sortL xs xs.length) := fun x hx => ho x ((sortL_all xs).mem_iff.1 hx)
  unfold sharedV
  by_cases h : p = 0
  · simp only [h, if_true]
    have hm : (sortL xs xs.length).getD 0 z28 ∈ xs := by
      refine (sortL_all xs).mem_iff.1 ?_
      rw [getD_lt _ _ (by omega)]
      exact List.getElem_mem _
    have o := ok_of (ho _ hm)
    exact ⟨by omega, by omega, by decide, by decide⟩
  · simp only [h, if_false]
    exact shR_bd p (by omega) (sortL xs xs.length) [] (0, 1) (by intro e; rw [e] at hsl; simp at hsl; omega) hso (by simpa using (by omega : (sortL xs xs.length).length ≤ 4)) ⟨by decide, by decide, by simp [sumQ], by simp⟩

theorem impl_gcd_loop (m : Nat) : ∀ a b : Int, b.toNat = m → 0 ≤ a → 0 ≤ b → Ev (fun k => impl_gcd.l0 k a b) (Nat.gcd a.toNat b.toNat : Nat) := by
  induction m using Nat.strongRecOn with
  | _ m ih =>
    intro a b hm ha hb
    refine ev_succ ?_
    by_cases h : b = 0
    · subst h
      simp only [impl_gcd.l0, if_true]
      exact ev_to (ev_now _) (by simp; omega)
    · obtain ⟨h1, h2, h3⟩ := gcd_step (a := a) (b := b) ha (by omega)
      simp only [impl_gcd.l0, h, if_false]
      exact ev_to (ih _ (by omega) b _ rfl hb h1) (by rw [h3])
theorem impl_gcd_ev (n d : Int) (hn : -4611686018427387904 ≤ n ∧ n ≤ 4611686018427387904) (hd : 0 ≤ d) : Ev (fun k => impl_gcd.f k n d) (Int.gcd n d : Nat) := by
  have g := impl_gcd_loop d.toNat (n.natAbs : Int) d rfl (by omega) (by omega)
  have eg : Nat.gcd ((n.natAbs : Int)).toNat d.toNat = Int.gcd n d := by rw [Int.gcd, Int.toNat_natCast]; congr 1; omega
  rw [eg] at g
  simp only [impl_gcd.f]
  by_cases h : n < 0
  · simp only [h, if_true]
    refine ev_succ ?_
    simp only [impl_gcd.j0]
    rw [w64 (by omega) (by omega), show -n = (n.natAbs : Int) by omega]
    exact g
  · simp only [h, if_false]
    refine ev_succ ?_
    simp only [impl_gcd.j0]
    rw [show (n : Int) = (n.natAbs : Int) by omega]
    rw [show ((n.natAbs : Int)).gcd d = n.gcd d by simp [Int.gcd]]
    exact g
theorem impl_fraction_ev (n d : Int) (hn : -4611686018427387904 ≤ n ∧ n ≤ 4611686018427387904) (hd : 0 < d ∧ d ≤ 4611686018427387904) : Ev (fun k => impl_fraction.f k n d) (mkF n d) := by
  simp only [impl_fraction.f, show ¬ d < 0 by omega, if_false]
  have pos : 0 < Int.gcd n d := Int.gcd_pos_of_ne_zero_right n (by omega)
  refine Ev.bind (impl_gcd_ev n d hn (by omega)) ?_
  have b1 := tdiv_bound n (Int.gcd n d)
  have b2 := tdiv_bound d (Int.gcd n d)
  simp only [show ¬ ((Int.gcd n d : Nat) : Int) = 0 by omega, if_false, w64 (n := Int.tdiv n (Int.gcd n d : Nat)) (by omega) (by omega), w64 (n := Int.tdiv d (Int.gcd n d : Nat)) (by omega) (by omega)]
  exact ev_now _

theorem impl_addFractions_ev (n1 d1 n2 d2 : Int) (h1 : 0 ≤ n1) (h2 : 0 ≤ n2) (k1 : 0 < d1) (k2 : 0 < d2) (b1 : n1 * d2 + n2 * d1 ≤ 4611686018427387904) (b2 : d1 * d2 ≤ 4611686018427387904) :
    Ev (fun k => impl_addFractions.f k n1 d1 n2 d2) (mkF (n1 * d2 + n2 * d1) (d1 * d2)) := by
  simp only [impl_addFractions.f]
  have pos : 0 < Int.gcd d1 d2 := Int.gcd_pos_of_ne_zero_right d1 (by omega)
  have q1 : (Int.gcd d1 d2 : Int) * Int.tdiv d1 (Int.gcd d1 d2 : Nat) = d1 := Int.mul_tdiv_cancel' (Int.gcd_dvd_left ..)
  have q2 : (Int.gcd d1 d2 : Int) * Int.tdiv d2 (Int.gcd d1 d2 : Nat) = d2 := Int.mul_tdiv_cancel' (Int.gcd_dvd_right ..)
  have kd : d1 ≤ d1 * d2 := by have := Int.mul_le_mul_of_nonneg_left (show 1 ≤ d2 by omega) (show 0 ≤ d1 by omega); omega
  have kd2 : d2 ≤ d1 * d2 := le_mul_pos k1 (by omega)
  refine Ev.bind (impl_gcd_ev d1 d2 (by omega) (by omega)) ?_
  have gne : ¬ ((Int.gcd d1 d2 : Nat) : Int) = 0 := by omega
  simp only [gne, if_false]
  generalize hg : ((Int.gcd d1 d2 : Nat) : Int) = g at q1 q2 gne ⊢
  generalize he1 : Int.tdiv d1 g = e1 at q1 ⊢
  generalize he2 : Int.tdiv d2 g = e2 at q2 ⊢
  have gp : 0 < g := by omega
  have p1 : 0 < e1 := pos_of_mul gp (by omega)
  have p2 : 0 < e2 := pos_of_mul gp (by omega)
  have l1 : e1 ≤ d1 := by have := le_mul_pos gp (Int.le_of_lt p1); omega
  have l2 : e2 ≤ d2 := by have := le_mul_pos gp (Int.le_of_lt p2); omega
  have m1 := mul_bd h1 (Int.le_refl n1) (Int.le_of_lt p2) l2
  have m2 := mul_bd h2 (Int.le_refl n2) (Int.le_of_lt p1) l1
  have m3 := mul_bd (Int.le_of_lt p1) l1 (Int.le_of_lt k2) (Int.le_refl d2)
  have m4 : 0 < e1 * d2 := Int.mul_pos p1 k2
  have z1 := mul_bd h1 (Int.le_refl n1) (Int.le_of_lt k2) (Int.le_refl d2)
  have z2 := mul_bd h2 (Int.le_refl n2) (Int.le_of_lt k1) (Int.le_refl d1)
  rw [w64 (n := e2) (by omega) (by omega), w64 (n := e1) (by omega) (by omega), w64 (n := n1 * e2) (by omega) (by omega), w64 (n := n2 * e1) (by omega) (by omega), w64 (n := n1 * e2 + n2 * e1) (by omega) (by omega), w64 (n := e1 * d2) (by omega) (by omega)]
  refine Ev.bind (impl_fraction_ev _ _ (by omega) (by omega)) (ev_to (ev_now _) ?_)
  rw [← mkF_scale g _ _ gp]
  have s1 : g * (n1 * e2 + n2 * e1) = n1 * d2 + n2 * d1 := by
    rw [Int.mul_add, ← q1, ← q2]; congr 1 <;> rw [Int.mul_left_comm]
  have s2 : g * (e1 * d2) = d1 * d2 := by rw [← Int.mul_assoc, q1]
  rw [s1, s2]

/-! ### the program's sort of at most twelve lines -/
theorem cmpS (a b c d : Int) : ∃ r, impl_sharedLength_1.f a b c d = some r ∧ (r < 0 ↔ a < c) := by
  simp only [impl_sharedLength_1.f, cmp_Compare_int64.f, cmp_isNaN_int64.f, Option.bind_some, bne_self_eq_false, Bool.false_eq_true, if_false]
  by_cases h : a < c
  · exact ⟨-1, by simp only [h, if_true, Option.bind_some], by simp [h]⟩
  · by_cases h2 : a > c
    · exact ⟨1, by simp only [h, h2, if_true, if_false, Option.bind_some], by simp [h]⟩
    · exact ⟨0, by simp only [h, h2, if_false, Option.bind_some], by simp [h]⟩
theorem swap_at {α : Type} (z : α) (A B : List α) (y x : α) : (A ++ y :: x :: B).getD (A.length + 1) z = x ∧ (A ++ y :: x :: B).getD A.length z = y ∧ ((A ++ y :: x :: B).set (A.length + 1) y).set A.length x = A ++ x :: y :: B := by
  refine ⟨by simp [List.getD_eq_getElem?_getD], by simp [List.getD_eq_getElem?_getD], ?_⟩
  rw [List.set_append_right _ _ (by omega), List.set_append_right _ _ (by omega)]
  simp
theorem impl_insert_loop (s B : List S28) (x : S28) (i : Int) (b : Int) (hl : s.length + 1 + B.length ≤ 1048576) {r : List S28}
    (hr : Ev (fun k => impl_Spring_78.l0 k (insS s x ++ B) 0 b (wrap64 (i + 1))) r) : ∀ m, m ≤ s.length → posG s x.f0 m = posG s x.f0 s.length →
    Ev (fun k => impl_Spring_78.l1 k ((s.take m ++ x :: s.drop m) ++ B) 0 b i (m : Int)) r := by
  have fin : ∀ m : Nat, m ≤ s.length → m = posG s x.f0 s.length → Ev (fun k => impl_Spring_78.l0 k ((s.take m ++ x :: s.drop m) ++ B) 0 b (wrap64 (i + 1))) r := by
    intro m hm he
    have : insS s x = s.take m ++ x :: s.drop m := by unfold insS; rw [← he]; simp
    rw [← this]; exact hr
  intro m
  induction m with
  | zero =>
    intro hm he
    refine ev_succ ?_
    simp only [impl_Spring_78.l1, show ¬ (((0 : Nat) : Int) > 0) by omega, if_false]
    exact fin 0 hm (by rw [← he]; rfl)
  | succ m ih =>
    intro hm he
    have hs : s.take (m + 1) = s.take m ++ [s.getD m z28] := by rw [List.take_succ_eq_append_getElem (by omega), getD_lt _ _ (by omega)]
    have hd : s.drop m = s.getD m z28 :: s.drop (m + 1) := by rw [List.drop_eq_getElem_cons (by omega), getD_lt _ _ (by omega)]
    have tl : (s.take m).length = m := by rw [List.length_take]; omega
    have e0 : (s.take (m + 1) ++ x :: s.drop (m + 1)) ++ B = s.take m ++ s.getD m z28 :: x :: (s.drop (m + 1) ++ B) := by rw [hs]; simp
    have w1 : wrap64 (((m + 1 : Nat) : Int) - 1) = (m : Int) := by rw [w64 (by omega) (by omega)]; omega
    have len : (s.take m ++ s.getD m z28 :: x :: (s.drop (m + 1) ++ B)).length = s.length + 1 + B.length := by simp; omega
    obtain ⟨g1, g2, g3⟩ := swap_at z28 (s.take m) (s.drop (m + 1) ++ B) (s.getD m z28) x
    rw [tl] at g1 g2 g3
    obtain ⟨c, hc1, hc2⟩ := cmpS x.f0 x.f1 (s.getD m z28).f0 (s.getD m z28).f1
    rw [e0]
    refine ev_succ ?_
    simp only [impl_Spring_78.l1, w1, show ((m + 1 : Nat) : Int) > 0 by omega, show (0 : Int) ≤ ((m + 1 : Nat) : Int) by omega, len, show ((m + 1 : Nat) : Int) < ((s.length + 1 + B.length : Nat) : Int) by omega, show (0 : Int) ≤ (m : Int) by omega, show (m : Int) < ((s.length + 1 + B.length : Nat) : Int) by omega, if_true, rd_T28, Int.toNat_natCast, g1, g2, hc1, Option.bind_some]
    by_cases h : (s.getD m z28).f0 > x.f0
    · have e2 : posG s x.f0 m = posG s x.f0 s.length := by rw [← he]; show _ = (if _ then _ else _); rw [if_pos h]
      have i1 := ih (by omega) e2
      have e3 : (s.take m ++ x :: s.drop m) ++ B = s.take m ++ x :: s.getD m z28 :: (s.drop (m + 1) ++ B) := by rw [hd]; simp
      rw [e3] at i1
      simp only [show c < 0 from hc2.2 h, if_true]
      show Ev (fun k => impl_Spring_78.l1 k (((s.take m ++ s.getD m z28 :: x :: (s.drop (m + 1) ++ B)).set (m + 1) (s.getD m z28)).set m x) 0 b i (m : Int)) r
      rw [g3]
      exact i1
    · have e2 : m + 1 = posG s x.f0 s.length := by rw [← he]; show _ = (if _ then _ else _); rw [if_neg h]
      have f := fin (m + 1) hm e2
      rw [e0] at f
      simp only [show ¬ c < 0 from fun q => h (hc2.1 q), if_false]
      exact f
theorem impl_isort_ev (xs : List S28) (h1 : 1 ≤ xs.length) (h : xs.length ≤ 1048576) : Ev (fun k => impl_Spring_78.f k xs 0 (xs.length : Int) 0) (sortL xs xs.length) := by
  simp only [impl_Spring_78.f]
  have key : ∀ d n, n + d = xs.length → 1 ≤ n → Ev (fun k => impl_Spring_78.l0 k (sortL xs n ++ xs.drop n) 0 (xs.length : Int) (n : Int)) (sortL xs xs.length) := by
    intro d
    induction d with
    | zero =>
      intro n hn _
      simp only [Nat.add_zero] at hn
      subst hn
      refine ev_succ ?_
      simp only [impl_Spring_78.l0, Int.lt_irrefl, if_false, List.drop_length, List.append_nil]
      exact ev_now _
    | succ d ih =>
      intro n hn h0
      have hl := sortL_length xs (show n ≤ xs.length by omega)
      have e1 : sortL xs (n + 1) = insS (sortL xs n) (xs.getD n z28) := foldl_take_succ xs _ _ _ (by omega)
      have hd : xs.drop n = xs.getD n z28 :: xs.drop (n + 1) := by rw [List.drop_eq_getElem_cons (by omega), getD_lt _ _ (by omega)]
      have i1 := ih (n + 1) (by omega) (by omega)
      rw [e1, show ((n + 1 : Nat) : Int) = wrap64 ((n : Int) + 1) by rw [w64 (by omega) (by omega)]; omega] at i1
      have l := impl_insert_loop (sortL xs n) (xs.drop (n + 1)) (xs.getD n z28) (n : Int) (xs.length : Int) (by rw [hl, List.length_drop]; omega) i1 (sortL xs n).length (Nat.le_refl _) rfl
      rw [List.take_length, List.drop_length, hl] at l
      refine ev_succ ?_
      simp only [impl_Spring_78.l0, show (n : Int) < (xs.length : Int) by omega, if_true]
      rw [hd]
      simpa using l
  have e0 : xs = sortL xs 1 ++ xs.drop 1 := by
    cases xs with
    | nil => simp at h1
    | cons x xs => simp [sortL, insS, posG]
  have := key (xs.length - 1) 1 (by omega) (by omega)
  rw [← e0] at this
  rw [show wrap64 (0 + 1) = ((1 : Nat) : Int) by unfold wrap64; omega]
  exact this
set_option maxRecDepth 20000 in
theorem bits_Len_ex (n : Nat) (h : n ≤ 4) : ∃ r, Ev (fun k => bits_Len.f k (IntKind.u64.wrap (n : Int))) r := by
  have e : IntKind.u64.wrap (n : Int) = (n : Int) := by simp only [IntKind.wrap, IntKind.bits, IntKind.signed]; simp; omega
  rw [e]
  simp only [bits_Len.f, bits_Len64.f, show ¬ ((n : Int) ≥ 4294967296) by omega, if_false]
  have j : ∃ r, Ev (fun k => bits_Len64.j0 k (n : Int) 0) r := by
    have j1 : ∃ r, ∀ k, bits_Len64.j0 (k + 1) (n : Int) 0 = some r := by
      refine ⟨?R, fun k => ?go⟩
      case go =>
        show (if (n : Int) ≥ 65536 then _ else _) = _
        rw [if_neg (show ¬ ((n : Int) ≥ 65536) by omega), if_neg (show ¬ ((n : Int) ≥ 256) by omega), if_pos (show (0 : Int) ≤ (n : Int) % 256 by omega), if_pos (show (n : Int) % 256 < 256 by omega)]
    obtain ⟨r, hr⟩ := j1
    exact ⟨r, ev_succ (by simp only [hr]; exact ev_now _)⟩
  obtain ⟨r, hr⟩ := j
  exact ⟨r, Ev.bind hr (ev_now _)⟩
theorem impl_sort_ev (xs : List S28) (h : 1 ≤ xs.length ∧ xs.length ≤ 4) : Ev (fun k => impl_Spring_71.f k xs 0) (sortL xs xs.length) := by
  obtain ⟨n, hn⟩ := bits_Len_ex xs.length h.2
  simp only [impl_Spring_71.f]
  refine Ev.bind hn ?_
  refine Ev.bind (a := sortL xs xs.length) (ev_succ ?_) (ev_now _)
  simp only [impl_Spring_75.f]
  refine ev_succ ?_
  simp only [impl_Spring_75.l0, show wrap64 ((xs.length : Int) - 0) ≤ 12 by rw [w64 (by omega) (by omega)]; omega, if_true]
  exact Ev.bind (impl_isort_ev xs h.1 (by omega)) (ev_now _)
/-! ### the length that lines share, as the program finds it -/
theorem mkF_one (p : Int) : mkF p 1 = (p, 1) := by
  unfold mkF; rw [Int.gcd_one]; simp
theorem sumS_w (p : Int) (hp : 1 ≤ p ∧ p ≤ 10000) (pre : List S28) (x : S28) (ho : okS (pre ++ [x])) (hl : pre.length + 1 ≤ 4) : wrap64 (sumS pre + x.f1) = sumS (pre ++ [x]) ∧ wrap64 (p + sumS (pre ++ [x])) = p + sumS (pre ++ [x]) := by
  have s1 := sumS_bd _ ho
  rw [List.length_append, List.length_singleton] at s1
  have e := sumS_snoc pre x
  rw [← e]
  generalize sumS (pre ++ [x]) = z at *
  constructor
  · exact w64 (by omega) (by omega)
  · exact w64 (by omega) (by omega)
theorem impl_shared_loop (p : Int) (hp : 1 ≤ p ∧ p ≤ 10000) (s : List S28) (os : okS s) (ls : s.length ≤ 4) : ∀ (rest pre : List S28) (q : Int × Int) (a b : Int), rest ≠ [] → s = pre ++ rest → frI (sumQ pre) pre.length q →
    Ev (fun k => impl_sharedLength.l0 k p s (sumS pre) s (s.length : Int) (pre.length : Int) q.1 q.2 a b) (shR p pre q rest)
  | [], _, _, _, _, h, _, _ => absurd rfl h
  | x :: rest, pre, q, a, b, _, he, hq => by
    have ho : okS (pre ++ x :: rest) := he ▸ os
    have hl : (pre ++ x :: rest).length ≤ 4 := he ▸ ls
    have hx := ho x (by simp)
    have o := ok_of hx
    have ho0 : okS pre := fun z hz => ho z (by simp [hz])
    have ho1 : okS (pre ++ [x]) := fun z hz => ho z (by simp at hz ⊢; rcases hz with hz | hz <;> simp [hz])
    have hlen : pre.length + 1 ≤ 4 := by simp at hl; omega
    have hn := fr_next (c := x.f1) hq o.1 (by omega)
    rw [← sumQ_snoc] at hn
    have hn' : frI (sumQ (pre ++ [x])) (pre ++ [x]).length (qStep q x) := by simpa [qStep] using hn
    have b0 := fr_bd (M := 4000) hq (by omega) (by have := (sumQ_bd pre ho0).2; have : (1000 * (pre.length : Int)) * bigK ≤ 4000 * bigK := Int.mul_le_mul_of_nonneg_right (by omega) (Int.le_of_lt bigK_pos); omega)
    have b1 := fr_bd (M := 4000) hn (by omega) (by have := (sumQ_bd _ ho1).2; have : (1000 * ((pre ++ [x]).length : Int)) * bigK ≤ 4000 * bigK := Int.mul_le_mul_of_nonneg_right (by simp; omega) (Int.le_of_lt bigK_pos); omega)
    have s0 := sumS_bd pre ho0
    have s1 := sumS_bd _ ho1
    have gx : (pre ++ x :: rest).getD pre.length z28 = x := by simp [List.getD_eq_getElem?_getD]
    have qp : 0 < (qStep q x).1 := by
      have e := hn'.2.2.1
      have := Int.mul_pos (sumQ_pos ho1 (by simp)) hn'.1
      rcases Int.lt_or_le 0 (qStep q x).1 with h | h
      · exact h
      · have h0 := hn'.2.1; rw [show (qStep q x).1 = 0 by omega] at e; omega
    have n1 : (qStep q x).1 ≤ 51840000000 := by have := b1.2; unfold qStep; omega
    have n2 : (qStep q x).2 ≤ 12960000 := b1.1
    have m4 := mul_bd (show 0 ≤ p + sumS (pre ++ [x]) by omega) (show p + sumS (pre ++ [x]) ≤ 14000 by have := s1.2; simp at this; omega) (Int.le_of_lt hn'.1) n2
    have mp := mkF_pos ((p + sumS (pre ++ [x])) * (qStep q x).2) (qStep q x).1 m4.1 qp
    have um := mkF_mul x.f1 x.f0 (by omega)
    have up := mkF_pos x.f1 x.f0 (by omega) (by omega)
    have qe : qStep q x = mkF (q.1 * (mkF x.f1 x.f0).2 + (mkF x.f1 x.f0).1 * q.2) (q.2 * (mkF x.f1 x.f0).2) := by
      unfold qStep
      obtain ⟨g, hg, e1, e2⟩ := um
      generalize mkF x.f1 x.f0 = u at e1 e2 ⊢
      have z1 : q.1 * x.f0 + x.f1 * q.2 = g * (q.1 * u.2 + u.1 * q.2) := by rw [e1, e2, Int.mul_add, Int.mul_left_comm, Int.mul_assoc]
      have z2 : q.2 * x.f0 = g * (q.2 * u.2) := by rw [e2, Int.mul_left_comm]
      rw [z1, z2, mkF_scale g _ _ hg]
    have y1 := mul_bd hq.2.1 (show q.1 ≤ 51840000000 by omega) (show 0 ≤ (mkF x.f1 x.f0).2 by omega) (show (mkF x.f1 x.f0).2 ≤ 60 by omega)
    have y2 := mul_bd up.1 (show (mkF x.f1 x.f0).1 ≤ 1000 by omega) (show 0 ≤ q.2 by have := hq.1; omega) b0.1
    have y3 := mul_bd (show 0 ≤ q.2 by have := hq.1; omega) b0.1 (show 0 ≤ (mkF x.f1 x.f0).2 by omega) (show (mkF x.f1 x.f0).2 ≤ 60 by omega)
    have af := impl_addFractions_ev q.1 q.2 (mkF x.f1 x.f0).1 (mkF x.f1 x.f0).2 hq.2.1 up.1 hq.1 up.2.2.1 (by omega) (by omega)
    rw [← qe] at af
    have hA : (pre.length : Int) < (s.length : Int) := by rw [he, List.length_append, List.length_cons]; omega
    have wn : wrap64 ((pre.length : Int) + 1) = ((pre.length + 1 : Nat) : Int) := by rw [w64 (by omega) (by omega)]; omega
    have gs : s.getD pre.length z28 = x := by rw [he]; exact gx
    refine ev_succ ?_
    simp only [impl_sharedLength.l0, hA, show (0 : Int) ≤ (pre.length : Int) from Int.natCast_nonneg _, if_true, rd_T28, Int.toNat_natCast, gs]
    refine Ev.bind (impl_fraction_ev x.f1 x.f0 (by omega) (by omega)) (Ev.bind af ?_)
    rw [(sumS_w p hp pre x ho1 hlen).1, (sumS_w p hp pre x ho1 hlen).2, w64 (n := (p + sumS (pre ++ [x])) * (qStep q x).2) (by omega) (by omega)]
    refine Ev.bind (impl_fraction_ev _ _ (by omega) (by omega)) ?_
    rw [wn]
    cases rest with
    | nil =>
      have hE : ((pre.length + 1 : Nat) : Int) = (s.length : Int) := by rw [he]; simp
      simp only [hE, if_true]
      exact ev_now _
    | cons y rest =>
      have gy : s.getD (pre.length + 1) z28 = y := by rw [he]; simp [List.getD_eq_getElem?_getD]
      have hB : ¬ (((pre.length + 1 : Nat) : Int) = (s.length : Int)) := by rw [he]; exact (len_cons2 pre x y rest).1
      have hC : ((pre.length + 1 : Nat) : Int) < (s.length : Int) := by rw [he]; exact (len_cons2 pre x y rest).2
      have hD : (0 : Int) ≤ ((pre.length + 1 : Nat) : Int) := Int.natCast_nonneg _
      have oy := ok_of (ho y (by simp))
      have m5 := mul_bd (show 0 ≤ y.f0 by omega) oy.1.2 (Int.le_of_lt mp.2.2.1) (Int.le_refl _)
      simp only [hB, if_false, hD, hC, if_true, Int.toNat_natCast, gy]
      rw [w64 (n := y.f0 * (mkF ((p + sumS (pre ++ [x])) * (qStep q x).2) (qStep q x).1).2) (by omega) (by omega)]
      unfold shR
      by_cases hc : (mkF ((p + sumS (pre ++ [x])) * (qStep q x).2) (qStep q x).1).1 ≤ y.f0 * (mkF ((p + sumS (pre ++ [x])) * (qStep q x).2) (qStep q x).1).2
      · simp only [hc, if_true]; exact ev_now _
      · simp only [hc, if_false]
        have := impl_shared_loop p hp s os ls (y :: rest) (pre ++ [x]) (qStep q x) (mkF ((p + sumS (pre ++ [x])) * (qStep q x).2) (qStep q x).1).1 (mkF ((p + sumS (pre ++ [x])) * (qStep q x).2) (qStep q x).1).2 (by simp) (by rw [he]; simp) hn'
        rw [show ((pre ++ [x]).length : Int) = ((pre.length + 1 : Nat) : Int) by simp] at this
        exact this
theorem impl_sharedLength_ev (xs : List S28) (p : Int) (hp : 0 ≤ p ∧ p ≤ 10000) (hl : 1 ≤ xs.length ∧ xs.length ≤ 4) (ho : okS xs) : Ev (fun k => impl_sharedLength.f k xs p) (sharedV xs p) := by
  have hsl := sortL_length xs (Nat.le_refl _)
  have hso : okS (sortL xs xs.length) := fun x hx => ho x ((sortL_all xs).mem_iff.1 hx)
  simp only [impl_sharedLength.f, Option.bind_some, List.length_nil, List.nil_append, show 0 + xs.length < 8796093022208 by omega, if_true]
  refine Ev.bind (impl_sort_ev xs hl) ?_
  unfold sharedV
  by_cases h : p = 0
  · have hm : (sortL xs xs.length).getD 0 z28 ∈ xs := by
      refine (sortL_all xs).mem_iff.1 ?_
      rw [getD_lt _ _ (by omega)]
      exact List.getElem_mem _
    have o := ok_of (ho _ hm)
    simp only [h, if_true, show (0 : Int) < (xs.length : Int) by omega, rd_T28]
    refine Ev.bind (impl_fraction_ev _ 1 (by have e : (0 : Int).toNat = 0 := rfl; rw [e]; omega) (by omega)) ?_
    rw [mkF_one]
    exact ev_now _
  · simp only [h, if_false]
    refine Ev.bind (impl_fraction_ev 0 1 (by omega) (by omega)) ?_
    rw [mkF_one]
    have := impl_shared_loop p (by omega) (sortL xs xs.length) hso (by omega) (sortL xs xs.length) [] (0, 1) 0 0 (by intro e; rw [e] at hsl; simp at hsl; omega) rfl ⟨by decide, by decide, by simp [sumQ], by simp⟩
    rw [hsl] at this
    simpa [sumS] using this
theorem okS_of {xs : List S28} (h : springsB xs = true) : (1 ≤ xs.length ∧ xs.length ≤ 4) ∧ okS xs := by
  unfold springsB at h
  simp only [Bool.and_eq_true, decide_eq_true_eq, List.all_eq_true] at h
  exact h
/-- The code of lines and a load. -/
def codeV (xs : List S28) (p : Int) : Int := if springsB xs = true then if 0 ≤ p ∧ p ≤ 10000 then 0 else 2 else 1
/-! ### the lines that bear at the shared length -/
theorem sumBy_perm {α : Type} (f : α → Int) {l m : List α} (h : l.Perm m) : (l.map f).sum = (m.map f).sum := by
  induction h with
  | nil => rfl
  | cons x _ ih => simp only [List.map_cons, List.sum_cons, ih]
  | swap x y l => simp only [List.map_cons, List.sum_cons]; omega
  | trans _ _ i1 i2 => exact i1.trans i2
def ascL (xs : List S28) : Prop := xs.Pairwise fun a b => a.f0 ≤ b.f0
theorem posG_gt (out : List S28) (l : Int) : ∀ k i, posG out l k ≤ i → i < k → l < (out.getD i z28).f0
  | 0, _, _, h => absurd h (by omega)
  | k + 1, i, h1, h2 => by
    unfold posG at h1
    split at h1
    · rename_i hc
      by_cases e : i = k
      · subst e; exact hc
      · exact posG_gt out l k i h1 (by omega)
    · omega
theorem posG_last (out : List S28) (l : Int) : ∀ k, posG out l k = 0 ∨ (out.getD (posG out l k - 1) z28).f0 ≤ l
  | 0 => .inl rfl
  | k + 1 => by
    unfold posG
    split
    · exact posG_last out l k
    · rename_i hc
      right
      rw [Nat.add_sub_cancel]; omega
theorem insS_asc (out : List S28) (x : S28) (h : ascL out) : ascL (insS out x) := by
  have hp := posG_le out x.f0 out.length
  have lt : ∀ a ∈ out.take (posG out x.f0 out.length), a.f0 ≤ x.f0 := by
    intro a ha
    obtain ⟨i, hi, rfl⟩ := List.getElem_of_mem ha
    rw [List.length_take] at hi
    rw [List.getElem_take]
    rcases posG_last out x.f0 out.length with h0 | h0
    · omega
    · rw [getD_lt _ _ (show posG out x.f0 out.length - 1 < out.length by omega)] at h0
      by_cases e : i = posG out x.f0 out.length - 1
      · subst e; exact h0
      · exact Int.le_trans ((List.pairwise_iff_getElem.1 h) i (posG out x.f0 out.length - 1) (by omega) (by omega) (by omega)) h0
  have gt : ∀ b ∈ out.drop (posG out x.f0 out.length), x.f0 ≤ b.f0 := by
    intro b hb
    obtain ⟨i, hi, rfl⟩ := List.getElem_of_mem hb
    rw [List.length_drop] at hi
    rw [List.getElem_drop]
    have := posG_gt out x.f0 out.length (posG out x.f0 out.length + i) (by omega) (by omega)
    rw [getD_lt _ _ (by omega)] at this
    omega
  unfold insS ascL
  rw [List.append_assoc, List.pairwise_append]
  refine ⟨List.Pairwise.sublist (List.take_sublist _ _) h, ?_, ?_⟩
  · rw [List.singleton_append, List.pairwise_cons]
    exact ⟨gt, List.Pairwise.sublist (List.drop_sublist _ _) h⟩
  · intro a ha b hb
    rw [List.singleton_append] at hb
    rcases List.mem_cons.1 hb with rfl | hb
    · exact lt a ha
    · exact Int.le_trans (lt a ha) (gt b hb)
theorem foldl_asc (xs : List S28) : ∀ out, ascL out → ascL (xs.foldl insS out) := by
  induction xs with
  | nil => intro out h; exact h
  | cons x xs ih => intro out h; exact ih _ (insS_asc out x h)
theorem sortL_asc (xs : List S28) (n : Nat) : ascL (sortL xs n) := foldl_asc _ [] List.Pairwise.nil
theorem sumW_head (y : S28) (l : List S28) : sumW y.f0 (l ++ [y]) = sumW y.f0 l := by
  rw [sumW_append]; simp [sumW]
/-- Where the search stops: those before bear, those behind don't. -/
theorem shR_split (p : Int) : ∀ (rest pre : List S28) (q : Int × Int), (hne : rest ≠ []) → okS (pre ++ rest) → ascL (pre ++ rest) → isQ q pre → ¬ p * bigK ≤ sumW (rest.head hne).f0 pre →
    ∃ A B qa, pre ++ rest = A ++ B ∧ A ≠ [] ∧ isQ qa A ∧ shR p pre q rest = mkF ((p + sumS A) * qa.2) qa.1 ∧ (∀ x ∈ A, ¬ (shR p pre q rest).1 ≤ x.f0 * (shR p pre q rest).2) ∧ (∀ x ∈ B, (shR p pre q rest).1 ≤ x.f0 * (shR p pre q rest).2)
  | [], _, _, h, _, _, _, _ => absurd rfl h
  | x :: rest, pre, q, _, ho, ha, hq, hh => by
    have hx := ho x (by simp)
    have ho1 : okS (pre ++ [x]) := fun z hz => ho z (by simp at hz ⊢; rcases hz with hz | hz <;> simp [hz])
    have hq1 := isQ_step hq hx
    have up : ∀ z ∈ pre ++ [x], z.f0 ≤ x.f0 := by
      intro z hz
      rcases List.mem_append.1 hz with hz | hz
      · exact (List.pairwise_append.1 ha).2.2 z hz x (by simp)
      · rw [List.mem_singleton] at hz; rw [hz]; exact Int.le_refl _
    have bears : ∀ z ∈ pre ++ [x], ∀ r : Int × Int, r = mkF ((p + sumS (pre ++ [x])) * (qStep q x).2) (qStep q x).1 → ¬ r.1 ≤ z.f0 * r.2 := by
      intro z hz r hr hc
      have o := out_le (p := p) (t := z.f0) ho1 (by simp) hq1 hr
      have h1 := o.2.1 hc
      have h2 := sumW_mono (up z hz) _ ho1
      rw [sumW_head] at h2
      exact hh (Int.le_trans h1 h2)
    cases rest with
    | nil => exact ⟨pre ++ [x], [], qStep q x, by simp, by simp, hq1, rfl, fun z hz => bears z hz _ rfl, fun z hz => by simp at hz⟩
    | cons y rest =>
      by_cases hc : (mkF ((p + sumS (pre ++ [x])) * (qStep q x).2) (qStep q x).1).1 ≤ y.f0 * (mkF ((p + sumS (pre ++ [x])) * (qStep q x).2) (qStep q x).1).2
      · have e : shR p pre q (x :: y :: rest) = mkF ((p + sumS (pre ++ [x])) * (qStep q x).2) (qStep q x).1 := by
          conv => lhs; unfold shR
          exact if_pos hc
        rw [e]
        refine ⟨pre ++ [x], y :: rest, qStep q x, by simp, by simp, hq1, rfl, fun z hz => bears z hz _ rfl, ?_⟩
        intro z hz
        have hr := (out_le (p := p) (t := 0) ho1 (by simp) hq1 rfl).1
        rcases List.mem_cons.1 hz with rfl | hz
        · exact hc
        · have hyz : y.f0 ≤ z.f0 := by
            have h1 := (List.pairwise_append.1 ha).2.1
            rw [List.pairwise_cons] at h1
            have h2 := h1.2
            rw [List.pairwise_cons] at h2
            exact h2.1 z hz
          exact Int.le_trans hc (Int.mul_le_mul_of_nonneg_right hyz (Int.le_of_lt hr))
      · have e : shR p pre q (x :: y :: rest) = shR p (pre ++ [x]) (qStep q x) (y :: rest) := by
          conv => lhs; unfold shR
          exact if_neg hc
        have eq : pre ++ x :: y :: rest = (pre ++ [x]) ++ (y :: rest) := by simp
        rw [eq] at ho ha
        have i := shR_split p (y :: rest) (pre ++ [x]) (qStep q x) (by simp) ho ha hq1 (fun h => hc ((out_le (p := p) (t := y.f0) ho1 (by simp) hq1 rfl).2.2 h))
        rw [e, eq]
        exact i
def bearP (q : Int × Int) (x : S28) : Bool := decide (x.f0 * q.2 < q.1)
theorem shared_split (xs : List S28) (p : Int) (hp : 1 ≤ p) (hl : 1 ≤ xs.length) (ho : okS xs) :
    ∃ A qa, A ≠ [] ∧ isQ qa A ∧ A.Perm (xs.filter (bearP (sharedV xs p))) ∧ sharedV xs p = mkF ((p + sumS A) * qa.2) qa.1 := by
  have hsl := sortL_length xs (Nat.le_refl _)
  have hpm := sortL_all xs
  have hne : sortL xs xs.length ≠ [] := by intro e; rw [e] at hsl; simp at hsl; omega
  have hso : okS (sortL xs xs.length) := fun x hx => ho x (hpm.mem_iff.1 hx)
  have e : sharedV xs p = shR p [] (0, 1) (sortL xs xs.length) := by unfold sharedV; rw [if_neg (by omega)]
  obtain ⟨A, B, qa, h1, h2, h3, h4, h5, h6⟩ := shR_split p (sortL xs xs.length) [] (0, 1) hne (by simpa using hso) (by simpa using sortL_asc xs xs.length) ⟨by decide, by decide, by simp [sumQ]⟩ (by
    have := Int.mul_pos (show 0 < p by omega) bigK_pos
    simp only [sumW, List.map_nil, List.sum_nil]; omega)
  rw [← e] at h4 h5 h6
  refine ⟨A, qa, h2, h3, ?_, h4⟩
  have f := hpm.filter (bearP (sharedV xs p))
  rw [List.nil_append] at h1
  rw [h1, List.filter_append] at f
  have fa : A.filter (bearP (sharedV xs p)) = A := List.filter_eq_self.2 fun x hx => by unfold bearP; rw [decide_eq_true_eq]; have := h5 x hx; omega
  have fb : B.filter (bearP (sharedV xs p)) = [] := List.filter_eq_nil_iff.2 fun x hx => by unfold bearP; rw [decide_eq_true_eq]; have := h6 x hx; omega
  rw [fa, fb, List.append_nil] at f
  exact f
theorem okS_sub {xs ys : List S28} (h : okS xs) (hs : ∀ y ∈ ys, y ∈ xs) : okS ys := fun y hy => h y (hs y hy)
theorem sharedV_num (xs : List S28) (p : Int) (hp : 0 ≤ p) (hl : 1 ≤ xs.length) (ho : okS xs) : 0 < (sharedV xs p).1 := by
  by_cases h : p = 0
  · have hsl := sortL_length xs (Nat.le_refl _)
    have hm : (sortL xs xs.length).getD 0 z28 ∈ xs := by
      refine (sortL_all xs).mem_iff.1 ?_
      rw [getD_lt _ _ (by omega)]
      exact List.getElem_mem _
    have := ok_of (ho _ hm)
    unfold sharedV; rw [if_pos h]; show 0 < _; omega
  · obtain ⟨A, qa, h1, h2, h3, h4⟩ := shared_split xs p (by omega) hl ho
    have hA : okS A := okS_sub ho fun y hy => (List.mem_filter.1 (h3.mem_iff.1 hy)).1
    have qp : 0 < qa.1 := by
      obtain ⟨a, b, c⟩ := h2
      by_cases h : 0 < qa.1
      · exact h
      · have : qa.1 = 0 := by omega
        rw [this] at c
        have := Int.mul_pos (sumQ_pos hA h1) a
        omega
    obtain ⟨g, hg, e1, e2⟩ := mkF_mul ((p + sumS A) * qa.2) qa.1 qp
    rw [← h4] at e1
    have s := sumS_bd A hA
    have := Int.mul_pos (show 0 < p + sumS A by omega) h2.1
    exact pos_of_mul hg (by omega)
/-- The load and the tensions: what bears, summed up. -/
theorem shared_eq (xs : List S28) (p : Int) (hp : 1 ≤ p) (hl : 1 ≤ xs.length) (ho : okS xs) {num den : Int} (hn : num * bigK = sumQ (xs.filter (bearP (sharedV xs p))) * den) :
    (p + sumS (xs.filter (bearP (sharedV xs p)))) * den * (sharedV xs p).2 = (sharedV xs p).1 * num := by
  obtain ⟨A, qa, h1, h2, h3, h4⟩ := shared_split xs p hp hl ho
  have hA : okS A := okS_sub ho fun y hy => (List.mem_filter.1 (h3.mem_iff.1 hy)).1
  have qp : 0 < qa.1 := by
    obtain ⟨a, b, c⟩ := h2
    by_cases h : 0 < qa.1
    · exact h
    · have : qa.1 = 0 := by omega
      rw [this] at c
      have := Int.mul_pos (sumQ_pos hA h1) a
      omega
  have eS : sumS (xs.filter (bearP (sharedV xs p))) = sumS A := (sumBy_perm _ h3).symm
  have eQ : sumQ (xs.filter (bearP (sharedV xs p))) = sumQ A := (sumBy_perm _ h3).symm
  obtain ⟨g, hg, e1, e2⟩ := mkF_mul ((p + sumS A) * qa.2) qa.1 qp
  rw [← h4] at e1 e2
  rw [eS]
  rw [eQ] at hn
  generalize sharedV xs p = r at *
  refine Int.eq_of_mul_eq_mul_left (a := g * bigK) (Int.ne_of_gt (Int.mul_pos hg bigK_pos)) ?_
  have c := h2.2.2
  calc g * bigK * ((p + sumS A) * den * r.2) = (p + sumS A) * den * ((g * r.2) * bigK) := by ac_rfl
    _ = (p + sumS A) * den * (sumQ A * qa.2) := by rw [← e2, c]
    _ = ((p + sumS A) * qa.2) * (sumQ A * den) := by ac_rfl
    _ = (g * r.1) * (num * bigK) := by rw [e1, hn]
    _ = g * bigK * (r.1 * num) := by ac_rfl

/-! ### the drawn source -/
def byteL (l : List Int) : Prop := ∀ y ∈ l, 0 ≤ y ∧ y ≤ 255
theorem u8_range {a : Int} (h : (Lit.int .u8 a).wf = true) : 0 ≤ a ∧ a ≤ 255 := by
  simp only [Lit.wf, IntKind.min, IntKind.max, IntKind.signed, IntKind.bits, Bool.and_eq_true, decide_eq_true_eq, Bool.false_eq_true, if_false] at h
  omega
theorem and255 (a : Int) : 0 ≤ Go.bits .and .u64 a 255 ∧ Go.bits .and .u64 a 255 ≤ 255 := by
  show 0 ≤ IntKind.u64.wrap ((BitVec.ofInt 64 a &&& BitVec.ofInt 64 255).toNat : Int) ∧ IntKind.u64.wrap ((BitVec.ofInt 64 a &&& BitVec.ofInt 64 255).toNat : Int) ≤ 255
  have h : (BitVec.ofInt 64 a &&& BitVec.ofInt 64 255).toNat ≤ 255 := by rw [BitVec.toNat_and]; exact Nat.le_trans Nat.and_le_right (by decide)
  rw [IntKind.wrap_u64]
  omega
theorem rd_byte {l : List Int} (hl : byteL l) (i : Int) : 0 ≤ rd l i ∧ rd l i ≤ 255 := by
  unfold rd
  rw [List.getD_eq_getElem?_getD]
  cases e : l[i.toNat]? with
  | none => exact ⟨Int.le_refl _, by decide⟩
  | some v => exact hl v (List.mem_of_getElem? e)
theorem src_next_ev {l : List Int} (hl : byteL l) (p s : Int) (hp : 0 ≤ p ∧ p ≤ 1000000) : ∃ v s', spec_l00Src_next.f l p s = some (v, p + 1, s') ∧ 0 ≤ v ∧ v ≤ 255 := by
  have w1 : wrap64 (p + 1) = p + 1 := w64 (by omega) (by omega)
  have r := rd_byte hl p
  have w2 : wrap64 (rd l p) = rd l p := w64 (by omega) (by omega)
  simp only [spec_l00Src_next.f, w1]
  by_cases a : p < (l.length : Int)
  · simp only [a, hp.1, show p + 1 ≤ (l.length : Int) by omega, if_true, w2]
    exact ⟨_, _, rfl, r⟩
  · simp only [a, show ¬ p + 1 ≤ (l.length : Int) by omega, if_false]
    refine ⟨_, _, rfl, ?_⟩
    have := and255 ((IntKind.u64.wrap ((IntKind.u64.wrap ((IntKind.u64.wrap (s * 6364136223846793005)) + 0)) + 1442695040888963407)) / 1099511627776)
    rw [w64 (by omega) (by omega)]
    exact this
theorem src_pick_ev {l : List Int} (hl : byteL l) (p s n : Int) (hp : 0 ≤ p ∧ p ≤ 1000000) (hn : 2 ≤ n ∧ n ≤ 200) : ∃ v s', spec_l00Src_pick.f l p s n = some (v, p + 1, s') ∧ 0 ≤ v ∧ v < n := by
  obtain ⟨v, s', h, h1, h2⟩ := src_next_ev hl p s hp
  simp only [spec_l00Src_pick.f, show ¬ n ≤ 1 by omega, show ¬ n > 200 by omega, show ¬ n = 0 by omega, if_false, h, Option.bind_some]
  exact ⟨_, _, rfl, Int.tmod_nonneg _ h1, Int.tmod_lt_of_pos _ (by omega)⟩

/-! ### drawn lines -/
theorem drawS_loop {l : List Int} (hl : byteL l) : ∀ (d : Nat) (xs : List S28) (p s : Int), okS xs → xs.length + d ≤ 100 → 0 ≤ p → p + 3 * (d : Int) ≤ 1000 →
    ∃ r, Ev (fun k => spec_l04Draw.l0 k xs (d : Int) l p s) r ∧ okS r.1 ∧ r.1.length = xs.length + d := by
  intro d
  induction d with
  | zero =>
    intro xs p s ho _ _ _
    refine ⟨(xs, p, s), ev_succ ?_, ho, rfl⟩
    simp only [spec_l04Draw.l0, show ¬ (((0 : Nat) : Int) > 0) by omega, if_false]
    exact ev_now _
  | succ d ih =>
    intro xs p s ho hx h0 hp
    obtain ⟨v1, s1, a1, b1⟩ := src_pick_ev hl p s 60 (by omega) (by omega)
    obtain ⟨v2, s2, a2, b2⟩ := src_pick_ev hl (p + 1) s1 40 (by omega) (by omega)
    obtain ⟨v3, s3, a3, b3⟩ := src_pick_ev hl (p + 1 + 1) s2 25 (by omega) (by omega)
    have w1 : wrap64 (1 + v1) = 1 + v1 := w64 (by omega) (by omega)
    have w2 : wrap64 (1 + v3) = 1 + v3 := w64 (by omega) (by omega)
    have m : 0 ≤ v2 * (1 + v3) ∧ v2 * (1 + v3) ≤ 39 * 25 := ⟨Int.mul_nonneg b2.1 (by omega), Int.mul_le_mul (by omega) (by omega) (by omega) (by omega)⟩
    have w3 : wrap64 (v2 * (1 + v3)) = v2 * (1 + v3) := w64 (by omega) (by omega)
    have w4 : wrap64 (1 + v2 * (1 + v3)) = 1 + v2 * (1 + v3) := w64 (by omega) (by omega)
    have w5 : wrap64 (((d + 1 : Nat) : Int) - 1) = (d : Int) := by rw [w64 (by omega) (by omega)]; omega
    obtain ⟨r, h1, h2, h3⟩ := ih (xs ++ [(⟨1 + v1, 1 + v2 * (1 + v3)⟩ : S28)]) (p + 1 + 1 + 1) s3 (by
      intro y hy
      rcases List.mem_append.1 hy with hy | hy
      · exact ho y hy
      · rw [List.mem_singleton] at hy; subst hy
        unfold springB
        simp only [decide_eq_true_eq, Bool.and_eq_true]
        omega) (by simp; omega) (by omega) (by omega)
    refine ⟨r, ev_succ ?_, h2, by rw [h3]; simp; omega⟩
    simp only [spec_l04Draw.l0, show ((d + 1 : Nat) : Int) > 0 by omega, if_true, a1, a2, a3, Option.bind_some, w1, w2, w3, w4, w5, show xs.length < 8796093022208 by omega]
    exact h1
theorem A2Springs_ev (l : List Int) (hl : byteL l) : ∃ xs, Ev (fun k => spec_A2Springs.f k l) xs ∧ okS xs ∧ 1 ≤ xs.length ∧ xs.length ≤ 4 := by
  obtain ⟨v, s, a, b⟩ := src_pick_ev hl 0 0 4 (by omega) (by omega)
  have w : wrap64 (1 + v) = ((1 + v.toNat : Nat) : Int) := by rw [w64 (by omega) (by omega)]; omega
  obtain ⟨r, h1, h2, h3⟩ := drawS_loop hl (1 + v.toNat) [] 1 s (fun y hy => by simp at hy) (by simp; omega) (by omega) (by omega)
  refine ⟨r.1, ?_, h2, by rw [h3]; simp, by rw [h3]; simp; omega⟩
  simp only [spec_A2Springs.f, spec_l00From.f, spec_l04Draw.f, Option.bind_some]
  rw [show (0 : Int) + 1 = 1 from rfl] at a
  simp only [a, Option.bind_some, w]
  exact Ev.bind h1 (ev_now _)

/-! ### the force of a line at a shared length -/
theorem mkF_zero (d : Int) (h : 0 < d) : mkF 0 d = (0, 1) := by
  unfold mkF; rw [Int.gcd_zero_left, Int.natAbs_of_nonneg (by omega), Int.zero_tdiv, Int.tdiv_self (by omega)]
def forceV (x : S28) (q : Int × Int) : Int × Int := if q.1 ≤ x.f0 * q.2 then (0, 1) else mkF (x.f1 * (q.1 - x.f0 * q.2)) (x.f0 * q.2)
theorem forceV_zero (x : S28) (q : Int × Int) (h : springB x.f0 x.f1 = true) (bd : 0 ≤ q.1 ∧ q.1 ≤ 181440000000 ∧ 0 < q.2 ∧ q.2 ≤ 51840000000) : (forceV x q).1 = 0 ↔ q.1 ≤ x.f0 * q.2 := by
  have o := ok_of h
  unfold forceV
  by_cases hc : q.1 ≤ x.f0 * q.2
  · simp [hc]
  · simp only [hc, if_false, iff_false]
    have m := Int.mul_pos (show 0 < x.f1 by omega) (show 0 < q.1 - x.f0 * q.2 by omega)
    have d := Int.mul_pos (show 0 < x.f0 by omega) bd.2.2.1
    obtain ⟨g, hg, e1, e2⟩ := mkF_mul (x.f1 * (q.1 - x.f0 * q.2)) (x.f0 * q.2) d
    intro hz
    rw [hz] at e1
    omega
theorem impl_springForce_ev (x : S28) (q : Int × Int) (h : springB x.f0 x.f1 = true) (bd : 0 ≤ q.1 ∧ q.1 ≤ 181440000000 ∧ 0 < q.2 ∧ q.2 ≤ 51840000000) : Ev (fun k => impl_springForce.f k x.f0 x.f1 q.1 q.2) (forceV x q) := by
  have o := ok_of h
  have m := mul_bd (show 0 ≤ x.f0 by omega) o.1.2 (Int.le_of_lt bd.2.2.1) bd.2.2.2
  have d := Int.mul_pos (show 0 < x.f0 by omega) bd.2.2.1
  simp only [impl_springForce.f]
  unfold forceV
  rw [w64 (n := x.f0 * q.2) (by omega) (by omega)]
  by_cases hc : q.1 ≤ x.f0 * q.2
  · simp only [hc, if_true]
    refine Ev.bind (impl_fraction_ev 0 1 (by omega) (by omega)) ?_
    rw [mkF_one]
    exact ev_now _
  · simp only [hc, if_false]
    have m2 := mul_bd (show 0 ≤ x.f1 by omega) o.2.2 (show 0 ≤ q.1 - x.f0 * q.2 by omega) (show q.1 - x.f0 * q.2 ≤ 181440000000 by omega)
    rw [w64 (n := q.1 - x.f0 * q.2) (by omega) (by omega), w64 (n := x.f1 * (q.1 - x.f0 * q.2)) (by omega) (by omega)]
    exact Ev.bind (impl_fraction_ev _ _ (by omega) (by omega)) (ev_now _)

def slackV (xs : List S28) (p : Int) : List Int × Int := if springsB xs = true then if 0 ≤ p ∧ p ≤ 10000 then (slackL (sharedV xs p) xs xs.length, 0) else ([], 2) else ([], 1)
theorem slackV_len (xs : List S28) (h : xs.length ≤ 1048576) (p : Int) : (slackV xs p).1.length ≤ 1048576 := by
  have := slackL_len (sharedV xs p) xs xs.length
  unfold slackV
  split
  · split
    · simp only; omega
    · simp
  · simp
theorem impl_SlackLines_ev (xs : List S28) (h : xs.length ≤ 1048576) (p : Int) : Ev (fun k => impl_SlackLines.f k xs p) (slackV xs p) := by
  simp only [impl_SlackLines.f, impl_within_eq, Option.bind_some]
  refine Ev.bind (impl_ValidSprings_ev xs h) ?_
  unfold slackV
  cases hb : springsB xs
  · simp only [Bool.false_eq_true, if_false]; exact ev_now _
  · obtain ⟨hl, ho⟩ := okS_of hb
    simp only [if_true]
    by_cases hp : 0 ≤ p ∧ p ≤ 10000
    · simp only [hp, and_self, decide_true, if_true]
      refine Ev.bind (impl_sharedLength_ev xs p hp hl ho) ?_
      have bd := sharedV_bd xs p hp hl ho
      generalize sharedV xs p = q at bd ⊢
      show Ev (fun k => impl_SlackLines.l0 k (slackL q xs 0) xs (xs.length : Int) 0 q.1 q.2) _
      refine ev_fold (len := xs.length) (g := fun k s i => impl_SlackLines.l0 k s xs (xs.length : Int) i q.1 q.2) (fun n s => if q.1 ≤ (xs.getD n z28).f0 * q.2 then s ++ [(n : Int)] else s) (slackL q xs) _ (fun n hn => slackL_succ q xs n) ?_ ?_
      · intro n hn r hr
        have hs := slackL_len q xs n
        have ok := ho (xs.getD n z28) (by rw [getD_lt _ _ hn]; exact List.getElem_mem _)
        have fz := forceV_zero _ q ok bd
        have fe := impl_springForce_ev _ q ok bd
        refine ev_succ ?_
        simp only [impl_SlackLines.l0, Int.ofNat_lt.2 hn, show (0 : Int) ≤ (n : Int) from Int.natCast_nonneg _, if_true, rd_T28, Int.toNat_natCast, wnext hn (by omega : xs.length ≤ 9223372036854775807), show (slackL q xs n).length < 17592186044416 by omega]
        refine Ev.bind fe ?_
        by_cases hc : q.1 ≤ (xs.getD n z28).f0 * q.2
        · simp only [fz.2 hc, if_true]; simp only [hc, if_true] at hr; exact hr
        · simp only [show ¬ (forceV (xs.getD n z28) q).1 = 0 from fun e => hc (fz.1 e), if_false]; simp only [hc, if_false] at hr; exact hr
      · refine ev_succ ?_
        simp only [impl_SlackLines.l0, Int.lt_irrefl, if_false]
        exact ev_now _
    · simp only [hp, decide_false, Bool.false_eq_true, if_false]; exact ev_now _

def forceE (q : Int × Int) (x : S28) : S25 := ⟨(forceV x q).1, (forceV x q).2⟩
def forcesV (xs : List S28) (p : Int) : List S25 × Int := if springsB xs = true then if 0 ≤ p ∧ p ≤ 10000 then (xs.map (forceE (sharedV xs p)), 0) else ([], 2) else ([], 1)
theorem forcesV_len (xs : List S28) (h : xs.length ≤ 1048576) (p : Int) : (forcesV xs p).1.length ≤ 1048576 := by
  unfold forcesV
  split
  · split
    · simpa using h
    · simp
  · simp
theorem map_take_succ {α β : Type} (f : α → β) (xs : List α) (z : α) {n : Nat} (h : n < xs.length) : (xs.take (n + 1)).map f = (xs.take n).map f ++ [f (xs.getD n z)] := by
  rw [List.take_succ_eq_append_getElem h, List.map_append, getD_lt _ _ h]; rfl
theorem impl_SharedForces_ev (xs : List S28) (h : xs.length ≤ 1048576) (p : Int) : Ev (fun k => impl_SharedForces.f k xs p) (forcesV xs p) := by
  simp only [impl_SharedForces.f, impl_within_eq, Option.bind_some]
  refine Ev.bind (impl_ValidSprings_ev xs h) ?_
  unfold forcesV
  cases hb : springsB xs
  · simp only [Bool.false_eq_true, if_false]; exact ev_now _
  · obtain ⟨hl, ho⟩ := okS_of hb
    simp only [if_true]
    by_cases hp : 0 ≤ p ∧ p ≤ 10000
    · simp only [hp, and_self, decide_true, if_true]
      refine Ev.bind (impl_sharedLength_ev xs p hp hl ho) ?_
      have bd := sharedV_bd xs p hp hl ho
      generalize sharedV xs p = q at bd ⊢
      show Ev (fun k => impl_SharedForces.l0 k ((xs.take 0).map (forceE q)) xs (xs.length : Int) 0 q.1 q.2) _
      refine ev_fold (len := xs.length) (g := fun k s i => impl_SharedForces.l0 k s xs (xs.length : Int) i q.1 q.2) (fun n s => s ++ [forceE q (xs.getD n z28)]) (fun n => (xs.take n).map (forceE q)) _ (fun n hn => map_take_succ _ xs _ hn) ?_ ?_
      · intro n hn r hr
        have ok := ho (xs.getD n z28) (by rw [getD_lt _ _ hn]; exact List.getElem_mem _)
        refine ev_succ ?_
        simp only [impl_SharedForces.l0, Int.ofNat_lt.2 hn, show (0 : Int) ≤ (n : Int) from Int.natCast_nonneg _, if_true, rd_T28, Int.toNat_natCast, wnext hn (by omega : xs.length ≤ 9223372036854775807), show ((xs.take n).map (forceE q)).length < 8796093022208 by rw [List.length_map, List.length_take]; omega]
        exact Ev.bind (impl_springForce_ev _ q ok bd) hr
      · refine ev_succ ?_
        simp only [impl_SharedForces.l0, Int.lt_irrefl, if_false, List.take_length]
        exact ev_now _
    · simp only [hp, decide_false, Bool.false_eq_true, if_false]; exact ev_now _

def longS (xs : List S28) : Int := xs.foldl (fun s x => mx s x.f0) 0
theorem mx_le (a b : Int) : a ≤ mx a b ∧ b ≤ mx a b ∧ (mx a b = a ∨ mx a b = b) := by unfold mx; split <;> omega
theorem longS_go (xs : List S28) : ∀ s : Int, s ≤ xs.foldl (fun s x => mx s x.f0) s ∧ (∀ x ∈ xs, x.f0 ≤ xs.foldl (fun s x => mx s x.f0) s) ∧ (xs.foldl (fun s x => mx s x.f0) s = s ∨ ∃ x ∈ xs, xs.foldl (fun s x => mx s x.f0) s = x.f0) := by
  induction xs with
  | nil => intro s; exact ⟨Int.le_refl _, by simp, .inl rfl⟩
  | cons y xs ih =>
    intro s
    obtain ⟨i1, i2, i3⟩ := ih (mx s y.f0)
    have m := mx_le s y.f0
    simp only [List.foldl_cons]
    refine ⟨by omega, ?_, ?_⟩
    · intro x hx
      rcases List.mem_cons.1 hx with rfl | hx
      · omega
      · exact i2 x hx
    · rcases i3 with i3 | ⟨x, hx, i3⟩
      · rcases m.2.2 with m3 | m3
        · exact .inl (by omega)
        · exact .inr ⟨y, List.mem_cons_self, by omega⟩
      · exact .inr ⟨x, List.mem_cons_of_mem _ hx, i3⟩
/-- A load that all bear. -/
theorem slack_nil (xs : List S28) (p : Int) (hp : 0 ≤ p ∧ p ≤ 10000) (hl : 1 ≤ xs.length ∧ xs.length ≤ 4) (ho : okS xs) :
    ((slackL (sharedV xs p) xs xs.length).length = 0 ↔ ¬ p * bigK ≤ sumW (longS xs) xs) := by
  obtain ⟨i1, i2, i3⟩ := longS_go xs 0
  have h := sharedV_le xs p (longS xs) hp hl ho i2
  rw [slackL_nil, ← h.2]
  constructor
  · intro hh hc
    rcases i3 with i3 | ⟨x, hx, i3⟩
    · cases xs with
      | nil => simp at hl
      | cons x xs => have := i2 x List.mem_cons_self; have := (ok_of (ho x List.mem_cons_self)).1; omega
    · refine hh x hx ?_
      unfold longS at hc; rw [i3] at hc; exact hc
  · intro hh x hx hc
    refine hh (Int.le_trans hc ?_)
    exact Int.mul_le_mul_of_nonneg_right (i2 x hx) (Int.le_of_lt h.1)
def bearV (m : Int) : Int × Int := if m > 10000 then (0, 3) else (m, 0)
theorem sumW_snoc (t : Int) (l : List S28) (x : S28) : sumW t (l ++ [x]) = sumW t l + (x.f1 * (t - x.f0)) * (bigK / x.f0) := by simp [sumW, Int.mul_assoc]
theorem sumW_bd (t : Int) (ht : t ≤ 60) : ∀ l : List S28, okS l → (∀ x ∈ l, x.f0 ≤ t) → sumW t l ≤ (60000 * (l.length : Int)) * bigK
  | [], _, _ => by simp [sumW]
  | x :: l, h, g => by
    have ih := sumW_bd t ht l (fun y hy => h y (List.mem_cons_of_mem _ hy)) (fun y hy => g y (List.mem_cons_of_mem _ hy))
    have o := ok_of (h x List.mem_cons_self)
    have gx := g x List.mem_cons_self
    have kp := bigK_div_pos o.1
    have m1 := mul_bd (show 0 ≤ t - x.f0 by omega) (show t - x.f0 ≤ 60 by omega) (Int.le_of_lt kp) (kdiv_le o.1)
    have m := mul_bd (show 0 ≤ x.f1 by omega) o.2.2 m1.1 m1.2
    have e : (60000 * ((l.length + 1 : Nat) : Int)) * bigK = (60000 * (l.length : Int)) * bigK + 1000 * (60 * bigK) := by
      rw [show (60000 * ((l.length + 1 : Nat) : Int)) = 60000 * (l.length : Int) + 60000 by omega, Int.add_mul]; omega
    simp only [sumW, List.map_cons, List.sum_cons, List.length_cons] at ih ⊢
    omega
def wStep (t : Int) (s : Int × Int) (x : S28) : Int × Int := mkF (s.1 * x.f0 + (x.f1 * (t - x.f0)) * s.2) (s.2 * x.f0)
def wL (t : Int) (xs : List S28) (n : Nat) : Int × Int := (xs.take n).foldl (wStep t) (0, 1)
theorem ok_at {xs : List S28} (ho : okS xs) {n : Nat} (h : n < xs.length) : springB (xs.getD n z28).f0 (xs.getD n z28).f1 = true := ho _ (by rw [getD_lt _ _ h]; exact List.getElem_mem _)
theorem wL_inv (t : Int) (xs : List S28) (ho : okS xs) (ht : ∀ x ∈ xs, x.f0 ≤ t) : ∀ n, n ≤ xs.length → frI (sumW t (xs.take n)) n (wL t xs n) := by
  intro n
  induction n with
  | zero => intro _; exact ⟨Int.one_pos, Int.le_refl _, by simp [sumW, wL], by simp [wL]⟩
  | succ n ih =>
    intro h
    have i := ih (by omega)
    have hb := ok_at ho (show n < xs.length by omega)
    have hx := ht (xs.getD n z28) (by rw [getD_lt _ _ (show n < xs.length by omega)]; exact List.getElem_mem _)
    have := fr_next (c := (xs.getD n z28).f1 * (t - (xs.getD n z28).f0)) i (ok_of hb).1 (Int.mul_nonneg (by have := (ok_of hb).2; omega) (by omega))
    rw [← sumW_snoc] at this
    unfold wL at this ⊢
    rw [foldl_take_succ xs z28 (wStep t) (0, 1) (by omega), List.take_succ_eq_append_getElem (by omega)]
    rw [getD_lt _ _ (show n < xs.length by omega)] at this ⊢
    exact this
theorem springForce_ev (l s t : Int) (h : springB l s = true) (ht : l ≤ t ∧ t ≤ 60) : Ev (fun k => impl_springForce.f k l s t 1) (mkF (s * (t - l)) l) := by
  have o : (1 ≤ l ∧ l ≤ 60) ∧ (1 ≤ s ∧ s ≤ 1000) := by unfold springB at h; simpa using h
  have m := mul_bd (show 0 ≤ s by omega) o.2.2 (show 0 ≤ t - l by omega) (show t - l ≤ 60 by omega)
  simp only [impl_springForce.f]
  rw [Int.mul_one, w64 (n := l) (by omega) (by omega)]
  by_cases hc : t ≤ l
  · simp only [hc, if_true]
    rw [show t - l = 0 by omega, Int.mul_zero, mkF_zero l (by omega)]
    refine Ev.bind (impl_fraction_ev 0 1 (by omega) (by omega)) ?_
    rw [mkF_one]
    exact ev_now _
  · simp only [hc, if_false]
    rw [w64 (n := t - l) (by omega) (by omega), w64 (n := s * (t - l)) (by omega) (by omega)]
    exact Ev.bind (impl_fraction_ev _ l (by omega) (by omega)) (ev_now _)
def loadV (q : Int × Int) : Int × Int := bearV (q.1 / q.2 + 1)
theorem impl_sum_loop (xs : List S28) (hl : 1 ≤ xs.length ∧ xs.length ≤ 4) (ho : okS xs) (t : Int) (ht : ∀ x ∈ xs, x.f0 ≤ t) (ht2 : 0 ≤ t ∧ t ≤ 60) :
    Ev (fun k => impl_AllBear.l1 k t xs (xs.length : Int) 0 0 1) (loadV (wL t xs xs.length)) := by
  have bd : ∀ n, n ≤ xs.length → (wL t xs n).2 ≤ 12960000 ∧ (wL t xs n).1 ≤ 240000 * (wL t xs n).2 := by
    intro n hn
    refine fr_bd (wL_inv t xs ho ht n hn) (by omega) ?_
    have h1 := sumW_bd t ht2.2 (xs.take n) (fun x hx => ho x (List.mem_of_mem_take hx)) (fun x hx => ht x (List.mem_of_mem_take hx))
    have h2 : (60000 * ((xs.take n).length : Int)) * bigK ≤ 240000 * bigK := Int.mul_le_mul_of_nonneg_right (by rw [List.length_take]; omega) (Int.le_of_lt bigK_pos)
    omega
  refine ev_fold (len := xs.length) (g := fun k (s : Int × Int) i => impl_AllBear.l1 k t xs (xs.length : Int) i s.1 s.2) (fun n s => wStep t s (xs.getD n z28)) (wL t xs) _ (fun n hn => foldl_take_succ xs _ _ _ hn) ?_ ?_
  · intro n hn r hr
    have i := wL_inv t xs ho ht n (by omega)
    have b := bd n (by omega)
    have hb := ok_at ho hn
    have o := ok_of hb
    have hx := ht (xs.getD n z28) (by rw [getD_lt _ _ hn]; exact List.getElem_mem _)
    refine ev_succ ?_
    simp only [impl_AllBear.l1, Int.ofNat_lt.2 hn, show (0 : Int) ≤ (n : Int) from Int.natCast_nonneg _, if_true, rd_T28, Int.toNat_natCast, wnext hn (by omega : xs.length ≤ 9223372036854775807)]
    refine Ev.bind (impl_fraction_ev t 1 (by omega) (by omega)) ?_
    rw [mkF_one]
    refine Ev.bind (springForce_ev _ _ t hb ⟨hx, ht2.2⟩) ?_
    have hr' : Ev (fun k => impl_AllBear.l1 k t xs (xs.length : Int) ((n + 1 : Nat) : Int) (wStep t (wL t xs n) (xs.getD n z28)).1 (wStep t (wL t xs n) (xs.getD n z28)).2) r := hr
    generalize xs.getD n z28 = x at *
    generalize wL t xs n = q at *
    have m1 := mul_bd (show 0 ≤ x.f1 by omega) o.2.2 (show 0 ≤ t - x.f0 by omega) (show t - x.f0 ≤ 60 by omega)
    have m := mkF_mul (x.f1 * (t - x.f0)) x.f0 (by omega)
    have mp := mkF_pos (x.f1 * (t - x.f0)) x.f0 m1.1 (by omega)
    unfold wStep at hr'
    generalize x.f1 * (t - x.f0) = c at *
    generalize mkF c x.f0 = u at *
    obtain ⟨g, hg, e1, e2⟩ := m
    have z1 : q.1 * x.f0 + c * q.2 = g * (q.1 * u.2 + u.1 * q.2) := by rw [e1, e2, Int.mul_add, Int.mul_left_comm, Int.mul_assoc]
    have z2 : q.2 * x.f0 = g * (q.2 * u.2) := by rw [e2, Int.mul_left_comm]
    have y1 := mul_bd i.2.1 (show q.1 ≤ 3110400000000 by omega) (show 0 ≤ u.2 by omega) (show u.2 ≤ 60 by omega)
    have y2 := mul_bd mp.1 (show u.1 ≤ 60000 by omega) (show 0 ≤ q.2 by have := i.1; omega) b.1
    have y3 := mul_bd (show 0 ≤ q.2 by have := i.1; omega) b.1 (show 0 ≤ u.2 by omega) (show u.2 ≤ 60 by omega)
    refine Ev.bind (impl_addFractions_ev q.1 q.2 u.1 u.2 i.2.1 mp.1 i.1 mp.2.2.1 (by omega) (by omega)) ?_
    rw [← mkF_scale g _ _ hg, ← z1, ← z2]
    exact hr'
  · have i := wL_inv t xs ho ht xs.length (Nat.le_refl _)
    have b := bd xs.length (Nat.le_refl _)
    refine ev_succ ?_
    generalize wL t xs xs.length = q at *
    have hdv : q.1 / q.2 ≤ 240000 := Int.ediv_le_of_le_mul i.1 b.2
    have hdn : 0 ≤ q.1 / q.2 := Int.ediv_nonneg i.2.1 (Int.le_of_lt i.1)
    simp only [impl_AllBear.l1, Int.lt_irrefl, if_false, show ¬ q.2 = 0 by have := i.1; omega]
    rw [Int.tdiv_eq_ediv_of_nonneg i.2.1, w64 (n := q.1 / q.2) (by omega) (by omega), w64 (n := q.1 / q.2 + 1) (by omega) (by omega)]
    unfold loadV bearV
    by_cases h : q.1 / q.2 + 1 > 10000
    · simp only [h, if_true]; exact ev_now _
    · simp only [h, if_false]; exact ev_now _
theorem load_uniq {W q1 q2 m : Int} (h0 : 0 < q2) (h2 : q1 * bigK = W * q2) (k1 : (m - 1) * bigK ≤ W) (k2 : ¬ m * bigK ≤ W) : q1 / q2 + 1 = m := by
  have a : ∀ p : Int, p * bigK ≤ W ↔ p ≤ q1 / q2 := by
    intro p
    rw [Int.le_ediv_iff_mul_le h0]
    constructor
    · intro h
      refine Int.le_of_mul_le_mul_right ?_ bigK_pos
      rw [h2, Int.mul_right_comm]
      exact Int.mul_le_mul_of_nonneg_right h (Int.le_of_lt h0)
    · intro h
      refine Int.le_of_mul_le_mul_right ?_ h0
      rw [← h2, Int.mul_right_comm]
      exact Int.mul_le_mul_of_nonneg_right h (Int.le_of_lt bigK_pos)
  have b1 := (a (m - 1)).1 k1
  have b2 : ¬ m ≤ q1 / q2 := fun h => k2 ((a m).2 h)
  omega
theorem load_big {W q1 q2 : Int} (h0 : 0 < q2) (h2 : q1 * bigK = W * q2) (k1 : 10000 * bigK ≤ W) : q1 / q2 + 1 > 10000 := by
  have : 10000 ≤ q1 / q2 := by
    rw [Int.le_ediv_iff_mul_le h0]
    refine Int.le_of_mul_le_mul_right ?_ bigK_pos
    rw [h2, Int.mul_right_comm]
    exact Int.mul_le_mul_of_nonneg_right k1 (Int.le_of_lt h0)
  omega
theorem impl_long_loop (xs : List S28) (h : xs.length ≤ 1048576) {r : Int × Int} (hr : Ev (fun k => impl_AllBear.l1 k (longS xs) xs (xs.length : Int) 0 0 1) r) : Ev (fun k => impl_AllBear.l0 k xs 0 xs (xs.length : Int) 0) r := by
  refine ev_fold (len := xs.length) (g := fun k s i => impl_AllBear.l0 k xs s xs (xs.length : Int) i) (fun n s => mx s (xs.getD n z28).f0) (fun n => (xs.take n).foldl (fun s x => mx s x.f0) 0) _ (fun n hn => foldl_take_succ xs z28 (fun s x => mx s x.f0) 0 hn) ?_ ?_
  · intro n hn r hr
    refine ev_succ ?_
    simp only [impl_AllBear.l0, Int.ofNat_lt.2 hn, show (0 : Int) ≤ (n : Int) from Int.natCast_nonneg _, if_true, rd_T28, Int.toNat_natCast, wnext hn (by omega : xs.length ≤ 9223372036854775807)]
    exact hr
  · refine ev_succ ?_
    simp only [impl_AllBear.l0, Int.lt_irrefl, if_false]
    refine Ev.bind (impl_fraction_ev 0 1 (by omega) (by omega)) ?_
    rw [mkF_one, List.take_length]
    exact hr
theorem load_iff {W q1 q2 : Int} (h0 : 0 < q2) (h2 : q1 * bigK = W * q2) (p : Int) : p * bigK ≤ W ↔ p ≤ q1 / q2 := by
  rw [Int.le_ediv_iff_mul_le h0]
  constructor
  · intro h
    refine Int.le_of_mul_le_mul_right ?_ bigK_pos
    rw [h2, Int.mul_right_comm]
    exact Int.mul_le_mul_of_nonneg_right h (Int.le_of_lt h0)
  · intro h
    refine Int.le_of_mul_le_mul_right ?_ h0
    rw [← h2, Int.mul_right_comm]
    exact Int.mul_le_mul_of_nonneg_right h (Int.le_of_lt bigK_pos)
theorem impl_AllBear_ev (xs : List S28) (hb : springsB xs = true) : ∃ m, Ev (fun k => impl_AllBear.f k xs) (bearV m) ∧ 1 ≤ m ∧ (m - 1) * bigK ≤ sumW (longS xs) xs ∧ ¬ m * bigK ≤ sumW (longS xs) xs := by
  obtain ⟨hl, ho⟩ := okS_of hb
  obtain ⟨i1, i2, i3⟩ := longS_go xs 0
  have ht2 : 0 ≤ longS xs ∧ longS xs ≤ 60 := by
    refine ⟨i1, ?_⟩
    rcases i3 with i3 | ⟨x, hx, i3⟩
    · unfold longS; omega
    · have := (ok_of (ho x hx)).1; unfold longS; omega
  have lv := impl_sum_loop xs hl ho (longS xs) i2 ht2
  have wi := wL_inv (longS xs) xs ho i2 xs.length (Nat.le_refl _)
  rw [List.take_length] at wi
  have li := load_iff wi.1 wi.2.2.1
  have hn : 0 ≤ (wL (longS xs) xs xs.length).1 / (wL (longS xs) xs xs.length).2 := Int.ediv_nonneg wi.2.1 (Int.le_of_lt wi.1)
  unfold loadV at lv
  refine ⟨(wL (longS xs) xs xs.length).1 / (wL (longS xs) xs xs.length).2 + 1, ?_, by omega, (li _).2 (by omega), fun h => ?_⟩
  · simp only [impl_AllBear.f]
    refine Ev.bind (impl_ValidSprings_ev xs (by omega)) ?_
    simp only [hb, if_true]
    exact impl_long_loop xs (by omega) lv
  · have := (li _).1 h; omega

theorem impl_SharedLength_ev (xs : List S28) (p : Int) (hp : 0 ≤ p ∧ p ≤ 10000) (hb : springsB xs = true) : Ev (fun k => impl_SharedLength.f k xs p) ((sharedV xs p).1, (sharedV xs p).2, 0) := by
  obtain ⟨hl, ho⟩ := okS_of hb
  simp only [impl_SharedLength.f, impl_within_eq, Option.bind_some]
  refine Ev.bind (impl_ValidSprings_ev xs (by omega)) ?_
  simp only [hb, hp, and_self, decide_true, if_true]
  exact Ev.bind (impl_sharedLength_ev xs p hp hl ho) (ev_now _)
theorem a2Has_ev (xs : List Int) (h : xs.length ≤ 1048576) (v : Int) : Ev (fun k => laws_a2Has.f k xs v) (decide (v ∈ xs)) := by
  simp only [laws_a2Has.f]
  have key : ∀ d n, n + d = xs.length → Ev (fun k => laws_a2Has.l0 k xs v (n : Int)) (decide (v ∈ xs.drop n)) := by
    intro d
    induction d with
    | zero =>
      intro n hn
      simp only [Nat.add_zero] at hn
      subst hn
      refine ev_succ ?_
      simp only [laws_a2Has.l0, Int.lt_irrefl, if_false, List.drop_length, List.not_mem_nil, decide_false]
      exact ev_now _
    | succ d ih =>
      intro n hn
      have hlt : n < xs.length := by omega
      have hd : xs.drop n = xs.getD n 0 :: xs.drop (n + 1) := by rw [List.drop_eq_getElem_cons hlt, getD_lt _ _ hlt]
      have i := ih (n + 1) (by omega)
      refine ev_succ ?_
      simp only [laws_a2Has.l0, Int.ofNat_lt.2 hlt, show (0 : Int) ≤ (n : Int) from Int.natCast_nonneg _, if_true, rd, Int.toNat_natCast, wnext hlt (by omega : xs.length ≤ 9223372036854775807)]
      rw [hd]
      by_cases hc : xs.getD n 0 = v
      · simp only [hc, if_true, List.mem_cons, true_or, decide_true]; exact ev_now _
      · simp only [hc, if_false, List.mem_cons, show ¬ v = xs.getD n 0 from fun e => hc e.symm, false_or]; exact i
  exact key xs.length 0 (by omega)
theorem mem_slackL (q : Int × Int) (xs : List S28) {n : Nat} (h : n < xs.length) : ((n : Int) ∈ slackL q xs xs.length) ↔ ¬ bearP q (xs.getD n z28) = true := by
  unfold slackL bearP
  rw [List.mem_map]
  constructor
  · rintro ⟨i, hi, e⟩
    rw [List.mem_filter] at hi
    have : i = n := by omega
    subst this
    have := hi.2
    simp only [decide_eq_true_eq] at this ⊢
    omega
  · intro hb
    refine ⟨n, List.mem_filter.2 ⟨List.mem_range.2 h, ?_⟩, rfl⟩
    simp only [decide_eq_true_eq] at hb ⊢
    omega
theorem slackL_lt (q : Int × Int) (xs : List S28) (n : Nat) : (slackL q xs n).Pairwise (· < ·) := by
  unfold slackL
  rw [List.pairwise_map]
  exact (List.Pairwise.sublist List.filter_sublist List.pairwise_lt_range).imp (fun h => Int.ofNat_lt.2 h)
theorem slackL_in (q : Int × Int) (xs : List S28) (n : Nat) : ∀ v ∈ slackL q xs n, 0 ≤ v ∧ v < (n : Int) := by
  intro v hv
  unfold slackL at hv
  obtain ⟨i, hi, rfl⟩ := List.mem_map.1 hv
  have := List.mem_range.1 (List.mem_filter.1 hi).1
  omega
theorem a2Rises_ev (ys : List Int) (N : Int) (h : ys.length ≤ 1048576) (hin : ∀ v ∈ ys, 0 ≤ v ∧ v < N) (hlt : ys.Pairwise (· < ·)) : Ev (fun k => laws_a2Rises.f k ys N) true := by
  simp only [laws_a2Rises.f]
  have key : ∀ d n, n + d = ys.length → Ev (fun k => laws_a2Rises.l0 k ys N (n : Int)) true := by
    intro d
    induction d with
    | zero =>
      intro n hn
      simp only [Nat.add_zero] at hn
      subst hn
      refine ev_succ ?_
      simp only [laws_a2Rises.l0, Int.lt_irrefl, if_false]
      exact ev_now _
    | succ d ih =>
      intro n hn
      have hl : n < ys.length := by omega
      have i := ih (n + 1) (by omega)
      have b := hin (ys.getD n 0) (by rw [getD_lt _ _ hl]; exact List.getElem_mem _)
      refine ev_succ ?_
      simp only [laws_a2Rises.l0, Int.ofNat_lt.2 hl, show (0 : Int) ≤ (n : Int) from Int.natCast_nonneg _, if_true, rd, Int.toNat_natCast, show ¬ ys.getD n 0 < 0 by omega, show ¬ ys.getD n 0 ≥ N by omega, if_false, wnext hl (by omega : ys.length ≤ 9223372036854775807)]
      by_cases hz : (n : Int) > 0
      · have w : wrap64 ((n : Int) - 1) = ((n - 1 : Nat) : Int) := by rw [w64 (by omega) (by omega)]; omega
        have g := (List.pairwise_iff_getElem.1 hlt) (n - 1) n (by omega) hl (by omega)
        rw [← getD_lt ys 0 (show n - 1 < ys.length by omega), ← getD_lt ys 0 hl] at g
        simp only [hz, if_true, w, show (0 : Int) ≤ ((n - 1 : Nat) : Int) from Int.natCast_nonneg _, show ((n - 1 : Nat) : Int) < (ys.length : Int) by omega, Int.toNat_natCast, show ¬ ys.getD (n - 1) 0 ≥ ys.getD n 0 by omega, if_false]
        exact i
      · simp only [hz, if_false]; exact i
  exact key ys.length 0 (by omega)
theorem modmod (a b : Int) (ha : 0 ≤ a) (hb : 0 ≤ b) : Int.tmod (wrap64 (Int.tmod a 1000003 * Int.tmod b 1000003)) 1000003 = (a * b) % 1000003 := by
  rw [Int.tmod_eq_emod_of_nonneg ha, Int.tmod_eq_emod_of_nonneg hb]
  have h1 : 0 ≤ a % 1000003 ∧ a % 1000003 < 1000003 := ⟨Int.emod_nonneg _ (by decide), Int.emod_lt_of_pos _ (by decide)⟩
  have h2 : 0 ≤ b % 1000003 ∧ b % 1000003 < 1000003 := ⟨Int.emod_nonneg _ (by decide), Int.emod_lt_of_pos _ (by decide)⟩
  have m := mul_bd h1.1 (show a % 1000003 ≤ 1000002 by omega) h2.1 (show b % 1000003 ≤ 1000002 by omega)
  rw [w64 (by omega) (by omega), Int.tmod_eq_emod_of_nonneg m.1, ← Int.mul_emod]
theorem a2Equal_true (a b c d e : Int) (ha : 0 ≤ a) (hb : 0 ≤ b) (hc : 0 ≤ c) (hd : 0 ≤ d) (he : 0 ≤ e) (h : a * b * d = c * e) : laws_a2Equal.f a b c d e = some true := by
  simp only [laws_a2Equal.f]
  have m1 := modmod a b ha hb
  have m2 := modmod c e hc he
  have m3 := modmod ((a * b) % 1000003) d (Int.emod_nonneg _ (by decide)) hd
  have t : Int.tmod ((a * b) % 1000003) 1000003 = (a * b) % 1000003 := by
    rw [Int.tmod_eq_emod_of_nonneg (Int.emod_nonneg _ (by decide))]; exact Int.emod_emod_of_dvd _ (Int.dvd_refl _)
  rw [t] at m3
  rw [m1, m3, m2, ← h, Int.mul_emod, Int.emod_emod_of_dvd _ (Int.dvd_refl _), ← Int.mul_emod, beq_self_eq_true]
/-! ### the loops of the law -/
def bearL (q : Int × Int) (xs : List S28) (n : Nat) : List S28 := (xs.take n).filter (bearP q)
theorem bearL_succ (q : Int × Int) (xs : List S28) {n : Nat} (h : n < xs.length) : bearL q xs (n + 1) = if bearP q (xs.getD n z28) = true then bearL q xs n ++ [xs.getD n z28] else bearL q xs n := by
  unfold bearL
  rw [List.take_succ_eq_append_getElem h, List.filter_append, getD_lt _ _ h]
  by_cases hb : bearP q xs[n] = true
  · rw [if_pos hb]; simp [hb]
  · rw [if_neg hb]; simp [hb]
theorem bearL_ok (q : Int × Int) {xs : List S28} (ho : okS xs) (n : Nat) : okS (bearL q xs n) := okS_sub ho fun y hy => List.mem_of_mem_take (List.mem_filter.1 hy).1
theorem bearL_len (q : Int × Int) (xs : List S28) (n : Nat) : (bearL q xs n).length ≤ n := by
  unfold bearL
  exact Nat.le_trans (List.length_filter_le _ _) (by rw [List.length_take]; omega)
def ndL (l : List S28) : Int × Int := l.foldl (fun s x => (s.1 * x.f0 + x.f1 * s.2, s.2 * x.f0)) (0, 1)
theorem fr_raw {V : Int} {n : Nat} {s : Int × Int} {c l : Int} (h : frI V n s) (hl : 1 ≤ l ∧ l ≤ 60) (hc : 0 ≤ c) : frI (V + c * (bigK / l)) (n + 1) (s.1 * l + c * s.2, s.2 * l) := by
  obtain ⟨h1, h2, h3, h4⟩ := h
  have k := bigK_of hl
  have p : 0 < s.2 * l := Int.mul_pos h1 (by omega)
  have nn : 0 ≤ s.1 * l + c * s.2 := Int.add_nonneg (Int.mul_nonneg h2 (by omega)) (Int.mul_nonneg hc (by omega))
  refine ⟨p, nn, ?_, ?_⟩
  · show (s.1 * l + c * s.2) * bigK = (V + c * (bigK / l)) * (s.2 * l)
    rw [Int.add_mul, Int.add_mul, Int.mul_right_comm, h3]
    have e4 : c * s.2 * bigK = c * (bigK / l) * (s.2 * l) := by
      conv => lhs; rw [← k]
      ac_rfl
    rw [e4, Int.mul_assoc V]
  · show s.2 * l ≤ 60 ^ (n + 1)
    have b : s.2 * l ≤ 60 ^ n * 60 := Int.mul_le_mul h4 hl.2 (by omega) (by have := Int.pow_pos (n := 60) (m := n) (by decide); omega)
    rw [Int.pow_succ]; exact b
theorem ndL_snoc (l : List S28) (x : S28) : ndL (l ++ [x]) = ((ndL l).1 * x.f0 + x.f1 * (ndL l).2, (ndL l).2 * x.f0) := by
  unfold ndL; rw [List.foldl_append]; rfl
theorem ndL_go : ∀ (l pre : List S28) (s : Int × Int), okS l → frI (sumQ pre) pre.length s → frI (sumQ (pre ++ l)) (pre ++ l).length (l.foldl (fun s x => (s.1 * x.f0 + x.f1 * s.2, s.2 * x.f0)) s)
  | [], pre, s, _, h => by rw [List.append_nil]; exact h
  | x :: l, pre, s, ho, h => by
    have o := ok_of (ho x List.mem_cons_self)
    have i := fr_raw (c := x.f1) h o.1 (by omega)
    rw [← sumQ_snoc] at i
    have := ndL_go l (pre ++ [x]) _ (fun y hy => ho y (List.mem_cons_of_mem _ hy)) (by rw [List.length_append, List.length_singleton]; exact i)
    rw [List.append_assoc, List.singleton_append] at this
    exact this
theorem ndL_inv (l : List S28) (h : okS l) : frI (sumQ l) l.length (ndL l) := by
  have := ndL_go l [] (0, 1) h ⟨Int.one_pos, Int.le_refl _, by simp [sumQ], by simp⟩
  rwa [List.nil_append] at this
theorem tail_ev (xs : List S28) (hb : springsB xs = true) : Ev (fun k => laws_FnSharedLoads.j4 k xs false) true := by
  obtain ⟨hl, ho⟩ := okS_of hb
  obtain ⟨m, h1, h2, h3, h4⟩ := impl_AllBear_ev xs hb
  refine ev_succ ?_
  simp only [laws_FnSharedLoads.j4, Bool.false_eq_true, if_false]
  refine Ev.bind h1 ?_
  unfold bearV
  by_cases hm : m > 10000
  · simp only [hm, if_true, show ¬ (3 : Int) = 0 by decide, if_false, beq_self_eq_true]; exact ev_now _
  · simp only [hm, if_false, if_true, show ¬ m < 1 by omega, decide_false]
    refine ev_succ ?_
    have s1 := impl_SlackLines_ev xs (by omega) m
    have s2 := impl_SlackLines_ev xs (by omega) (m - 1)
    have n1 := slack_nil xs m (by omega) hl ho
    have n2 := slack_nil xs (m - 1) (by omega) hl ho
    unfold slackV at s1 s2
    rw [if_pos hb, if_pos (by omega)] at s1 s2
    have l1 : ((slackL (sharedV xs m) xs xs.length).length : Int) = 0 := by have := n1.2 h4; omega
    have l2 : ((slackL (sharedV xs (m - 1)) xs xs.length).length : Int) > 0 := by
      by_cases hz : (slackL (sharedV xs (m - 1)) xs xs.length).length = 0
      · exact absurd h3 (n2.1 hz)
      · omega
    simp only [laws_FnSharedLoads.j5, Bool.false_eq_true, if_false, w64 (n := m - 1) (by omega) (by omega)]
    refine Ev.bind s1 (Ev.bind s2 ?_)
    simp only [l1, l2, if_true, decide_true]
    exact ev_now _
theorem sum_loop_ev (xs : List S28) (p : Int) (hp : 0 ≤ p ∧ p ≤ 10000) (hb : springsB xs = true) :
    Ev (fun k => laws_FnSharedLoads.l1 k xs p (slackL (sharedV xs p) xs xs.length) (sumS (bearL (sharedV xs p) xs xs.length)) 0 1 0 (sharedV xs p).1 (sharedV xs p).2) true := by
  obtain ⟨hl, ho⟩ := okS_of hb
  have bd := sharedV_bd xs p hp hl ho
  have sl := slackL_len (sharedV xs p) xs xs.length
  have bnd : ∀ n, n ≤ xs.length → 0 < (ndL (bearL (sharedV xs p) xs n)).2 ∧ (ndL (bearL (sharedV xs p) xs n)).2 ≤ 12960000 ∧ 0 ≤ (ndL (bearL (sharedV xs p) xs n)).1 ∧ (ndL (bearL (sharedV xs p) xs n)).1 ≤ 51840000000 := by
    intro n hn
    have ok := bearL_ok (sharedV xs p) ho n
    have len := bearL_len (sharedV xs p) xs n
    have i := ndL_inv _ ok
    have b := fr_bd (M := 4000) i (by omega) (by have := (sumQ_bd _ ok).2; have : (1000 * ((bearL (sharedV xs p) xs n).length : Int)) * bigK ≤ 4000 * bigK := Int.mul_le_mul_of_nonneg_right (by omega) (Int.le_of_lt bigK_pos); omega)
    exact ⟨i.1, b.1, i.2.1, by omega⟩
  refine ev_fold (len := xs.length) (g := fun k (s : Int × Int) i => laws_FnSharedLoads.l1 k xs p (slackL (sharedV xs p) xs xs.length) (sumS (bearL (sharedV xs p) xs xs.length)) s.1 s.2 i (sharedV xs p).1 (sharedV xs p).2) (fun n s => if bearP (sharedV xs p) (xs.getD n z28) = true then (s.1 * (xs.getD n z28).f0 + (xs.getD n z28).f1 * s.2, s.2 * (xs.getD n z28).f0) else s) (fun n => ndL (bearL (sharedV xs p) xs n)) true ?_ ?_ ?_
  · intro n hn
    rw [bearL_succ _ _ hn]
    split
    · exact ndL_snoc _ _
    · rfl
  · intro n hn r hr
    have b0 := bnd n (by omega)
    have b1 := bnd (n + 1) (by omega)
    have o := ok_of (ho (xs.getD n z28) (by rw [getD_lt _ _ hn]; exact List.getElem_mem _))
    have hs := a2Has_ev (slackL (sharedV xs p) xs xs.length) (by omega) (n : Int)
    have ms := mem_slackL (sharedV xs p) xs hn
    rw [bearL_succ _ _ hn] at b1
    refine ev_succ ?_
    simp only [laws_FnSharedLoads.l1, Int.ofNat_lt.2 hn, if_true, show (0 : Int) ≤ (n : Int) from Int.natCast_nonneg _, rd_T28, Int.toNat_natCast, wnext hn (by omega : xs.length ≤ 9223372036854775807)]
    refine Ev.bind hs ?_
    by_cases hc : bearP (sharedV xs p) (xs.getD n z28) = true
    · rw [if_pos hc] at b1
      simp only [hc, if_true] at hr
      rw [ndL_snoc] at b1
      have m1 := mul_bd b0.2.2.1 b0.2.2.2 (show 0 ≤ (xs.getD n z28).f0 by omega) o.1.2
      have m2 := mul_bd (show 0 ≤ (xs.getD n z28).f1 by omega) o.2.2 (Int.le_of_lt b0.1) b0.2.1
      have m3 := mul_bd (Int.le_of_lt b0.1) b0.2.1 (show 0 ≤ (xs.getD n z28).f0 by omega) o.1.2
      simp only [show decide ((n : Int) ∈ slackL (sharedV xs p) xs xs.length) = false from decide_eq_false (fun h => ms.1 h hc), Bool.false_eq_true, if_false]
      rw [w64 (n := (ndL (bearL (sharedV xs p) xs n)).1 * (xs.getD n z28).f0) (by omega) (by omega), w64 (n := (xs.getD n z28).f1 * (ndL (bearL (sharedV xs p) xs n)).2) (by omega) (by omega), w64 (n := (ndL (bearL (sharedV xs p) xs n)).1 * (xs.getD n z28).f0 + (xs.getD n z28).f1 * (ndL (bearL (sharedV xs p) xs n)).2) (by omega) (by omega), w64 (n := (ndL (bearL (sharedV xs p) xs n)).2 * (xs.getD n z28).f0) (by omega) (by omega)]
      exact hr
    · simp only [hc, Bool.false_eq_true, if_false] at hr
      simp only [show decide ((n : Int) ∈ slackL (sharedV xs p) xs xs.length) = true from decide_eq_true (ms.2 hc), if_true]
      exact hr
  · have b := bnd xs.length (Nat.le_refl _)
    have ok := bearL_ok (sharedV xs p) ho xs.length
    have ss := sumS_bd _ ok
    have len := bearL_len (sharedV xs p) xs xs.length
    refine ev_succ ?_
    simp only [laws_FnSharedLoads.l1, Int.lt_irrefl, if_false]
    by_cases h : p > 0
    · have i := ndL_inv _ ok
      have e : bearL (sharedV xs p) xs xs.length = xs.filter (bearP (sharedV xs p)) := by unfold bearL; rw [List.take_length]
      have q := shared_eq xs p (by omega) (by omega) ho (num := (ndL (bearL (sharedV xs p) xs xs.length)).1) (den := (ndL (bearL (sharedV xs p) xs xs.length)).2) (by rw [← e]; exact i.2.2.1)
      rw [← e] at q
      simp only [h, if_true, w64 (n := p + sumS (bearL (sharedV xs p) xs xs.length)) (by omega) (by omega)]
      rw [a2Equal_true _ _ _ _ _ (by omega) (by omega) (by omega) (by omega) b.2.2.1 q]
      simp only [Option.bind_some, Bool.not_true]
      exact tail_ev xs hb
    · simp only [h, if_false]; exact tail_ev xs hb
theorem bear_loop_ev (xs : List S28) (p : Int) (hp : 0 ≤ p ∧ p ≤ 10000) (hb : springsB xs = true) :
    Ev (fun k => laws_FnSharedLoads.l0 k xs p (xs.map (forceE (sharedV xs p))) (slackL (sharedV xs p) xs xs.length) 0 0 (sharedV xs p).1 (sharedV xs p).2) true := by
  obtain ⟨hl, ho⟩ := okS_of hb
  have bd := sharedV_bd xs p hp hl ho
  have sl := slackL_len (sharedV xs p) xs xs.length
  refine ev_fold (len := xs.length) (g := fun k (s : Int) i => laws_FnSharedLoads.l0 k xs p (xs.map (forceE (sharedV xs p))) (slackL (sharedV xs p) xs xs.length) s i (sharedV xs p).1 (sharedV xs p).2) (fun n s => if bearP (sharedV xs p) (xs.getD n z28) = true then s + (xs.getD n z28).f1 else s) (fun n => sumS (bearL (sharedV xs p) xs n)) true ?_ ?_ ?_
  · intro n hn
    rw [bearL_succ _ _ hn]
    split
    · exact sumS_snoc _ _
    · rfl
  · intro n hn r hr
    have hm := ho (xs.getD n z28) (by rw [getD_lt _ _ hn]; exact List.getElem_mem _)
    have o := ok_of hm
    have hs := a2Has_ev (slackL (sharedV xs p) xs xs.length) (by omega) (n : Int)
    have ms := mem_slackL (sharedV xs p) xs hn
    have fz := forceV_zero _ _ hm bd
    have ss := sumS_bd _ (bearL_ok (sharedV xs p) ho n)
    have len := bearL_len (sharedV xs p) xs n
    have gf : (xs.map (forceE (sharedV xs p))).getD n z25 = forceE (sharedV xs p) (xs.getD n z28) := by
      rw [getD_lt _ _ (by rw [List.length_map]; exact hn), List.getElem_map, getD_lt _ _ hn]
    have m := mul_bd (show 0 ≤ (xs.getD n z28).f0 by omega) o.1.2 (Int.le_of_lt bd.2.2.1) bd.2.2.2
    have fp : 0 ≤ (forceV (xs.getD n z28) (sharedV xs p)).1 ∧ 0 < (forceV (xs.getD n z28) (sharedV xs p)).2 := by
      unfold forceV
      split
      · exact ⟨Int.le_refl _, Int.one_pos⟩
      · have q := mkF_pos ((xs.getD n z28).f1 * ((sharedV xs p).1 - (xs.getD n z28).f0 * (sharedV xs p).2)) ((xs.getD n z28).f0 * (sharedV xs p).2) (Int.mul_nonneg (by omega) (by omega)) (Int.mul_pos (by omega) bd.2.2.1)
        exact ⟨q.1, q.2.2.1⟩
    refine ev_succ ?_
    simp only [laws_FnSharedLoads.l0, Int.ofNat_lt.2 hn, if_true, show (0 : Int) ≤ (n : Int) from Int.natCast_nonneg _, rd_T28, rd_T25, Int.toNat_natCast, List.length_map, gf]
    simp only [w64 (n := (xs.getD n z28).f0 * (sharedV xs p).2) (by omega) (by omega)]
    refine Ev.bind hs ?_
    by_cases hc : bearP (sharedV xs p) (xs.getD n z28) = true
    · simp only [hc, if_true] at hr
      have hq : (sharedV xs p).1 > (xs.getD n z28).f0 * (sharedV xs p).2 := of_decide_eq_true hc
      have f1 : (forceV (xs.getD n z28) (sharedV xs p)).1 > 0 := by
        have : ¬ (forceV (xs.getD n z28) (sharedV xs p)).1 = 0 := fun e => by have := fz.1 e; omega
        omega
      simp only [show decide ((n : Int) ∈ slackL (sharedV xs p) xs xs.length) = false from decide_eq_false (fun h => ms.1 h hc), hq, decide_true, show (true == false) = false from rfl, Bool.false_eq_true, if_false, forceE, show ¬ (forceV (xs.getD n z28) (sharedV xs p)).2 < 1 by omega, show ¬ (forceV (xs.getD n z28) (sharedV xs p)).1 < 0 by omega, f1, bne_self_eq_false]
      refine ev_succ ?_
      simp only [laws_FnSharedLoads.j2, Bool.false_eq_true, if_false, if_true, show (0 : Int) ≤ (n : Int) from Int.natCast_nonneg _, Int.ofNat_lt.2 hn, rd_T28, Int.toNat_natCast, wnext hn (by omega : xs.length ≤ 9223372036854775807)]
      rw [w64 (n := sumS (bearL (sharedV xs p) xs n) + (xs.getD n z28).f1) (by omega) (by omega)]
      exact hr
    · simp only [hc, Bool.false_eq_true, if_false] at hr
      have hq : ¬ (sharedV xs p).1 > (xs.getD n z28).f0 * (sharedV xs p).2 := fun h => hc (decide_eq_true h)
      have f1 : (forceV (xs.getD n z28) (sharedV xs p)).1 = 0 := fz.2 (by omega)
      simp only [show decide ((n : Int) ∈ slackL (sharedV xs p) xs xs.length) = true from decide_eq_true (ms.2 hc), hq, decide_false, show (false == true) = false from rfl, Bool.false_eq_true, if_false, forceE, show ¬ (forceV (xs.getD n z28) (sharedV xs p)).2 < 1 by omega, f1, Int.lt_irrefl, gt_iff_lt, bne_self_eq_false]
      refine ev_succ ?_
      simp only [laws_FnSharedLoads.j2, Bool.false_eq_true, if_false, wnext hn (by omega : xs.length ≤ 9223372036854775807)]
      exact hr
  · refine ev_succ ?_
    simp only [laws_FnSharedLoads.l0, Int.lt_irrefl, if_false]
    exact sum_loop_ev xs p hp hb
theorem FnSharedLoads : laws_FnSharedLoads.Pure := by
  intro l0 l1 h0 h1
  refine Ev.rounds ?_
  have b0 : byteL l0 := fun y hy => u8_range (h0.2.2 y hy)
  have b1 : byteL l1 := fun y hy => u8_range (h1.2.2 y hy)
  simp only [laws_FnSharedLoads.f]
  obtain ⟨lg, el⟩ : ∃ b, laws_a2Long.f l0 l1 = some b := by unfold laws_a2Long.f; split <;> exact ⟨_, rfl⟩
  rw [el]
  simp only [Option.bind_some]
  cases lg
  · simp only [Bool.false_eq_true, if_false]
    obtain ⟨xs, e1, ho, l1a, l1b⟩ := A2Springs_ev l0 b0
    have hb : springsB xs = true := by
      unfold springsB
      simp only [Bool.and_eq_true, decide_eq_true_eq, List.all_eq_true]
      exact ⟨⟨l1a, l1b⟩, ho⟩
    refine Ev.bind e1 ?_
    obtain ⟨v, ev, v0, v1⟩ : ∃ v, laws_a2At.f l1 0 250 = some v ∧ 0 ≤ v ∧ v < 250 := by
      have r := rd_byte b1 0
      simp only [laws_a2At.f]
      by_cases hz : (0 : Int) ≥ (l1.length : Int)
      · exact ⟨0, by simp only [hz, if_true], by decide, by decide⟩
      · simp only [hz, show ¬ (250 : Int) < 1 by decide, show (0 : Int) ≤ 0 by decide, show (0 : Int) < (l1.length : Int) by omega, show ¬ (250 : Int) = 0 by decide, if_true, if_false]
        refine ⟨_, rfl, ?_⟩
        rw [w64 (by omega) (by omega)]
        exact ⟨Int.tmod_nonneg _ r.1, Int.tmod_lt_of_pos _ (by decide)⟩
    rw [ev]
    simp only [Option.bind_some, w64 (n := v * 8) (by omega) (by omega)]
    have hp : 0 ≤ v * 8 ∧ v * 8 ≤ 10000 := by omega
    generalize v * 8 = p at hp ⊢
    have k1 := impl_SharedForces_ev xs (by omega) p
    have k2 := impl_SharedLength_ev xs p hp hb
    have k3 := impl_SlackLines_ev xs (by omega) p
    have bd := sharedV_bd xs p hp ⟨l1a, l1b⟩ ho
    have nn := sharedV_num xs p hp.1 l1a ho
    have sl := slackL_len (sharedV xs p) xs xs.length
    unfold forcesV at k1
    unfold slackV at k3
    rw [if_pos hb, if_pos hp] at k1 k3
    refine Ev.bind k1 (Ev.bind k2 (Ev.bind k3 ?_))
    simp only [List.length_map, if_true, show ¬ (sharedV xs p).2 < 1 by omega, show ¬ (sharedV xs p).2 > 1000000000000 by omega, show ¬ (sharedV xs p).1 < 1 by omega, show ¬ (sharedV xs p).1 > 1000000000000 by omega, if_false]
    refine Ev.bind (a2Rises_ev _ _ (by omega) (slackL_in _ _ _) (slackL_lt _ _ _)) ?_
    simp only [Bool.not_true]
    refine ev_succ ?_
    simp only [laws_FnSharedLoads.j0, Bool.false_eq_true, if_false]
    exact bear_loop_ev xs p hp hb
  · simp only [if_true]; exact ev_now _

end Go.Proofs.Ytmokjfncblnfcaa.Pure

/- The pure statement of FnSprings: numbers and lists alone. No condition. -/
import Derived.Test.YtjhlliacgkjhaaaQFnSpringsx5
import Derived.Test.YtjhlliacgkjhaaaAid
namespace Go.Proofs.Ytjhlliacgkjhaaa.Pure
open Go.RowKit Go.Proofs.Ytjhlliacgkjhaaa.QFnSprings Go.Proofs.YtjhlliacgkjhaaaW.PrintWords Go.Proofs.YtjhlliacgkjhaaaW.PrintLast Go.Proofs.YtjhlliacgkjhaaaW.PrintMore Go.Proofs.Ytjhlliacgkjhaaa.Aid
set_option linter.unusedVariables false
set_option linter.unusedSimpArgs false

/-! ### the drawn source -/
def byteL (l : List Int) : Prop := ∀ y ∈ l, 0 ≤ y ∧ y ≤ 255
theorem u8_range {a : Int} (h : (Lit.int .u8 a).wf = true) : 0 ≤ a ∧ a ≤ 255 := by
  simp only [Lit.wf, IntKind.min, IntKind.max, IntKind.signed, IntKind.bits, Bool.and_eq_true, decide_eq_true_eq, Bool.false_eq_true, if_false] at h
  omega
theorem and255 (a : Int) : 0 ≤ Go.bits .and .u64 a 255 ∧ Go.bits .and .u64 a 255 ≤ 255 := by
  show 0 ≤ IntKind.u64.wrap ((BitVec.ofInt 64 a &&& BitVec.ofInt 64 255).toNat : Int) ∧ IntKind.u64.wrap ((BitVec.ofInt 64 a &&& BitVec.ofInt 64 255).toNat : Int) ≤ 255
  have h : (BitVec.ofInt 64 a &&& BitVec.ofInt 64 255).toNat ≤ 255 := by rw [BitVec.toNat_and]; exact Nat.le_trans Nat.and_le_right (by decide)
  rw [IntKind.wrap_u64]
  omega
theorem rd_byte {l : List Int} (hl : byteL l) (i : Int) : 0 ≤ rd l i ∧ rd l i ≤ 255 := by
  unfold rd
  rw [List.getD_eq_getElem?_getD]
  cases e : l[i.toNat]? with
  | none => exact ⟨Int.le_refl _, by decide⟩
  | some v => exact hl v (List.mem_of_getElem? e)
theorem src_next_ev {l : List Int} (hl : byteL l) (p s : Int) (hp : 0 ≤ p ∧ p ≤ 1000000) : ∃ v s', spec_l00Src_next.f l p s = some (v, p + 1, s') ∧ 0 ≤ v ∧ v ≤ 255 := by
  have w1 : wrap64 (p + 1) = p + 1 := w64 (by omega) (by omega)
  have r := rd_byte hl p
  have w2 : wrap64 (rd l p) = rd l p := w64 (by omega) (by omega)
  simp only [spec_l00Src_next.f, w1]
  by_cases a : p < (l.length : Int)
  · simp only [a, hp.1, show p + 1 ≤ (l.length : Int) by omega, if_true, w2]
    exact ⟨_, _, rfl, r⟩
  · simp only [a, show ¬ p + 1 ≤ (l.length : Int) by omega, if_false]
    refine ⟨_, _, rfl, ?_⟩
    have := and255 ((IntKind.u64.wrap ((IntKind.u64.wrap ((IntKind.u64.wrap (s * 6364136223846793005)) + 0)) + 1442695040888963407)) / 1099511627776)
    rw [w64 (by omega) (by omega)]
    exact this
theorem src_pick_ev {l : List Int} (hl : byteL l) (p s n : Int) (hp : 0 ≤ p ∧ p ≤ 1000000) (hn : 2 ≤ n ∧ n ≤ 200) : ∃ v s', spec_l00Src_pick.f l p s n = some (v, p + 1, s') ∧ 0 ≤ v ∧ v < n := by
  obtain ⟨v, s', h, h1, h2⟩ := src_next_ev hl p s hp
  simp only [spec_l00Src_pick.f, show ¬ n ≤ 1 by omega, show ¬ n > 200 by omega, show ¬ n = 0 by omega, if_false, h, Option.bind_some]
  exact ⟨_, _, rfl, Int.tmod_nonneg _ h1, Int.tmod_lt_of_pos _ (by omega)⟩

/-! ### small helpers of the laws -/
theorem a2At_ev {l : List Int} (hl : byteL l) (at' n : Int) (h0 : 0 ≤ at') (hn : 1 ≤ n ∧ n ≤ 1000000) : ∃ v, laws_a2At.f l at' n = some v ∧ 0 ≤ v ∧ v < n := by
  have r := rd_byte hl at'
  simp only [laws_a2At.f]
  by_cases hz : at' ≥ (l.length : Int)
  · exact ⟨0, by simp only [hz, if_true], by omega, by omega⟩
  · simp only [hz, show ¬ n < 1 by omega, h0, show at' < (l.length : Int) by omega, show ¬ n = 0 by omega, if_true, if_false]
    refine ⟨_, rfl, ?_⟩
    rw [w64 (by omega) (by omega)]
    exact ⟨Int.tmod_nonneg _ r.1, Int.tmod_lt_of_pos _ (by omega)⟩
theorem a2Long_ev (l m : List Int) : ∃ b, laws_a2Long.f l m = some b := by unfold laws_a2Long.f; split <;> exact ⟨_, rfl⟩

theorem mkF_scale (c n d : Int) (hc : 0 < c) : mkF (c * n) (c * d) = mkF n d := by
  unfold mkF
  have e : (Int.gcd (c * n) (c * d) : Int) = c * (Int.gcd n d : Int) := by
    rw [Int.gcd_mul_left]; push_cast; rw [Int.natAbs_of_nonneg (by omega)]
  rw [e, Int.mul_tdiv_mul_of_pos _ _ hc, Int.mul_tdiv_mul_of_pos _ _ hc]
theorem mkF_mul (n d : Int) (hd : 0 < d) : ∃ g : Int, 0 < g ∧ n = g * (mkF n d).1 ∧ d = g * (mkF n d).2 := by
  have pos : 0 < Int.gcd n d := Int.gcd_pos_of_ne_zero_right n (by omega)
  exact ⟨(Int.gcd n d : Nat), by omega, (Int.mul_tdiv_cancel' (Int.gcd_dvd_left ..)).symm, (Int.mul_tdiv_cancel' (Int.gcd_dvd_right ..)).symm⟩
theorem pos_of_mul {g x : Int} (hg : 0 < g) (h : 0 < g * x) : 0 < x := by
  rcases Int.lt_or_le 0 x with q | q
  · exact q
  · have := Int.mul_le_mul_of_nonneg_left q (Int.le_of_lt hg); omega
theorem nonneg_of_mul {g x : Int} (hg : 0 < g) (h : 0 ≤ g * x) : 0 ≤ x := by
  rcases Int.lt_or_le x 0 with q | q
  · have := Int.mul_lt_mul_of_pos_left q hg; omega
  · exact q
theorem le_mul_pos {g x : Int} (hg : 0 < g) (hx : 0 ≤ x) : x ≤ g * x := by
  have := Int.mul_le_mul_of_nonneg_right (show (1 : Int) ≤ g by omega) hx; omega
theorem mul_bd {a b A B : Int} (h0 : 0 ≤ a) (h1 : a ≤ A) (h2 : 0 ≤ b) (h3 : b ≤ B) : 0 ≤ a * b ∧ a * b ≤ A * B :=
  ⟨Int.mul_nonneg h0 h2, Int.mul_le_mul h1 h3 h2 (by omega)⟩
theorem mkF_pos (n d : Int) (hn : 0 ≤ n) (hd : 0 < d) : 0 ≤ (mkF n d).1 ∧ (mkF n d).1 ≤ n ∧ 0 < (mkF n d).2 ∧ (mkF n d).2 ≤ d := by
  obtain ⟨g, hg, e1, e2⟩ := mkF_mul n d hd
  have a := nonneg_of_mul hg (show 0 ≤ g * (mkF n d).1 by omega)
  have b := pos_of_mul hg (show 0 < g * (mkF n d).2 by omega)
  have c := le_mul_pos hg a
  have e := le_mul_pos hg (Int.le_of_lt b)
  exact ⟨a, by omega, b, by omega⟩


theorem impl_within_eq (a b c : Int) : impl_within.f a b c = some (decide (b ≤ a ∧ a ≤ c)) := by
  unfold impl_within.f
  by_cases h : a ≥ b
  · rw [if_pos h]; congr 1; simp; omega
  · rw [if_neg h]; congr 1; simp; omega

theorem impl_validSpring_eq (l s : Int) : impl_validSpring.f l s = some (springB l s) := by
  simp only [impl_validSpring.f, impl_within_eq, Option.bind_some]
  unfold springB
  by_cases h1 : 1 ≤ l ∧ l ≤ 60
  · simp only [h1, decide_true, if_true, Bool.true_and, and_self]
  · simp only [h1, decide_false, Bool.false_and, Bool.false_eq_true, if_false]

/-! ### lines that share a load, in whole numbers: everything is scaled by bigK, which each length divides -/
def bigK : Int := 9690712164777231700912800
theorem bigK_div : ∀ i : Fin 60, ((i.val : Int) + 1) * (bigK / ((i.val : Int) + 1)) = bigK := by decide +kernel
theorem bigK_of {l : Int} (h : 1 ≤ l ∧ l ≤ 60) : l * (bigK / l) = bigK := by
  have := bigK_div ⟨(l - 1).toNat, by omega⟩
  rw [show (((⟨(l - 1).toNat, by omega⟩ : Fin 60).val : Int) + 1) = l by show (((l - 1).toNat : Nat) : Int) + 1 = l; omega] at this
  exact this
theorem bigK_pos : 0 < bigK := by decide +kernel
theorem bigK_div_pos {l : Int} (h : 1 ≤ l ∧ l ≤ 60) : 0 < bigK / l := by
  have h1 := bigK_of h
  have h2 := bigK_pos
  rcases Int.lt_trichotomy 0 (bigK / l) with h3 | h3 | h3
  · exact h3
  · rw [← h3] at h1; omega
  · have := Int.mul_neg_of_pos_of_neg (show 0 < l by omega) h3; omega
theorem cross_lt {a b c d m : Int} (hm : 0 < m) (h1 : a * m = c * d) : (a ≤ b ↔ c * d ≤ b * m) := by
  rw [← h1]
  exact ⟨fun h => Int.mul_le_mul_of_nonneg_right h (by omega), fun h => Int.le_of_mul_le_mul_right h hm⟩
def sumS (l : List S27) : Int := (l.map fun x => x.f1).sum
def sumQ (l : List S27) : Int := (l.map fun x => x.f1 * (bigK / x.f0)).sum
def sumW (t : Int) (l : List S27) : Int := (l.map fun x => x.f1 * ((t - x.f0) * (bigK / x.f0))).sum
def okS (l : List S27) : Prop := ∀ x ∈ l, springB x.f0 x.f1 = true
theorem ok_of {x : S27} (h : springB x.f0 x.f1 = true) : (1 ≤ x.f0 ∧ x.f0 ≤ 60) ∧ (1 ≤ x.f1 ∧ x.f1 ≤ 1000) := by
  unfold springB at h
  simpa using h
theorem sumW_eq (t : Int) : ∀ l : List S27, okS l → sumW t l = t * sumQ l - bigK * sumS l
  | [], _ => by simp [sumW, sumQ, sumS]
  | x :: l, h => by
    have ih := sumW_eq t l (fun y hy => h y (List.mem_cons_of_mem _ hy))
    have k := bigK_of (ok_of (h x List.mem_cons_self)).1
    simp only [sumW, sumQ, sumS, List.map_cons, List.sum_cons] at ih ⊢
    rw [ih, Int.mul_add, Int.mul_add, Int.sub_mul, k, Int.mul_sub, Int.mul_left_comm t x.f1, Int.mul_comm bigK x.f1]
    omega
theorem sumW_mono {t t' : Int} (h : t ≤ t') : ∀ l : List S27, okS l → sumW t l ≤ sumW t' l
  | [], _ => Int.le_refl _
  | x :: l, hl => by
    have ih := sumW_mono h l (fun y hy => hl y (List.mem_cons_of_mem _ hy))
    have o := ok_of (hl x List.mem_cons_self)
    have k := bigK_div_pos o.1
    simp only [sumW, List.map_cons, List.sum_cons] at ih ⊢
    have m : x.f1 * ((t - x.f0) * (bigK / x.f0)) ≤ x.f1 * ((t' - x.f0) * (bigK / x.f0)) :=
      Int.mul_le_mul_of_nonneg_left (Int.mul_le_mul_of_nonneg_right (by omega) (by omega)) (by omega)
    omega
theorem sumW_append (t : Int) (l m : List S27) : sumW t (l ++ m) = sumW t l + sumW t m := by simp [sumW]
theorem sumW_nonneg {t : Int} : ∀ l : List S27, okS l → (∀ x ∈ l, x.f0 ≤ t) → 0 ≤ sumW t l
  | [], _, _ => Int.le_refl _
  | x :: l, h, g => by
    have ih := sumW_nonneg l (fun y hy => h y (List.mem_cons_of_mem _ hy)) (fun y hy => g y (List.mem_cons_of_mem _ hy))
    have o := ok_of (h x List.mem_cons_self)
    have k := bigK_div_pos o.1
    have gx := g x List.mem_cons_self
    simp only [sumW, List.map_cons, List.sum_cons] at ih ⊢
    have m : 0 ≤ x.f1 * ((t - x.f0) * (bigK / x.f0)) := Int.mul_nonneg (by omega) (Int.mul_nonneg (by omega) (by omega))
    omega
theorem sumW_perm (t : Int) {l m : List S27} (h : l.Perm m) : sumW t l = sumW t m := by
  unfold sumW
  induction h with
  | nil => rfl
  | cons x _ ih => simp only [List.map_cons, List.sum_cons, ih]
  | swap x y l => simp only [List.map_cons, List.sum_cons]; omega
  | trans _ _ i1 i2 => exact i1.trans i2
/-- A fraction that is a sum of Stiff / Length, scaled. -/
def isQ (q : Int × Int) (l : List S27) : Prop := 0 < q.2 ∧ 0 ≤ q.1 ∧ q.1 * bigK = sumQ l * q.2
theorem sumQ_append (l m : List S27) : sumQ (l ++ m) = sumQ l + sumQ m := by simp [sumQ]
theorem sumS_append (l m : List S27) : sumS (l ++ m) = sumS l + sumS m := by simp [sumS]
def qStep (s : Int × Int) (x : S27) : Int × Int := mkF (s.1 * x.f0 + x.f1 * s.2) (s.2 * x.f0)
theorem isQ_step {s : Int × Int} {l : List S27} {x : S27} (h : isQ s l) (hx : springB x.f0 x.f1 = true) : isQ (qStep s x) (l ++ [x]) := by
  obtain ⟨h1, h2, h3⟩ := h
  have o := ok_of hx
  have k := bigK_of o.1
  have p : 0 < s.2 * x.f0 := Int.mul_pos h1 (by omega)
  have nn : 0 ≤ s.1 * x.f0 + x.f1 * s.2 := Int.add_nonneg (Int.mul_nonneg h2 (by omega)) (Int.mul_nonneg (by omega) (by omega))
  obtain ⟨g, hg, e1, e2⟩ := mkF_mul (s.1 * x.f0 + x.f1 * s.2) (s.2 * x.f0) p
  have d2 : 0 < (qStep s x).2 := by
    unfold qStep
    generalize mkF (s.1 * x.f0 + x.f1 * s.2) (s.2 * x.f0) = r at e1 e2 ⊢
    rcases Int.lt_trichotomy 0 r.2 with h3 | h3 | h3
    · exact h3
    · rw [← h3] at e2; omega
    · have := Int.mul_neg_of_pos_of_neg hg h3; omega
  refine ⟨d2, ?_, ?_⟩
  · unfold qStep
    generalize mkF (s.1 * x.f0 + x.f1 * s.2) (s.2 * x.f0) = r at e1 e2 ⊢
    by_cases h3 : r.1 < 0
    · have := Int.mul_neg_of_pos_of_neg hg h3; omega
    · omega
  · have e3 : (s.1 * x.f0 + x.f1 * s.2) * bigK = sumQ (l ++ [x]) * (s.2 * x.f0) := by
      rw [sumQ_append, Int.add_mul, Int.add_mul, Int.mul_right_comm, h3]
      have : sumQ [x] = x.f1 * (bigK / x.f0) := by simp [sumQ]
      have e4 : x.f1 * s.2 * bigK = x.f1 * (bigK / x.f0) * (s.2 * x.f0) := by
        conv => lhs; rw [← k]
        ac_rfl
      have e5 : sumQ l * s.2 * x.f0 = sumQ l * (s.2 * x.f0) := Int.mul_assoc ..
      rw [this, e4, e5]
    unfold qStep
    generalize mkF (s.1 * x.f0 + x.f1 * s.2) (s.2 * x.f0) = r at e1 e2 ⊢
    rw [e1, e2, Int.mul_assoc, Int.mul_left_comm (sumQ (l ++ [x]))] at e3
    exact Int.eq_of_mul_eq_mul_left (by omega) e3
theorem sumQ_pos {l : List S27} (h : okS l) (hne : l ≠ []) : 0 < sumQ l := by
  have nn : ∀ l : List S27, okS l → 0 ≤ sumQ l := by
    intro l
    induction l with
    | nil => intro _; exact Int.le_refl _
    | cons x l ih =>
      intro h
      have := ih (fun y hy => h y (List.mem_cons_of_mem _ hy))
      have o := ok_of (h x List.mem_cons_self)
      have k := bigK_div_pos o.1
      have := Int.mul_nonneg (show 0 ≤ x.f1 by omega) (show 0 ≤ bigK / x.f0 by omega)
      simp only [sumQ, List.map_cons, List.sum_cons] at *
      omega
  cases l with
  | nil => exact absurd rfl hne
  | cons x l =>
    have := nn l (fun y hy => h y (List.mem_cons_of_mem _ hy))
    have o := ok_of (h x List.mem_cons_self)
    have k := bigK_div_pos o.1
    have := Int.mul_pos (show 0 < x.f1 by omega) k
    simp only [sumQ, List.map_cons, List.sum_cons] at *
    omega
/-- The length at which the lines l bear p: at most t just where p is at most what they bear there. -/
theorem out_le {q r : Int × Int} {l : List S27} {p t : Int} (hl : okS l) (hne : l ≠ []) (hq : isQ q l) (hr : r = mkF ((p + sumS l) * q.2) q.1) : 0 < r.2 ∧ (r.1 ≤ t * r.2 ↔ p * bigK ≤ sumW t l) := by
  obtain ⟨h1, h2, h3⟩ := hq
  have qp : 0 < q.1 := by
    by_cases h : 0 < q.1
    · exact h
    · have : q.1 = 0 := by omega
      rw [this] at h3
      have := Int.mul_pos (sumQ_pos hl hne) h1
      omega
  obtain ⟨g, hg, e1, e2⟩ := mkF_mul ((p + sumS l) * q.2) q.1 qp
  rw [← hr] at e1 e2
  have r2 : 0 < r.2 := by
    rcases Int.lt_trichotomy 0 r.2 with h3 | h3 | h3
    · exact h3
    · rw [← h3] at e2; omega
    · have := Int.mul_neg_of_pos_of_neg hg h3; omega
  refine ⟨r2, ?_⟩
  rw [sumW_eq t l hl]
  have a1 : r.1 ≤ t * r.2 ↔ (p + sumS l) * q.2 ≤ t * q.1 := by
    rw [e1]
    constructor
    · intro h
      have := Int.mul_le_mul_of_nonneg_left h (show 0 ≤ g by omega)
      rw [Int.mul_left_comm g t, ← e2] at this
      exact this
    · intro h
      refine Int.le_of_mul_le_mul_left ?_ hg
      rw [Int.mul_left_comm g t, ← e2]
      exact h
  have a2 : (p + sumS l) * q.2 ≤ t * q.1 ↔ ((p + sumS l) * bigK) * q.2 ≤ (t * sumQ l) * q.2 := by
    have b1 : ((p + sumS l) * bigK) * q.2 = ((p + sumS l) * q.2) * bigK := by rw [Int.mul_right_comm]
    have b2 : (t * sumQ l) * q.2 = (t * q.1) * bigK := by rw [Int.mul_assoc, ← h3, Int.mul_assoc]
    rw [b1, b2]
    exact ⟨fun h => Int.mul_le_mul_of_nonneg_right h (Int.le_of_lt bigK_pos), fun h => Int.le_of_mul_le_mul_right h bigK_pos⟩
  have a3 : ((p + sumS l) * bigK) * q.2 ≤ (t * sumQ l) * q.2 ↔ (p + sumS l) * bigK ≤ t * sumQ l := ⟨fun h => Int.le_of_mul_le_mul_right h h1, fun h => Int.mul_le_mul_of_nonneg_right h (by omega)⟩
  rw [a1, a2, a3, Int.add_mul, Int.mul_comm bigK (sumS l)]
  omega
def shR (p : Int) (pre : List S27) (q : Int × Int) : List S27 → Int × Int
  | [] => (0, 0)
  | [x] => mkF ((p + sumS (pre ++ [x])) * (qStep q x).2) (qStep q x).1
  | x :: y :: rest =>
    if (mkF ((p + sumS (pre ++ [x])) * (qStep q x).2) (qStep q x).1).1 ≤ y.f0 * (mkF ((p + sumS (pre ++ [x])) * (qStep q x).2) (qStep q x).1).2 then mkF ((p + sumS (pre ++ [x])) * (qStep q x).2) (qStep q x).1
    else shR p (pre ++ [x]) (qStep q x) (y :: rest)
theorem shR_le (p L : Int) : ∀ (rest pre : List S27) (q : Int × Int), rest ≠ [] → okS (pre ++ rest) → (∀ x ∈ pre ++ rest, x.f0 ≤ L) → isQ q pre →
    0 < (shR p pre q rest).2 ∧ ((shR p pre q rest).1 ≤ L * (shR p pre q rest).2 ↔ p * bigK ≤ sumW L (pre ++ rest))
  | [], _, _, h, _, _, _ => absurd rfl h
  | [x], pre, q, _, ho, _, hq => out_le ho (by simp) (isQ_step hq (ho x (by simp))) rfl
  | x :: y :: rest, pre, q, _, ho, hL, hq => by
    have hx := ho x (by simp)
    have ha : pre ++ x :: y :: rest = (pre ++ [x]) ++ (y :: rest) := by simp
    have ho1 : okS (pre ++ [x]) := fun z hz => ho z (by simp at hz ⊢; rcases hz with hz | hz <;> simp [hz])
    have hq1 := isQ_step hq hx
    unfold shR
    split
    · rename_i hc
      have o1 := fun t => out_le (p := p) (t := t) ho1 (by simp) hq1 rfl
      refine ⟨(o1 L).1, ⟨fun _ => ?_, fun _ => ?_⟩⟩
      · have b1 := (o1 y.f0).2.1 hc
        have b2 := sumW_mono (hL y (by simp)) (pre ++ [x]) ho1
        have b3 : 0 ≤ sumW L (y :: rest) := sumW_nonneg _ (fun z hz => ho z (by rw [ha]; exact List.mem_append_right _ hz)) (fun z hz => hL z (by rw [ha]; exact List.mem_append_right _ hz))
        rw [ha, sumW_append]
        omega
      · exact (o1 L).2.2 (Int.le_trans ((o1 y.f0).2.1 hc) (sumW_mono (hL y (by simp)) _ ho1))
    · rw [ha] at ho hL ⊢
      exact shR_le p L (y :: rest) (pre ++ [x]) _ (by simp) ho hL hq1

/-! ### drawn lines -/
theorem drawS_loop {l : List Int} (hl : byteL l) : ∀ (d : Nat) (xs : List S27) (p s : Int), okS xs → xs.length + d ≤ 100 → 0 ≤ p → p + 3 * (d : Int) ≤ 1000 →
    ∃ r, Ev (fun k => spec_l04Draw.l0 k xs (d : Int) l p s) r ∧ okS r.1 ∧ r.1.length = xs.length + d := by
  intro d
  induction d with
  | zero =>
    intro xs p s ho _ _ _
    refine ⟨(xs, p, s), ev_succ ?_, ho, rfl⟩
    simp only [spec_l04Draw.l0, show ¬ (((0 : Nat) : Int) > 0) by omega, if_false]
    exact ev_now _
  | succ d ih =>
    intro xs p s ho hx h0 hp
    obtain ⟨v1, s1, a1, b1⟩ := src_pick_ev hl p s 60 (by omega) (by omega)
    obtain ⟨v2, s2, a2, b2⟩ := src_pick_ev hl (p + 1) s1 40 (by omega) (by omega)
    obtain ⟨v3, s3, a3, b3⟩ := src_pick_ev hl (p + 1 + 1) s2 25 (by omega) (by omega)
    have w1 : wrap64 (1 + v1) = 1 + v1 := w64 (by omega) (by omega)
    have w2 : wrap64 (1 + v3) = 1 + v3 := w64 (by omega) (by omega)
    have m : 0 ≤ v2 * (1 + v3) ∧ v2 * (1 + v3) ≤ 39 * 25 := ⟨Int.mul_nonneg b2.1 (by omega), Int.mul_le_mul (by omega) (by omega) (by omega) (by omega)⟩
    have w3 : wrap64 (v2 * (1 + v3)) = v2 * (1 + v3) := w64 (by omega) (by omega)
    have w4 : wrap64 (1 + v2 * (1 + v3)) = 1 + v2 * (1 + v3) := w64 (by omega) (by omega)
    have w5 : wrap64 (((d + 1 : Nat) : Int) - 1) = (d : Int) := by rw [w64 (by omega) (by omega)]; omega
    obtain ⟨r, h1, h2, h3⟩ := ih (xs ++ [(⟨1 + v1, 1 + v2 * (1 + v3)⟩ : S27)]) (p + 1 + 1 + 1) s3 (by
      intro y hy
      rcases List.mem_append.1 hy with hy | hy
      · exact ho y hy
      · rw [List.mem_singleton] at hy; subst hy
        unfold springB
        simp only [decide_eq_true_eq, Bool.and_eq_true]
        omega) (by simp; omega) (by omega) (by omega)
    refine ⟨r, ev_succ ?_, h2, by rw [h3]; simp; omega⟩
    simp only [spec_l04Draw.l0, show ((d + 1 : Nat) : Int) > 0 by omega, if_true, a1, a2, a3, Option.bind_some, w1, w2, w3, w4, w5, show xs.length < 8796093022208 by omega]
    exact h1
theorem A2Springs_ev (l : List Int) (hl : byteL l) : ∃ xs, Ev (fun k => spec_A2Springs.f k l) xs ∧ okS xs ∧ 1 ≤ xs.length ∧ xs.length ≤ 4 := by
  obtain ⟨v, s, a, b⟩ := src_pick_ev hl 0 0 4 (by omega) (by omega)
  have w : wrap64 (1 + v) = ((1 + v.toNat : Nat) : Int) := by rw [w64 (by omega) (by omega)]; omega
  obtain ⟨r, h1, h2, h3⟩ := drawS_loop hl (1 + v.toNat) [] 1 s (fun y hy => by simp at hy) (by simp; omega) (by omega) (by omega)
  refine ⟨r.1, ?_, h2, by rw [h3]; simp, by rw [h3]; simp; omega⟩
  simp only [spec_A2Springs.f, spec_l00From.f, spec_l04Draw.f, Option.bind_some]
  rw [show (0 : Int) + 1 = 1 from rfl] at a
  simp only [a, Option.bind_some, w]
  exact Ev.bind h1 (ev_now _)

def springsB (xs : List S27) : Bool := decide (1 ≤ xs.length ∧ xs.length ≤ 4) && xs.all fun x => springB x.f0 x.f1
theorem impl_ValidSprings_ev (xs : List S27) (h : xs.length ≤ 1048576) : Ev (fun k => impl_ValidSprings.f k xs) (springsB xs) := by
  simp only [impl_ValidSprings.f]
  by_cases h1 : (xs.length : Int) < 1
  · simp only [h1, if_true]
    refine ev_succ ?_
    simp only [impl_ValidSprings.j0, if_true]
    exact ev_to (ev_now _) (by unfold springsB; rw [show decide (1 ≤ xs.length ∧ xs.length ≤ 4) = false by simp; omega]; rfl)
  · simp only [h1, if_false]
    refine ev_succ ?_
    simp only [impl_ValidSprings.j0]
    by_cases h2 : (xs.length : Int) > 4
    · simp only [h2, decide_true, if_true]
      exact ev_to (ev_now _) (by unfold springsB; rw [show decide (1 ≤ xs.length ∧ xs.length ≤ 4) = false by simp; omega]; rfl)
    · simp only [h2, decide_false, Bool.false_eq_true, if_false]
      refine ev_to (ev_all (len := xs.length) (g := fun k i => impl_ValidSprings.l0 k xs (xs.length : Int) i) (fun n => (fun x : S27 => springB x.f0 x.f1) (xs.getD n z27)) true ?_ ?_ ?_) (by rw [range_all xs z27 (fun x => springB x.f0 x.f1), Bool.and_true]; unfold springsB; rw [show decide (1 ≤ xs.length ∧ xs.length ≤ 4) = true by simp; omega]; rfl)
      · intro n hn hp r hr
        refine ev_succ ?_
        simp only [impl_ValidSprings.l0, impl_validSpring_eq, Option.bind_some, Int.ofNat_lt.2 hn, show (0 : Int) ≤ (n : Int) from Int.natCast_nonneg _, if_true, rd_T27, Int.toNat_natCast, hp, wnext hn (by omega : xs.length ≤ 9223372036854775807)]
        exact hr
      · intro n hn hp
        refine ev_succ ?_
        simp only [impl_ValidSprings.l0, impl_validSpring_eq, Option.bind_some, Int.ofNat_lt.2 hn, show (0 : Int) ≤ (n : Int) from Int.natCast_nonneg _, if_true, rd_T27, Int.toNat_natCast, hp, Bool.false_eq_true, if_false]
        exact ev_now _
      · refine ev_succ ?_
        simp only [impl_ValidSprings.l0, Int.lt_irrefl, if_false]
        exact ev_now _

theorem impl_gcd_loop (m : Nat) : ∀ a b : Int, b.toNat = m → 0 ≤ a → 0 ≤ b → Ev (fun k => impl_gcd.l0 k a b) (Nat.gcd a.toNat b.toNat : Nat) := by
  induction m using Nat.strongRecOn with
  | _ m ih =>
    intro a b hm ha hb
    refine ev_succ ?_
    by_cases h : b = 0
    · subst h
      simp only [impl_gcd.l0, if_true]
      exact ev_to (ev_now _) (by simp; omega)
    · obtain ⟨h1, h2, h3⟩ := gcd_step (a := a) (b := b) ha (by omega)
      simp only [impl_gcd.l0, h, if_false]
      exact ev_to (ih _ (by omega) b _ rfl hb h1) (by rw [h3])
theorem impl_gcd_ev (n d : Int) (hn : -4611686018427387904 ≤ n ∧ n ≤ 4611686018427387904) (hd : 0 ≤ d) : Ev (fun k => impl_gcd.f k n d) (Int.gcd n d : Nat) := by
  have g := impl_gcd_loop d.toNat (n.natAbs : Int) d rfl (by omega) (by omega)
  have eg : Nat.gcd ((n.natAbs : Int)).toNat d.toNat = Int.gcd n d := by rw [Int.gcd, Int.toNat_natCast]; congr 1; omega
  rw [eg] at g
  simp only [impl_gcd.f]
  by_cases h : n < 0
  · simp only [h, if_true]
    refine ev_succ ?_
    simp only [impl_gcd.j0]
    rw [w64 (by omega) (by omega), show -n = (n.natAbs : Int) by omega]
    exact g
  · simp only [h, if_false]
    refine ev_succ ?_
    simp only [impl_gcd.j0]
    rw [show (n : Int) = (n.natAbs : Int) by omega]
    rw [show ((n.natAbs : Int)).gcd d = n.gcd d by simp [Int.gcd]]
    exact g
theorem impl_fraction_ev (n d : Int) (hn : -4611686018427387904 ≤ n ∧ n ≤ 4611686018427387904) (hd : 0 < d ∧ d ≤ 4611686018427387904) : Ev (fun k => impl_fraction.f k n d) (mkF n d) := by
  simp only [impl_fraction.f, show ¬ d < 0 by omega, if_false]
  have pos : 0 < Int.gcd n d := Int.gcd_pos_of_ne_zero_right n (by omega)
  refine Ev.bind (impl_gcd_ev n d hn (by omega)) ?_
  have b1 := tdiv_bound n (Int.gcd n d)
  have b2 := tdiv_bound d (Int.gcd n d)
  simp only [show ¬ ((Int.gcd n d : Nat) : Int) = 0 by omega, if_false, w64 (n := Int.tdiv n (Int.gcd n d : Nat)) (by omega) (by omega), w64 (n := Int.tdiv d (Int.gcd n d : Nat)) (by omega) (by omega)]
  exact ev_now _

theorem impl_addFractions_ev (n1 d1 n2 d2 : Int) (h1 : 0 ≤ n1) (h2 : 0 ≤ n2) (k1 : 0 < d1) (k2 : 0 < d2) (b1 : n1 * d2 + n2 * d1 ≤ 4611686018427387904) (b2 : d1 * d2 ≤ 4611686018427387904) :
    Ev (fun k => impl_addFractions.f k n1 d1 n2 d2) (mkF (n1 * d2 + n2 * d1) (d1 * d2)) := by
  simp only [impl_addFractions.f]
  have pos : 0 < Int.gcd d1 d2 := Int.gcd_pos_of_ne_zero_right d1 (by omega)
  have q1 : (Int.gcd d1 d2 : Int) * Int.tdiv d1 (Int.gcd d1 d2 : Nat) = d1 := Int.mul_tdiv_cancel' (Int.gcd_dvd_left ..)
  have q2 : (Int.gcd d1 d2 : Int) * Int.tdiv d2 (Int.gcd d1 d2 : Nat) = d2 := Int.mul_tdiv_cancel' (Int.gcd_dvd_right ..)
  have kd : d1 ≤ d1 * d2 := by have := Int.mul_le_mul_of_nonneg_left (show 1 ≤ d2 by omega) (show 0 ≤ d1 by omega); omega
  have kd2 : d2 ≤ d1 * d2 := le_mul_pos k1 (by omega)
  refine Ev.bind (impl_gcd_ev d1 d2 (by omega) (by omega)) ?_
  have gne : ¬ ((Int.gcd d1 d2 : Nat) : Int) = 0 := by omega
  simp only [gne, if_false]
  generalize hg : ((Int.gcd d1 d2 : Nat) : Int) = g at q1 q2 gne ⊢
  generalize he1 : Int.tdiv d1 g = e1 at q1 ⊢
  generalize he2 : Int.tdiv d2 g = e2 at q2 ⊢
  have gp : 0 < g := by omega
  have p1 : 0 < e1 := pos_of_mul gp (by omega)
  have p2 : 0 < e2 := pos_of_mul gp (by omega)
  have l1 : e1 ≤ d1 := by have := le_mul_pos gp (Int.le_of_lt p1); omega
  have l2 : e2 ≤ d2 := by have := le_mul_pos gp (Int.le_of_lt p2); omega
  have m1 := mul_bd h1 (Int.le_refl n1) (Int.le_of_lt p2) l2
  have m2 := mul_bd h2 (Int.le_refl n2) (Int.le_of_lt p1) l1
  have m3 := mul_bd (Int.le_of_lt p1) l1 (Int.le_of_lt k2) (Int.le_refl d2)
  have m4 : 0 < e1 * d2 := Int.mul_pos p1 k2
  have z1 := mul_bd h1 (Int.le_refl n1) (Int.le_of_lt k2) (Int.le_refl d2)
  have z2 := mul_bd h2 (Int.le_refl n2) (Int.le_of_lt k1) (Int.le_refl d1)
  rw [w64 (n := e2) (by omega) (by omega), w64 (n := e1) (by omega) (by omega), w64 (n := n1 * e2) (by omega) (by omega), w64 (n := n2 * e1) (by omega) (by omega), w64 (n := n1 * e2 + n2 * e1) (by omega) (by omega), w64 (n := e1 * d2) (by omega) (by omega)]
  refine Ev.bind (impl_fraction_ev _ _ (by omega) (by omega)) (ev_to (ev_now _) ?_)
  rw [← mkF_scale g _ _ gp]
  have s1 : g * (n1 * e2 + n2 * e1) = n1 * d2 + n2 * d1 := by
    rw [Int.mul_add, ← q1, ← q2]; congr 1 <;> rw [Int.mul_left_comm]
  have s2 : g * (e1 * d2) = d1 * d2 := by rw [← Int.mul_assoc, q1]
  rw [s1, s2]

theorem mkF_again (n d : Int) (hd : 0 < d) : mkF (mkF n d).1 (mkF n d).2 = mkF n d := by
  obtain ⟨g, hg, e1, e2⟩ := mkF_mul n d hd
  have := mkF_scale g (mkF n d).1 (mkF n d).2 hg
  rw [← e1, ← e2] at this
  exact this.symm
theorem mkF_one (n : Int) : mkF n 1 = (n, 1) := by
  have e : Int.gcd n 1 = 1 := by simp
  unfold mkF
  rw [e]
  simp
theorem spring_is {a b : Int} (h : springB a b = true) : (1 ≤ a ∧ a ≤ 60) ∧ (1 ≤ b ∧ b ≤ 1000) := by
  unfold springB at h
  simpa using h
theorem even_ev (L F p : Int) (hL : 1 ≤ L ∧ L ≤ 60) (hF : 0 ≤ F ∧ F ≤ 1000) (hp : 0 ≤ p ∧ p ≤ 200) (S : Int) : Ev (fun k => laws_FnSprings.j2 k F p false L S) true := by
  refine ev_succ ?_
  have m := mul_bd hF.1 hF.2 (show 0 ≤ L by omega) hL.2
  have eq1 : wrap64 (p + 1) = p + 1 := w64 (by omega) (by omega)
  have eq2 : wrap64 (p + 1 - L) = p + 1 - L := w64 (by omega) (by omega)
  have em : wrap64 (F * L) = F * L := w64 (by omega) (by omega)
  simp only [laws_FnSprings.j2, Bool.false_eq_true, if_false, eq1, eq2, em]
  have start : ∀ r, Ev (fun k => impl_EvenStiff.j0 k L F (p + 1) false) r → Ev (fun k => impl_EvenStiff.f k L F (p + 1)) r := by
    intro r hr
    simp only [impl_EvenStiff.f, impl_within_eq, Option.bind_some, hL, show 0 ≤ F ∧ F ≤ 10000 by omega, show 1 ≤ p + 1 ∧ p + 1 ≤ 10000 by omega, and_self, decide_true, if_true, Bool.not_true]
    exact hr
  by_cases h0 : F > 0
  · have mpos : 1 ≤ F * L := by
      have := Int.mul_le_mul_of_nonneg_left hL.1 (show 0 ≤ F by omega)
      rw [Int.mul_one] at this; omega
    by_cases h1 : p + 1 ≤ L
    · have k1 : Ev (fun k => impl_EvenStiff.f k L F (p + 1)) (0, 3) := start _ (by
        refine ev_succ ?_
        simp only [impl_EvenStiff.j0, Bool.false_eq_true, if_false, h0, h1, if_true]
        exact ev_now _)
      refine Ev.bind k1 ?_
      simp only [show ¬ (3 : Int) = 0 by decide, if_false, if_true, w64 (n := 1000 * (p + 1 - L)) (by omega) (by omega)]
      refine ev_to (ev_now _) ?_
      rw [decide_eq_true_eq]
      unfold mx
      split <;> omega
    · have d := Int.mul_ediv_add_emod (F * L + (p + 1 - L) - 1) (p + 1 - L)
      have d2 := Int.emod_nonneg (F * L + (p + 1 - L) - 1) (show p + 1 - L ≠ 0 by omega)
      have d3 := Int.emod_lt_of_pos (F * L + (p + 1 - L) - 1) (show 0 < p + 1 - L by omega)
      have e1 : wrap64 (F * L + (p + 1 - L)) = F * L + (p + 1 - L) := w64 (by omega) (by omega)
      have e2 : wrap64 (F * L + (p + 1 - L) - 1) = F * L + (p + 1 - L) - 1 := w64 (by omega) (by omega)
      have ed : Int.tdiv (F * L + (p + 1 - L) - 1) (p + 1 - L) = (F * L + (p + 1 - L) - 1) / (p + 1 - L) := Int.tdiv_eq_ediv_of_nonneg (by omega)
      have q1 : 1 ≤ (F * L + (p + 1 - L) - 1) / (p + 1 - L) := by rw [Int.le_ediv_iff_mul_le (by omega)]; omega
      have q2 : (F * L + (p + 1 - L) - 1) / (p + 1 - L) ≤ F * L + (p + 1 - L) - 1 := Int.ediv_le_self _ (by omega)
      have kc : impl_ceilDiv.f (F * L) (p + 1 - L) = some ((F * L + (p + 1 - L) - 1) / (p + 1 - L)) := by
        simp only [impl_ceilDiv.f, show ¬ p + 1 - L = 0 by omega, if_false, e1, e2, ed, w64 (n := (F * L + (p + 1 - L) - 1) / (p + 1 - L)) (by omega) (by omega)]
      rw [Int.mul_comm] at d
      generalize (F * L + (p + 1 - L) - 1) / (p + 1 - L) = q at *
      generalize (F * L + (p + 1 - L) - 1) % (p + 1 - L) = rm at *
      have hq' : (q - 1) * (p + 1 - L) = q * (p + 1 - L) - (p + 1 - L) := by rw [Int.sub_mul, Int.one_mul]
      by_cases h2 : q > 1000
      · have k1 : Ev (fun k => impl_EvenStiff.f k L F (p + 1)) (0, 3) := start _ (by
          refine ev_succ ?_
          simp only [impl_EvenStiff.j0, Bool.false_eq_true, if_false, h0, h1, if_true, em, eq2, kc, Option.bind_some, h2]
          exact ev_now _)
        refine Ev.bind k1 ?_
        have m2 := Int.mul_le_mul_of_nonneg_right (show 1000 ≤ q - 1 by omega) (show 0 ≤ p + 1 - L by omega)
        simp only [show ¬ (3 : Int) = 0 by decide, if_false, if_true, w64 (n := 1000 * (p + 1 - L)) (by omega) (by omega)]
        refine ev_to (ev_now _) ?_
        rw [decide_eq_true_eq]
        unfold mx
        split <;> omega
      · have k1 : Ev (fun k => impl_EvenStiff.f k L F (p + 1)) (q, 0) := start _ (by
          refine ev_succ ?_
          simp only [impl_EvenStiff.j0, Bool.false_eq_true, if_false, h0, h1, if_true, em, eq2, kc, Option.bind_some, h2]
          exact ev_now _)
        refine Ev.bind k1 ?_
        have g1 : mx 0 (q * (p + 1 - L)) ≥ F * L := by unfold mx; split <;> omega
        have g0 : 0 ≤ (q - 1) * (p + 1 - L) := Int.mul_nonneg (by omega) (by omega)
        have g2 : mx 0 ((q - 1) * (p + 1 - L)) < F * L := by unfold mx; split <;> omega
        simp only [if_true, show q ≥ 1 by omega, show q ≤ 1000 by omega, w64 (n := q - 1) (by omega) (by omega), w64 (n := q * (p + 1 - L)) (by omega) (by omega), w64 (n := (q - 1) * (p + 1 - L)) (by omega) (by omega), g1, g2, decide_true]
        split <;> exact ev_now _
  · have hF0 : F = 0 := by omega
    subst hF0
    have k1 : Ev (fun k => impl_EvenStiff.f k L 0 (p + 1)) (1, 0) := start _ (by
      refine ev_succ ?_
      simp only [impl_EvenStiff.j0, Bool.false_eq_true, if_false, h0]
      exact ev_now _)
    refine Ev.bind k1 ?_
    have g1 : mx 0 (wrap64 (1 * (p + 1 - L))) ≥ 0 * L := by unfold mx; split <;> omega
    simp only [if_true, show (1 : Int) ≥ 1 by decide, show (1 : Int) ≤ 1000 by decide, g1]
    exact ev_now _
theorem force_ev (l1 : List Int) (b1 : byteL l1) (L S F : Int) (hs : springB L S = true) (hF : 0 ≤ F ∧ F ≤ 1000) : Ev (fun k => laws_FnSprings.j0 k l1 F false L S) true := by
  obtain ⟨hL, hS⟩ := spring_is hs
  refine ev_succ ?_
  obtain ⟨p, ep, p0, p1⟩ := a2At_ev b1 1 130 (by omega) (by omega)
  simp only [laws_FnSprings.j0, Bool.false_eq_true, if_false, ep, Option.bind_some]
  have eL : wrap64 (L * 1) = L := by rw [Int.mul_one, w64 (by omega) (by omega)]
  have head : ∀ f : Int × Int, Ev (fun k => impl_springForce.f k L S p 1) f → Ev (fun k => impl_SpringForce.f k L S p) (f.1, f.2, 0) := by
    intro f hf
    simp only [impl_SpringForce.f, impl_validSpring_eq, impl_within_eq, Option.bind_some, hs, show 0 ≤ p ∧ p ≤ 10000 by omega, and_self, decide_true, if_true]
    have k1 := impl_fraction_ev p 1 (by omega) (by omega)
    rw [mkF_one] at k1
    exact Ev.bind k1 (Ev.bind hf (ev_now _))
  have fin := even_ev L F p hL hF (by omega) S
  by_cases h : p ≤ L
  · have k1 := head (0, 1) (by
      simp only [impl_springForce.f, eL, h, if_true]
      have k0 := impl_fraction_ev 0 1 (by omega) (by omega)
      rw [mkF_one] at k0
      exact Ev.bind k0 (ev_now _))
    refine Ev.bind k1 ?_
    simp only [if_true, show ¬ (1 : Int) < 1 by decide, show ¬ (1 : Int) > 60 by decide, if_false, show ¬ (0 : Int) < 0 by decide, decide_false]
    refine ev_succ ?_
    simp only [laws_FnSprings.j1, Bool.false_eq_true, if_false, h, if_true, show ¬ p > L by omega]
    exact fin
  · have eq2 : wrap64 (p - L) = p - L := w64 (by omega) (by omega)
    have m := mul_bd (show 0 ≤ S by omega) hS.2 (show 0 ≤ p - L by omega) (show p - L ≤ 130 by omega)
    have em : wrap64 (S * (p - L)) = S * (p - L) := w64 (by omega) (by omega)
    have k1 := head (mkF (S * (p - L)) L) (by
      simp only [impl_springForce.f, eL, h, if_false, eq2, em]
      exact Ev.bind (impl_fraction_ev (S * (p - L)) L (by omega) (by omega)) (ev_now _))
    obtain ⟨g, hg, e1, e2⟩ := mkF_mul (S * (p - L)) L (by omega)
    obtain ⟨p1', p2', p3', p4'⟩ := mkF_pos (S * (p - L)) L m.1 (by omega)
    refine Ev.bind k1 ?_
    generalize hN : (mkF (S * (p - L)) L).1 = N at *
    generalize hD : (mkF (S * (p - L)) L).2 = D at *
    have eqn : N * L = S * (p - L) * D := by
      conv => lhs; rw [e2]
      rw [e1, Int.mul_comm g N, Int.mul_assoc N g D]
    have bn := mul_bd m.1 m.2 (show 0 ≤ D by omega) p4'
    have bn2 : S * (p - L) * D ≤ 1000 * 130 * 60 := Int.le_trans bn.2 (Int.mul_le_mul_of_nonneg_left hL.2 (by decide))
    simp only [if_true, show ¬ D < 1 by omega, show ¬ D > 60 by omega, if_false, show ¬ N < 0 by omega, decide_false]
    refine ev_succ ?_
    simp only [laws_FnSprings.j1, Bool.false_eq_true, if_false, h, show p > L by omega, if_true, eq2, em, w64 (n := N * L) (by omega) (by omega), w64 (n := S * (p - L) * D) (by omega) (by omega), eqn, bne_self_eq_false]
    exact fin
theorem series_ev (x : S27) (F : Int) (hs : springB x.f0 x.f1 = true) (hF : 0 ≤ F ∧ F ≤ 1000) : Ev (fun k => impl_SeriesLength.f k [x] F) ((mkF (x.f0 * (x.f1 + F)) x.f1).1, (mkF (x.f0 * (x.f1 + F)) x.f1).2, 0) := by
  obtain ⟨hL, hS⟩ := spring_is hs
  have hb : springsB [x] = true := by
    unfold springsB
    simp [hs]
  have m := mul_bd (show 0 ≤ x.f0 by omega) hL.2 (show 0 ≤ x.f1 + F by omega) (show x.f1 + F ≤ 2000 by omega)
  obtain ⟨p1, p2, p3, p4⟩ := mkF_pos (x.f0 * (x.f1 + F)) x.f1 m.1 (by omega)
  have e0 : rd_T27 [x] 0 = x := rfl
  simp only [impl_SeriesLength.f, impl_within_eq, Option.bind_some]
  refine Ev.bind (impl_ValidSprings_ev [x] (by simp)) ?_
  simp only [hb, show 0 ≤ F ∧ F ≤ 10000 by omega, and_self, decide_true, if_true]
  have k0 := impl_fraction_ev 0 1 (by omega) (by omega)
  rw [mkF_one] at k0
  refine Ev.bind k0 ?_
  refine ev_succ ?_
  simp only [impl_SeriesLength.l0, List.length_singleton, show (0 : Int) < ((1 : Nat) : Int) by decide, Int.le_refl, if_true, e0, w64 (n := x.f1 + F) (by omega) (by omega), w64 (n := x.f0 * (x.f1 + F)) (by omega) (by omega)]
  refine Ev.bind (impl_fraction_ev (x.f0 * (x.f1 + F)) x.f1 (by omega) (by omega)) ?_
  have ka := impl_addFractions_ev 0 1 (mkF (x.f0 * (x.f1 + F)) x.f1).1 (mkF (x.f0 * (x.f1 + F)) x.f1).2 (by omega) p1 (by omega) p3 (by omega) (by omega)
  rw [show (0 : Int) * (mkF (x.f0 * (x.f1 + F)) x.f1).2 + (mkF (x.f0 * (x.f1 + F)) x.f1).1 * 1 = (mkF (x.f0 * (x.f1 + F)) x.f1).1 by omega, show (1 : Int) * (mkF (x.f0 * (x.f1 + F)) x.f1).2 = (mkF (x.f0 * (x.f1 + F)) x.f1).2 by omega, mkF_again _ _ (by omega)] at ka
  refine Ev.bind ka ?_
  refine ev_succ ?_
  simp only [impl_SeriesLength.l0, List.length_singleton, show wrap64 ((0 : Int) + 1) = ((1 : Nat) : Int) from w64 (by omega) (by omega), Int.lt_irrefl, if_false]
  exact ev_now _
theorem FnSprings : laws_FnSprings.Pure := by
  intro l0 l1 h0 h1
  refine Ev.rounds ?_
  have b0 : byteL l0 := fun y hy => u8_range (h0.2.2 y hy)
  have b1 : byteL l1 := fun y hy => u8_range (h1.2.2 y hy)
  simp only [laws_FnSprings.f]
  obtain ⟨lg, el⟩ := a2Long_ev l0 l1
  rw [el]
  simp only [Option.bind_some]
  cases lg
  · simp only [Bool.false_eq_true, if_false]
    obtain ⟨xs, e1, ho, n1, n4⟩ := A2Springs_ev l0 b0
    obtain ⟨x, ys, rfl⟩ : ∃ x ys, xs = x :: ys := by
      cases xs with
      | nil => simp at n1
      | cons x ys => exact ⟨x, ys, rfl⟩
    have hs : springB x.f0 x.f1 = true := ho x (by simp)
    obtain ⟨hL, hS⟩ := spring_is hs
    refine Ev.bind e1 ?_
    obtain ⟨t, et, t0, t1⟩ := a2At_ev b1 0 200 (by omega) (by omega)
    have r0 : rd_T27 (x :: ys) 0 = x := rfl
    have tk : (x :: ys).take 1 = [x] := rfl
    simp only [et, Option.bind_some, r0, tk, show (0 : Int) < ((x :: ys).length : Int) by omega, show (1 : Int) ≤ ((x :: ys).length : Int) by omega, if_true, w64 (n := t * 5) (by omega) (by omega)]
    generalize hF' : t * 5 = F
    have hF : 0 ≤ F ∧ F ≤ 1000 := by omega
    have m := mul_bd (show 0 ≤ x.f0 by omega) hL.2 (show 0 ≤ x.f1 + F by omega) (show x.f1 + F ≤ 2000 by omega)
    have k1 : Ev (fun k => impl_SpringLength.f k x.f0 x.f1 F) ((mkF (x.f0 * (x.f1 + F)) x.f1).1, (mkF (x.f0 * (x.f1 + F)) x.f1).2, 0) := by
      simp only [impl_SpringLength.f, impl_validSpring_eq, impl_within_eq, Option.bind_some, hs, show 0 ≤ F ∧ F ≤ 10000 by omega, and_self, decide_true, if_true, w64 (n := x.f1 + F) (by omega) (by omega), w64 (n := x.f0 * (x.f1 + F)) (by omega) (by omega)]
      exact Ev.bind (impl_fraction_ev _ _ (by omega) (by omega)) (ev_now _)
    refine Ev.bind k1 (Ev.bind (series_ev x F hs hF) ?_)
    obtain ⟨g, hg, g1, g2⟩ := mkF_mul (x.f0 * (x.f1 + F)) x.f1 (by omega)
    obtain ⟨p1, p2, p3, p4⟩ := mkF_pos (x.f0 * (x.f1 + F)) x.f1 m.1 (by omega)
    generalize hN : (mkF (x.f0 * (x.f1 + F)) x.f1).1 = N at *
    generalize hD : (mkF (x.f0 * (x.f1 + F)) x.f1).2 = D at *
    have eqn : N * x.f1 = x.f0 * (x.f1 + F) * D := by
      conv => lhs; rw [g2]
      rw [g1, Int.mul_comm g N, Int.mul_assoc N g D]
    have bn := mul_bd m.1 m.2 (show 0 ≤ D by omega) p4
    have bn2 : x.f0 * (x.f1 + F) * D ≤ 60 * 2000 * 1000 := Int.le_trans bn.2 (Int.mul_le_mul_of_nonneg_left hS.2 (by decide))
    simp only [if_true, show ¬ D < 1 by omega, show ¬ D > 1000 by omega, show ¬ N > 100000000 by omega, if_false, w64 (n := x.f1 + F) (by omega) (by omega), w64 (n := x.f0 * (x.f1 + F)) (by omega) (by omega), w64 (n := N * x.f1) (by omega) (by omega), w64 (n := x.f0 * (x.f1 + F) * D) (by omega) (by omega), eqn, beq_self_eq_true, Bool.not_true, Bool.or_self]
    exact force_ev l1 b1 x.f0 x.f1 F hs hF
  · simp only [if_true]; exact ev_now _

end Go.Proofs.Ytjhlliacgkjhaaa.Pure

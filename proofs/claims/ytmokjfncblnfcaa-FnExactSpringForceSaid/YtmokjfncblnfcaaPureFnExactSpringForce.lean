/- The pure statement of FnExactSpringForce: numbers and lists alone. No condition. -/
import Derived.Test.YtmokjfncblnfcaaQFnExactSpringForcex2
import Derived.Test.YtmokjfncblnfcaaAid
namespace Go.Proofs.Ytmokjfncblnfcaa.Pure
open Go.RowKit Go.Proofs.Ytmokjfncblnfcaa.QFnExactSpringForce Go.Proofs.YtmokjfncblnfcaaW.PrintWords Go.Proofs.YtmokjfncblnfcaaW.PrintLast Go.Proofs.YtmokjfncblnfcaaW.PrintMore Go.Proofs.Ytmokjfncblnfcaa.Aid
set_option linter.unusedVariables false
set_option linter.unusedSimpArgs false

theorem spec_l00In_eq (a b c : Int) : spec_l00In.f a b c = some (decide (b ≤ a ∧ a ≤ c)) := by
  unfold spec_l00In.f
  by_cases h : a ≥ b
  · rw [if_pos h]; congr 1; simp; omega
  · rw [if_neg h]; congr 1; simp; omega

theorem impl_within_eq (a b c : Int) : impl_within.f a b c = some (decide (b ≤ a ∧ a ≤ c)) := by
  unfold impl_within.f
  by_cases h : a ≥ b
  · rw [if_pos h]; congr 1; simp; omega
  · rw [if_neg h]; congr 1; simp; omega

theorem spec_l04One_eq (l s : Int) : spec_l04One.f l s = some (springB l s) := by
  simp only [spec_l04One.f, spec_l00In_eq, Option.bind_some]
  unfold springB
  by_cases h1 : 1 ≤ l ∧ l ≤ 60
  · simp only [h1, decide_true, if_true, Bool.true_and, and_self]
  · simp only [h1, decide_false, Bool.false_and, Bool.false_eq_true, if_false]
theorem impl_validSpring_eq (l s : Int) : impl_validSpring.f l s = some (springB l s) := by
  simp only [impl_validSpring.f, impl_within_eq, Option.bind_some]
  unfold springB
  by_cases h1 : 1 ≤ l ∧ l ≤ 60
  · simp only [h1, decide_true, if_true, Bool.true_and, and_self]
  · simp only [h1, decide_false, Bool.false_and, Bool.false_eq_true, if_false]

theorem spec_l00Gcd_ev (m : Nat) : ∀ a b : Int, b.toNat = m → 0 ≤ a → 0 ≤ b → Ev (fun k => spec_l00Gcd.l0 k a b) (Nat.gcd a.toNat b.toNat : Nat) := by
  induction m using Nat.strongRecOn with
  | _ m ih =>
    intro a b hm ha hb
    refine ev_succ ?_
    by_cases h : b = 0
    · subst h
      simp only [spec_l00Gcd.l0, if_true]
      exact ev_to (ev_now _) (by simp; omega)
    · obtain ⟨h1, h2, h3⟩ := gcd_step (a := a) (b := b) ha (by omega)
      simp only [spec_l00Gcd.l0, h, if_false]
      exact ev_to (ih _ (by omega) b _ rfl hb h1) (by rw [h3])
theorem spec_l01Make_ev (n d : Int) (hn : -4611686018427387904 ≤ n ∧ n ≤ 4611686018427387904) (hd : 0 < d ∧ d ≤ 4611686018427387904) : Ev (fun k => spec_l01Make.f k n d) (mkF n d) := by
  have e0 : spec_l00Size.f n = some (n.natAbs : Int) := by
    unfold spec_l00Size.f
    by_cases h : n < 0
    · rw [if_pos h, w64 (by omega) (by omega)]; congr 1; omega
    · rw [if_neg h]; congr 1; omega
  simp only [spec_l01Make.f, spec_l00Gcd.f, e0, Option.bind_some]
  have g := spec_l00Gcd_ev d.toNat (n.natAbs : Int) d rfl (by omega) (by omega)
  have eg : Nat.gcd ((n.natAbs : Int)).toNat d.toNat = Int.gcd n d := by rw [Int.gcd, Int.toNat_natCast]; congr 1; omega
  rw [eg] at g
  have pos : 0 < Int.gcd n d := Int.gcd_pos_of_ne_zero_right n (by omega)
  refine Ev.bind g ?_
  have b1 := tdiv_bound n (Int.gcd n d)
  have b2 := tdiv_bound d (Int.gcd n d)
  simp only [show ¬ ((Int.gcd n d : Nat) : Int) = 0 by omega, if_false, w64 (n := Int.tdiv n (Int.gcd n d : Nat)) (by omega) (by omega), w64 (n := Int.tdiv d (Int.gcd n d : Nat)) (by omega) (by omega)]
  exact ev_now _

theorem impl_gcd_loop (m : Nat) : ∀ a b : Int, b.toNat = m → 0 ≤ a → 0 ≤ b → Ev (fun k => impl_gcd.l0 k a b) (Nat.gcd a.toNat b.toNat : Nat) := by
  induction m using Nat.strongRecOn with
  | _ m ih =>
    intro a b hm ha hb
    refine ev_succ ?_
    by_cases h : b = 0
    · subst h
      simp only [impl_gcd.l0, if_true]
      exact ev_to (ev_now _) (by simp; omega)
    · obtain ⟨h1, h2, h3⟩ := gcd_step (a := a) (b := b) ha (by omega)
      simp only [impl_gcd.l0, h, if_false]
      exact ev_to (ih _ (by omega) b _ rfl hb h1) (by rw [h3])
theorem impl_gcd_ev (n d : Int) (hn : -4611686018427387904 ≤ n ∧ n ≤ 4611686018427387904) (hd : 0 ≤ d) : Ev (fun k => impl_gcd.f k n d) (Int.gcd n d : Nat) := by
  have g := impl_gcd_loop d.toNat (n.natAbs : Int) d rfl (by omega) (by omega)
  have eg : Nat.gcd ((n.natAbs : Int)).toNat d.toNat = Int.gcd n d := by rw [Int.gcd, Int.toNat_natCast]; congr 1; omega
  rw [eg] at g
  simp only [impl_gcd.f]
  by_cases h : n < 0
  · simp only [h, if_true]
    refine ev_succ ?_
    simp only [impl_gcd.j0]
    rw [w64 (by omega) (by omega), show -n = (n.natAbs : Int) by omega]
    exact g
  · simp only [h, if_false]
    refine ev_succ ?_
    simp only [impl_gcd.j0]
    rw [show (n : Int) = (n.natAbs : Int) by omega]
    rw [show ((n.natAbs : Int)).gcd d = n.gcd d by simp [Int.gcd]]
    exact g
theorem impl_fraction_ev (n d : Int) (hn : -4611686018427387904 ≤ n ∧ n ≤ 4611686018427387904) (hd : 0 < d ∧ d ≤ 4611686018427387904) : Ev (fun k => impl_fraction.f k n d) (mkF n d) := by
  simp only [impl_fraction.f, show ¬ d < 0 by omega, if_false]
  have pos : 0 < Int.gcd n d := Int.gcd_pos_of_ne_zero_right n (by omega)
  refine Ev.bind (impl_gcd_ev n d hn (by omega)) ?_
  have b1 := tdiv_bound n (Int.gcd n d)
  have b2 := tdiv_bound d (Int.gcd n d)
  simp only [show ¬ ((Int.gcd n d : Nat) : Int) = 0 by omega, if_false, w64 (n := Int.tdiv n (Int.gcd n d : Nat)) (by omega) (by omega), w64 (n := Int.tdiv d (Int.gcd n d : Nat)) (by omega) (by omega)]
  exact ev_now _

theorem mkF_scale (c n d : Int) (hc : 0 < c) : mkF (c * n) (c * d) = mkF n d := by
  unfold mkF
  have e : (Int.gcd (c * n) (c * d) : Int) = c * (Int.gcd n d : Int) := by
    rw [Int.gcd_mul_left]; push_cast; rw [Int.natAbs_of_nonneg (by omega)]
  rw [e, Int.mul_tdiv_mul_of_pos _ _ hc, Int.mul_tdiv_mul_of_pos _ _ hc]
theorem mkF_mul (n d : Int) (hd : 0 < d) : ∃ g : Int, 0 < g ∧ n = g * (mkF n d).1 ∧ d = g * (mkF n d).2 := by
  have pos : 0 < Int.gcd n d := Int.gcd_pos_of_ne_zero_right n (by omega)
  exact ⟨(Int.gcd n d : Nat), by omega, (Int.mul_tdiv_cancel' (Int.gcd_dvd_left ..)).symm, (Int.mul_tdiv_cancel' (Int.gcd_dvd_right ..)).symm⟩
theorem pos_of_mul {g x : Int} (hg : 0 < g) (h : 0 < g * x) : 0 < x := by
  rcases Int.lt_or_le 0 x with q | q
  · exact q
  · have := Int.mul_le_mul_of_nonneg_left q (Int.le_of_lt hg); omega
theorem nonneg_of_mul {g x : Int} (hg : 0 < g) (h : 0 ≤ g * x) : 0 ≤ x := by
  rcases Int.lt_or_le x 0 with q | q
  · have := Int.mul_lt_mul_of_pos_left q hg; omega
  · exact q
theorem le_mul_pos {g x : Int} (hg : 0 < g) (hx : 0 ≤ x) : x ≤ g * x := by
  have := Int.mul_le_mul_of_nonneg_right (show (1 : Int) ≤ g by omega) hx; omega
theorem mul_bd {a b A B : Int} (h0 : 0 ≤ a) (h1 : a ≤ A) (h2 : 0 ≤ b) (h3 : b ≤ B) : 0 ≤ a * b ∧ a * b ≤ A * B :=
  ⟨Int.mul_nonneg h0 h2, Int.mul_le_mul h1 h3 h2 (by omega)⟩
theorem mkF_pos (n d : Int) (hn : 0 ≤ n) (hd : 0 < d) : 0 ≤ (mkF n d).1 ∧ (mkF n d).1 ≤ n ∧ 0 < (mkF n d).2 ∧ (mkF n d).2 ≤ d := by
  obtain ⟨g, hg, e1, e2⟩ := mkF_mul n d hd
  have a := nonneg_of_mul hg (show 0 ≤ g * (mkF n d).1 by omega)
  have b := pos_of_mul hg (show 0 < g * (mkF n d).2 by omega)
  have c := le_mul_pos hg a
  have e := le_mul_pos hg (Int.le_of_lt b)
  exact ⟨a, by omega, b, by omega⟩

theorem mkF_one (p : Int) (h : 0 ≤ p) : mkF p 1 = (p, 1) := by
  unfold mkF; rw [Int.gcd_one]; simp
theorem mkF_zero (d : Int) (h : 0 < d) : mkF 0 d = (0, 1) := by
  unfold mkF; rw [Int.gcd_zero_left, Int.natAbs_of_nonneg (by omega), Int.zero_tdiv, Int.tdiv_self (by omega)]
theorem SpringForce_ev (l s p : Int) : ∃ r, Ev (fun k => spec_SpringForce.f k l s p) r ∧ Ev (fun k => impl_SpringForce.f k l s p) r := by
  simp only [spec_SpringForce.f, impl_SpringForce.f, spec_l04One_eq, impl_validSpring_eq, Option.bind_some, spec_l04Pull.f, spec_l00In_eq, impl_within_eq]
  cases hb : springB l s
  · simp only [Bool.false_eq_true, if_false]; exact ⟨_, ev_now _, ev_now _⟩
  unfold springB at hb
  simp only [Bool.and_eq_true, decide_eq_true_eq] at hb
  by_cases hp : 0 ≤ p ∧ p ≤ 10000
  · simp only [hp, and_self, decide_true, if_true, spec_l04Force.f, spec_l00Max.f]
    have hl : wrap64 (l * 1) = l := by rw [Int.mul_one]; exact w64 (by omega) (by omega)
    rw [hl, w64 (n := p - l) (by omega) (by omega)]
    by_cases hc : p ≤ l
    · have m := mul_bd (show 0 ≤ s by omega) hb.2.2 (show 0 ≤ l - p by omega) (show l - p ≤ 60 by omega)
      have e : s * (p - l) = - (s * (l - p)) := by rw [← Int.mul_neg]; congr 1; omega
      rw [w64 (n := s * (p - l)) (by omega) (by omega)]
      refine ⟨(0, 1, 0), ?_, ?_⟩
      · have e2 : (if (0 : Int) > s * (p - l) then (some (0 : Int)) else some (s * (p - l))) = some 0 := by split; rfl; congr 1; omega
        rw [e2]; simp only [Option.bind_some]
        refine Ev.bind (Ev.bind (spec_l01Make_ev 0 l (by omega) (by omega)) (ev_now _)) ?_
        rw [mkF_zero l (by omega)]; exact ev_now _
      · refine Ev.bind (impl_fraction_ev p 1 (by omega) (by omega)) ?_
        rw [mkF_one p hp.1]
        simp only [impl_springForce.f, hl, hc, if_true]
        refine Ev.bind (Ev.bind (impl_fraction_ev 0 1 (by omega) (by omega)) (ev_now _)) ?_
        rw [mkF_zero 1 (by omega)]; exact ev_now _
    · have m := mul_bd (show 0 ≤ s by omega) hb.2.2 (show 0 ≤ p - l by omega) (show p - l ≤ 10000 by omega)
      rw [w64 (n := s * (p - l)) (by omega) (by omega)]
      refine ⟨((mkF (s * (p - l)) l).1, (mkF (s * (p - l)) l).2, 0), ?_, ?_⟩
      · have e2 : (if (0 : Int) > s * (p - l) then (some (0 : Int)) else some (s * (p - l))) = some (s * (p - l)) := by rw [if_neg (by omega)]
        rw [e2]; simp only [Option.bind_some]
        exact Ev.bind (Ev.bind (spec_l01Make_ev _ l (by omega) (by omega)) (ev_now _)) (ev_now _)
      · refine Ev.bind (impl_fraction_ev p 1 (by omega) (by omega)) ?_
        rw [mkF_one p hp.1]
        simp only [impl_springForce.f, hl, hc, if_false]
        rw [w64 (n := p - l) (by omega) (by omega), w64 (n := s * (p - l)) (by omega) (by omega)]
        exact Ev.bind (Ev.bind (impl_fraction_ev _ l (by omega) (by omega)) (ev_now _)) (ev_now _)
  · simp only [hp, decide_false, if_true, Bool.false_eq_true, if_false]; exact ⟨_, ev_now _, ev_now _⟩
theorem FnExactSpringForce : laws_FnExactSpringForce.Pure := by
  intro l s p hl hs hp
  refine Ev.rounds ?_
  simp only [laws_FnExactSpringForce.f, laws_toSpring.f, Option.bind_some]
  obtain ⟨r, k1, k2⟩ := SpringForce_ev l s p
  refine Ev.bind k1 (Ev.bind k2 ?_)
  simp only [laws_eqFraction.f, if_true, Option.bind_some]
  exact ev_now _

end Go.Proofs.Ytmokjfncblnfcaa.Pure

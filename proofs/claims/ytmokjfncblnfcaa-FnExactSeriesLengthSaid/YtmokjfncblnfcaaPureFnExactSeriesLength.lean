/- The pure statement of FnExactSeriesLength: numbers and lists alone. No condition. -/
import Derived.Test.YtmokjfncblnfcaaQFnExactSeriesLengthx4
import Derived.Test.YtmokjfncblnfcaaAid
namespace Go.Proofs.Ytmokjfncblnfcaa.Pure
open Go.RowKit Go.Proofs.Ytmokjfncblnfcaa.QFnExactSeriesLength Go.Proofs.YtmokjfncblnfcaaW.PrintWords Go.Proofs.YtmokjfncblnfcaaW.PrintLast Go.Proofs.YtmokjfncblnfcaaW.PrintMore Go.Proofs.Ytmokjfncblnfcaa.Aid
set_option linter.unusedVariables false
set_option linter.unusedSimpArgs false

theorem spec_l00In_eq (a b c : Int) : spec_l00In.f a b c = some (decide (b ≤ a ∧ a ≤ c)) := by
  unfold spec_l00In.f
  by_cases h : a ≥ b
  · rw [if_pos h]; congr 1; simp; omega
  · rw [if_neg h]; congr 1; simp; omega

theorem impl_within_eq (a b c : Int) : impl_within.f a b c = some (decide (b ≤ a ∧ a ≤ c)) := by
  unfold impl_within.f
  by_cases h : a ≥ b
  · rw [if_pos h]; congr 1; simp; omega
  · rw [if_neg h]; congr 1; simp; omega

theorem spec_l04One_eq (l s : Int) : spec_l04One.f l s = some (springB l s) := by
  simp only [spec_l04One.f, spec_l00In_eq, Option.bind_some]
  unfold springB
  by_cases h1 : 1 ≤ l ∧ l ≤ 60
  · simp only [h1, decide_true, if_true, Bool.true_and, and_self]
  · simp only [h1, decide_false, Bool.false_and, Bool.false_eq_true, if_false]
theorem impl_validSpring_eq (l s : Int) : impl_validSpring.f l s = some (springB l s) := by
  simp only [impl_validSpring.f, impl_within_eq, Option.bind_some]
  unfold springB
  by_cases h1 : 1 ≤ l ∧ l ≤ 60
  · simp only [h1, decide_true, if_true, Bool.true_and, and_self]
  · simp only [h1, decide_false, Bool.false_and, Bool.false_eq_true, if_false]

def springsB (xs : List S28) : Bool := decide (1 ≤ xs.length ∧ xs.length ≤ 4) && xs.all fun x => springB x.f0 x.f1
theorem spec_l04Ok_ev (xs : List S28) (h : xs.length ≤ 1048576) : Ev (fun k => spec_l04Ok.f k xs) (springsB xs) := by
  simp only [spec_l04Ok.f]
  refine ev_to (ev_all (len := xs.length) (g := fun k i => spec_l04Ok.l0 k xs i) (fun n => (fun x : S28 => springB x.f0 x.f1) (xs.getD n z28)) (decide (1 ≤ xs.length ∧ xs.length ≤ 4)) ?_ ?_ ?_) (by rw [range_all xs z28 (fun x => springB x.f0 x.f1), Bool.and_comm]; rfl)
  · intro n hn hp r hr
    refine ev_succ ?_
    simp only [spec_l04Ok.l0, spec_l04One_eq, Option.bind_some, Int.ofNat_lt.2 hn, show (0 : Int) ≤ (n : Int) from Int.natCast_nonneg _, if_true, rd_T28, Int.toNat_natCast, hp, wnext hn (by omega : xs.length ≤ 9223372036854775807)]
    exact hr
  · intro n hn hp
    refine ev_succ ?_
    simp only [spec_l04Ok.l0, spec_l04One_eq, Option.bind_some, Int.ofNat_lt.2 hn, show (0 : Int) ≤ (n : Int) from Int.natCast_nonneg _, if_true, rd_T28, Int.toNat_natCast, hp, Bool.false_eq_true, if_false]
    exact ev_now _
  · refine ev_succ ?_
    simp only [spec_l04Ok.l0, Int.lt_irrefl, if_false, spec_l00In_eq, Option.bind_some]
    exact ev_to (ev_now _) (by congr 1; simp; omega)
theorem impl_ValidSprings_ev (xs : List S28) (h : xs.length ≤ 1048576) : Ev (fun k => impl_ValidSprings.f k xs) (springsB xs) := by
  simp only [impl_ValidSprings.f]
  by_cases h1 : (xs.length : Int) < 1
  · simp only [h1, if_true]
    refine ev_succ ?_
    simp only [impl_ValidSprings.j0, if_true]
    exact ev_to (ev_now _) (by unfold springsB; rw [show decide (1 ≤ xs.length ∧ xs.length ≤ 4) = false by simp; omega]; rfl)
  · simp only [h1, if_false]
    refine ev_succ ?_
    simp only [impl_ValidSprings.j0]
    by_cases h2 : (xs.length : Int) > 4
    · simp only [h2, decide_true, if_true]
      exact ev_to (ev_now _) (by unfold springsB; rw [show decide (1 ≤ xs.length ∧ xs.length ≤ 4) = false by simp; omega]; rfl)
    · simp only [h2, decide_false, Bool.false_eq_true, if_false]
      refine ev_to (ev_all (len := xs.length) (g := fun k i => impl_ValidSprings.l0 k xs (xs.length : Int) i) (fun n => (fun x : S28 => springB x.f0 x.f1) (xs.getD n z28)) true ?_ ?_ ?_) (by rw [range_all xs z28 (fun x => springB x.f0 x.f1), Bool.and_true]; unfold springsB; rw [show decide (1 ≤ xs.length ∧ xs.length ≤ 4) = true by simp; omega]; rfl)
      · intro n hn hp r hr
        refine ev_succ ?_
        simp only [impl_ValidSprings.l0, impl_validSpring_eq, Option.bind_some, Int.ofNat_lt.2 hn, show (0 : Int) ≤ (n : Int) from Int.natCast_nonneg _, if_true, rd_T28, Int.toNat_natCast, hp, wnext hn (by omega : xs.length ≤ 9223372036854775807)]
        exact hr
      · intro n hn hp
        refine ev_succ ?_
        simp only [impl_ValidSprings.l0, impl_validSpring_eq, Option.bind_some, Int.ofNat_lt.2 hn, show (0 : Int) ≤ (n : Int) from Int.natCast_nonneg _, if_true, rd_T28, Int.toNat_natCast, hp, Bool.false_eq_true, if_false]
        exact ev_now _
      · refine ev_succ ?_
        simp only [impl_ValidSprings.l0, Int.lt_irrefl, if_false]
        exact ev_now _

theorem spec_l00Gcd_ev (m : Nat) : ∀ a b : Int, b.toNat = m → 0 ≤ a → 0 ≤ b → Ev (fun k => spec_l00Gcd.l0 k a b) (Nat.gcd a.toNat b.toNat : Nat) := by
  induction m using Nat.strongRecOn with
  | _ m ih =>
    intro a b hm ha hb
    refine ev_succ ?_
    by_cases h : b = 0
    · subst h
      simp only [spec_l00Gcd.l0, if_true]
      exact ev_to (ev_now _) (by simp; omega)
    · obtain ⟨h1, h2, h3⟩ := gcd_step (a := a) (b := b) ha (by omega)
      simp only [spec_l00Gcd.l0, h, if_false]
      exact ev_to (ih _ (by omega) b _ rfl hb h1) (by rw [h3])
theorem spec_l01Make_ev (n d : Int) (hn : -4611686018427387904 ≤ n ∧ n ≤ 4611686018427387904) (hd : 0 < d ∧ d ≤ 4611686018427387904) : Ev (fun k => spec_l01Make.f k n d) (mkF n d) := by
  have e0 : spec_l00Size.f n = some (n.natAbs : Int) := by
    unfold spec_l00Size.f
    by_cases h : n < 0
    · rw [if_pos h, w64 (by omega) (by omega)]; congr 1; omega
    · rw [if_neg h]; congr 1; omega
  simp only [spec_l01Make.f, spec_l00Gcd.f, e0, Option.bind_some]
  have g := spec_l00Gcd_ev d.toNat (n.natAbs : Int) d rfl (by omega) (by omega)
  have eg : Nat.gcd ((n.natAbs : Int)).toNat d.toNat = Int.gcd n d := by rw [Int.gcd, Int.toNat_natCast]; congr 1; omega
  rw [eg] at g
  have pos : 0 < Int.gcd n d := Int.gcd_pos_of_ne_zero_right n (by omega)
  refine Ev.bind g ?_
  have b1 := tdiv_bound n (Int.gcd n d)
  have b2 := tdiv_bound d (Int.gcd n d)
  simp only [show ¬ ((Int.gcd n d : Nat) : Int) = 0 by omega, if_false, w64 (n := Int.tdiv n (Int.gcd n d : Nat)) (by omega) (by omega), w64 (n := Int.tdiv d (Int.gcd n d : Nat)) (by omega) (by omega)]
  exact ev_now _

theorem impl_gcd_loop (m : Nat) : ∀ a b : Int, b.toNat = m → 0 ≤ a → 0 ≤ b → Ev (fun k => impl_gcd.l0 k a b) (Nat.gcd a.toNat b.toNat : Nat) := by
  induction m using Nat.strongRecOn with
  | _ m ih =>
    intro a b hm ha hb
    refine ev_succ ?_
    by_cases h : b = 0
    · subst h
      simp only [impl_gcd.l0, if_true]
      exact ev_to (ev_now _) (by simp; omega)
    · obtain ⟨h1, h2, h3⟩ := gcd_step (a := a) (b := b) ha (by omega)
      simp only [impl_gcd.l0, h, if_false]
      exact ev_to (ih _ (by omega) b _ rfl hb h1) (by rw [h3])
theorem impl_gcd_ev (n d : Int) (hn : -4611686018427387904 ≤ n ∧ n ≤ 4611686018427387904) (hd : 0 ≤ d) : Ev (fun k => impl_gcd.f k n d) (Int.gcd n d : Nat) := by
  have g := impl_gcd_loop d.toNat (n.natAbs : Int) d rfl (by omega) (by omega)
  have eg : Nat.gcd ((n.natAbs : Int)).toNat d.toNat = Int.gcd n d := by rw [Int.gcd, Int.toNat_natCast]; congr 1; omega
  rw [eg] at g
  simp only [impl_gcd.f]
  by_cases h : n < 0
  · simp only [h, if_true]
    refine ev_succ ?_
    simp only [impl_gcd.j0]
    rw [w64 (by omega) (by omega), show -n = (n.natAbs : Int) by omega]
    exact g
  · simp only [h, if_false]
    refine ev_succ ?_
    simp only [impl_gcd.j0]
    rw [show (n : Int) = (n.natAbs : Int) by omega]
    rw [show ((n.natAbs : Int)).gcd d = n.gcd d by simp [Int.gcd]]
    exact g
theorem impl_fraction_ev (n d : Int) (hn : -4611686018427387904 ≤ n ∧ n ≤ 4611686018427387904) (hd : 0 < d ∧ d ≤ 4611686018427387904) : Ev (fun k => impl_fraction.f k n d) (mkF n d) := by
  simp only [impl_fraction.f, show ¬ d < 0 by omega, if_false]
  have pos : 0 < Int.gcd n d := Int.gcd_pos_of_ne_zero_right n (by omega)
  refine Ev.bind (impl_gcd_ev n d hn (by omega)) ?_
  have b1 := tdiv_bound n (Int.gcd n d)
  have b2 := tdiv_bound d (Int.gcd n d)
  simp only [show ¬ ((Int.gcd n d : Nat) : Int) = 0 by omega, if_false, w64 (n := Int.tdiv n (Int.gcd n d : Nat)) (by omega) (by omega), w64 (n := Int.tdiv d (Int.gcd n d : Nat)) (by omega) (by omega)]
  exact ev_now _

theorem mkF_scale (c n d : Int) (hc : 0 < c) : mkF (c * n) (c * d) = mkF n d := by
  unfold mkF
  have e : (Int.gcd (c * n) (c * d) : Int) = c * (Int.gcd n d : Int) := by
    rw [Int.gcd_mul_left]; push_cast; rw [Int.natAbs_of_nonneg (by omega)]
  rw [e, Int.mul_tdiv_mul_of_pos _ _ hc, Int.mul_tdiv_mul_of_pos _ _ hc]
theorem mkF_mul (n d : Int) (hd : 0 < d) : ∃ g : Int, 0 < g ∧ n = g * (mkF n d).1 ∧ d = g * (mkF n d).2 := by
  have pos : 0 < Int.gcd n d := Int.gcd_pos_of_ne_zero_right n (by omega)
  exact ⟨(Int.gcd n d : Nat), by omega, (Int.mul_tdiv_cancel' (Int.gcd_dvd_left ..)).symm, (Int.mul_tdiv_cancel' (Int.gcd_dvd_right ..)).symm⟩
theorem pos_of_mul {g x : Int} (hg : 0 < g) (h : 0 < g * x) : 0 < x := by
  rcases Int.lt_or_le 0 x with q | q
  · exact q
  · have := Int.mul_le_mul_of_nonneg_left q (Int.le_of_lt hg); omega
theorem nonneg_of_mul {g x : Int} (hg : 0 < g) (h : 0 ≤ g * x) : 0 ≤ x := by
  rcases Int.lt_or_le x 0 with q | q
  · have := Int.mul_lt_mul_of_pos_left q hg; omega
  · exact q
theorem le_mul_pos {g x : Int} (hg : 0 < g) (hx : 0 ≤ x) : x ≤ g * x := by
  have := Int.mul_le_mul_of_nonneg_right (show (1 : Int) ≤ g by omega) hx; omega
theorem mul_bd {a b A B : Int} (h0 : 0 ≤ a) (h1 : a ≤ A) (h2 : 0 ≤ b) (h3 : b ≤ B) : 0 ≤ a * b ∧ a * b ≤ A * B :=
  ⟨Int.mul_nonneg h0 h2, Int.mul_le_mul h1 h3 h2 (by omega)⟩
theorem mkF_pos (n d : Int) (hn : 0 ≤ n) (hd : 0 < d) : 0 ≤ (mkF n d).1 ∧ (mkF n d).1 ≤ n ∧ 0 < (mkF n d).2 ∧ (mkF n d).2 ≤ d := by
  obtain ⟨g, hg, e1, e2⟩ := mkF_mul n d hd
  have a := nonneg_of_mul hg (show 0 ≤ g * (mkF n d).1 by omega)
  have b := pos_of_mul hg (show 0 < g * (mkF n d).2 by omega)
  have c := le_mul_pos hg a
  have e := le_mul_pos hg (Int.le_of_lt b)
  exact ⟨a, by omega, b, by omega⟩

theorem impl_addFractions_ev (n1 d1 n2 d2 : Int) (h1 : 0 ≤ n1) (h2 : 0 ≤ n2) (k1 : 0 < d1) (k2 : 0 < d2) (b1 : n1 * d2 + n2 * d1 ≤ 4611686018427387904) (b2 : d1 * d2 ≤ 4611686018427387904) :
    Ev (fun k => impl_addFractions.f k n1 d1 n2 d2) (mkF (n1 * d2 + n2 * d1) (d1 * d2)) := by
  simp only [impl_addFractions.f]
  have pos : 0 < Int.gcd d1 d2 := Int.gcd_pos_of_ne_zero_right d1 (by omega)
  have q1 : (Int.gcd d1 d2 : Int) * Int.tdiv d1 (Int.gcd d1 d2 : Nat) = d1 := Int.mul_tdiv_cancel' (Int.gcd_dvd_left ..)
  have q2 : (Int.gcd d1 d2 : Int) * Int.tdiv d2 (Int.gcd d1 d2 : Nat) = d2 := Int.mul_tdiv_cancel' (Int.gcd_dvd_right ..)
  have kd : d1 ≤ d1 * d2 := by have := Int.mul_le_mul_of_nonneg_left (show 1 ≤ d2 by omega) (show 0 ≤ d1 by omega); omega
  have kd2 : d2 ≤ d1 * d2 := le_mul_pos k1 (by omega)
  refine Ev.bind (impl_gcd_ev d1 d2 (by omega) (by omega)) ?_
  have gne : ¬ ((Int.gcd d1 d2 : Nat) : Int) = 0 := by omega
  simp only [gne, if_false]
  generalize hg : ((Int.gcd d1 d2 : Nat) : Int) = g at q1 q2 gne ⊢
  generalize he1 : Int.tdiv d1 g = e1 at q1 ⊢
  generalize he2 : Int.tdiv d2 g = e2 at q2 ⊢
  have gp : 0 < g := by omega
  have p1 : 0 < e1 := pos_of_mul gp (by omega)
  have p2 : 0 < e2 := pos_of_mul gp (by omega)
  have l1 : e1 ≤ d1 := by have := le_mul_pos gp (Int.le_of_lt p1); omega
  have l2 : e2 ≤ d2 := by have := le_mul_pos gp (Int.le_of_lt p2); omega
  have m1 := mul_bd h1 (Int.le_refl n1) (Int.le_of_lt p2) l2
  have m2 := mul_bd h2 (Int.le_refl n2) (Int.le_of_lt p1) l1
  have m3 := mul_bd (Int.le_of_lt p1) l1 (Int.le_of_lt k2) (Int.le_refl d2)
  have m4 : 0 < e1 * d2 := Int.mul_pos p1 k2
  have z1 := mul_bd h1 (Int.le_refl n1) (Int.le_of_lt k2) (Int.le_refl d2)
  have z2 := mul_bd h2 (Int.le_refl n2) (Int.le_of_lt k1) (Int.le_refl d1)
  rw [w64 (n := e2) (by omega) (by omega), w64 (n := e1) (by omega) (by omega), w64 (n := n1 * e2) (by omega) (by omega), w64 (n := n2 * e1) (by omega) (by omega), w64 (n := n1 * e2 + n2 * e1) (by omega) (by omega), w64 (n := e1 * d2) (by omega) (by omega)]
  refine Ev.bind (impl_fraction_ev _ _ (by omega) (by omega)) (ev_to (ev_now _) ?_)
  rw [← mkF_scale g _ _ gp]
  have s1 : g * (n1 * e2 + n2 * e1) = n1 * d2 + n2 * d1 := by
    rw [Int.mul_add, ← q1, ← q2]; congr 1 <;> rw [Int.mul_left_comm]
  have s2 : g * (e1 * d2) = d1 * d2 := by rw [← Int.mul_assoc, q1]
  rw [s1, s2]

def conv_Spring (x : S23) : S28 := ⟨x.f0, x.f1⟩
theorem laws_toSpringS_ev (xs : List S23) (h : xs.length ≤ 1048576) : Ev (fun k => laws_toSpringS.f k xs) (xs.map conv_Spring) := by
  simp only [laws_toSpringS.f, Int.toNat_natCast, show (0 : Int) ≤ (xs.length : Int) from Int.natCast_nonneg _, if_true]
  rw [if_pos_ev (by omega)]
  have e : List.replicate xs.length z28 = (xs.take 0).map conv_Spring ++ List.replicate (xs.length - 0) z28 := by simp
  have e2 : xs.map conv_Spring = (xs.take xs.length).map conv_Spring ++ List.replicate (xs.length - xs.length) z28 := by simp
  rw [e, e2]
  refine ev_fold (len := xs.length) (g := fun k s i => laws_toSpringS.l0 k xs s i) (fun n s => s.set n (conv_Spring (xs.getD n z23))) (fun n => (xs.take n).map conv_Spring ++ List.replicate (xs.length - n) z28) _ ?_ ?_ ?_
  · intro n hn; exact (fill_step xs conv_Spring _ _ hn).symm
  · intro n hn r hr
    refine ev_succ ?_
    have l1 : (n : Int) < (((xs.take n).map conv_Spring ++ List.replicate (xs.length - n) z28).length : Int) := by simp; omega
    simp only [laws_toSpringS.l0, laws_toSpring.f, Option.bind_some, Int.ofNat_lt.2 hn, show (0 : Int) ≤ (n : Int) from Int.natCast_nonneg _, if_true, l1, wnext hn (by omega : xs.length ≤ 9223372036854775807), rd_T23, Int.toNat_natCast]
    exact hr
  · refine ev_succ ?_
    simp only [laws_toSpringS.l0, Int.lt_irrefl, if_false]
    exact ev_now _

theorem laws_eqSpringS_self (xs : List S28) (h : xs.length ≤ 9223372036854775807) : Ev (fun k => laws_eqSpringS.f k xs xs) true := by
  simp only [laws_eqSpringS.f, if_true]
  refine ev_to (ev_all (len := xs.length) (g := fun k i => laws_eqSpringS.l0 k xs xs i) (fun _ => true) true ?_ (fun n hn hp => by simp at hp) ?_) (by simp)
  · intro n hn hp r hr
    refine ev_succ ?_
    simp only [laws_eqSpringS.l0, laws_eqSpring.f, Option.bind_some, Int.ofNat_lt.2 hn, show (0 : Int) ≤ (n : Int) from Int.natCast_nonneg _, if_true, bne_self_eq_false, Bool.false_eq_true, if_false, wnext hn h]
    exact hr
  · refine ev_succ ?_
    simp only [laws_eqSpringS.l0, Int.lt_irrefl, if_false]
    exact ev_now _

def serStep (p : Int) (s : Int × Int) (x : S28) : Int × Int := mkF (s.1 * x.f1 + x.f0 * (x.f1 + p) * s.2) (s.2 * x.f1)
def serInv (n : Nat) (s : Int × Int) : Prop := 0 ≤ s.1 ∧ 0 < s.2 ∧ s.2 ≤ 1000 ^ n ∧ s.1 ≤ 660000 * ((n : Int) * s.2)
theorem pow_le3 {n : Nat} (h : n < 4) : (1000 : Int) ^ n ≤ 1000000000 := by
  have : n = 0 ∨ n = 1 ∨ n = 2 ∨ n = 3 := by omega
  rcases this with rfl | rfl | rfl | rfl <;> decide
structure SerFacts (p : Int) (n : Nat) (a d : Int) (x : S28) : Prop where
  w : 0 ≤ x.f0 * (x.f1 + p) ∧ x.f0 * (x.f1 + p) ≤ 660000
  asx : 0 ≤ a * x.f1 ∧ a * x.f1 ≤ 1980000000000000000
  wd : 0 ≤ x.f0 * (x.f1 + p) * d ∧ x.f0 * (x.f1 + p) * d ≤ 660000000000000
  sum : a * x.f1 + x.f0 * (x.f1 + p) * d ≤ 660000 * (((n + 1 : Nat) : Int) * (d * x.f1))
  den : 0 < d * x.f1 ∧ d * x.f1 ≤ 1000 ^ (n + 1) ∧ d * x.f1 ≤ 1000000000000
theorem ser_facts (p : Int) (hp : 0 ≤ p ∧ p ≤ 10000) (n : Nat) (hn : n < 4) (a d : Int) (hi : serInv n (a, d)) (x : S28) (hx : springB x.f0 x.f1 = true) : SerFacts p n a d x := by
  unfold springB at hx
  simp only [Bool.and_eq_true, decide_eq_true_eq] at hx
  obtain ⟨i1, i2, i3, i4⟩ := hi
  simp only at i1 i2 i3 i4
  have p3 := pow_le3 hn
  have m1 := mul_bd (show 0 ≤ x.f0 by omega) hx.1.2 (show 0 ≤ x.f1 + p by omega) (show x.f1 + p ≤ 11000 by omega)
  have m2 := mul_bd (show 0 ≤ d by omega) i3 (show 0 ≤ x.f1 by omega) hx.2.2
  have m3 := mul_bd m1.1 m1.2 (show 0 ≤ d by omega) (show d ≤ 1000000000 by omega)
  have m4 := mul_bd i1 i4 (show 0 ≤ x.f1 by omega) (Int.le_refl x.f1)
  have m5 : d ≤ d * x.f1 := by have := Int.mul_le_mul_of_nonneg_left hx.2.1 (show 0 ≤ d by omega); omega
  have m6 := mul_bd m1.1 m1.2 (show 0 ≤ d by omega) m5
  have e1 : 660000 * ((n : Int) * d) * x.f1 = 660000 * ((n : Int) * (d * x.f1)) := by rw [Int.mul_assoc, Int.mul_assoc]
  have e2 : (((n + 1 : Nat) : Int) * (d * x.f1)) = (n : Int) * (d * x.f1) + d * x.f1 := by rw [show ((n + 1 : Nat) : Int) = (n : Int) + 1 from rfl, Int.add_mul, Int.one_mul]
  have e3 : (1000 : Int) ^ (n + 1) = 1000 ^ n * 1000 := Int.pow_succ ..
  have m7 := mul_bd (show 0 ≤ (n : Int) by omega) (show (n : Int) ≤ 3 by omega) (show 0 ≤ d * x.f1 by omega) (show d * x.f1 ≤ 1000000000000 by omega)
  rw [e1] at m4
  exact ⟨by omega, by omega, by omega, by rw [e2]; omega, Int.mul_pos i2 (by omega), by omega, by omega⟩
theorem ser_next (p : Int) (n : Nat) (a d : Int) (x : S28) (f : SerFacts p n a d x) : serInv (n + 1) (serStep p (a, d) x) := by
  obtain ⟨g, hg, e1, e2⟩ := mkF_mul (a * x.f1 + x.f0 * (x.f1 + p) * d) (d * x.f1) f.den.1
  have q := mkF_pos (a * x.f1 + x.f0 * (x.f1 + p) * d) (d * x.f1) (by have := f.asx; have := f.wd; omega) f.den.1
  refine ⟨q.1, q.2.2.1, by have := f.den.2.1; unfold serStep; simp only; omega, ?_⟩
  have s := f.sum
  unfold serStep
  simp only
  generalize mkF (a * x.f1 + x.f0 * (x.f1 + p) * d) (d * x.f1) = r at *
  rw [e1, e2] at s
  have e3 : 660000 * (((n + 1 : Nat) : Int) * (g * r.2)) = g * (660000 * (((n + 1 : Nat) : Int) * r.2)) := by
    rw [Int.mul_left_comm g, Int.mul_left_comm g]
  rw [e3] at s
  exact Int.le_of_mul_le_mul_left s hg
def serL (p : Int) (xs : List S28) (n : Nat) : Int × Int := (xs.take n).foldl (serStep p) (0, 1)
theorem serL_inv (p : Int) (hp : 0 ≤ p ∧ p ≤ 10000) (xs : List S28) (hl : xs.length ≤ 4) (hx : (xs.all fun x => springB x.f0 x.f1) = true) : ∀ n, n ≤ xs.length → serInv n (serL p xs n) := by
  intro n
  induction n with
  | zero => intro _; show serInv 0 (0, 1); exact ⟨by decide, by decide, by decide, by decide⟩
  | succ n ih =>
    intro h
    have i := ih (by omega)
    unfold serL at i ⊢
    rw [foldl_take_succ xs z28 (serStep p) (0, 1) (by omega)]
    exact ser_next p n _ _ _ (ser_facts p hp n (by omega) _ _ i _ (by rw [List.all_eq_true] at hx; rw [getD_lt xs _ (by omega)]; exact hx _ (List.getElem_mem _)))
theorem spec_ser_loop (p : Int) (hp : 0 ≤ p ∧ p ≤ 10000) (xs : List S28) (hl : xs.length ≤ 4) (hx : (xs.all fun x => springB x.f0 x.f1) = true) :
    Ev (fun k => spec_SeriesLength.l0 k xs p 0 1 0) ((serL p xs xs.length).1, (serL p xs xs.length).2, 0) := by
  refine ev_fold (len := xs.length) (g := fun k (s : Int × Int) i => spec_SeriesLength.l0 k xs p s.1 s.2 i) (fun n s => serStep p s (xs.getD n z28)) (serL p xs) _ (fun n hn => foldl_take_succ xs _ _ _ hn) ?_ ?_
  · intro n hn r hr
    have hs : springB (xs.getD n z28).f0 (xs.getD n z28).f1 = true := by rw [List.all_eq_true] at hx; rw [getD_lt xs _ hn]; exact hx _ (List.getElem_mem _)
    have hi := serL_inv p hp xs hl hx n (by omega)
    have f := ser_facts p hp n (by omega) (serL p xs n).1 (serL p xs n).2 hi _ hs
    unfold springB at hs
    simp only [Bool.and_eq_true, decide_eq_true_eq] at hs
    have f1 := f.w
    have f2 := f.asx
    have f3 := f.wd
    have f4 := f.den
    refine ev_succ ?_
    simp only [spec_SeriesLength.l0, Int.ofNat_lt.2 hn, show (0 : Int) ≤ (n : Int) from Int.natCast_nonneg _, if_true, rd_T28, Int.toNat_natCast, wnext hn (by omega : xs.length ≤ 9223372036854775807)]
    rw [w64 (n := (xs.getD n z28).f1 + p) (by omega) (by omega), w64 (n := (xs.getD n z28).f0 * ((xs.getD n z28).f1 + p)) (by omega) (by omega),
      w64 (n := (serL p xs n).1 * (xs.getD n z28).f1) (by omega) (by omega), w64 (n := (xs.getD n z28).f0 * ((xs.getD n z28).f1 + p) * (serL p xs n).2) (by omega) (by omega),
      w64 (n := (serL p xs n).2 * (xs.getD n z28).f1) (by omega) (by omega), w64 (n := (serL p xs n).1 * (xs.getD n z28).f1 + (xs.getD n z28).f0 * ((xs.getD n z28).f1 + p) * (serL p xs n).2) (by omega) (by omega)]
    exact Ev.bind (spec_l01Make_ev _ _ (by omega) (by omega)) hr
  · refine ev_succ ?_
    simp only [spec_SeriesLength.l0, Int.lt_irrefl, if_false]
    exact ev_now _
theorem impl_ser_loop (p : Int) (hp : 0 ≤ p ∧ p ≤ 10000) (xs : List S28) (hl : xs.length ≤ 4) (hx : (xs.all fun x => springB x.f0 x.f1) = true) :
    Ev (fun k => impl_SeriesLength.l0 k p xs (xs.length : Int) 0 0 1) ((serL p xs xs.length).1, (serL p xs xs.length).2, 0) := by
  refine ev_fold (len := xs.length) (g := fun k (s : Int × Int) i => impl_SeriesLength.l0 k p xs (xs.length : Int) i s.1 s.2) (fun n s => serStep p s (xs.getD n z28)) (serL p xs) _ (fun n hn => foldl_take_succ xs _ _ _ hn) ?_ ?_
  · intro n hn r hr
    have hs : springB (xs.getD n z28).f0 (xs.getD n z28).f1 = true := by rw [List.all_eq_true] at hx; rw [getD_lt xs _ hn]; exact hx _ (List.getElem_mem _)
    have hi := serL_inv p hp xs hl hx n (by omega)
    have f := ser_facts p hp n (by omega) (serL p xs n).1 (serL p xs n).2 hi _ hs
    unfold springB at hs
    simp only [Bool.and_eq_true, decide_eq_true_eq] at hs
    have f1 := f.w
    have f2 := f.asx
    have f3 := f.wd
    have f4 := f.den
    have hi2 := hi.1
    have hi3 := hi.2.1
    refine ev_succ ?_
    simp only [impl_SeriesLength.l0, Int.ofNat_lt.2 hn, show (0 : Int) ≤ (n : Int) from Int.natCast_nonneg _, if_true, rd_T28, Int.toNat_natCast, wnext hn (by omega : xs.length ≤ 9223372036854775807)]
    rw [w64 (n := (xs.getD n z28).f1 + p) (by omega) (by omega), w64 (n := (xs.getD n z28).f0 * ((xs.getD n z28).f1 + p)) (by omega) (by omega)]
    refine Ev.bind (impl_fraction_ev _ _ (by omega) (by omega)) ?_
    unfold serStep at hr
    generalize (xs.getD n z28).f0 * ((xs.getD n z28).f1 + p) = w at *
    generalize (xs.getD n z28).f1 = s at *
    generalize serL p xs n = q at *
    have m := mkF_mul w s (by omega)
    have mp := mkF_pos w s (by omega) (by omega)
    generalize mkF w s = u at *
    obtain ⟨g, hg, e1, e2⟩ := m
    have z1 : q.1 * s + w * q.2 = g * (q.1 * u.2 + u.1 * q.2) := by rw [e1, e2, Int.mul_add, Int.mul_left_comm, Int.mul_assoc]
    have z2 : q.2 * s = g * (q.2 * u.2) := by rw [e2, Int.mul_left_comm]
    have y1 := mul_bd hi2 (Int.le_refl q.1) (show 0 ≤ u.2 by omega) (Int.le_refl u.2)
    have y2 := mul_bd mp.1 (Int.le_refl u.1) (show 0 ≤ q.2 by omega) (Int.le_refl q.2)
    have y3 := mul_bd (show 0 ≤ q.2 by omega) (Int.le_refl q.2) (show 0 ≤ u.2 by omega) (Int.le_refl u.2)
    have t1 := le_mul_pos hg (show 0 ≤ q.1 * u.2 + u.1 * q.2 by omega)
    have t2 := le_mul_pos hg y3.1
    refine Ev.bind (impl_addFractions_ev q.1 q.2 u.1 u.2 hi2 mp.1 hi3 mp.2.2.1 (by omega) (by omega)) ?_
    rw [← mkF_scale g _ _ hg, ← z1, ← z2]
    exact hr
  · refine ev_succ ?_
    simp only [impl_SeriesLength.l0, Int.lt_irrefl, if_false]
    exact ev_now _
theorem SeriesLength_ev (xs : List S28) (h : xs.length ≤ 1048576) (p : Int) : ∃ r, Ev (fun k => spec_SeriesLength.f k xs p) r ∧ Ev (fun k => impl_SeriesLength.f k xs p) r := by
  simp only [spec_SeriesLength.f, impl_SeriesLength.f, spec_l04Code.f, spec_l04Pull.f, spec_l00In_eq, impl_within_eq, Option.bind_some]
  by_cases hb : springsB xs = true
  · by_cases hp : 0 ≤ p ∧ p ≤ 10000
    · have hc : (1 ≤ xs.length ∧ xs.length ≤ 4) ∧ (xs.all fun x => springB x.f0 x.f1) = true := by unfold springsB at hb; simp only [Bool.and_eq_true, decide_eq_true_eq] at hb; exact hb
      refine ⟨((serL p xs xs.length).1, (serL p xs xs.length).2, 0), ?_, ?_⟩
      · refine Ev.bind (Ev.bind (spec_l04Ok_ev xs h) (r := 0) ?_) ?_
        · simp only [hb, hp, and_self, decide_true, if_true]; exact ev_now _
        · simp only [if_true]; exact spec_ser_loop p hp xs hc.1.2 hc.2
      · refine Ev.bind (impl_ValidSprings_ev xs h) ?_
        simp only [hb, hp, and_self, decide_true, if_true]
        refine Ev.bind (impl_fraction_ev 0 1 (by omega) (by omega)) ?_
        exact impl_ser_loop p hp xs hc.1.2 hc.2
    · refine ⟨(0, 0, 2), ?_, ?_⟩
      · refine Ev.bind (Ev.bind (spec_l04Ok_ev xs h) (r := 2) ?_) ?_
        · simp only [hb, hp, decide_false, if_true, Bool.false_eq_true, if_false]; exact ev_now _
        · simp only [show ¬ (2 : Int) = 0 by decide, if_false]; exact ev_now _
      · refine Ev.bind (impl_ValidSprings_ev xs h) ?_
        simp only [hb, hp, decide_false, if_true, Bool.false_eq_true, if_false]; exact ev_now _
  · refine ⟨(0, 0, 1), ?_, ?_⟩
    · refine Ev.bind (Ev.bind (spec_l04Ok_ev xs h) (r := 1) ?_) ?_
      · simp only [hb]; exact ev_now _
      · simp only [show ¬ (1 : Int) = 0 by decide, if_false]; exact ev_now _
    · refine Ev.bind (impl_ValidSprings_ev xs h) ?_
      simp only [hb]; exact ev_now _
theorem FnExactSeriesLength : laws_FnExactSeriesLength.Pure := by
  intro xs p hx hp
  refine Ev.rounds ?_
  simp only [laws_FnExactSeriesLength.f, laws_szSpringS.f]
  by_cases h : wrap64 (1048576 - (xs.length : Int)) < 0
  · simp only [h, if_true, Option.bind_some, show (-1 : Int) < 0 by decide]; exact ev_now _
  have hl : xs.length ≤ 1048576 := by have := hx.2.1; rw [maxLen_eq] at this; unfold wrap64 at h; omega
  have hm : (xs.map conv_Spring).length ≤ 1048576 := by simpa using hl
  simp only [h, if_false, Option.bind_some]
  obtain ⟨r, k1, k2⟩ := SeriesLength_ev _ hm p
  refine Ev.bind (laws_toSpringS_ev xs hl) (Ev.bind k1 (Ev.bind (laws_toSpringS_ev xs hl) (Ev.bind k2 ?_)))
  simp only [laws_eqFraction.f, if_true, Option.bind_some, bne_self_eq_false]
  refine ev_succ ?_
  simp only [laws_FnExactSeriesLength.j0, Bool.false_eq_true, if_false]
  refine Ev.bind (laws_toSpringS_ev xs hl) (Ev.bind (laws_eqSpringS_self _ (by omega)) ?_)
  simp only [if_true]
  exact ev_now _

end Go.Proofs.Ytmokjfncblnfcaa.Pure

/- The pure statement of FnExactValidSprings: numbers and lists alone. No condition. -/
import Derived.Test.YtpjmdgaicfngjaaQFnExactValidSpringsx2
import Derived.Test.YtpjmdgaicfngjaaAid
namespace Go.Proofs.Ytpjmdgaicfngjaa.Pure
open Go.RowKit Go.Proofs.Ytpjmdgaicfngjaa.QFnExactValidSprings Go.Proofs.YtpjmdgaicfngjaaW.PrintWords Go.Proofs.YtpjmdgaicfngjaaW.PrintLast Go.Proofs.YtpjmdgaicfngjaaW.PrintMore Go.Proofs.Ytpjmdgaicfngjaa.Aid
set_option linter.unusedVariables false
set_option linter.unusedSimpArgs false

theorem spec_l00In_eq (a b c : Int) : spec_l00In.f a b c = some (decide (b ≤ a ∧ a ≤ c)) := by
  unfold spec_l00In.f
  by_cases h : a ≥ b
  · rw [if_pos h]; congr 1; simp; omega
  · rw [if_neg h]; congr 1; simp; omega

theorem impl_within_eq (a b c : Int) : impl_within.f a b c = some (decide (b ≤ a ∧ a ≤ c)) := by
  unfold impl_within.f
  by_cases h : a ≥ b
  · rw [if_pos h]; congr 1; simp; omega
  · rw [if_neg h]; congr 1; simp; omega

theorem spec_l04One_eq (l s : Int) : spec_l04One.f l s = some (springB l s) := by
  simp only [spec_l04One.f, spec_l00In_eq, Option.bind_some]
  unfold springB
  by_cases h1 : 1 ≤ l ∧ l ≤ 60
  · simp only [h1, decide_true, if_true, Bool.true_and, and_self]
  · simp only [h1, decide_false, Bool.false_and, Bool.false_eq_true, if_false]
theorem impl_validSpring_eq (l s : Int) : impl_validSpring.f l s = some (springB l s) := by
  simp only [impl_validSpring.f, impl_within_eq, Option.bind_some]
  unfold springB
  by_cases h1 : 1 ≤ l ∧ l ≤ 60
  · simp only [h1, decide_true, if_true, Bool.true_and, and_self]
  · simp only [h1, decide_false, Bool.false_and, Bool.false_eq_true, if_false]
def springsB (xs : List S56) : Bool := decide (1 ≤ xs.length ∧ xs.length ≤ 4) && xs.all fun x => springB x.f0 x.f1
theorem spec_l04Ok_ev (xs : List S56) (h : xs.length ≤ 1048576) : Ev (fun k => spec_l04Ok.f k xs) (springsB xs) := by
  simp only [spec_l04Ok.f]
  refine ev_to (ev_all (len := xs.length) (g := fun k i => spec_l04Ok.l0 k xs i) (fun n => (fun x : S56 => springB x.f0 x.f1) (xs.getD n z56)) (decide (1 ≤ xs.length ∧ xs.length ≤ 4)) ?_ ?_ ?_) (by rw [range_all xs z56 (fun x => springB x.f0 x.f1), Bool.and_comm]; rfl)
  · intro n hn hp r hr
    refine ev_succ ?_
    simp only [spec_l04Ok.l0, spec_l04One_eq, Option.bind_some, Int.ofNat_lt.2 hn, show (0 : Int) ≤ (n : Int) from Int.natCast_nonneg _, if_true, rd_T56, Int.toNat_natCast, hp, wnext hn (by omega : xs.length ≤ 9223372036854775807)]
    exact hr
  · intro n hn hp
    refine ev_succ ?_
    simp only [spec_l04Ok.l0, spec_l04One_eq, Option.bind_some, Int.ofNat_lt.2 hn, show (0 : Int) ≤ (n : Int) from Int.natCast_nonneg _, if_true, rd_T56, Int.toNat_natCast, hp, Bool.false_eq_true, if_false]
    exact ev_now _
  · refine ev_succ ?_
    simp only [spec_l04Ok.l0, Int.lt_irrefl, if_false, spec_l00In_eq, Option.bind_some]
    exact ev_to (ev_now _) (by congr 1; simp; omega)
theorem impl_ValidSprings_ev (xs : List S56) (h : xs.length ≤ 1048576) : Ev (fun k => impl_ValidSprings.f k xs) (springsB xs) := by
  simp only [impl_ValidSprings.f]
  by_cases h1 : (xs.length : Int) < 1
  · simp only [h1, if_true]
    refine ev_succ ?_
    simp only [impl_ValidSprings.j0, if_true]
    exact ev_to (ev_now _) (by unfold springsB; rw [show decide (1 ≤ xs.length ∧ xs.length ≤ 4) = false by simp; omega]; rfl)
  · simp only [h1, if_false]
    refine ev_succ ?_
    simp only [impl_ValidSprings.j0]
    by_cases h2 : (xs.length : Int) > 4
    · simp only [h2, decide_true, if_true]
      exact ev_to (ev_now _) (by unfold springsB; rw [show decide (1 ≤ xs.length ∧ xs.length ≤ 4) = false by simp; omega]; rfl)
    · simp only [h2, decide_false, Bool.false_eq_true, if_false]
      refine ev_to (ev_all (len := xs.length) (g := fun k i => impl_ValidSprings.l0 k xs (xs.length : Int) i) (fun n => (fun x : S56 => springB x.f0 x.f1) (xs.getD n z56)) true ?_ ?_ ?_) (by rw [range_all xs z56 (fun x => springB x.f0 x.f1), Bool.and_true]; unfold springsB; rw [show decide (1 ≤ xs.length ∧ xs.length ≤ 4) = true by simp; omega]; rfl)
      · intro n hn hp r hr
        refine ev_succ ?_
        simp only [impl_ValidSprings.l0, impl_validSpring_eq, Option.bind_some, Int.ofNat_lt.2 hn, show (0 : Int) ≤ (n : Int) from Int.natCast_nonneg _, if_true, rd_T56, Int.toNat_natCast, hp, wnext hn (by omega : xs.length ≤ 9223372036854775807)]
        exact hr
      · intro n hn hp
        refine ev_succ ?_
        simp only [impl_ValidSprings.l0, impl_validSpring_eq, Option.bind_some, Int.ofNat_lt.2 hn, show (0 : Int) ≤ (n : Int) from Int.natCast_nonneg _, if_true, rd_T56, Int.toNat_natCast, hp, Bool.false_eq_true, if_false]
        exact ev_now _
      · refine ev_succ ?_
        simp only [impl_ValidSprings.l0, Int.lt_irrefl, if_false]
        exact ev_now _

def conv_Spring (x : S96) : S56 := ⟨x.f0, x.f1⟩
theorem laws_toSpringS_ev (xs : List S96) (h : xs.length ≤ 1048576) : Ev (fun k => laws_toSpringS.f k xs) (xs.map conv_Spring) := by
  simp only [laws_toSpringS.f, Int.toNat_natCast, show (0 : Int) ≤ (xs.length : Int) from Int.natCast_nonneg _, if_true]
  rw [if_pos_ev (by omega)]
  have e : List.replicate xs.length z56 = (xs.take 0).map conv_Spring ++ List.replicate (xs.length - 0) z56 := by simp
  have e2 : xs.map conv_Spring = (xs.take xs.length).map conv_Spring ++ List.replicate (xs.length - xs.length) z56 := by simp
  rw [e, e2]
  refine ev_fold (len := xs.length) (g := fun k s i => laws_toSpringS.l0 k xs s i) (fun n s => s.set n (conv_Spring (xs.getD n z96))) (fun n => (xs.take n).map conv_Spring ++ List.replicate (xs.length - n) z56) _ ?_ ?_ ?_
  · intro n hn; exact (fill_step xs conv_Spring _ _ hn).symm
  · intro n hn r hr
    refine ev_succ ?_
    have l1 : (n : Int) < (((xs.take n).map conv_Spring ++ List.replicate (xs.length - n) z56).length : Int) := by simp; omega
    simp only [laws_toSpringS.l0, laws_toSpring.f, Option.bind_some, Int.ofNat_lt.2 hn, show (0 : Int) ≤ (n : Int) from Int.natCast_nonneg _, if_true, l1, wnext hn (by omega : xs.length ≤ 9223372036854775807), rd_T96, Int.toNat_natCast]
    exact hr
  · refine ev_succ ?_
    simp only [laws_toSpringS.l0, Int.lt_irrefl, if_false]
    exact ev_now _

theorem laws_eqSpringS_self (xs : List S56) (h : xs.length ≤ 9223372036854775807) : Ev (fun k => laws_eqSpringS.f k xs xs) true := by
  simp only [laws_eqSpringS.f, if_true]
  refine ev_to (ev_all (len := xs.length) (g := fun k i => laws_eqSpringS.l0 k xs xs i) (fun _ => true) true ?_ (fun n hn hp => by simp at hp) ?_) (by simp)
  · intro n hn hp r hr
    refine ev_succ ?_
    simp only [laws_eqSpringS.l0, laws_eqSpring.f, Option.bind_some, Int.ofNat_lt.2 hn, show (0 : Int) ≤ (n : Int) from Int.natCast_nonneg _, if_true, bne_self_eq_false, Bool.false_eq_true, if_false, wnext hn h]
    exact hr
  · refine ev_succ ?_
    simp only [laws_eqSpringS.l0, Int.lt_irrefl, if_false]
    exact ev_now _

theorem FnExactValidSprings : laws_FnExactValidSprings.Pure := by
  intro xs hx
  refine Ev.rounds ?_
  simp only [laws_FnExactValidSprings.f, laws_szSpringS.f]
  by_cases h : wrap64 (1048576 - (xs.length : Int)) < 0
  · simp only [h, if_true, Option.bind_some, show (-1 : Int) < 0 by decide]; exact ev_now _
  · have hl : xs.length ≤ 1048576 := by have := hx.2.1; rw [maxLen_eq] at this; unfold wrap64 at h; omega
    have hm : (xs.map conv_Spring).length ≤ 1048576 := by simpa using hl
    simp only [h, if_false, Option.bind_some, spec_ValidSprings.f]
    refine Ev.bind (laws_toSpringS_ev xs hl) (Ev.bind (Ev.bind (spec_l04Ok_ev _ hm) (ev_now _)) (Ev.bind (laws_toSpringS_ev xs hl) (Ev.bind (impl_ValidSprings_ev _ hm) ?_)))
    simp only [bne_self_eq_false, Bool.false_eq_true, if_false]
    refine Ev.bind (laws_toSpringS_ev xs hl) (Ev.bind (laws_eqSpringS_self _ (by omega)) ?_)
    simp only [if_true]
    exact ev_now _

end Go.Proofs.Ytpjmdgaicfngjaa.Pure

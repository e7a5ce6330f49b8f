/- The pure statement of FnExactSameRopes: numbers and lists alone. No condition. -/
import Derived.Test.YtaigofkmcalmfaaQFnExactSameRopesx3
import Derived.Test.YtaigofkmcalmfaaAid
namespace Go.Proofs.Ytaigofkmcalmfaa.Pure
open Go.RowKit Go.Proofs.Ytaigofkmcalmfaa.QFnExactSameRopes Go.Proofs.YtaigofkmcalmfaaW.PrintWords Go.Proofs.YtaigofkmcalmfaaW.PrintLast Go.Proofs.YtaigofkmcalmfaaW.PrintMore Go.Proofs.Ytaigofkmcalmfaa.Aid
set_option linter.unusedVariables false
set_option linter.unusedSimpArgs false

theorem laws_szRopeS_ev (xs : List S23) (hl : xs.length ≤ 9223372036854775807) (hs : ∀ x ∈ xs, x.f0.size ≤ 140737488351232) (m : Int := 1048576) (hm0 : 0 ≤ m := by omega) (hm : m ≤ 1048576 := by omega) :
    ∃ r, Ev (fun k => laws_szRopeS.f k xs m) r ∧ (r < 0 ∨ (0 ≤ r ∧ r ≤ 1048576 ∧ xs.length ≤ 1048576)) := by
  simp only [laws_szRopeS.f]
  by_cases h : wrap64 (m - (xs.length : Int)) < 0
  · simp only [h, if_true]; exact ⟨-1, ev_now _, .inl (by decide)⟩
  have hl' : xs.length ≤ 1048576 := by unfold wrap64 at h; omega
  have hl2 : (xs.length : Int) ≤ m := by unfold wrap64 at h; omega
  simp only [h, if_false]
  rw [w64 (by omega) (by omega)]
  refine ev_loop (len := xs.length) (g := fun k s i => laws_szRopeS.l0 k xs s i) (fun n s => 0 ≤ s ∧ s ≤ 1048576) (fun r => r < 0 ∨ (0 ≤ r ∧ r ≤ 1048576 ∧ xs.length ≤ 1048576)) ?_ ?_ _ (by omega)
  · intro n s hn ⟨h1, h2⟩
    have hsz : (xs.getD n z23).f0.size ≤ 140737488351232 := by rw [getD_lt xs _ hn]; exact hs _ (List.getElem_mem hn)
    by_cases c : wrap64 (s - ((xs.getD n z23).f0.size : Int)) < 0
    · refine .inl ⟨-1, ev_succ ?_, .inl (by decide)⟩
      simp only [laws_szRopeS.l0, laws_szRope.f, Int.ofNat_lt.2 hn, show (0 : Int) ≤ (n : Int) from Int.natCast_nonneg _, if_true, rd_T23, Int.toNat_natCast, c, Option.bind_some, show (-1 : Int) < 0 by decide]
      exact ev_now _
    · refine .inr ⟨wrap64 (s - ((xs.getD n z23).f0.size : Int)), ?_, fun r hr => ev_succ ?_⟩
      · rw [w64 (by omega) (by omega)] at *; omega
      · simp only [laws_szRopeS.l0, laws_szRope.f, Int.ofNat_lt.2 hn, show (0 : Int) ≤ (n : Int) from Int.natCast_nonneg _, if_true, rd_T23, Int.toNat_natCast, c, if_false, Option.bind_some, wnext hn (by omega : xs.length ≤ 9223372036854775807)]
        exact hr
  · intro s ⟨h1, h2⟩
    refine ⟨s, ev_succ ?_, .inr ⟨h1, h2, hl'⟩⟩
    simp only [laws_szRopeS.l0, Int.lt_irrefl, if_false]
    exact ev_now _

def conv_Rope (x : S23) : S27 := ⟨x.f0, x.f1, x.f2, x.f3⟩
theorem laws_toRopeS_ev (xs : List S23) (h : xs.length ≤ 1048576) : Ev (fun k => laws_toRopeS.f k xs) (xs.map conv_Rope) := by
  simp only [laws_toRopeS.f, Int.toNat_natCast, show (0 : Int) ≤ (xs.length : Int) from Int.natCast_nonneg _, if_true]
  rw [if_pos_ev (by omega)]
  have e : List.replicate xs.length z27 = (xs.take 0).map conv_Rope ++ List.replicate (xs.length - 0) z27 := by simp
  have e2 : xs.map conv_Rope = (xs.take xs.length).map conv_Rope ++ List.replicate (xs.length - xs.length) z27 := by simp
  rw [e, e2]
  refine ev_fold (len := xs.length) (g := fun k s i => laws_toRopeS.l0 k xs s i) (fun n s => s.set n (conv_Rope (xs.getD n z23))) (fun n => (xs.take n).map conv_Rope ++ List.replicate (xs.length - n) z27) _ ?_ ?_ ?_
  · intro n hn; exact (fill_step xs conv_Rope _ _ hn).symm
  · intro n hn r hr
    refine ev_succ ?_
    have l1 : (n : Int) < (((xs.take n).map conv_Rope ++ List.replicate (xs.length - n) z27).length : Int) := by simp; omega
    simp only [laws_toRopeS.l0, laws_toRope.f, Option.bind_some, Int.ofNat_lt.2 hn, show (0 : Int) ≤ (n : Int) from Int.natCast_nonneg _, if_true, l1, wnext hn (by omega : xs.length ≤ 9223372036854775807), rd_T23, Int.toNat_natCast]
    exact hr
  · refine ev_succ ?_
    simp only [laws_toRopeS.l0, Int.lt_irrefl, if_false]
    exact ev_now _

theorem laws_eqRopeS_self (xs : List S27) (h : xs.length ≤ 9223372036854775807) : Ev (fun k => laws_eqRopeS.f k xs xs) true := by
  simp only [laws_eqRopeS.f, if_true]
  refine ev_to (ev_all (len := xs.length) (g := fun k i => laws_eqRopeS.l0 k xs xs i) (fun _ => true) true ?_ (fun n hn hp => by simp at hp) ?_) (by simp)
  · intro n hn hp r hr
    refine ev_succ ?_
    simp only [laws_eqRopeS.l0, laws_eqRope.f, Option.bind_some, Int.ofNat_lt.2 hn, show (0 : Int) ≤ (n : Int) from Int.natCast_nonneg _, if_true, bne_self_eq_false, Bool.false_eq_true, if_false, wnext hn h]
    exact hr
  · refine ev_succ ?_
    simp only [laws_eqRopeS.l0, Int.lt_irrefl, if_false]
    exact ev_now _

theorem same_step (x y : S27) : (!(x.f0.toList == y.f0.toList) || (!(x.f1 == y.f1) || (!(x.f2 == y.f2) || !(x.f3 == y.f3)))) = !(decide (x.f0.toList = y.f0.toList) && (decide (x.f1 = y.f1) && (decide (x.f2 = y.f2) && decide (x.f3 = y.f3)))) := by
  by_cases h0 : x.f0.toList = y.f0.toList <;> by_cases h1 : x.f1 = y.f1 <;> by_cases h2 : x.f2 = y.f2 <;> by_cases h3 : x.f3 = y.f3 <;> simp [h0, h1, h2, h3]
theorem SameRopes_ev (xs ys : List S27) (h : xs.length ≤ 1048576) (h' : ys.length ≤ 1048576) : ∃ r, Ev (fun k => spec_SameRopes.f k xs ys) r ∧ Ev (fun k => impl_Rope.f k xs ys) r := by
  simp only [spec_SameRopes.f, impl_Rope.f]
  by_cases e : (xs.length : Int) = (ys.length : Int)
  · simp only [e, if_true]
    have e' : xs.length = ys.length := by omega
    let p : Nat → Bool := fun n => decide ((xs.getD n z27).f0.toList = (ys.getD n z27).f0.toList) && (decide ((xs.getD n z27).f1 = (ys.getD n z27).f1) && (decide ((xs.getD n z27).f2 = (ys.getD n z27).f2) && decide ((xs.getD n z27).f3 = (ys.getD n z27).f3)))
    refine ⟨_, ev_all (len := xs.length) (g := fun k i => spec_SameRopes.l0 k xs ys i) p true ?_ ?_ ?_, ev_all (len := xs.length) (g := fun k i => impl_Rope.l0 k xs ys (ys.length : Int) i) p true ?_ ?_ ?_⟩
    · intro n hn hp r hr
      refine ev_succ ?_
      simp only [spec_SameRopes.l0, same_step, Int.ofNat_lt.2 hn, show (n : Int) < (ys.length : Int) by omega, show (0 : Int) ≤ (n : Int) from Int.natCast_nonneg _, if_true, rd_T27, Int.toNat_natCast, wnext hn (by omega : xs.length ≤ 9223372036854775807)]
      have hp' := hp
      simp only [p] at hp'
      simp only [hp', Bool.not_true, Bool.false_eq_true, if_false]
      exact hr
    · intro n hn hp
      refine ev_succ ?_
      simp only [spec_SameRopes.l0, same_step, Int.ofNat_lt.2 hn, show (n : Int) < (ys.length : Int) by omega, show (0 : Int) ≤ (n : Int) from Int.natCast_nonneg _, if_true, rd_T27, Int.toNat_natCast, wnext hn (by omega : xs.length ≤ 9223372036854775807)]
      have hp' := hp
      simp only [p] at hp'
      simp only [hp', Bool.not_false, if_true]
      exact ev_now _
    · refine ev_succ ?_
      simp only [spec_SameRopes.l0, Int.lt_irrefl, if_false]
      exact ev_now _
    · intro n hn hp r hr
      refine ev_succ ?_
      simp only [impl_Rope.l0, same_step, Int.ofNat_lt.2 hn, show (n : Int) < (ys.length : Int) by omega, show (0 : Int) ≤ (n : Int) from Int.natCast_nonneg _, if_true, rd_T27, Int.toNat_natCast, wnext hn (by omega : xs.length ≤ 9223372036854775807)]
      have hp' := hp
      simp only [p] at hp'
      simp only [hp', Bool.not_true, Bool.false_eq_true, if_false]
      exact hr
    · intro n hn hp
      refine ev_succ ?_
      simp only [impl_Rope.l0, same_step, Int.ofNat_lt.2 hn, show (n : Int) < (ys.length : Int) by omega, show (0 : Int) ≤ (n : Int) from Int.natCast_nonneg _, if_true, rd_T27, Int.toNat_natCast, wnext hn (by omega : xs.length ≤ 9223372036854775807)]
      have hp' := hp
      simp only [p] at hp'
      simp only [hp', Bool.not_false, if_true]
      exact ev_now _
    · refine ev_succ ?_
      simp only [impl_Rope.l0, show ¬ ((xs.length : Int) < (ys.length : Int)) by omega, if_false]
      exact ev_now _
  · simp only [e, if_false]
    exact ⟨_, ev_now _, ev_now _⟩
theorem FnExactSameRopes : laws_FnExactSameRopes.Pure := by
  intro xs ys hx hy
  refine Ev.rounds ?_
  simp only [laws_FnExactSameRopes.f]
  obtain ⟨left, s1, s2⟩ := laws_szRopeS_ev xs (by have := hx.2.1; rw [maxLen_eq] at this; omega) (fun x h => (hx.2.2 x h).1)
  refine Ev.bind s1 ?_
  by_cases h : left < 0
  · simp only [h, if_true]; exact ev_now _
  simp only [h, if_false]
  obtain ⟨left', s1', s2'⟩ := laws_szRopeS_ev ys (by have := hy.2.1; rw [maxLen_eq] at this; omega) (fun x h => (hy.2.2 x h).1) left
  refine Ev.bind s1' ?_
  by_cases h' : left' < 0
  · simp only [h', if_true]; exact ev_now _
  simp only [h', if_false, impl_SameRopes.f]
  have hl : xs.length ≤ 1048576 := by omega
  have hl' : ys.length ≤ 1048576 := by omega
  obtain ⟨r, k1, k2⟩ := SameRopes_ev (xs.map conv_Rope) (ys.map conv_Rope) (by simpa using hl) (by simpa using hl')
  refine Ev.bind (laws_toRopeS_ev xs hl) (Ev.bind (laws_toRopeS_ev ys hl') (Ev.bind k1 (Ev.bind (laws_toRopeS_ev xs hl) (Ev.bind (laws_toRopeS_ev ys hl') (Ev.bind (Ev.bind k2 (ev_now _)) ?_)))))
  simp only [bne_self_eq_false, Bool.false_eq_true, if_false]
  refine Ev.bind (laws_toRopeS_ev xs hl) (Ev.bind (laws_eqRopeS_self _ (by simp; omega)) ?_)
  simp only [if_true]
  refine Ev.bind (laws_toRopeS_ev ys hl') (Ev.bind (laws_eqRopeS_self _ (by simp; omega)) ?_)
  simp only [if_true]
  exact ev_now _

end Go.Proofs.Ytaigofkmcalmfaa.Pure

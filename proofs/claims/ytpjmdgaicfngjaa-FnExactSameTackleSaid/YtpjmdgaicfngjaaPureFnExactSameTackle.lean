/- The pure statement of FnExactSameTackle: numbers and lists alone. No condition. -/
import Derived.Test.YtpjmdgaicfngjaaQFnExactSameTacklex3
import Derived.Test.YtpjmdgaicfngjaaAid
namespace Go.Proofs.Ytpjmdgaicfngjaa.Pure
open Go.RowKit Go.Proofs.Ytpjmdgaicfngjaa.QFnExactSameTackle Go.Proofs.YtpjmdgaicfngjaaW.PrintWords Go.Proofs.YtpjmdgaicfngjaaW.PrintLast Go.Proofs.YtpjmdgaicfngjaaW.PrintMore Go.Proofs.Ytpjmdgaicfngjaa.Aid
set_option linter.unusedVariables false
set_option linter.unusedSimpArgs false

def conv_Purchase (x : S27) : S29 := ⟨x.f0, x.f1, x.f2⟩
theorem laws_toPurchaseS_ev (xs : List S27) (h : xs.length ≤ 1048576) : Ev (fun k => laws_toPurchaseS.f k xs) (xs.map conv_Purchase) := by
  simp only [laws_toPurchaseS.f, Int.toNat_natCast, show (0 : Int) ≤ (xs.length : Int) from Int.natCast_nonneg _, if_true]
  rw [if_pos_ev (by omega)]
  have e : List.replicate xs.length z29 = (xs.take 0).map conv_Purchase ++ List.replicate (xs.length - 0) z29 := by simp
  have e2 : xs.map conv_Purchase = (xs.take xs.length).map conv_Purchase ++ List.replicate (xs.length - xs.length) z29 := by simp
  rw [e, e2]
  refine ev_fold (len := xs.length) (g := fun k s i => laws_toPurchaseS.l0 k xs s i) (fun n s => s.set n (conv_Purchase (xs.getD n z27))) (fun n => (xs.take n).map conv_Purchase ++ List.replicate (xs.length - n) z29) _ ?_ ?_ ?_
  · intro n hn; exact (fill_step xs conv_Purchase _ _ hn).symm
  · intro n hn r hr
    refine ev_succ ?_
    have l1 : (n : Int) < (((xs.take n).map conv_Purchase ++ List.replicate (xs.length - n) z29).length : Int) := by simp; omega
    simp only [laws_toPurchaseS.l0, laws_toPurchase.f, Option.bind_some, Int.ofNat_lt.2 hn, show (0 : Int) ≤ (n : Int) from Int.natCast_nonneg _, if_true, l1, wnext hn (by omega : xs.length ≤ 9223372036854775807), rd_T27, Int.toNat_natCast]
    exact hr
  · refine ev_succ ?_
    simp only [laws_toPurchaseS.l0, Int.lt_irrefl, if_false]
    exact ev_now _

theorem laws_eqPurchaseS_self (xs : List S29) (h : xs.length ≤ 9223372036854775807) : Ev (fun k => laws_eqPurchaseS.f k xs xs) true := by
  simp only [laws_eqPurchaseS.f, if_true]
  refine ev_to (ev_all (len := xs.length) (g := fun k i => laws_eqPurchaseS.l0 k xs xs i) (fun _ => true) true ?_ (fun n hn hp => by simp at hp) ?_) (by simp)
  · intro n hn hp r hr
    refine ev_succ ?_
    simp only [laws_eqPurchaseS.l0, laws_eqPurchase.f, Option.bind_some, Int.ofNat_lt.2 hn, show (0 : Int) ≤ (n : Int) from Int.natCast_nonneg _, if_true, bne_self_eq_false, Bool.false_eq_true, if_false, wnext hn h]
    exact hr
  · refine ev_succ ?_
    simp only [laws_eqPurchaseS.l0, Int.lt_irrefl, if_false]
    exact ev_now _

theorem same_step (x y : S29) : (!(x.f0 == y.f0) || (!(x.f1 == y.f1) || !(x.f2 == y.f2))) = !(decide (x.f0 = y.f0) && (decide (x.f1 = y.f1) && decide (x.f2 = y.f2))) := by
  by_cases h0 : x.f0 = y.f0 <;> by_cases h1 : x.f1 = y.f1 <;> by_cases h2 : x.f2 = y.f2 <;> simp [h0, h1, h2]
theorem SameTackle_ev (xs ys : List S29) (h : xs.length ≤ 1048576) (h' : ys.length ≤ 1048576) : ∃ r, Ev (fun k => spec_SameTackle.f k xs ys) r ∧ Ev (fun k => impl_Purchase.f k xs ys) r := by
  simp only [spec_SameTackle.f, impl_Purchase.f]
  by_cases e : (xs.length : Int) = (ys.length : Int)
  · simp only [e, if_true]
    have e' : xs.length = ys.length := by omega
    let p : Nat → Bool := fun n => decide ((xs.getD n z29).f0 = (ys.getD n z29).f0) && (decide ((xs.getD n z29).f1 = (ys.getD n z29).f1) && decide ((xs.getD n z29).f2 = (ys.getD n z29).f2))
    refine ⟨_, ev_all (len := xs.length) (g := fun k i => spec_SameTackle.l0 k xs ys i) p true ?_ ?_ ?_, ev_all (len := xs.length) (g := fun k i => impl_Purchase.l0 k xs ys (ys.length : Int) i) p true ?_ ?_ ?_⟩
    · intro n hn hp r hr
      refine ev_succ ?_
      simp only [spec_SameTackle.l0, same_step, Int.ofNat_lt.2 hn, show (n : Int) < (ys.length : Int) by omega, show (0 : Int) ≤ (n : Int) from Int.natCast_nonneg _, if_true, rd_T29, Int.toNat_natCast, wnext hn (by omega : xs.length ≤ 9223372036854775807)]
      have hp' := hp
      simp only [p] at hp'
      simp only [hp', Bool.not_true, Bool.false_eq_true, if_false]
      exact hr
    · intro n hn hp
      refine ev_succ ?_
      simp only [spec_SameTackle.l0, same_step, Int.ofNat_lt.2 hn, show (n : Int) < (ys.length : Int) by omega, show (0 : Int) ≤ (n : Int) from Int.natCast_nonneg _, if_true, rd_T29, Int.toNat_natCast, wnext hn (by omega : xs.length ≤ 9223372036854775807)]
      have hp' := hp
      simp only [p] at hp'
      simp only [hp', Bool.not_false, if_true]
      exact ev_now _
    · refine ev_succ ?_
      simp only [spec_SameTackle.l0, Int.lt_irrefl, if_false]
      exact ev_now _
    · intro n hn hp r hr
      refine ev_succ ?_
      simp only [impl_Purchase.l0, same_step, Int.ofNat_lt.2 hn, show (n : Int) < (ys.length : Int) by omega, show (0 : Int) ≤ (n : Int) from Int.natCast_nonneg _, if_true, rd_T29, Int.toNat_natCast, wnext hn (by omega : xs.length ≤ 9223372036854775807)]
      have hp' := hp
      simp only [p] at hp'
      simp only [hp', Bool.not_true, Bool.false_eq_true, if_false]
      exact hr
    · intro n hn hp
      refine ev_succ ?_
      simp only [impl_Purchase.l0, same_step, Int.ofNat_lt.2 hn, show (n : Int) < (ys.length : Int) by omega, show (0 : Int) ≤ (n : Int) from Int.natCast_nonneg _, if_true, rd_T29, Int.toNat_natCast, wnext hn (by omega : xs.length ≤ 9223372036854775807)]
      have hp' := hp
      simp only [p] at hp'
      simp only [hp', Bool.not_false, if_true]
      exact ev_now _
    · refine ev_succ ?_
      simp only [impl_Purchase.l0, show ¬ ((xs.length : Int) < (ys.length : Int)) by omega, if_false]
      exact ev_now _
  · simp only [e, if_false]
    exact ⟨_, ev_now _, ev_now _⟩
theorem FnExactSameTackle : laws_FnExactSameTackle.Pure := by
  intro xs ys hx hy
  refine Ev.rounds ?_
  simp only [laws_FnExactSameTackle.f, laws_szPurchaseS.f]
  by_cases h : wrap64 (1048576 - (xs.length : Int)) < 0
  · simp only [h, if_true, Option.bind_some, show (-1 : Int) < 0 by decide]; exact ev_now _
  have hl : xs.length ≤ 1048576 := by have := hx.2.1; rw [maxLen_eq] at this; unfold wrap64 at h; omega
  have hm : (xs.map conv_Purchase).length ≤ 1048576 := by simpa using hl
  rw [w64 (by omega) (by omega)] at *
  simp only [show ¬ (1048576 - (xs.length : Int)) < 0 by omega, if_false, Option.bind_some]
  by_cases h' : wrap64 (1048576 - (xs.length : Int) - (ys.length : Int)) < 0
  · simp only [h', if_true, Option.bind_some, show (-1 : Int) < 0 by decide]; exact ev_now _
  have hl' : ys.length ≤ 1048576 := by have := hy.2.1; rw [maxLen_eq] at this; unfold wrap64 at h'; omega
  have hm' : (ys.map conv_Purchase).length ≤ 1048576 := by simpa using hl'
  simp only [h', if_false, Option.bind_some, impl_SameTackle.f]
  obtain ⟨r, k1, k2⟩ := SameTackle_ev _ _ hm hm'
  refine Ev.bind (laws_toPurchaseS_ev xs hl) (Ev.bind (laws_toPurchaseS_ev ys hl') (Ev.bind k1 (Ev.bind (laws_toPurchaseS_ev xs hl) (Ev.bind (laws_toPurchaseS_ev ys hl') (Ev.bind (Ev.bind k2 (ev_now _)) ?_)))))
  simp only [bne_self_eq_false, Bool.false_eq_true, if_false]
  refine Ev.bind (laws_toPurchaseS_ev xs hl) (Ev.bind (laws_eqPurchaseS_self _ (by omega)) ?_)
  simp only [if_true]
  refine Ev.bind (laws_toPurchaseS_ev ys hl') (Ev.bind (laws_eqPurchaseS_self _ (by omega)) ?_)
  simp only [if_true]
  exact ev_now _

end Go.Proofs.Ytpjmdgaicfngjaa.Pure

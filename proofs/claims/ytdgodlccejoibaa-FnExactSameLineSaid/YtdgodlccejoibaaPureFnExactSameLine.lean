/- The pure statement of FnExactSameLine: numbers and lists alone. No condition. -/
import Derived.Test.YtdgodlccejoibaaQFnExactSameLinex4
import Derived.Test.YtdgodlccejoibaaAid
namespace Go.Proofs.Ytdgodlccejoibaa.Pure
open Go.RowKit Go.Proofs.Ytdgodlccejoibaa.QFnExactSameLine Go.Proofs.YtdgodlccejoibaaW.PrintWords Go.Proofs.YtdgodlccejoibaaW.PrintLast Go.Proofs.YtdgodlccejoibaaW.PrintMore Go.Proofs.Ytdgodlccejoibaa.Aid
set_option linter.unusedVariables false
set_option linter.unusedSimpArgs false

def conv_LinePiece (x : S41) : S44 := ⟨x.f0, x.f1⟩
theorem laws_toLinePieceS_ev (xs : List S41) (h : xs.length ≤ 1048576) : Ev (fun k => laws_toLinePieceS.f k xs) (xs.map conv_LinePiece) := by
  simp only [laws_toLinePieceS.f, Int.toNat_natCast, show (0 : Int) ≤ (xs.length : Int) from Int.natCast_nonneg _, if_true]
  rw [if_pos_ev (by omega)]
  have e : List.replicate xs.length z44 = (xs.take 0).map conv_LinePiece ++ List.replicate (xs.length - 0) z44 := by simp
  have e2 : xs.map conv_LinePiece = (xs.take xs.length).map conv_LinePiece ++ List.replicate (xs.length - xs.length) z44 := by simp
  rw [e, e2]
  refine ev_fold (len := xs.length) (g := fun k s i => laws_toLinePieceS.l0 k xs s i) (fun n s => s.set n (conv_LinePiece (xs.getD n z41))) (fun n => (xs.take n).map conv_LinePiece ++ List.replicate (xs.length - n) z44) _ ?_ ?_ ?_
  · intro n hn; exact (fill_step xs conv_LinePiece _ _ hn).symm
  · intro n hn r hr
    refine ev_succ ?_
    have l1 : (n : Int) < (((xs.take n).map conv_LinePiece ++ List.replicate (xs.length - n) z44).length : Int) := by simp; omega
    simp only [laws_toLinePieceS.l0, laws_toLinePiece.f, Option.bind_some, Int.ofNat_lt.2 hn, show (0 : Int) ≤ (n : Int) from Int.natCast_nonneg _, if_true, l1, wnext hn (by omega : xs.length ≤ 9223372036854775807), rd_T41, Int.toNat_natCast]
    exact hr
  · refine ev_succ ?_
    simp only [laws_toLinePieceS.l0, Int.lt_irrefl, if_false]
    exact ev_now _

theorem laws_eqLinePieceS_self (xs : List S44) (h : xs.length ≤ 9223372036854775807) : Ev (fun k => laws_eqLinePieceS.f k xs xs) true := by
  simp only [laws_eqLinePieceS.f, if_true]
  refine ev_to (ev_all (len := xs.length) (g := fun k i => laws_eqLinePieceS.l0 k xs xs i) (fun _ => true) true ?_ (fun n hn hp => by simp at hp) ?_) (by simp)
  · intro n hn hp r hr
    refine ev_succ ?_
    simp only [laws_eqLinePieceS.l0, laws_eqLinePiece.f, Option.bind_some, Int.ofNat_lt.2 hn, show (0 : Int) ≤ (n : Int) from Int.natCast_nonneg _, if_true, bne_self_eq_false, Bool.false_eq_true, if_false, wnext hn h]
    exact hr
  · refine ev_succ ?_
    simp only [laws_eqLinePieceS.l0, Int.lt_irrefl, if_false]
    exact ev_now _

theorem laws_eqInt64S_self (xs : List Int) (h : xs.length ≤ 9223372036854775807) : Ev (fun k => laws_eqInt64S.f k xs xs) true := by
  simp only [laws_eqInt64S.f, if_true]
  refine ev_to (ev_all (len := xs.length) (g := fun k i => laws_eqInt64S.l0 k xs xs i) (fun _ => true) true ?_ (fun n hn hp => by simp at hp) ?_) (by simp)
  · intro n hn hp r hr
    refine ev_succ ?_
    simp only [laws_eqInt64S.l0, Int.ofNat_lt.2 hn, show (0 : Int) ≤ (n : Int) from Int.natCast_nonneg _, if_true, wnext hn h]
    exact hr
  · refine ev_succ ?_
    simp only [laws_eqInt64S.l0, Int.lt_irrefl, if_false]
    exact ev_now _

theorem laws_toInt64S_ev (xs : List Int) (h : xs.length ≤ 1048576) : Ev (fun k => laws_toInt64S.f k xs) xs := by
  simp only [laws_toInt64S.f, Int.toNat_natCast, show (0 : Int) ≤ (xs.length : Int) from Int.natCast_nonneg _, if_true]
  rw [if_pos_ev (by omega)]
  have e : List.replicate xs.length (0 : Int) = (xs.take 0).map id ++ List.replicate (xs.length - 0) 0 := by simp
  have e2 : xs = (xs.take xs.length).map id ++ List.replicate (xs.length - xs.length) 0 := by simp
  rw [e]
  refine ev_to ?_ e2.symm
  refine ev_fold (len := xs.length) (g := fun k s i => laws_toInt64S.l0 k xs s i) (fun n s => s.set n (xs.getD n 0)) (fun n => (xs.take n).map id ++ List.replicate (xs.length - n) 0) _ ?_ ?_ ?_
  · intro n hn; exact (fill_step xs id _ _ hn).symm
  · intro n hn r hr
    refine ev_succ ?_
    have l1 : (n : Int) < (((xs.take n).map id ++ List.replicate (xs.length - n) (0 : Int)).length : Int) := by simp; omega
    simp only [laws_toInt64S.l0, Int.ofNat_lt.2 hn, show (0 : Int) ≤ (n : Int) from Int.natCast_nonneg _, if_true, l1, wnext hn (by omega : xs.length ≤ 9223372036854775807), rd, Int.toNat_natCast]
    exact hr
  · refine ev_succ ?_
    simp only [laws_toInt64S.l0, Int.lt_irrefl, if_false]
    exact ev_now _

theorem laws_szLine_cases (ps : List S41) (js : List Int) (m : Int) (hp : ps.length ≤ 9223372036854775807) (hq : js.length ≤ 9223372036854775807) (h0 : 0 ≤ m) (h1 : m ≤ 1048576) :
    ∃ r, laws_szLine.f ps js m = some r ∧ (r < 0 ∨ (0 ≤ r ∧ r ≤ 1048576 ∧ ps.length ≤ 1048576 ∧ js.length ≤ 1048576)) := by
  simp only [laws_szLine.f, laws_szLinePieceS.f, laws_szInt64S.f]
  by_cases a : wrap64 (m - (ps.length : Int)) < 0
  · simp only [a, if_true, Option.bind_some, show (-1 : Int) < 0 by decide]; exact ⟨-1, rfl, .inl (by decide)⟩
  have hp' : (ps.length : Int) ≤ m := by unfold wrap64 at a; omega
  rw [w64 (n := m - (ps.length : Int)) (by omega) (by omega)] at *
  simp only [a, if_false, Option.bind_some]
  by_cases b : wrap64 (m - (ps.length : Int) - (js.length : Int)) < 0
  · simp only [b, if_true, Option.bind_some, show (-1 : Int) < 0 by decide]; exact ⟨-1, rfl, .inl (by decide)⟩
  have hq' : (js.length : Int) ≤ m - (ps.length : Int) := by unfold wrap64 at b; omega
  simp only [b, if_false, Option.bind_some]
  exact ⟨_, rfl, .inr (by rw [w64 (n := m - (ps.length : Int) - (js.length : Int)) (by omega) (by omega)] at *; omega)⟩
theorem laws_toLine_ev (ps : List S41) (js : List Int) (hp : ps.length ≤ 1048576) (hq : js.length ≤ 1048576) : Ev (fun k => laws_toLine.f k ps js) (ps.map conv_LinePiece, js) := by
  simp only [laws_toLine.f]
  exact Ev.bind (laws_toLinePieceS_ev ps hp) (Ev.bind (laws_toInt64S_ev js hq) (ev_now _))
theorem laws_eqLine_self (ps : List S44) (js : List Int) (hp : ps.length ≤ 1048576) (hq : js.length ≤ 1048576) : Ev (fun k => laws_eqLine.f k ps js ps js) true := by
  simp only [laws_eqLine.f]
  refine Ev.bind (laws_eqLinePieceS_self _ (by omega)) ?_
  simp only [if_true]
  refine Ev.bind (laws_eqInt64S_self _ (by omega)) ?_
  simp only [if_true]
  exact ev_now _

theorem piece_step (x y : S44) : (!(x.f0 == y.f0) || (!(x.f1 == y.f1))) = !(decide (x.f0 = y.f0) && decide (x.f1 = y.f1)) := by
  by_cases h1 : x.f0 = y.f0 <;> by_cases h2 : x.f1 = y.f1 <;> simp [h1, h2]
def sameP (xs ys : List S44) (n : Nat) : Bool := decide ((xs.getD n z44).f0 = (ys.getD n z44).f0) && decide ((xs.getD n z44).f1 = (ys.getD n z44).f1)
def sameI (xs ys : List Int) (n : Nat) : Bool := decide (xs.getD n 0 = ys.getD n 0)
def piecesV (xs ys : List S44) : Bool := decide (xs.length = ys.length) && ((List.range xs.length).all (sameP xs ys) && true)
def intsV (xs ys : List Int) : Bool := decide (xs.length = ys.length) && ((List.range xs.length).all (sameI xs ys) && true)
theorem spec_l00Same_ev (xs ys : List Int) (h : xs.length ≤ 1048576) : Ev (fun k => spec_l00Same.f k xs ys) (intsV xs ys) := by
  simp only [spec_l00Same.f, intsV]
  by_cases e : xs.length = ys.length
  · simp only [show (xs.length : Int) = (ys.length : Int) by omega, e, if_true, decide_true, Bool.true_and]
    rw [← e]
    refine ev_all (len := xs.length) (g := fun k i => spec_l00Same.l0 k xs ys i) (sameI xs ys) true ?_ ?_ ?_
    · intro n hn hp r hr
      refine ev_succ ?_
      simp only [sameI, decide_eq_true_eq] at hp
      simp only [spec_l00Same.l0, Int.ofNat_lt.2 hn, show (n : Int) < (ys.length : Int) by omega, show (0 : Int) ≤ (n : Int) from Int.natCast_nonneg _, if_true, rd, Int.toNat_natCast, wnext hn (by omega : xs.length ≤ 9223372036854775807), hp]
      exact hr
    · intro n hn hp
      refine ev_succ ?_
      simp only [sameI, decide_eq_false_iff_not] at hp
      simp only [spec_l00Same.l0, Int.ofNat_lt.2 hn, show (n : Int) < (ys.length : Int) by omega, show (0 : Int) ≤ (n : Int) from Int.natCast_nonneg _, if_true, rd, Int.toNat_natCast, hp, if_false]
      exact ev_now _
    · refine ev_succ ?_
      simp only [spec_l00Same.l0, Int.lt_irrefl, if_false]
      exact ev_now _
  · simp only [show ¬ ((xs.length : Int) = (ys.length : Int)) by omega, e, if_false, decide_false, Bool.false_and]
    exact ev_now _
theorem impl_ints_ev (xs ys : List Int) (h : xs.length ≤ 1048576) : Ev (fun k => slices_Equal_int64_int64.f k xs ys) (intsV xs ys) := by
  simp only [slices_Equal_int64_int64.f, intsV]
  by_cases e : xs.length = ys.length
  · simp only [show (xs.length : Int) = (ys.length : Int) by omega, e, if_true, decide_true, Bool.true_and]
    rw [← e]
    refine ev_all (len := xs.length) (g := fun k i => slices_Equal_int64_int64.l0 k xs ys (xs.length : Int) i) (sameI xs ys) true ?_ ?_ ?_
    · intro n hn hp r hr
      refine ev_succ ?_
      simp only [sameI, decide_eq_true_eq] at hp
      simp only [slices_Equal_int64_int64.l0, Int.ofNat_lt.2 hn, show (n : Int) < (ys.length : Int) by omega, show (0 : Int) ≤ (n : Int) from Int.natCast_nonneg _, if_true, rd, Int.toNat_natCast, wnext hn (by omega : xs.length ≤ 9223372036854775807), hp]
      exact hr
    · intro n hn hp
      refine ev_succ ?_
      simp only [sameI, decide_eq_false_iff_not] at hp
      simp only [slices_Equal_int64_int64.l0, Int.ofNat_lt.2 hn, show (n : Int) < (ys.length : Int) by omega, show (0 : Int) ≤ (n : Int) from Int.natCast_nonneg _, if_true, rd, Int.toNat_natCast, hp, if_false]
      exact ev_now _
    · refine ev_succ ?_
      simp only [slices_Equal_int64_int64.l0, Int.lt_irrefl, if_false]
      exact ev_now _
  · simp only [show ¬ ((xs.length : Int) = (ys.length : Int)) by omega, e, if_false, decide_false, Bool.false_and]
    exact ev_now _
theorem impl_pieces_ev (xs ys : List S44) (h : xs.length ≤ 1048576) : Ev (fun k => impl_LinePiece.f k xs ys) (piecesV xs ys) := by
  simp only [impl_LinePiece.f, piecesV]
  by_cases e : xs.length = ys.length
  · simp only [show (xs.length : Int) = (ys.length : Int) by omega, e, if_true, decide_true, Bool.true_and]
    rw [← e]
    refine ev_all (len := xs.length) (g := fun k i => impl_LinePiece.l0 k xs ys (xs.length : Int) i) (sameP xs ys) true ?_ ?_ ?_
    · intro n hn hp r hr
      refine ev_succ ?_
      simp only [sameP] at hp
      simp only [impl_LinePiece.l0, Int.ofNat_lt.2 hn, show (n : Int) < (ys.length : Int) by omega, show (0 : Int) ≤ (n : Int) from Int.natCast_nonneg _, if_true, rd_T44, Int.toNat_natCast, wnext hn (by omega : xs.length ≤ 9223372036854775807), piece_step, hp, Bool.not_true, Bool.false_eq_true, if_false]
      exact hr
    · intro n hn hp
      refine ev_succ ?_
      simp only [sameP] at hp
      simp only [impl_LinePiece.l0, Int.ofNat_lt.2 hn, show (n : Int) < (ys.length : Int) by omega, show (0 : Int) ≤ (n : Int) from Int.natCast_nonneg _, if_true, rd_T44, Int.toNat_natCast, piece_step, hp, Bool.not_false, if_true]
      exact ev_now _
    · refine ev_succ ?_
      simp only [impl_LinePiece.l0, Int.lt_irrefl, if_false]
      exact ev_now _
  · simp only [show ¬ ((xs.length : Int) = (ys.length : Int)) by omega, e, if_false, decide_false, Bool.false_and]
    exact ev_now _
theorem spec_pieces_loop (xs ys : List S44) (a b : List Int) (h : xs.length ≤ 1048576) (e : xs.length = ys.length) : Ev (fun k => spec_SameLine.l0 k 0 xs a ys b) ((List.range xs.length).all (sameP xs ys) && true) := by
  refine ev_all (len := xs.length) (g := fun k i => spec_SameLine.l0 k i xs a ys b) (sameP xs ys) true ?_ ?_ ?_
  · intro n hn hp r hr
    refine ev_succ ?_
    simp only [sameP] at hp
    simp only [spec_SameLine.l0, Int.ofNat_lt.2 hn, show (n : Int) < (ys.length : Int) by omega, show (0 : Int) ≤ (n : Int) from Int.natCast_nonneg _, if_true, rd_T44, Int.toNat_natCast, wnext hn (by omega : xs.length ≤ 9223372036854775807), piece_step, hp, Bool.not_true, Bool.false_eq_true, if_false]
    exact hr
  · intro n hn hp
    refine ev_succ ?_
    simp only [sameP] at hp
    simp only [spec_SameLine.l0, Int.ofNat_lt.2 hn, show (n : Int) < (ys.length : Int) by omega, show (0 : Int) ≤ (n : Int) from Int.natCast_nonneg _, if_true, rd_T44, Int.toNat_natCast, piece_step, hp, Bool.not_false, if_true]
    exact ev_now _
  · refine ev_succ ?_
    simp only [spec_SameLine.l0, Int.lt_irrefl, if_false]
    exact ev_now _
theorem SameLine_ev (ps qs : List S44) (a b : List Int) (hp : ps.length ≤ 1048576) (ha : a.length ≤ 1048576) : ∃ r, Ev (fun k => spec_SameLine.f k ps a qs b) r ∧ Ev (fun k => impl_SameLine.f k ps a qs b) r := by
  refine ⟨piecesV ps qs && intsV a b, ?_, ?_⟩
  · simp only [spec_SameLine.f]
    by_cases e : ps.length = qs.length
    · simp only [show (ps.length : Int) = (qs.length : Int) by omega, if_true]
      refine Ev.bind (spec_l00Same_ev a b ha) ?_
      refine ev_succ ?_
      simp only [spec_SameLine.j0]
      cases intsV a b
      · simp only [Bool.not_false, if_true, Bool.and_false]; exact ev_now _
      · simp only [Bool.not_true, Bool.false_eq_true, if_false, Bool.and_true]
        refine ev_to (spec_pieces_loop ps qs a b hp e) ?_
        unfold piecesV; simp only [e, decide_true, Bool.true_and]
    · simp only [show ¬ ((ps.length : Int) = (qs.length : Int)) by omega, if_false]
      refine ev_succ ?_
      simp only [spec_SameLine.j0, if_true]
      exact ev_to (ev_now _) (by unfold piecesV; simp only [e, decide_false, Bool.false_and])
  · simp only [impl_SameLine.f]
    refine Ev.bind (impl_pieces_ev ps qs hp) ?_
    cases piecesV ps qs
    · simp only [Bool.false_eq_true, if_false, Bool.false_and]; exact ev_now _
    · simp only [if_true, Bool.true_and]
      exact Ev.bind (impl_ints_ev a b ha) (ev_now _)
theorem FnExactSameLine : laws_FnExactSameLine.Pure := by
  intro ps a qs b hp ha hq hb
  refine Ev.rounds ?_
  simp only [laws_FnExactSameLine.f]
  obtain ⟨left, e1, e2⟩ := laws_szLine_cases ps a 1048576 (by have := hp.2.1; rw [maxLen_eq] at this; omega) (by have := ha.2.1; rw [maxLen_eq] at this; omega) (by omega) (by omega)
  simp only [e1, Option.bind_some]
  by_cases h : left < 0
  · simp only [h, if_true]; exact ev_now _
  simp only [h, if_false]
  obtain ⟨left', e1', e2'⟩ := laws_szLine_cases qs b left (by have := hq.2.1; rw [maxLen_eq] at this; omega) (by have := hb.2.1; rw [maxLen_eq] at this; omega) (by omega) (by omega)
  simp only [e1', Option.bind_some]
  by_cases h' : left' < 0
  · simp only [h', if_true]; exact ev_now _
  simp only [h', if_false]
  have hp1 : ps.length ≤ 1048576 := by omega
  have ha1 : a.length ≤ 1048576 := by omega
  have hq1 : qs.length ≤ 1048576 := by omega
  have hb1 : b.length ≤ 1048576 := by omega
  have hpm : (ps.map conv_LinePiece).length ≤ 1048576 := by simpa using hp1
  have hqm : (qs.map conv_LinePiece).length ≤ 1048576 := by simpa using hq1
  obtain ⟨r, k1, k2⟩ := SameLine_ev (ps.map conv_LinePiece) (qs.map conv_LinePiece) a b hpm ha1
  refine Ev.bind (laws_toLine_ev ps a hp1 ha1) (Ev.bind (laws_toLine_ev qs b hq1 hb1) (Ev.bind k1 (Ev.bind (laws_toLine_ev ps a hp1 ha1) (Ev.bind (laws_toLine_ev qs b hq1 hb1) (Ev.bind k2 ?_)))))
  simp only [bne_self_eq_false, Bool.false_eq_true, if_false]
  refine Ev.bind (laws_toLine_ev ps a hp1 ha1) (Ev.bind (laws_eqLine_self _ a hpm ha1) ?_)
  simp only [if_true]
  refine Ev.bind (laws_toLine_ev qs b hq1 hb1) (Ev.bind (laws_eqLine_self _ b hqm hb1) ?_)
  simp only [if_true]
  exact ev_now _

end Go.Proofs.Ytdgodlccejoibaa.Pure

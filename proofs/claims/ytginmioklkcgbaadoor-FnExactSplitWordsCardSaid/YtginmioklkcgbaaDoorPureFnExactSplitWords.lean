/- The pure statement of FnExactSplitWords: numbers and lists alone. No condition. -/
import Derived.Test.YtginmioklkcgbaaDoorQFnExactSplitWordsx2
import Derived.Test.YtginmioklkcgbaaDoorAid
namespace Go.Proofs.YtginmioklkcgbaaDoor.Pure
open Go.RowKit Go.Proofs.YtginmioklkcgbaaDoor.QFnExactSplitWords Go.Proofs.YtginmioklkcgbaaDoorW.PrintWords Go.Proofs.YtginmioklkcgbaaDoorW.PrintLast Go.Proofs.YtginmioklkcgbaaDoorW.PrintMore Go.Proofs.YtginmioklkcgbaaDoor.Aid
set_option linter.unusedVariables false
set_option linter.unusedSimpArgs false

/-! ### a text cut at a byte -/
def splA (c : UInt8) : List UInt8 → List UInt8 → List (List UInt8)
  | cur, [] => [cur]
  | cur, b :: l => if b = c then cur :: splA c [] l else splA c (cur ++ [b]) l
def onHead (cur : List UInt8) : List (List UInt8) → List (List UInt8)
  | [] => []
  | h :: t => (cur ++ h) :: t
theorem onHead_nil (l : List (List UInt8)) : onHead [] l = l := by cases l <;> rfl
theorem splitK_ne (sep : List UInt8) (sv k : Nat) (l : List UInt8) : ∃ h t, Lib.splitK sep sv k l = h :: t := by
  cases k with
  | zero => exact ⟨_, _, rfl⟩
  | succ k => unfold Lib.splitK; split <;> exact ⟨_, _, rfl⟩
theorem splitK_cons_ne {b c : UInt8} (h : b ≠ c) (l : List UInt8) (k : Nat) : Lib.splitK [c] 0 k (b :: l) = onHead [b] (Lib.splitK [c] 0 k l) := by
  cases k with
  | zero => rfl
  | succ k =>
    have hp : ([c] : List UInt8).isPrefixOf (b :: l) = false := by simp [List.isPrefixOf, Ne.symm h]
    have hix : Lib.index (b :: l) [c] = if Lib.index l [c] == -1 then -1 else Lib.index l [c] + 1 := by rw [Lib.index, hp]; simp
    have hge := Lib.index_ge l [c]
    unfold Lib.splitK
    by_cases hm : Lib.index l [c] = -1
    · rw [if_pos (by rw [hix, if_pos (beq_iff_eq.2 hm)]; rfl), if_pos (beq_iff_eq.2 hm)]; rfl
    · obtain ⟨j, hj⟩ : ∃ j : Nat, Lib.index l [c] = j := ⟨(Lib.index l [c]).toNat, by omega⟩
      have hb : (Lib.index l [c] == -1) = false := beq_eq_false_iff_ne.2 hm
      rw [hix, hb, hj]
      simp only [Bool.false_eq_true, if_false]
      have e2 : (((j : Int) + 1) == -1) = false := beq_eq_false_iff_ne.2 (by omega)
      have e3 : ((j : Int) == -1) = false := beq_eq_false_iff_ne.2 (by omega)
      rw [e2]
      simp only [Bool.false_eq_true, if_false]
      rw [show ((j : Int) + 1).toNat = j + 1 by omega, Int.toNat_natCast]
      simp [onHead, Nat.add_assoc, List.take_succ_cons]
theorem splitK_cons_eq (c : UInt8) (l : List UInt8) (k : Nat) : Lib.splitK [c] 0 (k + 1) (c :: l) = [] :: Lib.splitK [c] 0 k l := by
  have hix : Lib.index (c :: l) [c] = 0 := by rw [Lib.index]; simp [List.isPrefixOf]
  rw [Lib.splitK, hix]
  simp
theorem splA_eq (c : UInt8) : ∀ (l cur : List UInt8), splA c cur l = onHead cur (Lib.splitK [c] 0 (Lib.count l [c]) l)
  | [], cur => by
    rw [Lib.count_one]
    simp [splA, Lib.splitK, onHead]
  | b :: l, cur => by
    unfold splA
    by_cases h : b = c
    · subst h
      rw [if_pos rfl, splA_eq b l [], onHead_nil, Lib.count_cons_eq, Nat.add_comm, splitK_cons_eq]
      simp [onHead]
    · rw [if_neg h, splA_eq c l (cur ++ [b]), Lib.count_cons_ne b c l h, splitK_cons_ne h]
      obtain ⟨x, t, e⟩ := splitK_ne [c] 0 (Lib.count l [c]) l
      rw [e]
      simp [onHead]
def toBA (l : List UInt8) : ByteArray := ⟨l.toArray⟩
theorem toBA_data (s : ByteArray) : toBA s.data.toList = s := by unfold toBA; simp
def cutB (c : UInt8) (s : ByteArray) : List ByteArray := (splA c [] s.data.toList).map toBA
theorem splA_len (c : UInt8) : ∀ (l cur : List UInt8), (splA c cur l).length ≤ l.length + 1
  | [], cur => by simp [splA]
  | b :: l, cur => by
    unfold splA
    split
    · have := splA_len c l []; simp only [List.length_cons]; omega
    · have := splA_len c l (cur ++ [b]); simp only [List.length_cons]; omega
theorem cutB_len (c : UInt8) (s : ByteArray) : (cutB c s).length ≤ s.size + 1 := by
  unfold cutB
  rw [List.length_map]
  have := splA_len c s.data.toList []
  rw [Array.length_toList] at this
  exact this
theorem splitB_cut (c : UInt8) (s : ByteArray) : Lib.splitB ⟨#[c]⟩ 0 (Lib.countB s ⟨#[c]⟩) s = cutB c s := by
  have h := Lib.splitB_data ⟨#[c]⟩ 0 (Lib.countB s ⟨#[c]⟩) s
  have e : Lib.splitK [c] 0 (Lib.count s.data.toList [c]) s.data.toList = splA c [] s.data.toList := by rw [splA_eq, onHead_nil]
  have h' : (Lib.splitB ⟨#[c]⟩ 0 (Lib.countB s ⟨#[c]⟩) s).map (·.data.toList) = splA c [] s.data.toList := h.trans e
  unfold cutB
  rw [← h', List.map_map]
  have e2 : (toBA ∘ fun x : ByteArray => x.data.toList) = id := by funext x; exact toBA_data x
  rw [e2, List.map_id]
theorem extract_BA (s : ByteArray) (a b : Nat) : s.extract a b = toBA ((s.data.toList.drop a).take (b - a)) := by
  unfold toBA
  apply ByteArray.ext
  rw [ByteArray.data_extract]
  apply Array.ext'
  simp [List.take_drop]

theorem bt_data (s : ByteArray) {i : Nat} (h : i < s.size) (c : UInt8) : (bt s (i : Int) = (c.toNat : Int)) ↔ s.data.toList[i]'(by rw [Array.length_toList]; exact h) = c := by
  have e : bt s (i : Int) = ((s.data.toList[i]'(by rw [Array.length_toList]; exact h)).toNat : Int) := by
    unfold bt
    rw [dif_pos (show ((i : Int)).toNat < s.size by rw [Int.toNat_natCast]; exact h)]
    simp only [Int.toNat_natCast]
    rfl
  rw [e]
  constructor
  · intro h2
    exact UInt8.toNat_inj.1 (by omega)
  · intro h2
    rw [h2]
theorem splA_cons (c : UInt8) (cur : List UInt8) (b : UInt8) (l : List UInt8) : splA c cur (b :: l) = if b = c then cur :: splA c [] l else splA c (cur ++ [b]) l := rfl
theorem spec_l01Split_loop (s : ByteArray) (hs : s.size ≤ 1048576) (c : UInt8) : ∀ (d i a : Nat) (out : List ByteArray), i + d = s.size → a ≤ i → out.length ≤ a →
    Ev (fun k => spec_l01Split.l0 k s (c.toNat : Int) out (a : Int) (i : Int)) (out ++ (splA c ((s.data.toList.drop a).take (i - a)) (s.data.toList.drop i)).map toBA) := by
  intro d
  induction d with
  | zero =>
    intro i a out hi ha ho
    have e : i = s.size := by omega
    subst e
    refine ev_succ ?_
    have e1 : s.data.toList.drop s.size = [] := List.drop_eq_nil_of_le (by rw [Array.length_toList]; exact Nat.le_refl _)
    rw [e1]
    simp only [spec_l01Split.l0, Int.lt_irrefl, if_false, show (0 : Int) ≤ (a : Int) from Int.natCast_nonneg _, show (a : Int) ≤ (s.size : Int) by omega, show out.length < 8796093022208 by omega, if_true, Int.toNat_natCast, extract_BA]
    exact ev_now _
  | succ d ih =>
    intro i a out hi ha ho
    have hl : i < s.size := by omega
    have hl' : i < s.data.toList.length := by rw [Array.length_toList]; exact hl
    have ed : s.data.toList.drop i = s.data.toList[i] :: s.data.toList.drop (i + 1) := List.drop_eq_getElem_cons hl'
    refine ev_succ ?_
    by_cases hc : bt s (i : Int) = (c.toNat : Int)
    · have hb := (bt_data s hl c).1 hc
      have i1 := ih (i + 1) (i + 1) (out ++ [s.extract a i]) (by omega) (Nat.le_refl _) (by simp; omega)
      simp only [spec_l01Split.l0, show (i : Int) < (s.size : Int) by omega, show (0 : Int) ≤ (i : Int) from Int.natCast_nonneg _, hc, show (0 : Int) ≤ (a : Int) from Int.natCast_nonneg _, show (a : Int) ≤ (i : Int) by omega, show (i : Int) ≤ (s.size : Int) by omega, show out.length < 8796093022208 by omega, if_true, Int.toNat_natCast, wnext hl (by omega : s.size ≤ 9223372036854775807)]
      refine ev_to i1 ?_
      rw [ed, splA_cons, if_pos hb, Nat.sub_self, List.take_zero, extract_BA]
      simp
    · have hb : ¬ s.data.toList[i] = c := fun e => hc ((bt_data s hl c).2 e)
      have i1 := ih (i + 1) a out (by omega) (by omega) ho
      simp only [spec_l01Split.l0, show (i : Int) < (s.size : Int) by omega, show (0 : Int) ≤ (i : Int) from Int.natCast_nonneg _, hc, if_true, if_false, wnext hl (by omega : s.size ≤ 9223372036854775807)]
      refine ev_to i1 ?_
      rw [ed, splA_cons, if_neg hb]
      congr 3
      rw [show i + 1 - a = (i - a) + 1 by omega, List.take_succ_eq_append_getElem (by rw [List.length_drop]; omega)]
      congr 2
      simp only [List.getElem_drop]
      congr 1
      omega
theorem spec_l01Split_ev (s : ByteArray) (hs : s.size ≤ 1048576) (c : UInt8) : Ev (fun k => spec_l01Split.f k s (c.toNat : Int)) (cutB c s) := by
  simp only [spec_l01Split.f]
  have := spec_l01Split_loop s hs c s.size 0 0 [] (by omega) (Nat.le_refl _) (Nat.le_refl _)
  simpa [cutB] using this
theorem strings_Split_eq (s : ByteArray) (hs : s.size ≤ 1048576) (c : UInt8) : strings_Split.f s (⟨#[c]⟩ : ByteArray) = some (cutB c s) := by
  unfold strings_Split.f
  rw [if_pos ⟨by omega, by show 1 ≤ 1; omega⟩, splitB_cut]

theorem laws_eqStringS_self (xs : List ByteArray) (h : xs.length ≤ 9223372036854775807) : Ev (fun k => laws_eqStringS.f k xs xs) true := by
  simp only [laws_eqStringS.f, if_true]
  refine ev_to (ev_all (len := xs.length) (g := fun k i => laws_eqStringS.l0 k xs xs i) (fun _ => true) true ?_ (fun n hn hp => by simp at hp) ?_) (by simp)
  · intro n hn hp r hr
    refine ev_succ ?_
    simp only [laws_eqStringS.l0, Int.ofNat_lt.2 hn, show (0 : Int) ≤ (n : Int) from Int.natCast_nonneg _, if_true, wnext hn h]
    exact hr
  · refine ev_succ ?_
    simp only [laws_eqStringS.l0, Int.lt_irrefl, if_false]
    exact ev_now _

theorem markText_l0 (n : Nat) : ∀ (a : Int) (s : ByteArray), a < 10 ^ n → s.size + n + 1 ≤ 9223372036854775807 → a ≤ 9223372036854775807 → ∃ r, Ev (fun k => laws_markText.l0 k a s) r := by
  induction n with
  | zero =>
    intro a s h1 h2 h3
    refine ⟨(⟨#[109]⟩ : ByteArray) ++ s, ev_succ ?_⟩
    simp only [laws_markText.l0, show ¬ a > 0 by simp at h1; omega, if_false, show 1 + s.size ≤ 9223372036854775807 by omega, if_true]
    exact ev_now _
  | succ n ih =>
    intro a s h1 h2 h3
    by_cases c : a > 0
    · have ht : Int.tdiv a 10 < 10 ^ n := by rw [Int.tdiv_eq_ediv_of_nonneg (by omega), Int.pow_succ] at *; omega
      have hb : 0 ≤ Int.tdiv a 10 ∧ Int.tdiv a 10 ≤ a := by rw [Int.tdiv_eq_ediv_of_nonneg (by omega)]; omega
      have hz : ∀ x, (strOfNums [x]).size = 1 := fun _ => rfl
      have hs : (strOfNums [wrap64 (48 + Int.tmod a 10) % 256] ++ s).size = 1 + s.size := by rw [ByteArray.size_append, hz]
      obtain ⟨r, hr⟩ := ih (Int.tdiv a 10) (strOfNums [wrap64 (48 + Int.tmod a 10) % 256] ++ s) ht (by omega) (by omega)
      refine ⟨r, ev_succ ?_⟩
      simp only [laws_markText.l0, c, if_true, Option.bind_some, hz, show 1 + s.size ≤ 9223372036854775807 by omega, w64 (show -9223372036854775808 ≤ Int.tdiv a 10 by omega) (show Int.tdiv a 10 ≤ 9223372036854775807 by omega)]
      exact hr
    · refine ⟨(⟨#[109]⟩ : ByteArray) ++ s, ev_succ ?_⟩
      simp only [laws_markText.l0, c, if_false, show 1 + s.size ≤ 9223372036854775807 by omega, if_true]
      exact ev_now _
theorem markText_ex (a : Int) : ∃ r, a ≤ 9223372036854775807 → Ev (fun k => laws_markText.f k a) r := by
  by_cases h : a ≤ 9223372036854775807
  · by_cases c : a ≤ 0
    · exact ⟨_, fun _ => by simp only [laws_markText.f, c, if_true]; exact ev_now _⟩
    · obtain ⟨r, hr⟩ := markText_l0 19 a ⟨#[]⟩ (by omega) (by simp [ByteArray.size]) h
      exact ⟨r, fun _ => by simp only [laws_markText.f, c, if_false]; exact hr⟩
  · exact ⟨⟨#[]⟩, fun q => absurd q h⟩
noncomputable def mkT (a : Int) : ByteArray := Classical.choose (markText_ex a)
theorem laws_markText_ev (a : Int) (h : a ≤ 9223372036854775807) : Ev (fun k => laws_markText.f k a) (mkT a) := Classical.choose_spec (markText_ex a) h

noncomputable def upT (q : Int) (n : Nat) : List ByteArray := (List.range n).map fun (i : Nat) => mkT (q + (i : Int))
theorem upT_length (q : Int) (n : Nat) : (upT q n).length = n := by simp [upT]
theorem upT_get (q : Int) {n i : Nat} (h : i < n) : rdOf ByteArray.empty (upT q n) (i : Int) = mkT (q + (i : Int)) := by simp [rdOf, upT, List.getD_eq_getElem?_getD, h]
theorem fillT_up (xs : List ByteArray) (q : Int) {n : Nat} (h : n < xs.length) : (upT q n ++ xs.drop n).set n (mkT (q + (n : Int))) = upT q (n + 1) ++ xs.drop (n + 1) := by
  rw [List.set_append_right _ _ (by rw [upT_length]; omega), upT_length, Nat.sub_self, List.drop_eq_getElem_cons h, List.set_cons_zero]
  simp [upT, List.range_succ]
theorem laws_markStringS_ev (xs : List ByteArray) (h : xs.length ≤ 2097152) : Ev (fun k => laws_markStringS.f k xs 1) (1 + (xs.length : Int), upT 1 xs.length) := by
  simp only [laws_markStringS.f]
  have := ev_fold (len := xs.length) (g := fun k (s : List ByteArray × Int) i => laws_markStringS.l0 k s.1 s.2 i) (fun n s => (s.1.set n (mkT s.2), s.2 + 1)) (fun n => (upT 1 n ++ xs.drop n, 1 + (n : Int))) (1 + (xs.length : Int), upT 1 xs.length)
    (fun n hn => by
      rw [Prod.mk.injEq]
      exact ⟨(fillT_up xs 1 hn).symm, by omega⟩)
    (fun n hn r hr => by
      refine ev_succ ?_
      have l1 : (n : Int) < ((upT 1 n ++ xs.drop n).length : Int) := by simp [upT_length]; omega
      have e1 : wrap64 (1 + (n : Int) + 1) = 1 + (n : Int) + 1 := w64 (by omega) (by omega)
      simp only [laws_markStringS.l0, l1, if_true]
      refine Ev.bind (laws_markText_ev _ (by omega)) ?_
      simp only [show (0 : Int) ≤ (n : Int) from Int.natCast_nonneg _, if_true, e1, Int.toNat_natCast, wnext hn (by omega : xs.length ≤ 9223372036854775807)]
      exact hr)
    (by
      refine ev_succ ?_
      have l1 : ¬ ((xs.length : Int) < ((upT 1 xs.length ++ xs.drop xs.length).length : Int)) := by simp [upT_length]
      simp only [laws_markStringS.l0, l1, if_false]
      exact ev_to (ev_now _) (by simp))
  simpa [upT] using this
theorem laws_heldStringS_ev (n : Nat) (h : n ≤ 2097152) : Ev (fun k => laws_heldStringS.f k (upT 1 n) 1) (1 + (n : Int)) := by
  simp only [laws_heldStringS.f]
  have := ev_fold (len := n) (g := fun k (s : Int) i => laws_heldStringS.l0 k (upT 1 n) s i) (fun _ s => s + 1) (fun i => 1 + (i : Int)) (1 + (n : Int))
    (fun i hi => by omega)
    (fun i hi r hr => by
      refine ev_succ ?_
      have l1 : (i : Int) < ((upT 1 n).length : Int) := by rw [upT_length]; omega
      have e1 : wrap64 (1 + (i : Int) + 1) = 1 + (i : Int) + 1 := w64 (by omega) (by omega)
      simp only [laws_heldStringS.l0, l1, show (0 : Int) ≤ (i : Int) from Int.natCast_nonneg _, if_true]
      refine Ev.bind (laws_markText_ev _ (by omega)) ?_
      simp only [upT_get 1 hi, if_true, e1, wnext hi (by omega : n ≤ 9223372036854775807)]
      exact hr)
    (by
      refine ev_succ ?_
      have l1 : ¬ ((n : Int) < ((upT 1 n).length : Int)) := by simp [upT_length]
      simp only [laws_heldStringS.l0, l1, if_false]
      exact ev_now _)
  simpa using this

def wordsOf (s : ByteArray) : List ByteArray := (cutB 32 s).filter fun x => decide (¬ x.toList = ([] : List UInt8))
theorem wordsOf_len (s : ByteArray) : (wordsOf s).length ≤ s.size + 1 := Nat.le_trans (List.length_filter_le _ _) (cutB_len 32 s)
theorem filter_take_succ {α : Type} (xs : List α) (z : α) (p : α → Bool) {n : Nat} (h : n < xs.length) : (xs.take (n + 1)).filter p = if p (xs.getD n z) = true then (xs.take n).filter p ++ [xs.getD n z] else (xs.take n).filter p := by
  rw [List.take_succ_eq_append_getElem h, List.filter_append, getD_lt' xs z h]
  cases hp : p xs[n] <;> simp [hp]
theorem spec_SplitWords_ev (s : ByteArray) (hs : s.size ≤ 1048576) : Ev (fun k => spec_SplitWords.f k s) (wordsOf s) := by
  simp only [spec_SplitWords.f]
  refine Ev.bind (spec_l01Split_ev s hs 32) ?_
  have hl := cutB_len 32 s
  generalize hx : cutB 32 s = xs at hl
  unfold wordsOf
  rw [hx]
  refine ev_fold (len := xs.length) (g := fun k out i => spec_SplitWords.l0 k xs out i) (fun n out => if decide (¬ (xs.getD n ByteArray.empty).toList = ([] : List UInt8)) = true then out ++ [xs.getD n ByteArray.empty] else out) (fun n => (xs.take n).filter fun x => decide (¬ x.toList = ([] : List UInt8))) _ (fun n hn => filter_take_succ xs ByteArray.empty _ hn) ?_ ?_
  · intro n hn r hr
    have l1 : ((xs.take n).filter fun x => decide (¬ x.toList = ([] : List UInt8))).length ≤ n := Nat.le_trans (List.length_filter_le _ _) (by rw [List.length_take]; omega)
    generalize ((xs.take n).filter fun x => decide (¬ x.toList = ([] : List UInt8))) = out at hr l1
    refine ev_succ ?_
    by_cases c : (xs.getD n ByteArray.empty).toList = ([] : List UInt8)
    · simp only [c, not_true, decide_false, Bool.false_eq_true, if_false] at hr
      simp only [spec_SplitWords.l0, rdOf, Int.ofNat_lt.2 hn, show (0 : Int) ≤ (n : Int) from Int.natCast_nonneg _, if_true, Int.toNat_natCast, c, wnext hn (by omega : xs.length ≤ 9223372036854775807)]
      exact hr
    · simp only [c, not_false_eq_true, decide_true, if_true] at hr
      simp only [spec_SplitWords.l0, rdOf, Int.ofNat_lt.2 hn, show (0 : Int) ≤ (n : Int) from Int.natCast_nonneg _, if_true, Int.toNat_natCast, c, if_false, show out.length < 8796093022208 by omega, wnext hn (by omega : xs.length ≤ 9223372036854775807)]
      exact hr
  · refine ev_succ ?_
    simp only [spec_SplitWords.l0, Int.lt_irrefl, if_false, List.take_length]
    exact ev_now _
theorem impl_SplitWords_ev (s : ByteArray) (hs : s.size ≤ 1048576) : Ev (fun k => impl_SplitWords.f k s) (wordsOf s) := by
  simp only [impl_SplitWords.f, strings_Split_eq s hs 32, Option.bind_some]
  have hl := cutB_len 32 s
  generalize hx : cutB 32 s = xs at hl
  unfold wordsOf
  rw [hx]
  refine ev_fold (len := xs.length) (g := fun k out i => impl_SplitWords.l0 k out xs (xs.length : Int) i) (fun n out => if decide (¬ (xs.getD n ByteArray.empty).toList = ([] : List UInt8)) = true then out ++ [xs.getD n ByteArray.empty] else out) (fun n => (xs.take n).filter fun x => decide (¬ x.toList = ([] : List UInt8))) _ (fun n hn => filter_take_succ xs ByteArray.empty _ hn) ?_ ?_
  · intro n hn r hr
    have l1 : ((xs.take n).filter fun x => decide (¬ x.toList = ([] : List UInt8))).length ≤ n := Nat.le_trans (List.length_filter_le _ _) (by rw [List.length_take]; omega)
    generalize ((xs.take n).filter fun x => decide (¬ x.toList = ([] : List UInt8))) = out at hr l1
    refine ev_succ ?_
    by_cases c : (xs.getD n ByteArray.empty).toList = ([] : List UInt8)
    · simp only [c, not_true, decide_false, Bool.false_eq_true, if_false] at hr
      simp only [impl_SplitWords.l0, rdOf, Int.ofNat_lt.2 hn, show (0 : Int) ≤ (n : Int) from Int.natCast_nonneg _, if_true, Int.toNat_natCast, c, wnext hn (by omega : xs.length ≤ 9223372036854775807)]
      exact hr
    · simp only [c, not_false_eq_true, decide_true, if_true] at hr
      simp only [impl_SplitWords.l0, rdOf, Int.ofNat_lt.2 hn, show (0 : Int) ≤ (n : Int) from Int.natCast_nonneg _, if_true, Int.toNat_natCast, c, if_false, show out.length < 8796093022208 by omega, wnext hn (by omega : xs.length ≤ 9223372036854775807)]
      exact hr
  · refine ev_succ ?_
    simp only [impl_SplitWords.l0, Int.lt_irrefl, if_false, List.take_length]
    exact ev_now _
theorem FnExactSplitWords : laws_FnExactSplitWords.Pure := by
  intro s hs
  refine Ev.rounds ?_
  simp only [laws_FnExactSplitWords.f]
  by_cases hz : (s.size : Int) > 1048576
  · simp only [hz, if_true]; exact ev_now _
  have hl : s.size ≤ 1048576 := by omega
  have k1 := spec_SplitWords_ev s hl
  have k2 := impl_SplitWords_ev s hl
  have wl := wordsOf_len s
  generalize wordsOf s = ws at k1 k2 wl
  simp only [hz, if_false]
  refine Ev.bind k1 (Ev.bind k2 (Ev.bind (laws_eqStringS_self _ (by omega)) ?_))
  simp only [if_true]
  refine Ev.bind (laws_markStringS_ev ws (by omega)) (Ev.bind (laws_heldStringS_ev ws.length (by omega)) ?_)
  simp only [show ¬ (1 + (ws.length : Int)) < 0 by omega, if_false, if_true]
  refine Ev.bind k2 (Ev.bind (laws_eqStringS_self _ (by omega)) ?_)
  simp only [if_true]
  refine Ev.bind (laws_heldStringS_ev ws.length (by omega)) ?_
  simp only [show ¬ (1 + (ws.length : Int)) < 0 by omega, if_false, if_true]
  exact ev_now _

end Go.Proofs.YtginmioklkcgbaaDoor.Pure

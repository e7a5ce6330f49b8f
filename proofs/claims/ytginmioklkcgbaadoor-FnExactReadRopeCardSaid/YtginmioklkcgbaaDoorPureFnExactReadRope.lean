/- The pure statement of FnExactReadRope: numbers and lists alone. No condition. -/
import Derived.Test.YtginmioklkcgbaaDoorQFnExactReadRopex6
import Derived.Test.YtginmioklkcgbaaDoorAid
namespace Go.Proofs.YtginmioklkcgbaaDoor.Pure
open Go.RowKit Go.Proofs.YtginmioklkcgbaaDoor.QFnExactReadRope Go.Proofs.YtginmioklkcgbaaDoorW.PrintWords Go.Proofs.YtginmioklkcgbaaDoorW.PrintLast Go.Proofs.YtginmioklkcgbaaDoorW.PrintMore Go.Proofs.YtginmioklkcgbaaDoor.Aid
set_option linter.unusedVariables false
set_option linter.unusedSimpArgs false

theorem bt_get (s : ByteArray) {i : Nat} (h : i < s.size) : bt s (i : Int) = ((s.data.toList[i]'(by rw [Array.length_toList]; exact h)).toNat : Int) := by
  unfold bt
  rw [dif_pos (show ((i : Int)).toNat < s.size by rw [Int.toNat_natCast]; exact h)]
  simp only [Int.toNat_natCast]
  rfl
def toBA (l : List UInt8) : ByteArray := ⟨l.toArray⟩
theorem toBA_data (s : ByteArray) : toBA s.data.toList = s := by unfold toBA; simp
theorem data_toBA (l : List UInt8) : (toBA l).data.toList = l := by unfold toBA; simp
theorem extract_BA (s : ByteArray) (a b : Nat) : s.extract a b = toBA ((s.data.toList.drop a).take (b - a)) := by
  unfold toBA
  apply ByteArray.ext
  rw [ByteArray.data_extract]
  apply Array.ext'
  simp [List.take_drop]

/-! ### a text cut at a byte -/
def splA (c : UInt8) : List UInt8 → List UInt8 → List (List UInt8)
  | cur, [] => [cur]
  | cur, b :: l => if b = c then cur :: splA c [] l else splA c (cur ++ [b]) l
def onHead (cur : List UInt8) : List (List UInt8) → List (List UInt8)
  | [] => []
  | h :: t => (cur ++ h) :: t
theorem onHead_nil (l : List (List UInt8)) : onHead [] l = l := by cases l <;> rfl
theorem splitK_ne (sep : List UInt8) (sv k : Nat) (l : List UInt8) : ∃ h t, Lib.splitK sep sv k l = h :: t := by
  cases k with
  | zero => exact ⟨_, _, rfl⟩
  | succ k => unfold Lib.splitK; split <;> exact ⟨_, _, rfl⟩
theorem splitK_cons_ne {b c : UInt8} (h : b ≠ c) (l : List UInt8) (k : Nat) : Lib.splitK [c] 0 k (b :: l) = onHead [b] (Lib.splitK [c] 0 k l) := by
  cases k with
  | zero => rfl
  | succ k =>
    have hp : ([c] : List UInt8).isPrefixOf (b :: l) = false := by simp [List.isPrefixOf, Ne.symm h]
    have hix : Lib.index (b :: l) [c] = if Lib.index l [c] == -1 then -1 else Lib.index l [c] + 1 := by rw [Lib.index, hp]; simp
    have hge := Lib.index_ge l [c]
    unfold Lib.splitK
    by_cases hm : Lib.index l [c] = -1
    · rw [if_pos (by rw [hix, if_pos (beq_iff_eq.2 hm)]; rfl), if_pos (beq_iff_eq.2 hm)]; rfl
    · obtain ⟨j, hj⟩ : ∃ j : Nat, Lib.index l [c] = j := ⟨(Lib.index l [c]).toNat, by omega⟩
      have hb : (Lib.index l [c] == -1) = false := beq_eq_false_iff_ne.2 hm
      rw [hix, hb, hj]
      simp only [Bool.false_eq_true, if_false]
      have e2 : (((j : Int) + 1) == -1) = false := beq_eq_false_iff_ne.2 (by omega)
      have e3 : ((j : Int) == -1) = false := beq_eq_false_iff_ne.2 (by omega)
      rw [e2]
      simp only [Bool.false_eq_true, if_false]
      rw [show ((j : Int) + 1).toNat = j + 1 by omega, Int.toNat_natCast]
      simp [onHead, Nat.add_assoc, List.take_succ_cons]
theorem splitK_cons_eq (c : UInt8) (l : List UInt8) (k : Nat) : Lib.splitK [c] 0 (k + 1) (c :: l) = [] :: Lib.splitK [c] 0 k l := by
  have hix : Lib.index (c :: l) [c] = 0 := by rw [Lib.index]; simp [List.isPrefixOf]
  rw [Lib.splitK, hix]
  simp
theorem splA_eq (c : UInt8) : ∀ (l cur : List UInt8), splA c cur l = onHead cur (Lib.splitK [c] 0 (Lib.count l [c]) l)
  | [], cur => by
    rw [Lib.count_one]
    simp [splA, Lib.splitK, onHead]
  | b :: l, cur => by
    unfold splA
    by_cases h : b = c
    · subst h
      rw [if_pos rfl, splA_eq b l [], onHead_nil, Lib.count_cons_eq, Nat.add_comm, splitK_cons_eq]
      simp [onHead]
    · rw [if_neg h, splA_eq c l (cur ++ [b]), Lib.count_cons_ne b c l h, splitK_cons_ne h]
      obtain ⟨x, t, e⟩ := splitK_ne [c] 0 (Lib.count l [c]) l
      rw [e]
      simp [onHead]
def cutB (c : UInt8) (s : ByteArray) : List ByteArray := (splA c [] s.data.toList).map toBA
theorem splA_len (c : UInt8) : ∀ (l cur : List UInt8), (splA c cur l).length ≤ l.length + 1
  | [], cur => by simp [splA]
  | b :: l, cur => by
    unfold splA
    split
    · have := splA_len c l []; simp only [List.length_cons]; omega
    · have := splA_len c l (cur ++ [b]); simp only [List.length_cons]; omega
theorem cutB_len (c : UInt8) (s : ByteArray) : (cutB c s).length ≤ s.size + 1 := by
  unfold cutB
  rw [List.length_map]
  have := splA_len c s.data.toList []
  rw [Array.length_toList] at this
  exact this
theorem splitB_cut (c : UInt8) (s : ByteArray) : Lib.splitB ⟨#[c]⟩ 0 (Lib.countB s ⟨#[c]⟩) s = cutB c s := by
  have h := Lib.splitB_data ⟨#[c]⟩ 0 (Lib.countB s ⟨#[c]⟩) s
  have e : Lib.splitK [c] 0 (Lib.count s.data.toList [c]) s.data.toList = splA c [] s.data.toList := by rw [splA_eq, onHead_nil]
  have h' : (Lib.splitB ⟨#[c]⟩ 0 (Lib.countB s ⟨#[c]⟩) s).map (·.data.toList) = splA c [] s.data.toList := h.trans e
  unfold cutB
  rw [← h', List.map_map]
  have e2 : (toBA ∘ fun x : ByteArray => x.data.toList) = id := by funext x; exact toBA_data x
  rw [e2, List.map_id]

theorem bt_data (s : ByteArray) {i : Nat} (h : i < s.size) (c : UInt8) : (bt s (i : Int) = (c.toNat : Int)) ↔ s.data.toList[i]'(by rw [Array.length_toList]; exact h) = c := by
  rw [bt_get s h]
  constructor
  · intro h2
    exact UInt8.toNat_inj.1 (by omega)
  · intro h2
    rw [h2]
theorem splA_cons (c : UInt8) (cur : List UInt8) (b : UInt8) (l : List UInt8) : splA c cur (b :: l) = if b = c then cur :: splA c [] l else splA c (cur ++ [b]) l := rfl
theorem spec_l01Split_loop (s : ByteArray) (hs : s.size ≤ 1048576) (c : UInt8) : ∀ (d i a : Nat) (out : List ByteArray), i + d = s.size → a ≤ i → out.length ≤ a →
    Ev (fun k => spec_l01Split.l0 k s (c.toNat : Int) out (a : Int) (i : Int)) (out ++ (splA c ((s.data.toList.drop a).take (i - a)) (s.data.toList.drop i)).map toBA) := by
  intro d
  induction d with
  | zero =>
    intro i a out hi ha ho
    have e : i = s.size := by omega
    subst e
    refine ev_succ ?_
    have e1 : s.data.toList.drop s.size = [] := List.drop_eq_nil_of_le (by rw [Array.length_toList]; exact Nat.le_refl _)
    rw [e1]
    simp only [spec_l01Split.l0, Int.lt_irrefl, if_false, show (0 : Int) ≤ (a : Int) from Int.natCast_nonneg _, show (a : Int) ≤ (s.size : Int) by omega, show out.length < 8796093022208 by omega, if_true, Int.toNat_natCast, extract_BA]
    exact ev_now _
  | succ d ih =>
    intro i a out hi ha ho
    have hl : i < s.size := by omega
    have hl' : i < s.data.toList.length := by rw [Array.length_toList]; exact hl
    have ed : s.data.toList.drop i = s.data.toList[i] :: s.data.toList.drop (i + 1) := List.drop_eq_getElem_cons hl'
    refine ev_succ ?_
    by_cases hc : bt s (i : Int) = (c.toNat : Int)
    · have hb := (bt_data s hl c).1 hc
      have i1 := ih (i + 1) (i + 1) (out ++ [s.extract a i]) (by omega) (Nat.le_refl _) (by simp; omega)
      simp only [spec_l01Split.l0, show (i : Int) < (s.size : Int) by omega, show (0 : Int) ≤ (i : Int) from Int.natCast_nonneg _, hc, show (0 : Int) ≤ (a : Int) from Int.natCast_nonneg _, show (a : Int) ≤ (i : Int) by omega, show (i : Int) ≤ (s.size : Int) by omega, show out.length < 8796093022208 by omega, if_true, Int.toNat_natCast, wnext hl (by omega : s.size ≤ 9223372036854775807)]
      refine ev_to i1 ?_
      rw [ed, splA_cons, if_pos hb, Nat.sub_self, List.take_zero, extract_BA]
      simp
    · have hb : ¬ s.data.toList[i] = c := fun e => hc ((bt_data s hl c).2 e)
      have i1 := ih (i + 1) a out (by omega) (by omega) ho
      simp only [spec_l01Split.l0, show (i : Int) < (s.size : Int) by omega, show (0 : Int) ≤ (i : Int) from Int.natCast_nonneg _, hc, if_true, if_false, wnext hl (by omega : s.size ≤ 9223372036854775807)]
      refine ev_to i1 ?_
      rw [ed, splA_cons, if_neg hb]
      congr 3
      rw [show i + 1 - a = (i - a) + 1 by omega, List.take_succ_eq_append_getElem (by rw [List.length_drop]; omega)]
      congr 2
      simp only [List.getElem_drop]
      congr 1
      omega
theorem spec_l01Split_ev (s : ByteArray) (hs : s.size ≤ 1048576) (c : UInt8) : Ev (fun k => spec_l01Split.f k s (c.toNat : Int)) (cutB c s) := by
  simp only [spec_l01Split.f]
  have := spec_l01Split_loop s hs c s.size 0 0 [] (by omega) (Nat.le_refl _) (Nat.le_refl _)
  simpa [cutB] using this
theorem strings_Split_eq (s : ByteArray) (hs : s.size ≤ 1048576) (c : UInt8) : strings_Split.f s (⟨#[c]⟩ : ByteArray) = some (cutB c s) := by
  unfold strings_Split.f
  rw [if_pos ⟨by omega, by show 1 ≤ 1; omega⟩, splitB_cut]

/-! ### decimal forms -/
def decV (n : Int) : ByteArray := ⟨(Lib.itoa n).toArray⟩
def digI (u : Nat) : List Int := (Lib.decDigits u).map fun b => (b.toNat : Int)
theorem digI_one {u : Nat} (h : u < 10) : digI u = [48 + (u : Int)] := by
  unfold digI
  rw [Lib.decDigits, dif_pos h]
  simp only [List.map_cons, List.map_nil, UInt8.toNat_ofNat']
  congr 1
  omega
theorem digI_more {u : Nat} (h : ¬ u < 10) : digI u = digI (u / 10) ++ [48 + ((u % 10 : Nat) : Int)] := by
  unfold digI
  rw [Lib.decDigits, dif_neg h]
  simp only [List.map_append, List.map_cons, List.map_nil, UInt8.toNat_ofNat']
  congr 2
  omega
theorem digI_len (u : Nat) : (digI u).length = Lib.nDigits u := by unfold digI; rw [List.length_map, Lib.decDigits_length]
theorem digI_str (u : Nat) : strOfNums (digI u) = ⟨(Lib.decDigits u).toArray⟩ := by
  unfold strOfNums digI
  rw [List.map_map]
  congr 2
  have e : ((fun n : Int => UInt8.ofNat n.toNat) ∘ fun b : UInt8 => (b.toNat : Int)) = id := by
    funext b
    simp only [Function.comp_apply, Int.toNat_natCast, UInt8.ofNat_toNat, id]
  rw [e, List.map_id]
theorem tdiv10 (x : Int) : (Int.tdiv x 10).natAbs = x.natAbs / 10 := by rw [Int.natAbs_tdiv]; rfl
theorem tmod10 (x : Int) : (Int.tmod x 10).natAbs = x.natAbs % 10 := by rw [Int.natAbs_tmod]; rfl
theorem dec_loop (n : Int) (r : ByteArray) : ∀ (m : Nat) (x : Int) (out : List Int), x.natAbs ≤ m → x ≠ 0 → -9223372036854775808 ≤ x → x ≤ 9223372036854775807 → out.length + Lib.nDigits x.natAbs ≤ 100 →
    Ev (fun k => spec_l01Dec.l0 k n (digI x.natAbs ++ out) 0) r → Ev (fun k => spec_l01Dec.l0 k n out x) r := by
  intro m
  induction m with
  | zero => intro x out h1 h2; omega
  | succ m ih =>
    intro x out h1 h2 h3 h4 h5 hr
    have d1 := tdiv10 x
    have d2 := tmod10 x
    have np := Lib.nDigits_pos x.natAbs
    have q10 : ((x.natAbs % 10 : Nat) : Int) < 10 := Int.ofNat_lt.2 (Nat.mod_lt _ (by decide))
    have e256 : (48 + ((x.natAbs % 10 : Nat) : Int)) % 256 = 48 + ((x.natAbs % 10 : Nat) : Int) := by
      exact Int.emod_eq_of_lt (by have := Int.natCast_nonneg (x.natAbs % 10); omega) (by omega)
    have key : ∀ c : Int, c = 48 + ((x.natAbs % 10 : Nat) : Int) → Ev (fun k => spec_l01Dec.l0 k n ([c] ++ out) (wrap64 (Int.tdiv x 10))) r := by
      intro c hc
      have w : wrap64 (Int.tdiv x 10) = Int.tdiv x 10 := w64 (by omega) (by omega)
      rw [w]
      by_cases hx : x.natAbs < 10
      · have e0 : Int.tdiv x 10 = 0 := by omega
        rw [digI_one hx] at hr
        rw [e0, hc, Nat.mod_eq_of_lt hx]
        exact hr
      · rw [digI_more hx, ← hc, List.append_assoc, ← d1] at hr
        rw [Lib.nDigits_big hx] at h5
        exact ih (Int.tdiv x 10) ([c] ++ out) (by omega) (by omega) (by omega) (by omega) (by rw [d1]; simp only [List.length_append, List.length_singleton]; omega) hr
    refine ev_succ ?_
    by_cases hs : Int.tmod x 10 < 0
    · have w1 : wrap64 (-(Int.tmod x 10)) = ((x.natAbs % 10 : Nat) : Int) := by rw [w64 (by omega) (by omega)]; omega
      have w2 : wrap64 (48 + ((x.natAbs % 10 : Nat) : Int)) = 48 + ((x.natAbs % 10 : Nat) : Int) := w64 (by omega) (by omega)
      simp only [spec_l01Dec.l0, h2, hs, if_true, if_false, Option.bind_some, w1, w2, List.length_singleton, show 1 + out.length < 140737488355328 by omega]
      exact key _ e256
    · have w1 : wrap64 (48 + Int.tmod x 10) = 48 + ((x.natAbs % 10 : Nat) : Int) := by rw [w64 (by omega) (by omega)]; omega
      simp only [spec_l01Dec.l0, h2, hs, if_true, if_false, Option.bind_some, w1, List.length_singleton, show 1 + out.length < 140737488355328 by omega]
      exact key _ e256
theorem nDigits_le (u : Nat) (h : u ≤ 9223372036854775808) : Lib.nDigits u ≤ 20 := by
  have step : ∀ (d u : Nat), u < 10 ^ d → Lib.nDigits u ≤ d + 1 := by
    intro d
    induction d with
    | zero => intro u h; rw [Lib.nDigits_small (by simp at h; omega)]; omega
    | succ d ih =>
      intro u h
      by_cases c : u < 10
      · rw [Lib.nDigits_small c]; omega
      · rw [Lib.nDigits_big c]
        have := ih (u / 10) (by rw [Nat.pow_succ] at h; omega)
        omega
  exact step 19 u (by omega)
theorem append45 (l : List UInt8) : (⟨#[45]⟩ : ByteArray) ++ (⟨l.toArray⟩ : ByteArray) = ⟨(45 :: l).toArray⟩ := by
  apply ByteArray.ext
  rw [ByteArray.data_append]
  simp
theorem spec_l01Dec_ev (n : Int) (h0 : -9223372036854775808 ≤ n) (h1 : n ≤ 9223372036854775807) : Ev (fun k => spec_l01Dec.f k n) (decV n) := by
  simp only [spec_l01Dec.f]
  by_cases hz : n = 0
  · subst hz
    refine ev_succ ?_
    simp only [spec_l01Dec.l0, if_true, List.length_nil]
    refine ev_to (ev_now _) ?_
    unfold decV Lib.itoa
    rw [if_neg (by decide), Lib.decDigits, dif_pos (by decide)]
    rfl
  · have np := Lib.nDigits_pos n.natAbs
    have nl := nDigits_le n.natAbs (by omega)
    refine dec_loop n _ n.natAbs n [] (Nat.le_refl _) hz h0 h1 (by simp only [List.length_nil]; omega) ?_
    refine ev_succ ?_
    simp only [spec_l01Dec.l0, if_true, List.append_nil, digI_len, show ¬ ((Lib.nDigits n.natAbs : Nat) : Int) = 0 by omega, if_false]
    by_cases hs : n < 0
    · simp only [hs, if_true, strOfNums_size, digI_len, show 1 + Lib.nDigits n.natAbs ≤ 9223372036854775807 by omega]
      refine ev_to (ev_now _) ?_
      unfold decV Lib.itoa
      rw [digI_str, append45, if_pos hs]
    · simp only [hs, if_false]
      refine ev_to (ev_now _) ?_
      unfold decV Lib.itoa
      rw [digI_str, if_neg hs, show n.natAbs = n.toNat by omega]
theorem impl_Decimal_eq (n : Int) (h0 : -9223372036854775808 ≤ n) (h1 : n ≤ 9223372036854775807) : impl_Decimal.f n = some (decV n) := by
  simp only [impl_Decimal.f, strconv_FormatInt.f, h0, h1, and_self, if_true, Option.bind_some]
  rfl

/-! ### numbers read -/
def isDig (b : UInt8) : Bool := decide (48 ≤ (b.toNat : Int)) && decide ((b.toNat : Int) ≤ 57)
def digV (l : List UInt8) : Int := l.foldl (fun a b => 10 * a + ((b.toNat : Int) - 48)) 0
theorem digV_snoc (l : List UInt8) (b : UInt8) : digV (l ++ [b]) = 10 * digV l + ((b.toNat : Int) - 48) := by unfold digV; rw [List.foldl_append]; rfl
theorem digV_fold : ∀ (l : List UInt8) (a : Int), 0 ≤ a → l.all isDig = true → 0 ≤ l.foldl (fun a b => 10 * a + ((b.toNat : Int) - 48)) a ∧ l.foldl (fun a b => 10 * a + ((b.toNat : Int) - 48)) a + 1 ≤ (a + 1) * 10 ^ l.length
  | [], a, h, _ => by simp only [List.foldl_nil, List.length_nil, Int.pow_zero, Int.mul_one]; omega
  | b :: l, a, h, hd => by
    rw [List.all_cons, Bool.and_eq_true] at hd
    have hb := hd.1
    unfold isDig at hb
    simp only [Bool.and_eq_true, decide_eq_true_eq] at hb
    obtain ⟨h1, h2⟩ := digV_fold l (10 * a + ((b.toNat : Int) - 48)) (by omega) hd.2
    rw [List.foldl_cons, List.length_cons, Int.pow_succ]
    refine ⟨h1, Int.le_trans h2 ?_⟩
    have p : (0 : Int) ≤ 10 ^ l.length := Int.pow_nonneg (by decide)
    have m := Int.mul_le_mul_of_nonneg_right (show 10 * a + ((b.toNat : Int) - 48) + 1 ≤ (a + 1) * 10 by omega) p
    rw [Int.mul_assoc] at m
    rw [Int.mul_comm (10 ^ l.length) 10]
    exact m
theorem digV_bound (l : List UInt8) (h : l.all isDig = true) (hl : l.length ≤ 18) : 0 ≤ digV l ∧ digV l + 1 ≤ 1000000000000000000 := by
  have := digV_fold l 0 (Int.le_refl _) h
  have e : (10 : Int) ^ l.length ≤ 10 ^ 18 := by
    have := Nat.pow_le_pow_right (show 0 < 10 by decide) hl
    exact_mod_cast this
  unfold digV
  refine ⟨this.1, ?_⟩
  have h2 := this.2
  rw [show ((0 : Int) + 1) * 10 ^ l.length = 10 ^ l.length by omega] at h2
  have e2 : (10 : Int) ^ 18 = 1000000000000000000 := by decide
  omega
def endV (s : ByteArray) (n : Int) : Int × Bool := if (decV n).toList = s.toList then (n, true) else (0, false)
def numT (s t : ByteArray) : Int × Bool := if t.data.toList.all isDig = true then (if (t.size : Int) < (s.size : Int) then endV s (-digV t.data.toList) else endV s (digV t.data.toList)) else (0, false)
def strip (s : ByteArray) : ByteArray := toBA (Lib.trimPrefix s.data.toList [45])
def numV (s : ByteArray) : Int × Bool := if (strip s).size < 1 ∨ (strip s).size > 18 then (0, false) else numT s (strip s)
theorem all_take {α : Type} (l : List α) (p : α → Bool) {n : Nat} (h : n < l.length) : (l.take (n + 1)).all p = ((l.take n).all p && p l[n]) := by
  rw [List.take_succ_eq_append_getElem h, List.all_append, List.all_cons, List.all_nil, Bool.and_true]
theorem all_no {α : Type} (l : List α) (p : α → Bool) {n : Nat} (h : n < l.length) (hp : p l[n] = false) : l.all p = false := by
  rw [List.all_eq_false]; exact ⟨l[n], List.getElem_mem h, by simp [hp]⟩
theorem digV_take (l : List UInt8) {n : Nat} (h : n < l.length) : digV (l.take (n + 1)) = 10 * digV (l.take n) + ((l[n].toNat : Int) - 48) := by
  rw [List.take_succ_eq_append_getElem h, digV_snoc]
theorem spec_num_loop (s t : ByteArray) (ht : t.size ≤ 18) : Ev (fun k => spec_l01Number.l0 k s t 0 0) (numT s t) := by
  suffices key : ∃ r, Ev (fun k => spec_l01Number.l0 k s t 0 0) r ∧ r = numT s t by obtain ⟨r, hr, e⟩ := key; exact e ▸ hr
  have hl : t.data.toList.length = t.size := Array.length_toList
  refine ev_loop (len := t.size) (g := fun k v i => spec_l01Number.l0 k s t v i) (fun n v => v = digV (t.data.toList.take n) ∧ (t.data.toList.take n).all isDig = true) (fun r => r = numT s t) ?_ ?_ 0 ⟨rfl, rfl⟩
  · intro n v hn ⟨hv, hd⟩
    have bd := digV_bound _ hd (by rw [List.length_take]; omega)
    have bd1 : n < 18 := by omega
    have fo := (digV_fold (t.data.toList.take n) 0 (Int.le_refl _) hd).2
    have e17 : (10 : Int) ^ (t.data.toList.take n).length ≤ 10 ^ 17 := by
      have := Nat.pow_le_pow_right (show 0 < 10 by decide) (show (t.data.toList.take n).length ≤ 17 by rw [List.length_take]; omega)
      exact_mod_cast this
    have e2 : (10 : Int) ^ 17 = 100000000000000000 := by decide
    have bd2 : v + 1 ≤ 100000000000000000 := by
      rw [hv]; unfold digV
      rw [show ((0 : Int) + 1) * 10 ^ (t.data.toList.take n).length = 10 ^ (t.data.toList.take n).length by omega] at fo
      omega
    have hb := bt_get t hn
    have hn' : n < t.data.toList.length := by omega
    generalize hc : t.data.toList[n] = c at hb
    have hcr : (c.toNat : Int) < 256 := by have := c.toNat_lt; omega
    have hc0 : (0 : Int) ≤ (c.toNat : Int) := Int.natCast_nonneg _
    rw [← hv] at bd
    cases hp : isDig c with
    | true =>
      have hp' := hp
      unfold isDig at hp'
      simp only [Bool.and_eq_true, decide_eq_true_eq] at hp'
      refine .inr ⟨10 * v + ((c.toNat : Int) - 48), ⟨by rw [digV_take _ hn', hc, hv], by rw [all_take _ _ hn', hd, hc, hp]; rfl⟩, fun r hr => ev_succ ?_⟩
      simp only [spec_l01Number.l0, Int.ofNat_lt.2 hn, show (0 : Int) ≤ (n : Int) from Int.natCast_nonneg _, if_true, spec_l01Digit.f, hb, show (c.toNat : Int) ≥ 48 by omega, Option.bind_some, show (c.toNat : Int) ≤ 57 by omega, decide_true,
        w64 (n := 10 * v) (by omega) (by omega), show ((c.toNat : Int) - 48) % 256 = (c.toNat : Int) - 48 by omega, w64 (n := 10 * v + ((c.toNat : Int) - 48)) (by omega) (by omega), wnext hn (by omega : t.size ≤ 9223372036854775807)]
      exact hr
    | false =>
      refine .inl ⟨(0, false), ev_succ ?_, by unfold numT; rw [all_no _ isDig hn' (by rw [hc, hp])]; rfl⟩
      by_cases h48 : (c.toNat : Int) ≥ 48
      · have h57 : ¬ (c.toNat : Int) ≤ 57 := by
          intro h; unfold isDig at hp; simp only [show 48 ≤ (c.toNat : Int) by omega, h, decide_true, Bool.and_self] at hp; cases hp
        simp only [spec_l01Number.l0, Int.ofNat_lt.2 hn, show (0 : Int) ≤ (n : Int) from Int.natCast_nonneg _, if_true, spec_l01Digit.f, hb, h48, Option.bind_some, h57, decide_false, Bool.false_eq_true, if_false]
        exact ev_now _
      · simp only [spec_l01Number.l0, Int.ofNat_lt.2 hn, show (0 : Int) ≤ (n : Int) from Int.natCast_nonneg _, if_true, spec_l01Digit.f, hb, h48, Option.bind_some, Bool.false_eq_true, if_false]
        exact ev_now _
  · intro v ⟨hv, hd⟩
    rw [List.take_of_length_le (by omega)] at hv hd
    have bd := digV_bound _ hd (by omega)
    rw [← hv] at bd
    refine ⟨_, ev_succ ?_, rfl⟩
    unfold numT
    rw [if_pos hd, ← hv]
    simp only [spec_l01Number.l0, Int.lt_irrefl, if_false, w64 (n := -v) (by omega) (by omega)]
    by_cases hs : (t.size : Int) < (s.size : Int)
    · simp only [hs, if_true]
      refine Ev.bind (spec_l01Dec_ev (-v) (by omega) (by omega)) ?_
      unfold endV
      by_cases he : (decV (-v)).toList = s.toList
      · simp only [he, if_true]; exact ev_now _
      · simp only [he, if_false]; exact ev_now _
    · simp only [hs, if_false]
      refine Ev.bind (spec_l01Dec_ev v (by omega) (by omega)) ?_
      unfold endV
      by_cases he : (decV v).toList = s.toList
      · simp only [he, if_true]; exact ev_now _
      · simp only [he, if_false]; exact ev_now _
theorem impl_num_loop (s t : ByteArray) (ht : t.size ≤ 18) : Ev (fun k => impl_ReadDecimal.l0 k s t 0 0) (numT s t) := by
  suffices key : ∃ r, Ev (fun k => impl_ReadDecimal.l0 k s t 0 0) r ∧ r = numT s t by obtain ⟨r, hr, e⟩ := key; exact e ▸ hr
  have hl : t.data.toList.length = t.size := Array.length_toList
  refine ev_loop (len := t.size) (g := fun k v i => impl_ReadDecimal.l0 k s t v i) (fun n v => v = digV (t.data.toList.take n) ∧ (t.data.toList.take n).all isDig = true) (fun r => r = numT s t) ?_ ?_ 0 ⟨rfl, rfl⟩
  · intro n v hn ⟨hv, hd⟩
    have bd := digV_bound _ hd (by rw [List.length_take]; omega)
    have fo := (digV_fold (t.data.toList.take n) 0 (Int.le_refl _) hd).2
    have e17 : (10 : Int) ^ (t.data.toList.take n).length ≤ 10 ^ 17 := by
      have := Nat.pow_le_pow_right (show 0 < 10 by decide) (show (t.data.toList.take n).length ≤ 17 by rw [List.length_take]; omega)
      exact_mod_cast this
    have e2 : (10 : Int) ^ 17 = 100000000000000000 := by decide
    have bd2 : v + 1 ≤ 100000000000000000 := by
      rw [hv]; unfold digV
      rw [show ((0 : Int) + 1) * 10 ^ (t.data.toList.take n).length = 10 ^ (t.data.toList.take n).length by omega] at fo
      omega
    have hb := bt_get t hn
    have hn' : n < t.data.toList.length := by omega
    generalize hc : t.data.toList[n] = c at hb
    have hcr : (c.toNat : Int) < 256 := by have := c.toNat_lt; omega
    have hc0 : (0 : Int) ≤ (c.toNat : Int) := Int.natCast_nonneg _
    rw [← hv] at bd
    cases hp : isDig c with
    | true =>
      have hp' := hp
      unfold isDig at hp'
      simp only [Bool.and_eq_true, decide_eq_true_eq] at hp'
      refine .inr ⟨10 * v + ((c.toNat : Int) - 48), ⟨by rw [digV_take _ hn', hc, hv], by rw [all_take _ _ hn', hd, hc, hp]; rfl⟩, fun r hr => ev_succ ?_⟩
      simp only [impl_ReadDecimal.l0, Int.ofNat_lt.2 hn, show (0 : Int) ≤ (n : Int) from Int.natCast_nonneg _, if_true, hb, show ¬ (c.toNat : Int) < 48 by omega, show ¬ (c.toNat : Int) > 57 by omega, if_false,
        w64 (n := 10 * v) (by omega) (by omega), show ((c.toNat : Int) - 48) % 256 = (c.toNat : Int) - 48 by omega, w64 (n := 10 * v + ((c.toNat : Int) - 48)) (by omega) (by omega), wnext hn (by omega : t.size ≤ 9223372036854775807)]
      exact hr
    | false =>
      refine .inl ⟨(0, false), ev_succ ?_, by unfold numT; rw [all_no _ isDig hn' (by rw [hc, hp])]; rfl⟩
      by_cases h48 : (c.toNat : Int) < 48
      · simp only [impl_ReadDecimal.l0, Int.ofNat_lt.2 hn, show (0 : Int) ≤ (n : Int) from Int.natCast_nonneg _, if_true, hb, h48]
        exact ev_now _
      · have h57 : (c.toNat : Int) > 57 := by
          refine Int.not_le.1 fun h => ?_
          unfold isDig at hp; simp only [show 48 ≤ (c.toNat : Int) by omega, h, decide_true, Bool.and_self] at hp; cases hp
        simp only [impl_ReadDecimal.l0, Int.ofNat_lt.2 hn, show (0 : Int) ≤ (n : Int) from Int.natCast_nonneg _, if_true, hb, h48, h57, if_false]
        exact ev_now _
  · intro v ⟨hv, hd⟩
    rw [List.take_of_length_le (by omega)] at hv hd
    have bd := digV_bound _ hd (by omega)
    rw [← hv] at bd
    refine ⟨_, ev_succ ?_, rfl⟩
    unfold numT
    rw [if_pos hd, ← hv]
    simp only [impl_ReadDecimal.l0, Int.lt_irrefl, if_false, w64 (n := -v) (by omega) (by omega), impl_Decimal_eq v (by omega) (by omega), impl_Decimal_eq (-v) (by omega) (by omega), Option.bind_some]
    unfold endV
    by_cases hs : (t.size : Int) < (s.size : Int)
    · simp only [hs, if_true]
      by_cases he : (decV (-v)).toList = s.toList
      · simp only [he, if_true]; exact ev_now _
      · simp only [he, if_false]; exact ev_now _
    · simp only [hs, if_false]
      by_cases he : (decV v).toList = s.toList
      · simp only [he, if_true]; exact ev_now _
      · simp only [he, if_false]; exact ev_now _
theorem spec_num_rest (s t : ByteArray) : Ev (fun k => spec_l01Number.j1 k s t) (if t.size < 1 ∨ t.size > 18 then (0, false) else numT s t) := by
  refine ev_succ ?_
  by_cases h1 : (t.size : Int) < 1
  · simp only [spec_l01Number.j1, h1, if_true, show t.size < 1 ∨ t.size > 18 by omega]
    refine ev_succ ?_
    simp only [spec_l01Number.j2, if_true]; exact ev_now _
  · by_cases h2 : (t.size : Int) > 18
    · simp only [spec_l01Number.j1, h1, h2, if_false, decide_true, if_true, show t.size < 1 ∨ t.size > 18 by omega]
      refine ev_succ ?_
      simp only [spec_l01Number.j2, if_true]; exact ev_now _
    · simp only [spec_l01Number.j1, h1, h2, if_false, decide_false, show ¬ (t.size < 1 ∨ t.size > 18) by omega]
      refine ev_succ ?_
      simp only [spec_l01Number.j2, Bool.false_eq_true, if_false]; exact spec_num_loop s t (by omega)
theorem spec_l01Number_ev (s : ByteArray) (hs : s.size ≤ 140737488351232) : Ev (fun k => spec_l01Number.f k s) (numV s) := by
  have hl : s.data.toList.length = s.size := Array.length_toList
  unfold numV
  by_cases h0 : s.size = 0
  · have e : strip s = s := by
      unfold strip Lib.trimPrefix
      have : s.data.toList = [] := List.length_eq_zero_iff.1 (by omega)
      rw [this]
      apply ByteArray.ext
      apply Array.ext'
      rw [data_toBA, this]
      rfl
    have e2 : s.toList = ([] : List UInt8) := by rw [← List.length_eq_zero_iff, ByteArray.toList_eq, hl]; exact h0
    rw [e]
    simp only [spec_l01Number.f, e2, if_true]
    refine ev_succ ?_
    simp only [spec_l01Number.j0, Bool.false_eq_true, if_false]
    exact spec_num_rest s s
  · have e2 : ¬ s.toList = ([] : List UInt8) := by rw [← List.length_eq_zero_iff, ByteArray.toList_eq, hl]; exact h0
    have hb := bt_get s (show 0 < s.size by omega)
    simp only [spec_l01Number.f, e2, if_false, show 0 < (s.size : Int) by omega, if_true]
    refine ev_succ ?_
    obtain ⟨b, l, hbl⟩ : ∃ b l, s.data.toList = b :: l := by
      cases h : s.data.toList with
      | nil => rw [h] at hl; simp at hl; omega
      | cons b l => exact ⟨b, l, rfl⟩
    have hb2 : bt s 0 = (b.toNat : Int) := by
      have : bt s ((0 : Nat) : Int) = _ := hb
      simp only [hbl, List.getElem_cons_zero] at this
      exact this
    rw [hb2]
    by_cases h45 : b = 45
    · have e3 : ((b.toNat : Int) == 45) = true := by subst h45; rfl
      have e4 : strip s = s.extract 1 s.size := by
        unfold strip Lib.trimPrefix Lib.hasPrefix
        rw [extract_BA, hbl, h45]
        congr 1
        have : l.length = s.size - 1 := by rw [hbl] at hl; simp at hl; omega
        simp [List.isPrefixOf, ← this]
      rw [e4]
      simp only [spec_l01Number.j0, e3, if_true, show 1 ≤ (s.size : Int) by omega]
      exact spec_num_rest s _
    · have ne : ¬ (b.toNat : Int) = 45 := by
        intro h
        exact h45 (UInt8.toNat_inj.1 (show b.toNat = 45 by omega))
      have e3 : ((b.toNat : Int) == 45) = false := beq_eq_false_iff_ne.2 ne
      have e4 : strip s = s := by
        unfold strip Lib.trimPrefix Lib.hasPrefix
        rw [hbl, show List.isPrefixOf [45] (b :: l) = false by simp [List.isPrefixOf, Ne.symm h45]]
        simp only [Bool.false_eq_true, if_false]
        rw [← hbl, toBA_data]
      rw [e4]
      simp only [spec_l01Number.j0, e3, Bool.false_eq_true, if_false]
      exact spec_num_rest s s
theorem impl_ReadDecimal_ev (s : ByteArray) : Ev (fun k => impl_ReadDecimal.f k s) (numV s) := by
  have e : strings_TrimPrefix.f s (⟨#[45]⟩ : ByteArray) = some (strip s) := rfl
  simp only [impl_ReadDecimal.f, e, Option.bind_some]
  unfold numV
  generalize strip s = t
  by_cases h1 : (t.size : Int) < 1
  · simp only [h1, if_true, show t.size < 1 ∨ t.size > 18 by omega]
    refine ev_succ ?_
    simp only [impl_ReadDecimal.j0, if_true]; exact ev_now _
  · by_cases h2 : (t.size : Int) > 18
    · simp only [h1, h2, if_false, decide_true, if_true, show t.size < 1 ∨ t.size > 18 by omega]
      refine ev_succ ?_
      simp only [impl_ReadDecimal.j0, if_true]; exact ev_now _
    · simp only [h1, h2, if_false, decide_false, show ¬ (t.size < 1 ∨ t.size > 18) by omega]
      refine ev_succ ?_
      simp only [impl_ReadDecimal.j0, Bool.false_eq_true, if_false]; exact impl_num_loop s t (by omega)

theorem splA_no (c : UInt8) : ∀ (l cur : List UInt8), c ∉ l → splA c cur l = [cur ++ l]
  | [], cur, _ => by simp [splA]
  | b :: l, cur, h => by
    simp only [List.mem_cons, not_or] at h
    rw [splA_cons, if_neg (fun e => h.1 e.symm), splA_no c l _ h.2]
    simp
theorem splA_app (c : UInt8) (q : List UInt8) : ∀ (p cur : List UInt8), c ∉ p → splA c cur (p ++ c :: q) = (cur ++ p) :: splA c [] q
  | [], cur, _ => by rw [List.nil_append, splA_cons, if_pos rfl, List.append_nil]
  | b :: p, cur, h => by
    simp only [List.mem_cons, not_or] at h
    rw [List.cons_append, splA_cons, if_neg (fun e => h.1 e.symm), splA_app c q p _ h.2]
    simp
theorem first_split (c : UInt8) : ∀ (l : List UInt8), c ∈ l → ∃ p q, l = p ++ c :: q ∧ c ∉ p
  | [], h => by simp at h
  | b :: l, h => by
    by_cases e : b = c
    · exact ⟨[], l, by rw [e]; rfl, by simp⟩
    · obtain ⟨p, q, h1, h2⟩ := first_split c l (by
        rcases List.mem_cons.1 h with h | h
        · exact absurd h.symm e
        · exact h)
      refine ⟨b :: p, q, by rw [h1]; rfl, ?_⟩
      simp only [List.mem_cons, not_or]
      exact ⟨fun h => e h.symm, h2⟩
theorem splA_pos (c : UInt8) : ∀ (l cur : List UInt8), 1 ≤ (splA c cur l).length
  | [], cur => by simp [splA]
  | b :: l, cur => by
    rw [splA_cons]
    split
    · simp
    · exact splA_pos c l _
theorem splA_one (c : UInt8) {l b : List UInt8} (h : splA c [] l = [b]) : c ∉ l ∧ b = l := by
  by_cases hm : c ∈ l
  · obtain ⟨p, q, h1, h2⟩ := first_split c l hm
    rw [h1, splA_app c q p [] h2] at h
    have := splA_pos c q []
    have h3 := congrArg List.length h
    simp only [List.length_cons, List.length_nil] at h3
    omega
  · rw [splA_no c l [] hm] at h
    simp only [List.nil_append, List.cons.injEq, and_true] at h
    exact ⟨hm, h.symm⟩
theorem splA_two (c : UInt8) {l a b : List UInt8} (h : splA c [] l = [a, b]) : l = a ++ c :: b ∧ c ∉ a ∧ c ∉ b := by
  by_cases hm : c ∈ l
  · obtain ⟨p, q, h1, h2⟩ := first_split c l hm
    rw [h1, splA_app c q p [] h2, List.nil_append] at h
    obtain ⟨e1, e2⟩ := List.cons.inj h
    obtain ⟨h3, h4⟩ := splA_one c e2
    subst e1
    rw [h4]
    exact ⟨h1, h2, h3⟩
  · rw [splA_no c l [] hm] at h
    simp at h
theorem toList_data (s : ByteArray) : s.toList = s.data.toList := by rw [ByteArray.toList_eq]
theorem rdOf_map (L : List (List UInt8)) (i : Nat) (h : i < L.length) : rdOf ByteArray.empty (L.map toBA) (i : Int) = toBA L[i] := by
  unfold rdOf
  rw [Int.toNat_natCast, List.getD_eq_getElem?_getD, List.getElem?_map, List.getElem?_eq_getElem h]
  rfl
/-- A text that bears a byte that is no digit and no sign is no number. -/
theorem numV_no (l : List UInt8) (c : UInt8) (hc : c ∈ l) (h45 : c ≠ 45) (hd : isDig c = false) : (numV (toBA l)).2 = false := by
  have hm : c ∈ Lib.trimPrefix l [45] := by
    unfold Lib.trimPrefix Lib.hasPrefix
    split
    · cases l with
      | nil => simp at hc
      | cons b l =>
        rename_i hp
        simp only [List.isPrefixOf, Bool.and_true, beq_iff_eq] at hp
        simp only [List.length_singleton, List.drop_succ_cons, List.drop_zero]
        rcases List.mem_cons.1 hc with e | e
        · exact absurd (e.trans hp.symm) h45
        · exact e
    · exact hc
  have hn : (Lib.trimPrefix l [45]).all isDig = false := by
    rw [List.all_eq_false]; exact ⟨c, hm, by simp [hd]⟩
  unfold numV
  split
  · rfl
  · unfold numT strip
    rw [data_toBA, data_toBA, hn]
    rfl
theorem splA_part (c : UInt8) (M : Nat) : ∀ (l cur : List UInt8), cur.length + l.length ≤ M → ∀ y ∈ splA c cur l, y.length ≤ M
  | [], cur, h, y, hy => by simp [splA] at hy; subst hy; simpa using h
  | b :: l, cur, h, y, hy => by
    rw [splA_cons] at hy
    simp only [List.length_cons] at h
    by_cases e : b = c
    · rw [if_pos e] at hy
      rcases List.mem_cons.1 hy with rfl | hy
      · omega
      · exact splA_part c M l [] (by simp; omega) y hy
    · rw [if_neg e] at hy
      exact splA_part c M l (cur ++ [b]) (by simp; omega) y hy
theorem cutB_part (c : UInt8) (s : ByteArray) (i : Int) : (rdOf ByteArray.empty (cutB c s) i).size ≤ s.size := by
  unfold rdOf
  rw [List.getD_eq_getElem?_getD]
  cases e : (cutB c s)[i.toNat]? with
  | none => simp [ByteArray.size_empty]
  | some y =>
    have hy := List.mem_of_getElem? e
    unfold cutB at hy
    obtain ⟨z, hz, rfl⟩ := List.mem_map.1 hy
    have := splA_part c s.data.toList.length s.data.toList [] (by simp) z hz
    rw [Array.length_toList] at this
    simp only [Option.getD_some]
    have e : (toBA z).size = z.length := by unfold toBA; simp [ByteArray.size]
    rw [e]; exact this

theorem spec_l01Small_eq (c : Int) : spec_l01Small.f c = some (decide (97 ≤ c ∧ c ≤ 122)) := by
  unfold spec_l01Small.f
  by_cases h : c ≥ 97
  · rw [if_pos h]; congr 1; simp; omega
  · rw [if_neg h]; congr 1; simp; omega
theorem spec_l01Digit_eq (c : Int) : spec_l01Digit.f c = some (decide (48 ≤ c ∧ c ≤ 57)) := by
  unfold spec_l01Digit.f
  by_cases h : c ≥ 48
  · rw [if_pos h]; congr 1; simp; omega
  · rw [if_neg h]; congr 1; simp; omega
theorem spec_IsName_loop (s : ByteArray) (hs : s.size ≤ 12) : Ev (fun k => spec_IsName.l0 k s 0) ((List.range s.size).all fun i => nameCh (bt s i)) := by
  refine ev_to (ev_all (len := s.size) (g := fun k i => spec_IsName.l0 k s i) (fun i => nameCh (bt s i)) true ?_ ?_ ?_) (by simp)
  · intro n hn hp r hr
    refine ev_succ ?_
    simp only [spec_IsName.l0, spec_l01Small_eq, spec_l01Digit_eq, Option.bind_some]
    simp only [Int.ofNat_lt.2 hn, if_true, show (0 : Int) ≤ (n : Int) from Int.natCast_nonneg n, wnext hn (by omega : s.size ≤ 9223372036854775807)]
    unfold nameCh at hp
    by_cases c1 : 97 ≤ bt s n ∧ bt s n ≤ 122
    · simpa [c1] using hr
    · by_cases c2 : 48 ≤ bt s n ∧ bt s n ≤ 57
      · simpa [c1, c2] using hr
      · by_cases c3 : bt s n = 45
        · simpa [c3] using hr
        · simp [c1, c2, c3] at hp
  · intro n hn hp
    refine ev_succ ?_
    simp only [spec_IsName.l0, spec_l01Small_eq, spec_l01Digit_eq, Option.bind_some]
    unfold nameCh at hp
    simp only [Bool.or_eq_false_iff, decide_eq_false_iff_not] at hp
    simp only [hp.1.1, hp.1.2, hp.2, Int.ofNat_lt.2 hn, show (0 : Int) ≤ (n : Int) from Int.natCast_nonneg n, if_true, if_false, decide_false, Bool.false_eq_true]
    exact ev_now _
  · refine ev_succ ?_
    simp only [spec_IsName.l0, Int.lt_irrefl, if_false]
    exact ev_now _
theorem toList_nil_iff (s : ByteArray) : s.toList = ([] : List UInt8) ↔ s.size = 0 := by
  rw [← List.length_eq_zero_iff, ByteArray.toList_eq, Array.length_toList]
  exact Iff.rfl
theorem spec_IsName_ev (s : ByteArray) : Ev (fun k => spec_IsName.f k s) (isNameB s) := by
  unfold spec_IsName.f isNameB
  by_cases h0 : s.size = 0
  · simp only [(toList_nil_iff s).2 h0, if_true, h0]
    refine ev_succ ?_
    simp only [spec_IsName.j0, if_true]
    exact ev_now _
  · have h0' : ¬ s.toList = ([] : List UInt8) := fun h => h0 ((toList_nil_iff s).1 h)
    simp only [h0', if_false]
    by_cases h1 : s.size ≤ 12
    · have e1 : ¬ ((s.size : Int) > 12) := by omega
      have e2 : (0 : Int) < (s.size : Int) := by omega
      simp only [e1, e2, if_true, if_false, spec_l01Small_eq, Option.bind_some]
      refine ev_succ ?_
      simp only [spec_IsName.j0]
      by_cases h2 : 97 ≤ bt s 0 ∧ bt s 0 ≤ 122
      · simp only [h2, decide_true, Bool.not_true, Bool.false_eq_true, if_false, and_self]
        refine ev_to (spec_IsName_loop s h1) ?_
        simp [show 1 ≤ s.size by omega, h1]
      · simp only [h2, decide_false, Bool.not_false, if_true]
        exact ev_to (ev_now _) (by simp)
    · have e1 : ((s.size : Int) > 12) := by omega
      simp only [e1, if_true]
      refine ev_succ ?_
      simp only [spec_IsName.j0, if_true]
      exact ev_to (ev_now _) (by simp [h1])
theorem impl_IsName_loop (s : ByteArray) (hs : s.size ≤ 12) : Ev (fun k => impl_IsName.l0 k s 0) ((List.range s.size).all fun i => nameCh (bt s i)) := by
  refine ev_to (ev_all (len := s.size) (g := fun k i => impl_IsName.l0 k s i) (fun i => nameCh (bt s i)) true ?_ ?_ ?_) (by simp)
  · intro n hn hp r hr
    refine ev_succ ?_
    simp only [impl_IsName.l0]
    unfold nameCh at hp
    simp only [Bool.or_eq_true, decide_eq_true_eq] at hp
    have e0 : (n : Int) < (s.size : Int) := by omega
    simp only [e0, show (0 : Int) ≤ (n : Int) from Int.natCast_nonneg n, if_true, wnext hn (by omega : s.size ≤ 9223372036854775807)]
    by_cases d1 : bt s n < 97 <;> by_cases d2 : bt s n > 122 <;> by_cases d3 : bt s n < 48 <;> by_cases d4 : bt s n > 57 <;> by_cases d5 : bt s n = 45 <;>
      first | (exfalso; omega) | (simp only [d1, d2, d3, d4, d5, if_true, if_false]; exact hr)
  · intro n hn hp
    refine ev_succ ?_
    simp only [impl_IsName.l0]
    unfold nameCh at hp
    simp only [Bool.or_eq_false_iff, decide_eq_false_iff_not] at hp
    have e0 : (n : Int) < (s.size : Int) := by omega
    simp only [e0, show (0 : Int) ≤ (n : Int) from Int.natCast_nonneg n, if_true]
    by_cases d1 : bt s n < 97 <;> by_cases d2 : bt s n > 122 <;> by_cases d3 : bt s n < 48 <;> by_cases d4 : bt s n > 57 <;> by_cases d5 : bt s n = 45 <;>
      first | (exfalso; omega) | (simp only [d1, d2, d3, d4, d5, if_true, if_false]; exact ev_now _)
  · refine ev_succ ?_
    simp only [impl_IsName.l0, Int.lt_irrefl, if_false]
    exact ev_now _
theorem impl_IsName_ev (s : ByteArray) : Ev (fun k => impl_IsName.f k s) (isNameB s) := by
  unfold impl_IsName.f isNameB
  by_cases h0 : s.size = 0
  · simp only [h0]
    refine ev_succ ?_
    simp only [impl_IsName.j0, if_true]
    exact ev_now _
  · have e3 : ¬ ((s.size : Int) < 1) := by omega
    simp only [e3, if_false]
    by_cases h1 : s.size ≤ 12
    · have e1 : ¬ ((s.size : Int) > 12) := by omega
      have e2 : (0 : Int) < (s.size : Int) := by omega
      simp only [e1, e2, if_true, if_false]
      by_cases h2 : bt s 0 < 97
      · simp only [h2, if_true]
        refine ev_succ ?_
        simp only [impl_IsName.j0, if_true]
        exact ev_to (ev_now _) (by simp; omega)
      · simp only [h2, if_false]
        refine ev_succ ?_
        simp only [impl_IsName.j0]
        by_cases h3 : bt s 0 > 122
        · simp only [h3, decide_true, if_true]
          exact ev_to (ev_now _) (by simp; omega)
        · simp only [h3, decide_false, Bool.false_eq_true, if_false]
          refine ev_to (impl_IsName_loop s h1) ?_
          simp [show 1 ≤ s.size by omega, h1, show 97 ≤ bt s 0 by omega, show bt s 0 ≤ 122 by omega]
    · have e1 : ((s.size : Int) > 12) := by omega
      simp only [e1, if_true]
      refine ev_succ ?_
      simp only [impl_IsName.j0, if_true]
      exact ev_to (ev_now _) (by simp [h1])

theorem spec_l00In_eq (a b c : Int) : spec_l00In.f a b c = some (decide (b ≤ a ∧ a ≤ c)) := by
  unfold spec_l00In.f
  by_cases h : a ≥ b
  · rw [if_pos h]; congr 1; simp; omega
  · rw [if_neg h]; congr 1; simp; omega

theorem impl_within_eq (a b c : Int) : impl_within.f a b c = some (decide (b ≤ a ∧ a ≤ c)) := by
  unfold impl_within.f
  by_cases h : a ≥ b
  · rw [if_pos h]; congr 1; simp; omega
  · rw [if_neg h]; congr 1; simp; omega

theorem spec_l02One_ev (s : ByteArray) (a b c : Int) : Ev (fun k => spec_l02One.f k s a b c) (ropeB s a b c, s, a, b, c) := by
  simp only [spec_l02One.f, spec_l00In_eq, Option.bind_some]
  refine Ev.bind (spec_IsName_ev s) ?_
  unfold ropeB
  cases isNameB s
  · exact ev_now _
  · by_cases h1 : 1 ≤ a ∧ a ≤ 1000
    · by_cases h2 : 1 ≤ b ∧ b ≤ 1000000
      · simp only [h1, h2, decide_true, if_true, Bool.true_and, and_self]; exact ev_now _
      · simp only [h1, h2, decide_true, decide_false, if_true, Bool.true_and, Bool.false_and, and_self, Bool.false_eq_true, if_false]; exact ev_now _
    · simp only [h1, decide_false, if_true, Bool.true_and, Bool.false_and, Bool.false_eq_true, if_false]; exact ev_now _
theorem impl_validRope_ev (s : ByteArray) (a b c : Int) : Ev (fun k => impl_validRope.f k s a b c) (ropeB s a b c) := by
  simp only [impl_validRope.f, impl_within_eq, Option.bind_some]
  refine Ev.bind (impl_IsName_ev s) ?_
  unfold ropeB
  cases isNameB s
  · exact ev_now _
  · by_cases h1 : 1 ≤ a ∧ a ≤ 1000
    · by_cases h2 : 1 ≤ b ∧ b ≤ 1000000
      · simp only [h1, h2, decide_true, if_true, Bool.true_and, and_self]; exact ev_now _
      · simp only [h1, h2, decide_true, decide_false, if_true, Bool.true_and, Bool.false_and, and_self, Bool.false_eq_true, if_false]; exact ev_now _
    · simp only [h1, decide_false, if_true, Bool.true_and, Bool.false_and, Bool.false_eq_true, if_false]; exact ev_now _

def noR : ByteArray × Int × Int × Int × Bool := ((⟨#[]⟩ : ByteArray), 0, 0, 0, false)
def ropeR (s : ByteArray) (a b c : Int × Bool) : ByteArray × Int × Int × Int × Bool := if a.2 = true then (if b.2 = true then (if c.2 = true then (if ropeB s a.1 b.1 c.1 = true then (s, a.1, b.1, c.1, true) else noR) else noR) else noR) else noR
def readR : List ByteArray → ByteArray × Int × Int × Int × Bool
  | [a, b, c, d, e, f, g] => if b.toList = ([115, 105, 122, 101] : List UInt8) then (if d.toList = ([115, 116, 114, 101, 110, 103, 116, 104] : List UInt8) then (if f.toList = ([119, 101, 105, 103, 104, 116] : List UInt8) then ropeR a (numV c) (numV e) (numV g) else noR) else noR) else noR
  | _ => noR
theorem seven {α : Type} {W : List α} (h : W.length = 7) : ∃ a b c d e f g, W = [a, b, c, d, e, f, g] := by
  match W, h with
  | [a, b, c, d, e, f, g], _ => exact ⟨a, b, c, d, e, f, g, rfl⟩
theorem readR_seven (a b c d e f g : ByteArray) : readR [a, b, c, d, e, f, g] = if b.toList = ([115, 105, 122, 101] : List UInt8) then (if d.toList = ([115, 116, 114, 101, 110, 103, 116, 104] : List UInt8) then (if f.toList = ([119, 101, 105, 103, 104, 116] : List UInt8) then ropeR a (numV c) (numV e) (numV g) else noR) else noR) else noR := rfl
theorem readR_not {W : List ByteArray} (h : ¬ W.length = 7) : readR W = noR := by
  unfold readR
  split
  · exact absurd rfl h
  · rfl
theorem spec_rope_j0 (a b c d e f g : ByteArray) (hc : c.size ≤ 1048576) (he : e.size ≤ 1048576) (hg : g.size ≤ 1048576) : Ev (fun k => spec_ReadRope.j0 k [a, b, c, d, e, f, g] false) (ropeR a (numV c) (numV e) (numV g)) := by
  refine ev_succ ?_
  have r2 : rdOf ByteArray.empty [a, b, c, d, e, f, g] 2 = c := rfl
  have r4 : rdOf ByteArray.empty [a, b, c, d, e, f, g] 4 = e := rfl
  have r6 : rdOf ByteArray.empty [a, b, c, d, e, f, g] 6 = g := rfl
  have r0 : rdOf ByteArray.empty [a, b, c, d, e, f, g] 0 = a := rfl
  have l7 : (([a, b, c, d, e, f, g] : List ByteArray).length : Int) = 7 := rfl
  simp only [spec_ReadRope.j0, Bool.false_eq_true, if_false, l7, show (2 : Int) < 7 by decide, show (4 : Int) < 7 by decide, show (6 : Int) < 7 by decide, show (0 : Int) < 7 by decide, if_true, r2, r4, r6, r0]
  refine Ev.bind (spec_l01Number_ev _ (by omega)) (Ev.bind (spec_l01Number_ev _ (by omega)) (Ev.bind (spec_l01Number_ev _ (by omega)) ?_))
  unfold ropeR
  cases h1 : (numV c).2
  · simp only [Bool.false_eq_true, if_false]; exact ev_now _
  · cases h2 : (numV e).2
    · simp only [Bool.false_eq_true, if_false, if_true]; exact ev_now _
    · cases h3 : (numV g).2
      · simp only [Bool.false_eq_true, if_false, if_true]; exact ev_now _
      · simp only [if_true]
        refine Ev.bind (spec_l02One_ev _ _ _ _) ?_
        cases ropeB a (numV c).1 (numV e).1 (numV g).1
        · simp only [Bool.false_eq_true, if_false]; exact ev_now _
        · simp only [if_true]; exact ev_now _
theorem spec_ReadRope_ev (s : ByteArray) (hs : s.size ≤ 1048576) : Ev (fun k => spec_ReadRope.f k s) (readR (cutB 32 s)) := by
  simp only [spec_ReadRope.f]
  refine Ev.bind (spec_l01Split_ev s hs 32) ?_
  have p2 := cutB_part 32 s 2
  have p4 := cutB_part 32 s 4
  have p6 := cutB_part 32 s 6
  generalize cutB 32 s = W at p2 p4 p6
  have bad : ∀ V, Ev (fun k => spec_ReadRope.j0 k V true) noR := fun V => by
    refine ev_succ ?_
    simp only [spec_ReadRope.j0, if_true]; exact ev_now _
  by_cases h7 : W.length = 7
  · obtain ⟨a, b, c, d, e, f, g, rfl⟩ := seven h7
    have r1 : rdOf ByteArray.empty [a, b, c, d, e, f, g] 1 = b := rfl
    have r3 : rdOf ByteArray.empty [a, b, c, d, e, f, g] 3 = d := rfl
    have r5 : rdOf ByteArray.empty [a, b, c, d, e, f, g] 5 = f := rfl
    have l7 : (([a, b, c, d, e, f, g] : List ByteArray).length : Int) = 7 := rfl
    have q2 : c.size ≤ s.size := p2
    have q4 : e.size ≤ s.size := p4
    have q6 : g.size ≤ s.size := p6
    simp only [l7, if_true, show (1 : Int) < 7 by decide, show (3 : Int) < 7 by decide, show (5 : Int) < 7 by decide, r1, r3, r5, readR]
    by_cases c1 : b.toList = ([115, 105, 122, 101] : List UInt8)
    · by_cases c2 : d.toList = ([115, 116, 114, 101, 110, 103, 116, 104] : List UInt8)
      · by_cases c3 : f.toList = ([119, 101, 105, 103, 104, 116] : List UInt8)
        · have e3 : (f.toList != ([119, 101, 105, 103, 104, 116] : List UInt8)) = false := by rw [c3]; rfl
          simp only [c1, c2, e3, if_true]
          rw [if_pos c3]
          exact spec_rope_j0 a b c d e f g (by omega) (by omega) (by omega)
        · have e3 : (f.toList != ([119, 101, 105, 103, 104, 116] : List UInt8)) = true := by rw [bne_iff_ne]; exact c3
          simp only [c1, c2, c3, e3, if_true, if_false]
          exact bad _
      · simp only [c1, c2, if_true, if_false]
        exact bad _
    · simp only [c1, if_false]
      exact bad _
  · rw [readR_not h7]
    simp only [show ¬ (W.length : Int) = 7 by omega, if_false]
    exact bad _
theorem nums_word {xs fm : List ByteArray} {out : List Int} {n : Nat} {r : List Int × Bool} (hf : fm.length ≤ 100) (hn : n < fm.length) (hx : n < xs.length) (he : ¬ (rdOf ByteArray.empty fm (n : Int)).toList = ([] : List UInt8)) :
    ((rdOf ByteArray.empty xs (n : Int)).toList = (rdOf ByteArray.empty fm (n : Int)).toList → Ev (fun k => impl_numbersIn.l0 k xs out fm (fm.length : Int) ((n + 1 : Nat) : Int)) r) → (¬ (rdOf ByteArray.empty xs (n : Int)).toList = (rdOf ByteArray.empty fm (n : Int)).toList → r = ([], false)) →
    Ev (fun k => impl_numbersIn.l0 k xs out fm (fm.length : Int) (n : Int)) r := by
  intro h1 h2
  refine ev_succ ?_
  by_cases c : (rdOf ByteArray.empty xs (n : Int)).toList = (rdOf ByteArray.empty fm (n : Int)).toList
  · have he' : ¬ (rdOf ByteArray.empty xs (n : Int)).toList = ([] : List UInt8) := by rw [c]; exact he
    have hr := h1 c
    simp only [impl_numbersIn.l0, Int.ofNat_lt.2 hn, Int.ofNat_lt.2 hx, show (0 : Int) ≤ (n : Int) from Int.natCast_nonneg _, if_true, he, if_false, c, wnext hn (by omega : fm.length ≤ 9223372036854775807)]
    exact hr
  · rw [h2 c]
    simp only [impl_numbersIn.l0, Int.ofNat_lt.2 hn, Int.ofNat_lt.2 hx, show (0 : Int) ≤ (n : Int) from Int.natCast_nonneg _, if_true, he, if_false, c]
    exact ev_now _
theorem nums_num {xs fm : List ByteArray} {out : List Int} {n : Nat} {r : List Int × Bool} (hf : fm.length ≤ 100) (hn : n < fm.length) (hx : n < xs.length) (ho : out.length ≤ 100) (he : (rdOf ByteArray.empty fm (n : Int)).toList = ([] : List UInt8)) :
    ((numV (rdOf ByteArray.empty xs (n : Int))).2 = true → Ev (fun k => impl_numbersIn.l0 k xs (out ++ [(numV (rdOf ByteArray.empty xs (n : Int))).1]) fm (fm.length : Int) ((n + 1 : Nat) : Int)) r) → ((numV (rdOf ByteArray.empty xs (n : Int))).2 = false → r = ([], false)) →
    Ev (fun k => impl_numbersIn.l0 k xs out fm (fm.length : Int) (n : Int)) r := by
  intro h1 h2
  refine ev_succ ?_
  simp only [impl_numbersIn.l0, Int.ofNat_lt.2 hn, Int.ofNat_lt.2 hx, show (0 : Int) ≤ (n : Int) from Int.natCast_nonneg _, if_true, he]
  refine Ev.bind (impl_ReadDecimal_ev _) ?_
  cases c : (numV (rdOf ByteArray.empty xs (n : Int))).2
  · rw [h2 c]
    simp only [Bool.false_eq_true, if_false]
    exact ev_now _
  · have hr := h1 c
    simp only [if_true, show out.length < 17592186044416 by omega, wnext hn (by omega : fm.length ≤ 9223372036854775807)]
    exact hr
def form6 : List ByteArray := [(⟨#[115, 105, 122, 101]⟩ : ByteArray), (⟨#[]⟩ : ByteArray), (⟨#[115, 116, 114, 101, 110, 103, 116, 104]⟩ : ByteArray), (⟨#[]⟩ : ByteArray), (⟨#[119, 101, 105, 103, 104, 116]⟩ : ByteArray), (⟨#[]⟩ : ByteArray)]
def numsV (b c d e f g : ByteArray) : List Int × Bool := if b.toList = ([115, 105, 122, 101] : List UInt8) then (if (numV c).2 = true then (if d.toList = ([115, 116, 114, 101, 110, 103, 116, 104] : List UInt8) then (if (numV e).2 = true then (if f.toList = ([119, 101, 105, 103, 104, 116] : List UInt8) then (if (numV g).2 = true then ([(numV c).1, (numV e).1, (numV g).1], true) else ([], false)) else ([], false)) else ([], false)) else ([], false)) else ([], false)) else ([], false)
theorem lit_list (l : List UInt8) : (⟨l.toArray⟩ : ByteArray).toList = l := by rw [toList_data]
theorem nums_six (b c d e f g : ByteArray) : Ev (fun k => impl_numbersIn.l0 k [b, c, d, e, f, g] [] form6 (form6.length : Int) 0) (numsV b c d e f g) := by
  have t0 : (rdOf ByteArray.empty form6 ((0 : Nat) : Int)).toList = ([115, 105, 122, 101] : List UInt8) := lit_list _
  have t1 : (rdOf ByteArray.empty form6 ((1 : Nat) : Int)).toList = ([] : List UInt8) := lit_list _
  have t2 : (rdOf ByteArray.empty form6 ((2 : Nat) : Int)).toList = ([115, 116, 114, 101, 110, 103, 116, 104] : List UInt8) := lit_list _
  have t3 : (rdOf ByteArray.empty form6 ((3 : Nat) : Int)).toList = ([] : List UInt8) := lit_list _
  have t4 : (rdOf ByteArray.empty form6 ((4 : Nat) : Int)).toList = ([119, 101, 105, 103, 104, 116] : List UInt8) := lit_list _
  have t5 : (rdOf ByteArray.empty form6 ((5 : Nat) : Int)).toList = ([] : List UInt8) := lit_list _
  have x0 : rdOf ByteArray.empty [b, c, d, e, f, g] ((0 : Nat) : Int) = b := rfl
  have x1 : rdOf ByteArray.empty [b, c, d, e, f, g] ((1 : Nat) : Int) = c := rfl
  have x2 : rdOf ByteArray.empty [b, c, d, e, f, g] ((2 : Nat) : Int) = d := rfl
  have x3 : rdOf ByteArray.empty [b, c, d, e, f, g] ((3 : Nat) : Int) = e := rfl
  have x4 : rdOf ByteArray.empty [b, c, d, e, f, g] ((4 : Nat) : Int) = f := rfl
  have x5 : rdOf ByteArray.empty [b, c, d, e, f, g] ((5 : Nat) : Int) = g := rfl
  have lf : form6.length = 6 := rfl
  have lx : [b, c, d, e, f, g].length = 6 := rfl
  unfold numsV
  refine nums_word (n := 0) (by omega) (by omega) (by omega) (by rw [t0]; simp) ?_ ?_ <;> rw [x0, t0] <;> intro k0
  rotate_left
  · rw [if_neg k0]
  rw [if_pos k0]
  refine nums_num (n := 1) (by omega) (by omega) (by omega) (by simp) t1 ?_ ?_ <;> rw [x1] <;> intro k1
  rotate_left
  · rw [if_neg (by rw [k1]; simp)]
  rw [if_pos k1]
  refine nums_word (n := 2) (by omega) (by omega) (by omega) (by rw [t2]; simp) ?_ ?_ <;> rw [x2, t2] <;> intro k2
  rotate_left
  · rw [if_neg k2]
  rw [if_pos k2]
  refine nums_num (n := 3) (by omega) (by omega) (by omega) (by simp) t3 ?_ ?_ <;> rw [x3] <;> intro k3
  rotate_left
  · rw [if_neg (by rw [k3]; simp)]
  rw [if_pos k3]
  refine nums_word (n := 4) (by omega) (by omega) (by omega) (by rw [t4]; simp) ?_ ?_ <;> rw [x4, t4] <;> intro k4
  rotate_left
  · rw [if_neg k4]
  rw [if_pos k4]
  refine nums_num (n := 5) (by omega) (by omega) (by omega) (by simp) t5 ?_ ?_ <;> rw [x5] <;> intro k5
  rotate_left
  · rw [if_neg (by rw [k5]; simp)]
  rw [if_pos k5]
  refine ev_succ ?_
  simp only [impl_numbersIn.l0, lf, Int.lt_irrefl, if_false]
  exact ev_now _
theorem impl_ReadRope_ev (s : ByteArray) (hs : s.size ≤ 1048576) : Ev (fun k => impl_ReadRope.f k s) (readR (cutB 32 s)) := by
  simp only [impl_ReadRope.f, strings_Split_eq s hs 32, Option.bind_some]
  have pos : 1 ≤ (cutB 32 s).length := by unfold cutB; rw [List.length_map]; exact splA_pos 32 _ _
  generalize cutB 32 s = W at pos
  simp only [show 1 ≤ (W.length : Int) by omega, if_true, impl_numbersIn.f]
  have lf : form6.length = 6 := rfl
  by_cases h7 : W.length = 7
  · obtain ⟨a, b, c, d, e, f, g, rfl⟩ := seven h7
    have n6 := nums_six b c d e f g
    have k0 : ((([a, b, c, d, e, f, g] : List ByteArray).drop 1).length : Int) = (form6.length : Int) := rfl
    have key : Ev (fun k => if ((([a, b, c, d, e, f, g] : List ByteArray).drop 1).length : Int) = (form6.length : Int) then impl_numbersIn.l0 k (([a, b, c, d, e, f, g] : List ByteArray).drop 1) ([] : List Int) form6 (form6.length : Int) 0 else some (([] : List Int), false)) (numsV b c d e f g) := by
      simp only [k0, if_true]
      exact n6
    refine Ev.bind key ?_
    have r0 : rdOf ByteArray.empty [a, b, c, d, e, f, g] 0 = a := rfl
    have no : Ev (fun k => some noR) noR := ev_now _
    have e0 : readR [a, b, c, d, e, f, g] = if (numsV b c d e f g).2 = true then ropeR a (numV c) (numV e) (numV g) else noR := by
      rw [readR_seven]
      unfold numsV
      by_cases c1 : b.toList = ([115, 105, 122, 101] : List UInt8)
      · by_cases c2 : d.toList = ([115, 116, 114, 101, 110, 103, 116, 104] : List UInt8)
        · by_cases c3 : f.toList = ([119, 101, 105, 103, 104, 116] : List UInt8)
          · rw [if_pos c1, if_pos c1, if_pos c2, if_pos c2, if_pos c3, if_pos c3]
            unfold ropeR
            cases (numV c).2 <;> cases (numV e).2 <;> cases (numV g).2 <;> simp
          · rw [if_pos c1, if_pos c1, if_pos c2, if_pos c2, if_neg c3, if_neg c3]
            cases (numV c).2 <;> cases (numV e).2 <;> simp
        · rw [if_pos c1, if_pos c1, if_neg c2, if_neg c2]
          cases (numV c).2 <;> simp
      · rw [if_neg c1, if_neg c1]; simp
    rw [e0]
    cases hn : (numsV b c d e f g).2
    · simp only [Bool.false_eq_true, if_false]; exact no
    · have en : (numsV b c d e f g).1 = [(numV c).1, (numV e).1, (numV g).1] ∧ (numV c).2 = true ∧ (numV e).2 = true ∧ (numV g).2 = true := by
        unfold numsV at hn ⊢
        repeat' split at hn
        all_goals first | (exfalso; simp at hn; done) | skip
        rename_i c1 d1 c2 d2 c3 d3
        rw [if_pos c1, if_pos d1, if_pos c2, if_pos d2, if_pos c3, if_pos d3]
        exact ⟨rfl, d1, d2, d3⟩
      obtain ⟨en, d1, d2, d3⟩ := en
      simp only [if_true, en, show (0 : Int) < (([a, b, c, d, e, f, g] : List ByteArray).length : Int) from by simp, show (0 : Int) < (([(numV c).1, (numV e).1, (numV g).1] : List Int).length : Int) from by simp, show (1 : Int) < (([(numV c).1, (numV e).1, (numV g).1] : List Int).length : Int) from by simp, show (2 : Int) < (([(numV c).1, (numV e).1, (numV g).1] : List Int).length : Int) from by simp,
        show rd [(numV c).1, (numV e).1, (numV g).1] 0 = (numV c).1 from rfl, show rd [(numV c).1, (numV e).1, (numV g).1] 1 = (numV e).1 from rfl, show rd [(numV c).1, (numV e).1, (numV g).1] 2 = (numV g).1 from rfl, r0]
      refine Ev.bind (impl_validRope_ev _ _ _ _) ?_
      unfold ropeR
      rw [if_pos d1, if_pos d2, if_pos d3]
      cases ropeB a (numV c).1 (numV e).1 (numV g).1
      · simp only [Bool.false_eq_true, if_false]; exact no
      · simp only [if_true]; exact ev_now _
  · rw [readR_not h7]
    have k0 : ¬ ((W.drop 1).length : Int) = (form6.length : Int) := by rw [List.length_drop, lf]; omega
    have key : Ev (fun k => if ((W.drop 1).length : Int) = (form6.length : Int) then impl_numbersIn.l0 k (W.drop 1) ([] : List Int) form6 (form6.length : Int) 0 else some (([] : List Int), false)) (([] : List Int), false) := by
      simp only [k0, if_false]
      exact ev_now _
    refine Ev.bind key ?_
    simp only [Bool.false_eq_true, if_false]
    exact ev_now _

theorem FnExactReadRope : laws_FnExactReadRope.Pure := by
  intro s hs
  refine Ev.rounds ?_
  simp only [laws_FnExactReadRope.f]
  by_cases hz : (s.size : Int) > 1048576
  · simp only [hz, if_true]; exact ev_now _
  simp only [hz, if_false]
  refine Ev.bind (spec_ReadRope_ev s (by omega)) (Ev.bind (impl_ReadRope_ev s (by omega)) ?_)
  simp only [laws_eqRope.f, if_true, Option.bind_some, bne_self_eq_false, Bool.false_eq_true, if_false]
  exact ev_now _

end Go.Proofs.YtginmioklkcgbaaDoor.Pure

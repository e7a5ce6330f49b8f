/- The pure statement of FnDecimals: numbers and lists alone. No condition. -/
import Derived.Test.YtginmioklkcgbaaDoorQFnDecimalsx7
import Derived.Test.YtginmioklkcgbaaDoorAid
namespace Go.Proofs.YtginmioklkcgbaaDoor.Pure
open Go.RowKit Go.Proofs.YtginmioklkcgbaaDoor.QFnDecimals Go.Proofs.YtginmioklkcgbaaDoorW.PrintWords Go.Proofs.YtginmioklkcgbaaDoorW.PrintLast Go.Proofs.YtginmioklkcgbaaDoorW.PrintMore Go.Proofs.YtginmioklkcgbaaDoor.Aid
set_option linter.unusedVariables false
set_option linter.unusedSimpArgs false

/-! ### the drawn source -/
def byteL (l : List Int) : Prop := ∀ y ∈ l, 0 ≤ y ∧ y ≤ 255
theorem u8_range {a : Int} (h : (Lit.int .u8 a).wf = true) : 0 ≤ a ∧ a ≤ 255 := by
  simp only [Lit.wf, IntKind.min, IntKind.max, IntKind.signed, IntKind.bits, Bool.and_eq_true, decide_eq_true_eq, Bool.false_eq_true, if_false] at h
  omega
theorem and255 (a : Int) : 0 ≤ Go.bits .and .u64 a 255 ∧ Go.bits .and .u64 a 255 ≤ 255 := by
  show 0 ≤ IntKind.u64.wrap ((BitVec.ofInt 64 a &&& BitVec.ofInt 64 255).toNat : Int) ∧ IntKind.u64.wrap ((BitVec.ofInt 64 a &&& BitVec.ofInt 64 255).toNat : Int) ≤ 255
  have h : (BitVec.ofInt 64 a &&& BitVec.ofInt 64 255).toNat ≤ 255 := by rw [BitVec.toNat_and]; exact Nat.le_trans Nat.and_le_right (by decide)
  rw [IntKind.wrap_u64]
  omega
theorem rd_byte {l : List Int} (hl : byteL l) (i : Int) : 0 ≤ rd l i ∧ rd l i ≤ 255 := by
  unfold rd
  rw [List.getD_eq_getElem?_getD]
  cases e : l[i.toNat]? with
  | none => exact ⟨Int.le_refl _, by decide⟩
  | some v => exact hl v (List.mem_of_getElem? e)
theorem src_next_ev {l : List Int} (hl : byteL l) (p s : Int) (hp : 0 ≤ p ∧ p ≤ 1000000) : ∃ v s', spec_l00Src_next.f l p s = some (v, p + 1, s') ∧ 0 ≤ v ∧ v ≤ 255 := by
  have w1 : wrap64 (p + 1) = p + 1 := w64 (by omega) (by omega)
  have r := rd_byte hl p
  have w2 : wrap64 (rd l p) = rd l p := w64 (by omega) (by omega)
  simp only [spec_l00Src_next.f, w1]
  by_cases a : p < (l.length : Int)
  · simp only [a, hp.1, show p + 1 ≤ (l.length : Int) by omega, if_true, w2]
    exact ⟨_, _, rfl, r⟩
  · simp only [a, show ¬ p + 1 ≤ (l.length : Int) by omega, if_false]
    refine ⟨_, _, rfl, ?_⟩
    have := and255 ((IntKind.u64.wrap ((IntKind.u64.wrap ((IntKind.u64.wrap (s * 6364136223846793005)) + 0)) + 1442695040888963407)) / 1099511627776)
    rw [w64 (by omega) (by omega)]
    exact this
theorem src_pick_ev {l : List Int} (hl : byteL l) (p s n : Int) (hp : 0 ≤ p ∧ p ≤ 1000000) (hn : 2 ≤ n ∧ n ≤ 200) : ∃ v s', spec_l00Src_pick.f l p s n = some (v, p + 1, s') ∧ 0 ≤ v ∧ v < n := by
  obtain ⟨v, s', h, h1, h2⟩ := src_next_ev hl p s hp
  simp only [spec_l00Src_pick.f, show ¬ n ≤ 1 by omega, show ¬ n > 200 by omega, show ¬ n = 0 by omega, if_false, h, Option.bind_some]
  exact ⟨_, _, rfl, Int.tmod_nonneg _ h1, Int.tmod_lt_of_pos _ (by omega)⟩

theorem bt_get (s : ByteArray) {i : Nat} (h : i < s.size) : bt s (i : Int) = ((s.data.toList[i]'(by rw [Array.length_toList]; exact h)).toNat : Int) := by
  unfold bt
  rw [dif_pos (show ((i : Int)).toNat < s.size by rw [Int.toNat_natCast]; exact h)]
  simp only [Int.toNat_natCast]
  rfl
def toBA (l : List UInt8) : ByteArray := ⟨l.toArray⟩
theorem toBA_data (s : ByteArray) : toBA s.data.toList = s := by unfold toBA; simp
theorem data_toBA (l : List UInt8) : (toBA l).data.toList = l := by unfold toBA; simp
theorem extract_BA (s : ByteArray) (a b : Nat) : s.extract a b = toBA ((s.data.toList.drop a).take (b - a)) := by
  unfold toBA
  apply ByteArray.ext
  rw [ByteArray.data_extract]
  apply Array.ext'
  simp [List.take_drop]

/-! ### a text cut at a byte -/
def splA (c : UInt8) : List UInt8 → List UInt8 → List (List UInt8)
  | cur, [] => [cur]
  | cur, b :: l => if b = c then cur :: splA c [] l else splA c (cur ++ [b]) l
def onHead (cur : List UInt8) : List (List UInt8) → List (List UInt8)
  | [] => []
  | h :: t => (cur ++ h) :: t
theorem onHead_nil (l : List (List UInt8)) : onHead [] l = l := by cases l <;> rfl
theorem splitK_ne (sep : List UInt8) (sv k : Nat) (l : List UInt8) : ∃ h t, Lib.splitK sep sv k l = h :: t := by
  cases k with
  | zero => exact ⟨_, _, rfl⟩
  | succ k => unfold Lib.splitK; split <;> exact ⟨_, _, rfl⟩
theorem splitK_cons_ne {b c : UInt8} (h : b ≠ c) (l : List UInt8) (k : Nat) : Lib.splitK [c] 0 k (b :: l) = onHead [b] (Lib.splitK [c] 0 k l) := by
  cases k with
  | zero => rfl
  | succ k =>
    have hp : ([c] : List UInt8).isPrefixOf (b :: l) = false := by simp [List.isPrefixOf, Ne.symm h]
    have hix : Lib.index (b :: l) [c] = if Lib.index l [c] == -1 then -1 else Lib.index l [c] + 1 := by rw [Lib.index, hp]; simp
    have hge := Lib.index_ge l [c]
    unfold Lib.splitK
    by_cases hm : Lib.index l [c] = -1
    · rw [if_pos (by rw [hix, if_pos (beq_iff_eq.2 hm)]; rfl), if_pos (beq_iff_eq.2 hm)]; rfl
    · obtain ⟨j, hj⟩ : ∃ j : Nat, Lib.index l [c] = j := ⟨(Lib.index l [c]).toNat, by omega⟩
      have hb : (Lib.index l [c] == -1) = false := beq_eq_false_iff_ne.2 hm
      rw [hix, hb, hj]
      simp only [Bool.false_eq_true, if_false]
      have e2 : (((j : Int) + 1) == -1) = false := beq_eq_false_iff_ne.2 (by omega)
      have e3 : ((j : Int) == -1) = false := beq_eq_false_iff_ne.2 (by omega)
      rw [e2]
      simp only [Bool.false_eq_true, if_false]
      rw [show ((j : Int) + 1).toNat = j + 1 by omega, Int.toNat_natCast]
      simp [onHead, Nat.add_assoc, List.take_succ_cons]
theorem splitK_cons_eq (c : UInt8) (l : List UInt8) (k : Nat) : Lib.splitK [c] 0 (k + 1) (c :: l) = [] :: Lib.splitK [c] 0 k l := by
  have hix : Lib.index (c :: l) [c] = 0 := by rw [Lib.index]; simp [List.isPrefixOf]
  rw [Lib.splitK, hix]
  simp
theorem splA_eq (c : UInt8) : ∀ (l cur : List UInt8), splA c cur l = onHead cur (Lib.splitK [c] 0 (Lib.count l [c]) l)
  | [], cur => by
    rw [Lib.count_one]
    simp [splA, Lib.splitK, onHead]
  | b :: l, cur => by
    unfold splA
    by_cases h : b = c
    · subst h
      rw [if_pos rfl, splA_eq b l [], onHead_nil, Lib.count_cons_eq, Nat.add_comm, splitK_cons_eq]
      simp [onHead]
    · rw [if_neg h, splA_eq c l (cur ++ [b]), Lib.count_cons_ne b c l h, splitK_cons_ne h]
      obtain ⟨x, t, e⟩ := splitK_ne [c] 0 (Lib.count l [c]) l
      rw [e]
      simp [onHead]
def cutB (c : UInt8) (s : ByteArray) : List ByteArray := (splA c [] s.data.toList).map toBA
theorem splA_len (c : UInt8) : ∀ (l cur : List UInt8), (splA c cur l).length ≤ l.length + 1
  | [], cur => by simp [splA]
  | b :: l, cur => by
    unfold splA
    split
    · have := splA_len c l []; simp only [List.length_cons]; omega
    · have := splA_len c l (cur ++ [b]); simp only [List.length_cons]; omega
theorem cutB_len (c : UInt8) (s : ByteArray) : (cutB c s).length ≤ s.size + 1 := by
  unfold cutB
  rw [List.length_map]
  have := splA_len c s.data.toList []
  rw [Array.length_toList] at this
  exact this
theorem splitB_cut (c : UInt8) (s : ByteArray) : Lib.splitB ⟨#[c]⟩ 0 (Lib.countB s ⟨#[c]⟩) s = cutB c s := by
  have h := Lib.splitB_data ⟨#[c]⟩ 0 (Lib.countB s ⟨#[c]⟩) s
  have e : Lib.splitK [c] 0 (Lib.count s.data.toList [c]) s.data.toList = splA c [] s.data.toList := by rw [splA_eq, onHead_nil]
  have h' : (Lib.splitB ⟨#[c]⟩ 0 (Lib.countB s ⟨#[c]⟩) s).map (·.data.toList) = splA c [] s.data.toList := h.trans e
  unfold cutB
  rw [← h', List.map_map]
  have e2 : (toBA ∘ fun x : ByteArray => x.data.toList) = id := by funext x; exact toBA_data x
  rw [e2, List.map_id]

theorem bt_data (s : ByteArray) {i : Nat} (h : i < s.size) (c : UInt8) : (bt s (i : Int) = (c.toNat : Int)) ↔ s.data.toList[i]'(by rw [Array.length_toList]; exact h) = c := by
  rw [bt_get s h]
  constructor
  · intro h2
    exact UInt8.toNat_inj.1 (by omega)
  · intro h2
    rw [h2]
theorem splA_cons (c : UInt8) (cur : List UInt8) (b : UInt8) (l : List UInt8) : splA c cur (b :: l) = if b = c then cur :: splA c [] l else splA c (cur ++ [b]) l := rfl
theorem spec_l01Split_loop (s : ByteArray) (hs : s.size ≤ 1048576) (c : UInt8) : ∀ (d i a : Nat) (out : List ByteArray), i + d = s.size → a ≤ i → out.length ≤ a →
    Ev (fun k => spec_l01Split.l0 k s (c.toNat : Int) out (a : Int) (i : Int)) (out ++ (splA c ((s.data.toList.drop a).take (i - a)) (s.data.toList.drop i)).map toBA) := by
  intro d
  induction d with
  | zero =>
    intro i a out hi ha ho
    have e : i = s.size := by omega
    subst e
    refine ev_succ ?_
    have e1 : s.data.toList.drop s.size = [] := List.drop_eq_nil_of_le (by rw [Array.length_toList]; exact Nat.le_refl _)
    rw [e1]
    simp only [spec_l01Split.l0, Int.lt_irrefl, if_false, show (0 : Int) ≤ (a : Int) from Int.natCast_nonneg _, show (a : Int) ≤ (s.size : Int) by omega, show out.length < 8796093022208 by omega, if_true, Int.toNat_natCast, extract_BA]
    exact ev_now _
  | succ d ih =>
    intro i a out hi ha ho
    have hl : i < s.size := by omega
    have hl' : i < s.data.toList.length := by rw [Array.length_toList]; exact hl
    have ed : s.data.toList.drop i = s.data.toList[i] :: s.data.toList.drop (i + 1) := List.drop_eq_getElem_cons hl'
    refine ev_succ ?_
    by_cases hc : bt s (i : Int) = (c.toNat : Int)
    · have hb := (bt_data s hl c).1 hc
      have i1 := ih (i + 1) (i + 1) (out ++ [s.extract a i]) (by omega) (Nat.le_refl _) (by simp; omega)
      simp only [spec_l01Split.l0, show (i : Int) < (s.size : Int) by omega, show (0 : Int) ≤ (i : Int) from Int.natCast_nonneg _, hc, show (0 : Int) ≤ (a : Int) from Int.natCast_nonneg _, show (a : Int) ≤ (i : Int) by omega, show (i : Int) ≤ (s.size : Int) by omega, show out.length < 8796093022208 by omega, if_true, Int.toNat_natCast, wnext hl (by omega : s.size ≤ 9223372036854775807)]
      refine ev_to i1 ?_
      rw [ed, splA_cons, if_pos hb, Nat.sub_self, List.take_zero, extract_BA]
      simp
    · have hb : ¬ s.data.toList[i] = c := fun e => hc ((bt_data s hl c).2 e)
      have i1 := ih (i + 1) a out (by omega) (by omega) ho
      simp only [spec_l01Split.l0, show (i : Int) < (s.size : Int) by omega, show (0 : Int) ≤ (i : Int) from Int.natCast_nonneg _, hc, if_true, if_false, wnext hl (by omega : s.size ≤ 9223372036854775807)]
      refine ev_to i1 ?_
      rw [ed, splA_cons, if_neg hb]
      congr 3
      rw [show i + 1 - a = (i - a) + 1 by omega, List.take_succ_eq_append_getElem (by rw [List.length_drop]; omega)]
      congr 2
      simp only [List.getElem_drop]
      congr 1
      omega
theorem spec_l01Split_ev (s : ByteArray) (hs : s.size ≤ 1048576) (c : UInt8) : Ev (fun k => spec_l01Split.f k s (c.toNat : Int)) (cutB c s) := by
  simp only [spec_l01Split.f]
  have := spec_l01Split_loop s hs c s.size 0 0 [] (by omega) (Nat.le_refl _) (Nat.le_refl _)
  simpa [cutB] using this
theorem strings_Split_eq (s : ByteArray) (hs : s.size ≤ 1048576) (c : UInt8) : strings_Split.f s (⟨#[c]⟩ : ByteArray) = some (cutB c s) := by
  unfold strings_Split.f
  rw [if_pos ⟨by omega, by show 1 ≤ 1; omega⟩, splitB_cut]

/-! ### decimal forms -/
def decV (n : Int) : ByteArray := ⟨(Lib.itoa n).toArray⟩
def digI (u : Nat) : List Int := (Lib.decDigits u).map fun b => (b.toNat : Int)
theorem digI_one {u : Nat} (h : u < 10) : digI u = [48 + (u : Int)] := by
  unfold digI
  rw [Lib.decDigits, dif_pos h]
  simp only [List.map_cons, List.map_nil, UInt8.toNat_ofNat']
  congr 1
  omega
theorem digI_more {u : Nat} (h : ¬ u < 10) : digI u = digI (u / 10) ++ [48 + ((u % 10 : Nat) : Int)] := by
  unfold digI
  rw [Lib.decDigits, dif_neg h]
  simp only [List.map_append, List.map_cons, List.map_nil, UInt8.toNat_ofNat']
  congr 2
  omega
theorem digI_len (u : Nat) : (digI u).length = Lib.nDigits u := by unfold digI; rw [List.length_map, Lib.decDigits_length]
theorem digI_str (u : Nat) : strOfNums (digI u) = ⟨(Lib.decDigits u).toArray⟩ := by
  unfold strOfNums digI
  rw [List.map_map]
  congr 2
  have e : ((fun n : Int => UInt8.ofNat n.toNat) ∘ fun b : UInt8 => (b.toNat : Int)) = id := by
    funext b
    simp only [Function.comp_apply, Int.toNat_natCast, UInt8.ofNat_toNat, id]
  rw [e, List.map_id]
theorem tdiv10 (x : Int) : (Int.tdiv x 10).natAbs = x.natAbs / 10 := by rw [Int.natAbs_tdiv]; rfl
theorem tmod10 (x : Int) : (Int.tmod x 10).natAbs = x.natAbs % 10 := by rw [Int.natAbs_tmod]; rfl
theorem dec_loop (n : Int) (r : ByteArray) : ∀ (m : Nat) (x : Int) (out : List Int), x.natAbs ≤ m → x ≠ 0 → -9223372036854775808 ≤ x → x ≤ 9223372036854775807 → out.length + Lib.nDigits x.natAbs ≤ 100 →
    Ev (fun k => spec_l01Dec.l0 k n (digI x.natAbs ++ out) 0) r → Ev (fun k => spec_l01Dec.l0 k n out x) r := by
  intro m
  induction m with
  | zero => intro x out h1 h2; omega
  | succ m ih =>
    intro x out h1 h2 h3 h4 h5 hr
    have d1 := tdiv10 x
    have d2 := tmod10 x
    have np := Lib.nDigits_pos x.natAbs
    have q10 : ((x.natAbs % 10 : Nat) : Int) < 10 := Int.ofNat_lt.2 (Nat.mod_lt _ (by decide))
    have e256 : (48 + ((x.natAbs % 10 : Nat) : Int)) % 256 = 48 + ((x.natAbs % 10 : Nat) : Int) := by
      exact Int.emod_eq_of_lt (by have := Int.natCast_nonneg (x.natAbs % 10); omega) (by omega)
    have key : ∀ c : Int, c = 48 + ((x.natAbs % 10 : Nat) : Int) → Ev (fun k => spec_l01Dec.l0 k n ([c] ++ out) (wrap64 (Int.tdiv x 10))) r := by
      intro c hc
      have w : wrap64 (Int.tdiv x 10) = Int.tdiv x 10 := w64 (by omega) (by omega)
      rw [w]
      by_cases hx : x.natAbs < 10
      · have e0 : Int.tdiv x 10 = 0 := by omega
        rw [digI_one hx] at hr
        rw [e0, hc, Nat.mod_eq_of_lt hx]
        exact hr
      · rw [digI_more hx, ← hc, List.append_assoc, ← d1] at hr
        rw [Lib.nDigits_big hx] at h5
        exact ih (Int.tdiv x 10) ([c] ++ out) (by omega) (by omega) (by omega) (by omega) (by rw [d1]; simp only [List.length_append, List.length_singleton]; omega) hr
    refine ev_succ ?_
    by_cases hs : Int.tmod x 10 < 0
    · have w1 : wrap64 (-(Int.tmod x 10)) = ((x.natAbs % 10 : Nat) : Int) := by rw [w64 (by omega) (by omega)]; omega
      have w2 : wrap64 (48 + ((x.natAbs % 10 : Nat) : Int)) = 48 + ((x.natAbs % 10 : Nat) : Int) := w64 (by omega) (by omega)
      simp only [spec_l01Dec.l0, h2, hs, if_true, if_false, Option.bind_some, w1, w2, List.length_singleton, show 1 + out.length < 140737488355328 by omega]
      exact key _ e256
    · have w1 : wrap64 (48 + Int.tmod x 10) = 48 + ((x.natAbs % 10 : Nat) : Int) := by rw [w64 (by omega) (by omega)]; omega
      simp only [spec_l01Dec.l0, h2, hs, if_true, if_false, Option.bind_some, w1, List.length_singleton, show 1 + out.length < 140737488355328 by omega]
      exact key _ e256
theorem nDigits_le (u : Nat) (h : u ≤ 9223372036854775808) : Lib.nDigits u ≤ 20 := by
  have step : ∀ (d u : Nat), u < 10 ^ d → Lib.nDigits u ≤ d + 1 := by
    intro d
    induction d with
    | zero => intro u h; rw [Lib.nDigits_small (by simp at h; omega)]; omega
    | succ d ih =>
      intro u h
      by_cases c : u < 10
      · rw [Lib.nDigits_small c]; omega
      · rw [Lib.nDigits_big c]
        have := ih (u / 10) (by rw [Nat.pow_succ] at h; omega)
        omega
  exact step 19 u (by omega)
theorem append45 (l : List UInt8) : (⟨#[45]⟩ : ByteArray) ++ (⟨l.toArray⟩ : ByteArray) = ⟨(45 :: l).toArray⟩ := by
  apply ByteArray.ext
  rw [ByteArray.data_append]
  simp
theorem spec_l01Dec_ev (n : Int) (h0 : -9223372036854775808 ≤ n) (h1 : n ≤ 9223372036854775807) : Ev (fun k => spec_l01Dec.f k n) (decV n) := by
  simp only [spec_l01Dec.f]
  by_cases hz : n = 0
  · subst hz
    refine ev_succ ?_
    simp only [spec_l01Dec.l0, if_true, List.length_nil]
    refine ev_to (ev_now _) ?_
    unfold decV Lib.itoa
    rw [if_neg (by decide), Lib.decDigits, dif_pos (by decide)]
    rfl
  · have np := Lib.nDigits_pos n.natAbs
    have nl := nDigits_le n.natAbs (by omega)
    refine dec_loop n _ n.natAbs n [] (Nat.le_refl _) hz h0 h1 (by simp only [List.length_nil]; omega) ?_
    refine ev_succ ?_
    simp only [spec_l01Dec.l0, if_true, List.append_nil, digI_len, show ¬ ((Lib.nDigits n.natAbs : Nat) : Int) = 0 by omega, if_false]
    by_cases hs : n < 0
    · simp only [hs, if_true, strOfNums_size, digI_len, show 1 + Lib.nDigits n.natAbs ≤ 9223372036854775807 by omega]
      refine ev_to (ev_now _) ?_
      unfold decV Lib.itoa
      rw [digI_str, append45, if_pos hs]
    · simp only [hs, if_false]
      refine ev_to (ev_now _) ?_
      unfold decV Lib.itoa
      rw [digI_str, if_neg hs, show n.natAbs = n.toNat by omega]
theorem spec_Decimal_ev (n : Int) (h0 : -9223372036854775808 ≤ n) (h1 : n ≤ 9223372036854775807) : Ev (fun k => spec_Decimal.f k n) (decV n) := by
  simp only [spec_Decimal.f]
  exact Ev.bind (spec_l01Dec_ev n h0 h1) (ev_now _)
theorem impl_Decimal_eq (n : Int) (h0 : -9223372036854775808 ≤ n) (h1 : n ≤ 9223372036854775807) : impl_Decimal.f n = some (decV n) := by
  simp only [impl_Decimal.f, strconv_FormatInt.f, h0, h1, and_self, if_true, Option.bind_some]
  rfl

/-! ### numbers read -/
def isDig (b : UInt8) : Bool := decide (48 ≤ (b.toNat : Int)) && decide ((b.toNat : Int) ≤ 57)
def digV (l : List UInt8) : Int := l.foldl (fun a b => 10 * a + ((b.toNat : Int) - 48)) 0
theorem digV_snoc (l : List UInt8) (b : UInt8) : digV (l ++ [b]) = 10 * digV l + ((b.toNat : Int) - 48) := by unfold digV; rw [List.foldl_append]; rfl
theorem digV_fold : ∀ (l : List UInt8) (a : Int), 0 ≤ a → l.all isDig = true → 0 ≤ l.foldl (fun a b => 10 * a + ((b.toNat : Int) - 48)) a ∧ l.foldl (fun a b => 10 * a + ((b.toNat : Int) - 48)) a + 1 ≤ (a + 1) * 10 ^ l.length
  | [], a, h, _ => by simp only [List.foldl_nil, List.length_nil, Int.pow_zero, Int.mul_one]; omega
  | b :: l, a, h, hd => by
    rw [List.all_cons, Bool.and_eq_true] at hd
    have hb := hd.1
    unfold isDig at hb
    simp only [Bool.and_eq_true, decide_eq_true_eq] at hb
    obtain ⟨h1, h2⟩ := digV_fold l (10 * a + ((b.toNat : Int) - 48)) (by omega) hd.2
    rw [List.foldl_cons, List.length_cons, Int.pow_succ]
    refine ⟨h1, Int.le_trans h2 ?_⟩
    have p : (0 : Int) ≤ 10 ^ l.length := Int.pow_nonneg (by decide)
    have m := Int.mul_le_mul_of_nonneg_right (show 10 * a + ((b.toNat : Int) - 48) + 1 ≤ (a + 1) * 10 by omega) p
    rw [Int.mul_assoc] at m
    rw [Int.mul_comm (10 ^ l.length) 10]
    exact m
theorem digV_bound (l : List UInt8) (h : l.all isDig = true) (hl : l.length ≤ 18) : 0 ≤ digV l ∧ digV l + 1 ≤ 1000000000000000000 := by
  have := digV_fold l 0 (Int.le_refl _) h
  have e : (10 : Int) ^ l.length ≤ 10 ^ 18 := by
    have := Nat.pow_le_pow_right (show 0 < 10 by decide) hl
    exact_mod_cast this
  unfold digV
  refine ⟨this.1, ?_⟩
  have h2 := this.2
  rw [show ((0 : Int) + 1) * 10 ^ l.length = 10 ^ l.length by omega] at h2
  have e2 : (10 : Int) ^ 18 = 1000000000000000000 := by decide
  omega
def endV (s : ByteArray) (n : Int) : Int × Bool := if (decV n).toList = s.toList then (n, true) else (0, false)
def numT (s t : ByteArray) : Int × Bool := if t.data.toList.all isDig = true then (if (t.size : Int) < (s.size : Int) then endV s (-digV t.data.toList) else endV s (digV t.data.toList)) else (0, false)
def strip (s : ByteArray) : ByteArray := toBA (Lib.trimPrefix s.data.toList [45])
def numV (s : ByteArray) : Int × Bool := if (strip s).size < 1 ∨ (strip s).size > 18 then (0, false) else numT s (strip s)
theorem all_take {α : Type} (l : List α) (p : α → Bool) {n : Nat} (h : n < l.length) : (l.take (n + 1)).all p = ((l.take n).all p && p l[n]) := by
  rw [List.take_succ_eq_append_getElem h, List.all_append, List.all_cons, List.all_nil, Bool.and_true]
theorem all_no {α : Type} (l : List α) (p : α → Bool) {n : Nat} (h : n < l.length) (hp : p l[n] = false) : l.all p = false := by
  rw [List.all_eq_false]; exact ⟨l[n], List.getElem_mem h, by simp [hp]⟩
theorem digV_take (l : List UInt8) {n : Nat} (h : n < l.length) : digV (l.take (n + 1)) = 10 * digV (l.take n) + ((l[n].toNat : Int) - 48) := by
  rw [List.take_succ_eq_append_getElem h, digV_snoc]
theorem spec_num_loop (s t : ByteArray) (ht : t.size ≤ 18) : Ev (fun k => spec_l01Number.l0 k s t 0 0) (numT s t) := by
  suffices key : ∃ r, Ev (fun k => spec_l01Number.l0 k s t 0 0) r ∧ r = numT s t by obtain ⟨r, hr, e⟩ := key; exact e ▸ hr
  have hl : t.data.toList.length = t.size := Array.length_toList
  refine ev_loop (len := t.size) (g := fun k v i => spec_l01Number.l0 k s t v i) (fun n v => v = digV (t.data.toList.take n) ∧ (t.data.toList.take n).all isDig = true) (fun r => r = numT s t) ?_ ?_ 0 ⟨rfl, rfl⟩
  · intro n v hn ⟨hv, hd⟩
    have bd := digV_bound _ hd (by rw [List.length_take]; omega)
    have bd1 : n < 18 := by omega
    have fo := (digV_fold (t.data.toList.take n) 0 (Int.le_refl _) hd).2
    have e17 : (10 : Int) ^ (t.data.toList.take n).length ≤ 10 ^ 17 := by
      have := Nat.pow_le_pow_right (show 0 < 10 by decide) (show (t.data.toList.take n).length ≤ 17 by rw [List.length_take]; omega)
      exact_mod_cast this
    have e2 : (10 : Int) ^ 17 = 100000000000000000 := by decide
    have bd2 : v + 1 ≤ 100000000000000000 := by
      rw [hv]; unfold digV
      rw [show ((0 : Int) + 1) * 10 ^ (t.data.toList.take n).length = 10 ^ (t.data.toList.take n).length by omega] at fo
      omega
    have hb := bt_get t hn
    have hn' : n < t.data.toList.length := by omega
    generalize hc : t.data.toList[n] = c at hb
    have hcr : (c.toNat : Int) < 256 := by have := c.toNat_lt; omega
    have hc0 : (0 : Int) ≤ (c.toNat : Int) := Int.natCast_nonneg _
    rw [← hv] at bd
    cases hp : isDig c with
    | true =>
      have hp' := hp
      unfold isDig at hp'
      simp only [Bool.and_eq_true, decide_eq_true_eq] at hp'
      refine .inr ⟨10 * v + ((c.toNat : Int) - 48), ⟨by rw [digV_take _ hn', hc, hv], by rw [all_take _ _ hn', hd, hc, hp]; rfl⟩, fun r hr => ev_succ ?_⟩
      simp only [spec_l01Number.l0, Int.ofNat_lt.2 hn, show (0 : Int) ≤ (n : Int) from Int.natCast_nonneg _, if_true, spec_l01Digit.f, hb, show (c.toNat : Int) ≥ 48 by omega, Option.bind_some, show (c.toNat : Int) ≤ 57 by omega, decide_true,
        w64 (n := 10 * v) (by omega) (by omega), show ((c.toNat : Int) - 48) % 256 = (c.toNat : Int) - 48 by omega, w64 (n := 10 * v + ((c.toNat : Int) - 48)) (by omega) (by omega), wnext hn (by omega : t.size ≤ 9223372036854775807)]
      exact hr
    | false =>
      refine .inl ⟨(0, false), ev_succ ?_, by unfold numT; rw [all_no _ isDig hn' (by rw [hc, hp])]; rfl⟩
      by_cases h48 : (c.toNat : Int) ≥ 48
      · have h57 : ¬ (c.toNat : Int) ≤ 57 := by
          intro h; unfold isDig at hp; simp only [show 48 ≤ (c.toNat : Int) by omega, h, decide_true, Bool.and_self] at hp; cases hp
        simp only [spec_l01Number.l0, Int.ofNat_lt.2 hn, show (0 : Int) ≤ (n : Int) from Int.natCast_nonneg _, if_true, spec_l01Digit.f, hb, h48, Option.bind_some, h57, decide_false, Bool.false_eq_true, if_false]
        exact ev_now _
      · simp only [spec_l01Number.l0, Int.ofNat_lt.2 hn, show (0 : Int) ≤ (n : Int) from Int.natCast_nonneg _, if_true, spec_l01Digit.f, hb, h48, Option.bind_some, Bool.false_eq_true, if_false]
        exact ev_now _
  · intro v ⟨hv, hd⟩
    rw [List.take_of_length_le (by omega)] at hv hd
    have bd := digV_bound _ hd (by omega)
    rw [← hv] at bd
    refine ⟨_, ev_succ ?_, rfl⟩
    unfold numT
    rw [if_pos hd, ← hv]
    simp only [spec_l01Number.l0, Int.lt_irrefl, if_false, w64 (n := -v) (by omega) (by omega)]
    by_cases hs : (t.size : Int) < (s.size : Int)
    · simp only [hs, if_true]
      refine Ev.bind (spec_l01Dec_ev (-v) (by omega) (by omega)) ?_
      unfold endV
      by_cases he : (decV (-v)).toList = s.toList
      · simp only [he, if_true]; exact ev_now _
      · simp only [he, if_false]; exact ev_now _
    · simp only [hs, if_false]
      refine Ev.bind (spec_l01Dec_ev v (by omega) (by omega)) ?_
      unfold endV
      by_cases he : (decV v).toList = s.toList
      · simp only [he, if_true]; exact ev_now _
      · simp only [he, if_false]; exact ev_now _
theorem impl_num_loop (s t : ByteArray) (ht : t.size ≤ 18) : Ev (fun k => impl_ReadDecimal.l0 k s t 0 0) (numT s t) := by
  suffices key : ∃ r, Ev (fun k => impl_ReadDecimal.l0 k s t 0 0) r ∧ r = numT s t by obtain ⟨r, hr, e⟩ := key; exact e ▸ hr
  have hl : t.data.toList.length = t.size := Array.length_toList
  refine ev_loop (len := t.size) (g := fun k v i => impl_ReadDecimal.l0 k s t v i) (fun n v => v = digV (t.data.toList.take n) ∧ (t.data.toList.take n).all isDig = true) (fun r => r = numT s t) ?_ ?_ 0 ⟨rfl, rfl⟩
  · intro n v hn ⟨hv, hd⟩
    have bd := digV_bound _ hd (by rw [List.length_take]; omega)
    have fo := (digV_fold (t.data.toList.take n) 0 (Int.le_refl _) hd).2
    have e17 : (10 : Int) ^ (t.data.toList.take n).length ≤ 10 ^ 17 := by
      have := Nat.pow_le_pow_right (show 0 < 10 by decide) (show (t.data.toList.take n).length ≤ 17 by rw [List.length_take]; omega)
      exact_mod_cast this
    have e2 : (10 : Int) ^ 17 = 100000000000000000 := by decide
    have bd2 : v + 1 ≤ 100000000000000000 := by
      rw [hv]; unfold digV
      rw [show ((0 : Int) + 1) * 10 ^ (t.data.toList.take n).length = 10 ^ (t.data.toList.take n).length by omega] at fo
      omega
    have hb := bt_get t hn
    have hn' : n < t.data.toList.length := by omega
    generalize hc : t.data.toList[n] = c at hb
    have hcr : (c.toNat : Int) < 256 := by have := c.toNat_lt; omega
    have hc0 : (0 : Int) ≤ (c.toNat : Int) := Int.natCast_nonneg _
    rw [← hv] at bd
    cases hp : isDig c with
    | true =>
      have hp' := hp
      unfold isDig at hp'
      simp only [Bool.and_eq_true, decide_eq_true_eq] at hp'
      refine .inr ⟨10 * v + ((c.toNat : Int) - 48), ⟨by rw [digV_take _ hn', hc, hv], by rw [all_take _ _ hn', hd, hc, hp]; rfl⟩, fun r hr => ev_succ ?_⟩
      simp only [impl_ReadDecimal.l0, Int.ofNat_lt.2 hn, show (0 : Int) ≤ (n : Int) from Int.natCast_nonneg _, if_true, hb, show ¬ (c.toNat : Int) < 48 by omega, show ¬ (c.toNat : Int) > 57 by omega, if_false,
        w64 (n := 10 * v) (by omega) (by omega), show ((c.toNat : Int) - 48) % 256 = (c.toNat : Int) - 48 by omega, w64 (n := 10 * v + ((c.toNat : Int) - 48)) (by omega) (by omega), wnext hn (by omega : t.size ≤ 9223372036854775807)]
      exact hr
    | false =>
      refine .inl ⟨(0, false), ev_succ ?_, by unfold numT; rw [all_no _ isDig hn' (by rw [hc, hp])]; rfl⟩
      by_cases h48 : (c.toNat : Int) < 48
      · simp only [impl_ReadDecimal.l0, Int.ofNat_lt.2 hn, show (0 : Int) ≤ (n : Int) from Int.natCast_nonneg _, if_true, hb, h48]
        exact ev_now _
      · have h57 : (c.toNat : Int) > 57 := by
          refine Int.not_le.1 fun h => ?_
          unfold isDig at hp; simp only [show 48 ≤ (c.toNat : Int) by omega, h, decide_true, Bool.and_self] at hp; cases hp
        simp only [impl_ReadDecimal.l0, Int.ofNat_lt.2 hn, show (0 : Int) ≤ (n : Int) from Int.natCast_nonneg _, if_true, hb, h48, h57, if_false]
        exact ev_now _
  · intro v ⟨hv, hd⟩
    rw [List.take_of_length_le (by omega)] at hv hd
    have bd := digV_bound _ hd (by omega)
    rw [← hv] at bd
    refine ⟨_, ev_succ ?_, rfl⟩
    unfold numT
    rw [if_pos hd, ← hv]
    simp only [impl_ReadDecimal.l0, Int.lt_irrefl, if_false, w64 (n := -v) (by omega) (by omega), impl_Decimal_eq v (by omega) (by omega), impl_Decimal_eq (-v) (by omega) (by omega), Option.bind_some]
    unfold endV
    by_cases hs : (t.size : Int) < (s.size : Int)
    · simp only [hs, if_true]
      by_cases he : (decV (-v)).toList = s.toList
      · simp only [he, if_true]; exact ev_now _
      · simp only [he, if_false]; exact ev_now _
    · simp only [hs, if_false]
      by_cases he : (decV v).toList = s.toList
      · simp only [he, if_true]; exact ev_now _
      · simp only [he, if_false]; exact ev_now _
theorem spec_num_rest (s t : ByteArray) : Ev (fun k => spec_l01Number.j1 k s t) (if t.size < 1 ∨ t.size > 18 then (0, false) else numT s t) := by
  refine ev_succ ?_
  by_cases h1 : (t.size : Int) < 1
  · simp only [spec_l01Number.j1, h1, if_true, show t.size < 1 ∨ t.size > 18 by omega]
    refine ev_succ ?_
    simp only [spec_l01Number.j2, if_true]; exact ev_now _
  · by_cases h2 : (t.size : Int) > 18
    · simp only [spec_l01Number.j1, h1, h2, if_false, decide_true, if_true, show t.size < 1 ∨ t.size > 18 by omega]
      refine ev_succ ?_
      simp only [spec_l01Number.j2, if_true]; exact ev_now _
    · simp only [spec_l01Number.j1, h1, h2, if_false, decide_false, show ¬ (t.size < 1 ∨ t.size > 18) by omega]
      refine ev_succ ?_
      simp only [spec_l01Number.j2, Bool.false_eq_true, if_false]; exact spec_num_loop s t (by omega)
theorem spec_l01Number_ev (s : ByteArray) (hs : s.size ≤ 140737488351232) : Ev (fun k => spec_l01Number.f k s) (numV s) := by
  have hl : s.data.toList.length = s.size := Array.length_toList
  unfold numV
  by_cases h0 : s.size = 0
  · have e : strip s = s := by
      unfold strip Lib.trimPrefix
      have : s.data.toList = [] := List.length_eq_zero_iff.1 (by omega)
      rw [this]
      apply ByteArray.ext
      apply Array.ext'
      rw [data_toBA, this]
      rfl
    have e2 : s.toList = ([] : List UInt8) := by rw [← List.length_eq_zero_iff, ByteArray.toList_eq, hl]; exact h0
    rw [e]
    simp only [spec_l01Number.f, e2, if_true]
    refine ev_succ ?_
    simp only [spec_l01Number.j0, Bool.false_eq_true, if_false]
    exact spec_num_rest s s
  · have e2 : ¬ s.toList = ([] : List UInt8) := by rw [← List.length_eq_zero_iff, ByteArray.toList_eq, hl]; exact h0
    have hb := bt_get s (show 0 < s.size by omega)
    simp only [spec_l01Number.f, e2, if_false, show 0 < (s.size : Int) by omega, if_true]
    refine ev_succ ?_
    obtain ⟨b, l, hbl⟩ : ∃ b l, s.data.toList = b :: l := by
      cases h : s.data.toList with
      | nil => rw [h] at hl; simp at hl; omega
      | cons b l => exact ⟨b, l, rfl⟩
    have hb2 : bt s 0 = (b.toNat : Int) := by
      have : bt s ((0 : Nat) : Int) = _ := hb
      simp only [hbl, List.getElem_cons_zero] at this
      exact this
    rw [hb2]
    by_cases h45 : b = 45
    · have e3 : ((b.toNat : Int) == 45) = true := by subst h45; rfl
      have e4 : strip s = s.extract 1 s.size := by
        unfold strip Lib.trimPrefix Lib.hasPrefix
        rw [extract_BA, hbl, h45]
        congr 1
        have : l.length = s.size - 1 := by rw [hbl] at hl; simp at hl; omega
        simp [List.isPrefixOf, ← this]
      rw [e4]
      simp only [spec_l01Number.j0, e3, if_true, show 1 ≤ (s.size : Int) by omega]
      exact spec_num_rest s _
    · have ne : ¬ (b.toNat : Int) = 45 := by
        intro h
        exact h45 (UInt8.toNat_inj.1 (show b.toNat = 45 by omega))
      have e3 : ((b.toNat : Int) == 45) = false := beq_eq_false_iff_ne.2 ne
      have e4 : strip s = s := by
        unfold strip Lib.trimPrefix Lib.hasPrefix
        rw [hbl, show List.isPrefixOf [45] (b :: l) = false by simp [List.isPrefixOf, Ne.symm h45]]
        simp only [Bool.false_eq_true, if_false]
        rw [← hbl, toBA_data]
      rw [e4]
      simp only [spec_l01Number.j0, e3, Bool.false_eq_true, if_false]
      exact spec_num_rest s s
theorem impl_ReadDecimal_ev (s : ByteArray) : Ev (fun k => impl_ReadDecimal.f k s) (numV s) := by
  have e : strings_TrimPrefix.f s (⟨#[45]⟩ : ByteArray) = some (strip s) := rfl
  simp only [impl_ReadDecimal.f, e, Option.bind_some]
  unfold numV
  generalize strip s = t
  by_cases h1 : (t.size : Int) < 1
  · simp only [h1, if_true, show t.size < 1 ∨ t.size > 18 by omega]
    refine ev_succ ?_
    simp only [impl_ReadDecimal.j0, if_true]; exact ev_now _
  · by_cases h2 : (t.size : Int) > 18
    · simp only [h1, h2, if_false, decide_true, if_true, show t.size < 1 ∨ t.size > 18 by omega]
      refine ev_succ ?_
      simp only [impl_ReadDecimal.j0, if_true]; exact ev_now _
    · simp only [h1, h2, if_false, decide_false, show ¬ (t.size < 1 ∨ t.size > 18) by omega]
      refine ev_succ ?_
      simp only [impl_ReadDecimal.j0, Bool.false_eq_true, if_false]; exact impl_num_loop s t (by omega)

theorem splA_no (c : UInt8) : ∀ (l cur : List UInt8), c ∉ l → splA c cur l = [cur ++ l]
  | [], cur, _ => by simp [splA]
  | b :: l, cur, h => by
    simp only [List.mem_cons, not_or] at h
    rw [splA_cons, if_neg (fun e => h.1 e.symm), splA_no c l _ h.2]
    simp
theorem splA_app (c : UInt8) (q : List UInt8) : ∀ (p cur : List UInt8), c ∉ p → splA c cur (p ++ c :: q) = (cur ++ p) :: splA c [] q
  | [], cur, _ => by rw [List.nil_append, splA_cons, if_pos rfl, List.append_nil]
  | b :: p, cur, h => by
    simp only [List.mem_cons, not_or] at h
    rw [List.cons_append, splA_cons, if_neg (fun e => h.1 e.symm), splA_app c q p _ h.2]
    simp
theorem first_split (c : UInt8) : ∀ (l : List UInt8), c ∈ l → ∃ p q, l = p ++ c :: q ∧ c ∉ p
  | [], h => by simp at h
  | b :: l, h => by
    by_cases e : b = c
    · exact ⟨[], l, by rw [e]; rfl, by simp⟩
    · obtain ⟨p, q, h1, h2⟩ := first_split c l (by
        rcases List.mem_cons.1 h with h | h
        · exact absurd h.symm e
        · exact h)
      refine ⟨b :: p, q, by rw [h1]; rfl, ?_⟩
      simp only [List.mem_cons, not_or]
      exact ⟨fun h => e h.symm, h2⟩
theorem splA_pos (c : UInt8) : ∀ (l cur : List UInt8), 1 ≤ (splA c cur l).length
  | [], cur => by simp [splA]
  | b :: l, cur => by
    rw [splA_cons]
    split
    · simp
    · exact splA_pos c l _
theorem splA_one (c : UInt8) {l b : List UInt8} (h : splA c [] l = [b]) : c ∉ l ∧ b = l := by
  by_cases hm : c ∈ l
  · obtain ⟨p, q, h1, h2⟩ := first_split c l hm
    rw [h1, splA_app c q p [] h2] at h
    have := splA_pos c q []
    have h3 := congrArg List.length h
    simp only [List.length_cons, List.length_nil] at h3
    omega
  · rw [splA_no c l [] hm] at h
    simp only [List.nil_append, List.cons.injEq, and_true] at h
    exact ⟨hm, h.symm⟩
theorem splA_two (c : UInt8) {l a b : List UInt8} (h : splA c [] l = [a, b]) : l = a ++ c :: b ∧ c ∉ a ∧ c ∉ b := by
  by_cases hm : c ∈ l
  · obtain ⟨p, q, h1, h2⟩ := first_split c l hm
    rw [h1, splA_app c q p [] h2, List.nil_append] at h
    obtain ⟨e1, e2⟩ := List.cons.inj h
    obtain ⟨h3, h4⟩ := splA_one c e2
    subst e1
    rw [h4]
    exact ⟨h1, h2, h3⟩
  · rw [splA_no c l [] hm] at h
    simp at h
theorem toList_data (s : ByteArray) : s.toList = s.data.toList := by rw [ByteArray.toList_eq]
theorem rdOf_map (L : List (List UInt8)) (i : Nat) (h : i < L.length) : rdOf ByteArray.empty (L.map toBA) (i : Int) = toBA L[i] := by
  unfold rdOf
  rw [Int.toNat_natCast, List.getD_eq_getElem?_getD, List.getElem?_map, List.getElem?_eq_getElem h]
  rfl
/-- A text that bears a byte that is no digit and no sign is no number. -/
theorem numV_no (l : List UInt8) (c : UInt8) (hc : c ∈ l) (h45 : c ≠ 45) (hd : isDig c = false) : (numV (toBA l)).2 = false := by
  have hm : c ∈ Lib.trimPrefix l [45] := by
    unfold Lib.trimPrefix Lib.hasPrefix
    split
    · cases l with
      | nil => simp at hc
      | cons b l =>
        rename_i hp
        simp only [List.isPrefixOf, Bool.and_true, beq_iff_eq] at hp
        simp only [List.length_singleton, List.drop_succ_cons, List.drop_zero]
        rcases List.mem_cons.1 hc with e | e
        · exact absurd (e.trans hp.symm) h45
        · exact e
    · exact hc
  have hn : (Lib.trimPrefix l [45]).all isDig = false := by
    rw [List.all_eq_false]; exact ⟨c, hm, by simp [hd]⟩
  unfold numV
  split
  · rfl
  · unfold numT strip
    rw [data_toBA, data_toBA, hn]
    rfl
theorem splA_part (c : UInt8) (M : Nat) : ∀ (l cur : List UInt8), cur.length + l.length ≤ M → ∀ y ∈ splA c cur l, y.length ≤ M
  | [], cur, h, y, hy => by simp [splA] at hy; subst hy; simpa using h
  | b :: l, cur, h, y, hy => by
    rw [splA_cons] at hy
    simp only [List.length_cons] at h
    by_cases e : b = c
    · rw [if_pos e] at hy
      rcases List.mem_cons.1 hy with rfl | hy
      · omega
      · exact splA_part c M l [] (by simp; omega) y hy
    · rw [if_neg e] at hy
      exact splA_part c M l (cur ++ [b]) (by simp; omega) y hy
theorem cutB_part (c : UInt8) (s : ByteArray) (i : Int) : (rdOf ByteArray.empty (cutB c s) i).size ≤ s.size := by
  unfold rdOf
  rw [List.getD_eq_getElem?_getD]
  cases e : (cutB c s)[i.toNat]? with
  | none => simp [ByteArray.size_empty]
  | some y =>
    have hy := List.mem_of_getElem? e
    unfold cutB at hy
    obtain ⟨z, hz, rfl⟩ := List.mem_map.1 hy
    have := splA_part c s.data.toList.length s.data.toList [] (by simp) z hz
    rw [Array.length_toList] at this
    simp only [Option.getD_some]
    have e : (toBA z).size = z.length := by unfold toBA; simp [ByteArray.size]
    rw [e]; exact this

/-! ### a number's decimal form is read back -/
theorem dig_isDig (d : Nat) (h : d < 10) : isDig (UInt8.ofNat (48 + d)) = true := by
  unfold isDig
  simp only [UInt8.toNat_ofNat', Bool.and_eq_true, decide_eq_true_eq]
  omega
theorem dig_val (d : Nat) (h : d < 10) : ((UInt8.ofNat (48 + d)).toNat : Int) - 48 = (d : Int) := by
  simp only [UInt8.toNat_ofNat']
  omega
theorem dec_all (u : Nat) : (Lib.decDigits u).all isDig = true := by
  induction u using Nat.strongRecOn with
  | _ u ih =>
    rw [Lib.decDigits]
    split
    · rename_i h
      rw [List.all_cons, List.all_nil, Bool.and_true]
      exact dig_isDig u h
    · rename_i h
      rw [List.all_append, ih (u / 10) (by omega), List.all_cons, List.all_nil, Bool.and_true, Bool.true_and]
      exact dig_isDig (u % 10) (by omega)
theorem dec_val (u : Nat) : digV (Lib.decDigits u) = (u : Int) := by
  induction u using Nat.strongRecOn with
  | _ u ih =>
    rw [Lib.decDigits]
    split
    · rename_i h
      have := dig_val u h
      unfold digV
      simp only [List.foldl_cons, List.foldl_nil]
      omega
    · rename_i h
      rw [digV_snoc, ih (u / 10) (by omega), dig_val (u % 10) (by omega)]
      omega
theorem nDigits_lt : ∀ (d u : Nat), u < 10 ^ (d + 1) → Lib.nDigits u ≤ d + 1 := by
  intro d
  induction d with
  | zero => intro u h; rw [Lib.nDigits_small (by simpa using h)]; omega
  | succ d ih =>
    intro u h
    by_cases c : u < 10
    · rw [Lib.nDigits_small c]; omega
    · rw [Lib.nDigits_big c]
      have := ih (u / 10) (by rw [Nat.pow_succ] at h; omega)
      omega
theorem dec_head (u : Nat) : ∃ b l, Lib.decDigits u = b :: l ∧ b ≠ 45 := by
  have a := dec_all u
  have hl := Lib.decDigits_length u
  have hp := Lib.nDigits_pos u
  cases h : Lib.decDigits u with
  | nil => rw [h] at hl; simp at hl; omega
  | cons b l =>
    refine ⟨b, l, rfl, ?_⟩
    rw [h, List.all_cons, Bool.and_eq_true] at a
    intro e
    rw [e] at a
    exact absurd a.1 (by decide)
theorem decV_data (n : Int) : (decV n).data.toList = Lib.itoa n := by unfold decV; simp
theorem numV_dec (n : Int) (h0 : -1000000000000000000 < n) (h1 : n < 1000000000000000000) : numV (decV n) = (n, true) := by
  have hd : Lib.nDigits n.natAbs ≤ 18 := nDigits_lt 17 n.natAbs (by have e : 10 ^ (17 + 1) = 1000000000000000000 := by decide
                                                                    omega)
  have hp := Lib.nDigits_pos n.natAbs
  have ha := dec_all n.natAbs
  have hv := dec_val n.natAbs
  have hl := Lib.decDigits_length n.natAbs
  have ok : endV (decV n) n = (n, true) := by unfold endV; rw [if_pos rfl]
  have bsz : ∀ l : List UInt8, (toBA l).size = l.length := fun l => by unfold toBA; simp [ByteArray.size]
  by_cases hs : n < 0
  · have e1 : (decV n).data.toList = 45 :: Lib.decDigits n.natAbs := by rw [decV_data]; unfold Lib.itoa; rw [if_pos hs]
    have e2 : strip (decV n) = toBA (Lib.decDigits n.natAbs) := by
      unfold strip Lib.trimPrefix Lib.hasPrefix
      rw [e1]
      simp [List.isPrefixOf]
    have e3 : (decV n).size = Lib.nDigits n.natAbs + 1 := by
      have : (decV n).data.toList.length = (decV n).size := Array.length_toList
      rw [← this, e1, List.length_cons, hl]
    have e4 : (toBA (Lib.decDigits n.natAbs)).size = Lib.nDigits n.natAbs := by rw [bsz, hl]
    unfold numV
    rw [e2, e4, if_neg (by omega)]
    unfold numT
    rw [data_toBA, if_pos ha, e4, e3, if_pos (by omega), hv, show -((n.natAbs : Nat) : Int) = n by omega]
    exact ok
  · have en : n.toNat = n.natAbs := by omega
    have e1 : (decV n).data.toList = Lib.decDigits n.natAbs := by rw [decV_data]; unfold Lib.itoa; rw [if_neg hs, en]
    have e2 : strip (decV n) = decV n := by
      obtain ⟨b, l, hb, hne⟩ := dec_head n.natAbs
      unfold strip Lib.trimPrefix Lib.hasPrefix
      rw [e1, hb, show List.isPrefixOf [45] (b :: l) = false by simp [List.isPrefixOf, Ne.symm hne]]
      simp only [Bool.false_eq_true, if_false]
      rw [← hb, ← e1, toBA_data]
    have e3 : (decV n).size = Lib.nDigits n.natAbs := by
      have : (decV n).data.toList.length = (decV n).size := Array.length_toList
      rw [← this, e1, hl]
    unfold numV
    rw [e2, e3, if_neg (by omega)]
    unfold numT
    rw [e1, if_pos ha, if_neg (by omega), hv, show ((n.natAbs : Nat) : Int) = n by omega]
    exact ok
theorem dec_no (c : UInt8) (hc : isDig c = false) (h45 : c ≠ 45) (n : Int) : c ∉ (decV n).data.toList := by
  rw [decV_data]
  unfold Lib.itoa
  have nod : ∀ u, c ∉ Lib.decDigits u := fun u hm => by
    have := List.all_eq_true.1 (dec_all u) c hm
    rw [hc] at this; cases this
  split
  · simp only [List.mem_cons, not_or]; exact ⟨h45, nod _⟩
  · exact nod _

def wordsOf (s : ByteArray) : List ByteArray := (cutB 32 s).filter fun x => decide (¬ x.toList = ([] : List UInt8))
theorem wordsOf_len (s : ByteArray) : (wordsOf s).length ≤ s.size + 1 := Nat.le_trans (List.length_filter_le _ _) (cutB_len 32 s)
theorem filter_take_succ {α : Type} (xs : List α) (z : α) (p : α → Bool) {n : Nat} (h : n < xs.length) : (xs.take (n + 1)).filter p = if p (xs.getD n z) = true then (xs.take n).filter p ++ [xs.getD n z] else (xs.take n).filter p := by
  rw [List.take_succ_eq_append_getElem h, List.filter_append, getD_lt' xs z h]
  cases hp : p xs[n] <;> simp [hp]
theorem spec_SplitWords_ev (s : ByteArray) (hs : s.size ≤ 1048576) : Ev (fun k => spec_SplitWords.f k s) (wordsOf s) := by
  simp only [spec_SplitWords.f]
  refine Ev.bind (spec_l01Split_ev s hs 32) ?_
  have hl := cutB_len 32 s
  generalize hx : cutB 32 s = xs at hl
  unfold wordsOf
  rw [hx]
  refine ev_fold (len := xs.length) (g := fun k out i => spec_SplitWords.l0 k xs out i) (fun n out => if decide (¬ (xs.getD n ByteArray.empty).toList = ([] : List UInt8)) = true then out ++ [xs.getD n ByteArray.empty] else out) (fun n => (xs.take n).filter fun x => decide (¬ x.toList = ([] : List UInt8))) _ (fun n hn => filter_take_succ xs ByteArray.empty _ hn) ?_ ?_
  · intro n hn r hr
    have l1 : ((xs.take n).filter fun x => decide (¬ x.toList = ([] : List UInt8))).length ≤ n := Nat.le_trans (List.length_filter_le _ _) (by rw [List.length_take]; omega)
    generalize ((xs.take n).filter fun x => decide (¬ x.toList = ([] : List UInt8))) = out at hr l1
    refine ev_succ ?_
    by_cases c : (xs.getD n ByteArray.empty).toList = ([] : List UInt8)
    · simp only [c, not_true, decide_false, Bool.false_eq_true, if_false] at hr
      simp only [spec_SplitWords.l0, rdOf, Int.ofNat_lt.2 hn, show (0 : Int) ≤ (n : Int) from Int.natCast_nonneg _, if_true, Int.toNat_natCast, c, wnext hn (by omega : xs.length ≤ 9223372036854775807)]
      exact hr
    · simp only [c, not_false_eq_true, decide_true, if_true] at hr
      simp only [spec_SplitWords.l0, rdOf, Int.ofNat_lt.2 hn, show (0 : Int) ≤ (n : Int) from Int.natCast_nonneg _, if_true, Int.toNat_natCast, c, if_false, show out.length < 8796093022208 by omega, wnext hn (by omega : xs.length ≤ 9223372036854775807)]
      exact hr
  · refine ev_succ ?_
    simp only [spec_SplitWords.l0, Int.lt_irrefl, if_false, List.take_length]
    exact ev_now _
theorem impl_SplitWords_ev (s : ByteArray) (hs : s.size ≤ 1048576) : Ev (fun k => impl_SplitWords.f k s) (wordsOf s) := by
  simp only [impl_SplitWords.f, strings_Split_eq s hs 32, Option.bind_some]
  have hl := cutB_len 32 s
  generalize hx : cutB 32 s = xs at hl
  unfold wordsOf
  rw [hx]
  refine ev_fold (len := xs.length) (g := fun k out i => impl_SplitWords.l0 k out xs (xs.length : Int) i) (fun n out => if decide (¬ (xs.getD n ByteArray.empty).toList = ([] : List UInt8)) = true then out ++ [xs.getD n ByteArray.empty] else out) (fun n => (xs.take n).filter fun x => decide (¬ x.toList = ([] : List UInt8))) _ (fun n hn => filter_take_succ xs ByteArray.empty _ hn) ?_ ?_
  · intro n hn r hr
    have l1 : ((xs.take n).filter fun x => decide (¬ x.toList = ([] : List UInt8))).length ≤ n := Nat.le_trans (List.length_filter_le _ _) (by rw [List.length_take]; omega)
    generalize ((xs.take n).filter fun x => decide (¬ x.toList = ([] : List UInt8))) = out at hr l1
    refine ev_succ ?_
    by_cases c : (xs.getD n ByteArray.empty).toList = ([] : List UInt8)
    · simp only [c, not_true, decide_false, Bool.false_eq_true, if_false] at hr
      simp only [impl_SplitWords.l0, rdOf, Int.ofNat_lt.2 hn, show (0 : Int) ≤ (n : Int) from Int.natCast_nonneg _, if_true, Int.toNat_natCast, c, wnext hn (by omega : xs.length ≤ 9223372036854775807)]
      exact hr
    · simp only [c, not_false_eq_true, decide_true, if_true] at hr
      simp only [impl_SplitWords.l0, rdOf, Int.ofNat_lt.2 hn, show (0 : Int) ≤ (n : Int) from Int.natCast_nonneg _, if_true, Int.toNat_natCast, c, if_false, show out.length < 8796093022208 by omega, wnext hn (by omega : xs.length ≤ 9223372036854775807)]
      exact hr
  · refine ev_succ ?_
    simp only [impl_SplitWords.l0, Int.lt_irrefl, if_false, List.take_length]
    exact ev_now _

theorem spec_l01Small_eq (c : Int) : spec_l01Small.f c = some (decide (97 ≤ c ∧ c ≤ 122)) := by
  unfold spec_l01Small.f
  by_cases h : c ≥ 97
  · rw [if_pos h]; congr 1; simp; omega
  · rw [if_neg h]; congr 1; simp; omega
theorem spec_l01Digit_eq (c : Int) : spec_l01Digit.f c = some (decide (48 ≤ c ∧ c ≤ 57)) := by
  unfold spec_l01Digit.f
  by_cases h : c ≥ 48
  · rw [if_pos h]; congr 1; simp; omega
  · rw [if_neg h]; congr 1; simp; omega
theorem spec_IsName_loop (s : ByteArray) (hs : s.size ≤ 12) : Ev (fun k => spec_IsName.l0 k s 0) ((List.range s.size).all fun i => nameCh (bt s i)) := by
  refine ev_to (ev_all (len := s.size) (g := fun k i => spec_IsName.l0 k s i) (fun i => nameCh (bt s i)) true ?_ ?_ ?_) (by simp)
  · intro n hn hp r hr
    refine ev_succ ?_
    simp only [spec_IsName.l0, spec_l01Small_eq, spec_l01Digit_eq, Option.bind_some]
    simp only [Int.ofNat_lt.2 hn, if_true, show (0 : Int) ≤ (n : Int) from Int.natCast_nonneg n, wnext hn (by omega : s.size ≤ 9223372036854775807)]
    unfold nameCh at hp
    by_cases c1 : 97 ≤ bt s n ∧ bt s n ≤ 122
    · simpa [c1] using hr
    · by_cases c2 : 48 ≤ bt s n ∧ bt s n ≤ 57
      · simpa [c1, c2] using hr
      · by_cases c3 : bt s n = 45
        · simpa [c3] using hr
        · simp [c1, c2, c3] at hp
  · intro n hn hp
    refine ev_succ ?_
    simp only [spec_IsName.l0, spec_l01Small_eq, spec_l01Digit_eq, Option.bind_some]
    unfold nameCh at hp
    simp only [Bool.or_eq_false_iff, decide_eq_false_iff_not] at hp
    simp only [hp.1.1, hp.1.2, hp.2, Int.ofNat_lt.2 hn, show (0 : Int) ≤ (n : Int) from Int.natCast_nonneg n, if_true, if_false, decide_false, Bool.false_eq_true]
    exact ev_now _
  · refine ev_succ ?_
    simp only [spec_IsName.l0, Int.lt_irrefl, if_false]
    exact ev_now _
theorem toList_nil_iff (s : ByteArray) : s.toList = ([] : List UInt8) ↔ s.size = 0 := by
  rw [← List.length_eq_zero_iff, ByteArray.toList_eq, Array.length_toList]
  exact Iff.rfl
theorem spec_IsName_ev (s : ByteArray) : Ev (fun k => spec_IsName.f k s) (isNameB s) := by
  unfold spec_IsName.f isNameB
  by_cases h0 : s.size = 0
  · simp only [(toList_nil_iff s).2 h0, if_true, h0]
    refine ev_succ ?_
    simp only [spec_IsName.j0, if_true]
    exact ev_now _
  · have h0' : ¬ s.toList = ([] : List UInt8) := fun h => h0 ((toList_nil_iff s).1 h)
    simp only [h0', if_false]
    by_cases h1 : s.size ≤ 12
    · have e1 : ¬ ((s.size : Int) > 12) := by omega
      have e2 : (0 : Int) < (s.size : Int) := by omega
      simp only [e1, e2, if_true, if_false, spec_l01Small_eq, Option.bind_some]
      refine ev_succ ?_
      simp only [spec_IsName.j0]
      by_cases h2 : 97 ≤ bt s 0 ∧ bt s 0 ≤ 122
      · simp only [h2, decide_true, Bool.not_true, Bool.false_eq_true, if_false, and_self]
        refine ev_to (spec_IsName_loop s h1) ?_
        simp [show 1 ≤ s.size by omega, h1]
      · simp only [h2, decide_false, Bool.not_false, if_true]
        exact ev_to (ev_now _) (by simp)
    · have e1 : ((s.size : Int) > 12) := by omega
      simp only [e1, if_true]
      refine ev_succ ?_
      simp only [spec_IsName.j0, if_true]
      exact ev_to (ev_now _) (by simp [h1])
theorem impl_IsName_loop (s : ByteArray) (hs : s.size ≤ 12) : Ev (fun k => impl_IsName.l0 k s 0) ((List.range s.size).all fun i => nameCh (bt s i)) := by
  refine ev_to (ev_all (len := s.size) (g := fun k i => impl_IsName.l0 k s i) (fun i => nameCh (bt s i)) true ?_ ?_ ?_) (by simp)
  · intro n hn hp r hr
    refine ev_succ ?_
    simp only [impl_IsName.l0]
    unfold nameCh at hp
    simp only [Bool.or_eq_true, decide_eq_true_eq] at hp
    have e0 : (n : Int) < (s.size : Int) := by omega
    simp only [e0, show (0 : Int) ≤ (n : Int) from Int.natCast_nonneg n, if_true, wnext hn (by omega : s.size ≤ 9223372036854775807)]
    by_cases d1 : bt s n < 97 <;> by_cases d2 : bt s n > 122 <;> by_cases d3 : bt s n < 48 <;> by_cases d4 : bt s n > 57 <;> by_cases d5 : bt s n = 45 <;>
      first | (exfalso; omega) | (simp only [d1, d2, d3, d4, d5, if_true, if_false]; exact hr)
  · intro n hn hp
    refine ev_succ ?_
    simp only [impl_IsName.l0]
    unfold nameCh at hp
    simp only [Bool.or_eq_false_iff, decide_eq_false_iff_not] at hp
    have e0 : (n : Int) < (s.size : Int) := by omega
    simp only [e0, show (0 : Int) ≤ (n : Int) from Int.natCast_nonneg n, if_true]
    by_cases d1 : bt s n < 97 <;> by_cases d2 : bt s n > 122 <;> by_cases d3 : bt s n < 48 <;> by_cases d4 : bt s n > 57 <;> by_cases d5 : bt s n = 45 <;>
      first | (exfalso; omega) | (simp only [d1, d2, d3, d4, d5, if_true, if_false]; exact ev_now _)
  · refine ev_succ ?_
    simp only [impl_IsName.l0, Int.lt_irrefl, if_false]
    exact ev_now _
theorem impl_IsName_ev (s : ByteArray) : Ev (fun k => impl_IsName.f k s) (isNameB s) := by
  unfold impl_IsName.f isNameB
  by_cases h0 : s.size = 0
  · simp only [h0]
    refine ev_succ ?_
    simp only [impl_IsName.j0, if_true]
    exact ev_now _
  · have e3 : ¬ ((s.size : Int) < 1) := by omega
    simp only [e3, if_false]
    by_cases h1 : s.size ≤ 12
    · have e1 : ¬ ((s.size : Int) > 12) := by omega
      have e2 : (0 : Int) < (s.size : Int) := by omega
      simp only [e1, e2, if_true, if_false]
      by_cases h2 : bt s 0 < 97
      · simp only [h2, if_true]
        refine ev_succ ?_
        simp only [impl_IsName.j0, if_true]
        exact ev_to (ev_now _) (by simp; omega)
      · simp only [h2, if_false]
        refine ev_succ ?_
        simp only [impl_IsName.j0]
        by_cases h3 : bt s 0 > 122
        · simp only [h3, decide_true, if_true]
          exact ev_to (ev_now _) (by simp; omega)
        · simp only [h3, decide_false, Bool.false_eq_true, if_false]
          refine ev_to (impl_IsName_loop s h1) ?_
          simp [show 1 ≤ s.size by omega, h1, show 97 ≤ bt s 0 by omega, show bt s 0 ≤ 122 by omega]
    · have e1 : ((s.size : Int) > 12) := by omega
      simp only [e1, if_true]
      refine ev_succ ?_
      simp only [impl_IsName.j0, if_true]
      exact ev_to (ev_now _) (by simp [h1])

theorem spec_l00In_eq (a b c : Int) : spec_l00In.f a b c = some (decide (b ≤ a ∧ a ≤ c)) := by
  unfold spec_l00In.f
  by_cases h : a ≥ b
  · rw [if_pos h]; congr 1; simp; omega
  · rw [if_neg h]; congr 1; simp; omega

theorem wrap64_range (n : Int) : -9223372036854775808 ≤ wrap64 n ∧ wrap64 n ≤ 9223372036854775807 := by unfold wrap64; omega
theorem pick1_ev {l : List Int} (hl : byteL l) (p s n : Int) (hp : 0 ≤ p ∧ p ≤ 100000) (hn : 1 ≤ n ∧ n ≤ 200) : ∃ v p' s', spec_l00Src_pick.f l p s n = some (v, p', s') ∧ (0 ≤ v ∧ v < n) ∧ (p ≤ p' ∧ p' ≤ p + 1) := by
  by_cases h : n = 1
  · subst h
    exact ⟨0, p, s, by simp only [spec_l00Src_pick.f, Int.le_refl, if_true], by omega, by omega⟩
  · obtain ⟨v, s', e, h1⟩ := src_pick_ev hl p s n (by omega) (by omega)
    exact ⟨v, p + 1, s', e, h1, by omega⟩
theorem text_ev {l : List Int} (hl : byteL l) (p s : Int) (hp : 0 ≤ p ∧ p ≤ 100000) (xs : List ByteArray) (hx : 1 ≤ xs.length ∧ xs.length ≤ 200) (M : Nat) (hM : ∀ y ∈ xs, y.size ≤ M) : ∃ t p' s', spec_l00Src_text.f l p s xs = some (t, p', s') ∧ t.size ≤ M ∧ (p ≤ p' ∧ p' ≤ p + 1) := by
  obtain ⟨v, p', s', e, h1, h2⟩ := pick1_ev hl p s (xs.length : Int) hp (by omega)
  refine ⟨rdOf ByteArray.empty xs v, p', s', ?_, ?_, h2⟩
  · simp only [spec_l00Src_text.f, e, Option.bind_some, h1.1, h1.2, if_true]
  · unfold rdOf
    have hv : v.toNat < xs.length := by omega
    rw [getD_lt' xs _ hv]
    exact hM _ (List.getElem_mem hv)
theorem any_loop {l : List Int} (hl : byteL l) : ∀ (d : Nat) (x i p s : Int), i + d = 7 → 0 ≤ i → 0 ≤ p → p + d ≤ 1000 → (-9223372036854775808 ≤ x ∧ x ≤ 9223372036854775807) →
    ∃ n p' s', Ev (fun k => spec_l01Any.l0 k x i l p s) (n, p', s') ∧ (-9223372036854775808 ≤ n ∧ n ≤ 9223372036854775807) ∧ (p ≤ p' ∧ p' ≤ p + d) := by
  intro d
  induction d with
  | zero =>
    intro x i p s hi h0 hp hp2 hx
    refine ⟨x, p, s, ev_succ ?_, hx, by omega⟩
    simp only [spec_l01Any.l0, show ¬ i < 7 by omega, if_false]
    exact ev_now _
  | succ d ih =>
    intro x i p s hi h0 hp hp2 hx
    obtain ⟨v, s', e, hv⟩ := src_next_ev hl p s (by omega)
    obtain ⟨n, p', s'', h1, h2, h3⟩ := ih (wrap64 (wrap64 (256 * x) + v)) (i + 1) (p + 1) s' (by omega) (by omega) (by omega) (by omega) (wrap64_range _)
    refine ⟨n, p', s'', ev_succ ?_, h2, by omega⟩
    simp only [spec_l01Any.l0, show i < 7 by omega, if_true, e, Option.bind_some, w64 (n := i + 1) (by omega) (by omega)]
    exact h1
theorem any_ev {l : List Int} (hl : byteL l) (p s : Int) (hp : 0 ≤ p ∧ p ≤ 100) : ∃ n p' s', Ev (fun k => spec_l01Any.f k l p s) (n, p', s') ∧ (-9223372036854775808 ≤ n ∧ n ≤ 9223372036854775807) ∧ (p ≤ p' ∧ p' ≤ p + 10) := by
  obtain ⟨v, s1, e1, h1⟩ := src_pick_ev hl p s 4 (by omega) (by omega)
  simp only [spec_l01Any.f, e1, Option.bind_some]
  by_cases c0 : v = 0
  · simp only [c0, if_true]
    obtain ⟨u, s2, e2, h2⟩ := src_pick_ev hl (p + 1) s1 8 (by omega) (by omega)
    have el : ((([(-9223372036854775808), 9223372036854775807, 1000000000, 1000000001, (-1000000000), 999999999999999999, 1000000000000000000, (-7)] : List Int)).length : Int) = 8 := rfl
    refine ⟨rd [(-9223372036854775808), 9223372036854775807, 1000000000, 1000000001, (-1000000000), 999999999999999999, 1000000000000000000, (-7)] u, p + 1 + 1, s2, ?_, ?_, by omega⟩
    · simp only [spec_l00Src_among.f, el, e2, Option.bind_some, h2.1, h2.2, if_true]
      exact ev_now _
    · have : ∀ i, i < 8 → -9223372036854775808 ≤ ([(-9223372036854775808), 9223372036854775807, 1000000000, 1000000001, (-1000000000), 999999999999999999, 1000000000000000000, (-7)] : List Int).getD i 0 ∧ ([(-9223372036854775808), 9223372036854775807, 1000000000, 1000000001, (-1000000000), 999999999999999999, 1000000000000000000, (-7)] : List Int).getD i 0 ≤ 9223372036854775807 := by decide
      exact this u.toNat (by omega)
  · by_cases c1 : v = 1
    · simp only [c1, show ¬ (1 : Int) = 0 by decide, if_true, if_false]
      obtain ⟨x, s2, e2, h2⟩ := src_next_ev hl (p + 1) s1 (by omega)
      obtain ⟨n, p', s', k1, k2, k3⟩ := any_loop hl 7 x 0 (p + 1 + 1) s2 (by omega) (by omega) (by omega) (by omega) (by omega)
      refine ⟨n, p', s', ?_, k2, by omega⟩
      simp only [e2, Option.bind_some]
      exact k1
    · simp only [c0, c1, if_false]
      obtain ⟨u, s2, e2, h2⟩ := src_pick_ev hl (p + 1) s1 200 (by omega) (by omega)
      refine ⟨wrap64 (u - 100), p + 1 + 1, s2, ?_, wrap64_range _, by omega⟩
      simp only [e2, Option.bind_some]
      exact ev_now _
theorem draw_ev {l : List Int} (hl : byteL l) : ∃ n, Ev (fun k => spec_DrawDecimal.f k l) n ∧ (-9223372036854775808 ≤ n ∧ n ≤ 9223372036854775807) := by
  obtain ⟨n, p, s, h1, h2, _⟩ := any_ev hl 0 0 (by omega)
  refine ⟨n, ?_, h2⟩
  simp only [spec_DrawDecimal.f, spec_l00From.f, Option.bind_some]
  exact Ev.bind h1 (ev_now _)
theorem spoil_ev {l : List Int} (hl : byteL l) (p s : Int) (hp : 0 ≤ p ∧ p ≤ 1000) (t : ByteArray) (ht : t.size ≤ 100) : ∃ r p' s', spec_l01Spoil.f l p s t = some (r, p', s') ∧ r.size ≤ 1000 := by
  obtain ⟨v, s1, e1, h1⟩ := src_pick_ev hl p s 5 (by omega) (by omega)
  have ex : ∀ a b : Nat, (t.extract a b).size ≤ 100 := fun a b => by rw [ByteArray.size_extract]; omega
  by_cases c0 : v = 0
  · obtain ⟨u, p2, s2, e2, h2, h3⟩ := pick1_ev hl (p + 1) s1 ((t.size : Int) + 1) (by omega) (by omega)
    obtain ⟨w, p3, s3, e3, h4, h5⟩ := text_ev hl p2 s2 (by omega) ([(⟨#[32]⟩ : ByteArray), (⟨#[48]⟩ : ByteArray), (⟨#[45]⟩ : ByteArray), (⟨#[120]⟩ : ByteArray), (⟨#[49]⟩ : ByteArray), (⟨#[57]⟩ : ByteArray), (⟨#[46]⟩ : ByteArray)] : List ByteArray) (by decide) 1 (by decide)
    have x1 := ex 0 u.toNat
    have x2 := ex u.toNat t.size
    refine ⟨(t.extract 0 u.toNat ++ w) ++ t.extract u.toNat t.size, p3, s3, ?_, ?_⟩
    · simp only [spec_l01Spoil.f, e1, Option.bind_some, c0, if_true, w64 (n := (t.size : Int) + 1) (by omega) (by omega), e2, h2.1, show u ≤ (t.size : Int) by omega, e3, show (t.extract 0 u.toNat).size + w.size ≤ 9223372036854775807 by omega, ByteArray.size_append, show (t.extract 0 u.toNat).size + w.size + (t.extract u.toNat t.size).size ≤ 9223372036854775807 by omega]
    · simp only [ByteArray.size_append]; omega
  · by_cases c1 : v = 1
    · by_cases hz : t.toList = ([] : List UInt8)
      · exact ⟨t, p + 1, s1, by simp only [spec_l01Spoil.f, e1, Option.bind_some, c1, show ¬ (1 : Int) = 0 by decide, if_true, if_false, hz], by omega⟩
      · have hpos : 1 ≤ t.size := by
          rcases Nat.eq_zero_or_pos t.size with h | h
          · exact absurd ((toList_nil_iff t).2 h) hz
          · exact h
        obtain ⟨u, p2, s2, e2, h2, h3⟩ := pick1_ev hl (p + 1) s1 (t.size : Int) (by omega) (by omega)
        have x1 := ex 0 u.toNat
        have x2 := ex (u + 1).toNat t.size
        refine ⟨t.extract 0 u.toNat ++ t.extract (u + 1).toNat t.size, p2, s2, ?_, ?_⟩
        · simp only [spec_l01Spoil.f, e1, Option.bind_some, c1, show ¬ (1 : Int) = 0 by decide, if_true, if_false, hz, e2, h2.1, show u ≤ (t.size : Int) by omega, w64 (n := u + 1) (by omega) (by omega), show 0 ≤ u + 1 by omega, show u + 1 ≤ (t.size : Int) by omega, show (t.extract 0 u.toNat).size + (t.extract (u + 1).toNat t.size).size ≤ 9223372036854775807 by omega]
        · simp only [ByteArray.size_append]; omega
    · exact ⟨t, p + 1, s1, by simp only [spec_l01Spoil.f, e1, Option.bind_some, c0, c1, if_false], by omega⟩
theorem decV_size (n : Int) (h0 : -9223372036854775808 ≤ n) (h1 : n ≤ 9223372036854775807) : (decV n).size ≤ 21 := by
  have e : (decV n).size = (Lib.itoa n).length := by unfold decV; simp [ByteArray.size]
  rw [e]
  unfold Lib.itoa
  split
  · rw [List.length_cons, Lib.decDigits_length]; have := nDigits_le n.natAbs (by omega); omega
  · rw [Lib.decDigits_length]; have := nDigits_le n.toNat (by omega); omega
theorem drawRead_ev {l : List Int} (hl : byteL l) : ∃ t, Ev (fun k => spec_DrawReadDecimal.f k l) t ∧ t.size ≤ 1000 := by
  obtain ⟨n, p, s, h1, h2, h3⟩ := any_ev hl 0 0 (by omega)
  have sz := decV_size n h2.1 h2.2
  obtain ⟨r, p', s', h4, h5⟩ := spoil_ev hl p s (by omega) (decV n) (by omega)
  refine ⟨r, ?_, h5⟩
  simp only [spec_DrawReadDecimal.f, spec_l00From.f, Option.bind_some]
  refine Ev.bind h1 (Ev.bind (spec_l01Dec_ev n h2.1 h2.2) ?_)
  simp only [h4, Option.bind_some]
  exact ev_now _
theorem words_loop {l : List Int} (hl : byteL l) : ∀ (d : Nat) (t : ByteArray) (p s : Int), 0 ≤ p → p + d ≤ 1000 → t.size + 3 * d ≤ 1000 → ∃ r, Ev (fun k => spec_DrawSplitWords.l0 k t (d : Int) l p s) r ∧ r.size ≤ 1000 := by
  intro d
  induction d with
  | zero =>
    intro t p s hp hp2 ht
    refine ⟨t, ev_succ ?_, by omega⟩
    simp only [spec_DrawSplitWords.l0, show ¬ (((0 : Nat) : Int) > 0) by omega, if_false]
    exact ev_now _
  | succ d ih =>
    intro t p s hp hp2 ht
    obtain ⟨w, p', s', e, h1, h2⟩ := text_ev hl p s (by omega) ([(⟨#[97]⟩ : ByteArray), (⟨#[98, 99]⟩ : ByteArray), (⟨#[32]⟩ : ByteArray), (⟨#[32, 32]⟩ : ByteArray), (⟨#[120, 32, 121]⟩ : ByteArray)] : List ByteArray) (by decide) 3 (by decide)
    obtain ⟨r, h3, h4⟩ := ih (t ++ w) p' s' (by omega) (by omega) (by rw [ByteArray.size_append]; omega)
    refine ⟨r, ev_succ ?_, h4⟩
    simp only [spec_DrawSplitWords.l0, show (((d + 1 : Nat) : Int) > 0) by omega, if_true, e, Option.bind_some, show t.size + w.size ≤ 9223372036854775807 by omega, show wrap64 (((d + 1 : Nat) : Int) - 1) = (d : Int) by rw [w64 (by omega) (by omega)]; omega]
    exact h3
theorem drawWords_ev {l : List Int} (hl : byteL l) : ∃ t, Ev (fun k => spec_DrawSplitWords.f k l) t ∧ t.size ≤ 1000 := by
  obtain ⟨v, s, e, h⟩ := src_pick_ev hl 0 0 6 (by omega) (by omega)
  obtain ⟨r, h1, h2⟩ := words_loop hl v.toNat (⟨#[]⟩ : ByteArray) 1 s (by omega) (by omega) (by show 0 + 3 * v.toNat ≤ 1000; omega)
  rw [show ((v.toNat : Nat) : Int) = v by omega] at h1
  refine ⟨r, ?_, h2⟩
  simp only [spec_DrawSplitWords.f, spec_l00From.f, Option.bind_some, e]
  exact h1
theorem drawName_ev {l : List Int} (hl : byteL l) : ∃ t, spec_DrawIsName.f l = some t := by
  obtain ⟨w, p', s', e, h1, h2⟩ := text_ev hl 0 0 (by omega) ([(⟨#[97]⟩ : ByteArray), (⟨#[112, 105, 110, 45, 51]⟩ : ByteArray), (⟨#[97, 98, 99, 100, 101, 102, 103, 104, 105, 106, 107, 108]⟩ : ByteArray), (⟨#[97, 98, 99, 100, 101, 102, 103, 104, 105, 106, 107, 108, 109]⟩ : ByteArray), (⟨#[55, 97]⟩ : ByteArray), (⟨#[85, 112]⟩ : ByteArray), (⟨#[]⟩ : ByteArray), (⟨#[120, 46, 121]⟩ : ByteArray), (⟨#[45, 97]⟩ : ByteArray), (⟨#[109, 49]⟩ : ByteArray)] : List ByteArray) (by decide) 13 (by decide)
  obtain ⟨r, p2, s2, e2, h3⟩ := spoil_ev hl p' s' (by omega) w (by omega)
  exact ⟨r, by simp only [spec_DrawIsName.f, spec_l00From.f, Option.bind_some, e, e2]⟩
theorem drawCode_ev {l : List Int} (hl : byteL l) : ∃ k, spec_DrawCodeName.f l = some k ∧ (-1 ≤ k ∧ k ≤ 12) := by
  obtain ⟨v, s, e, h⟩ := src_pick_ev hl 0 0 14 (by omega) (by omega)
  refine ⟨v - 1, ?_, by omega⟩
  simp only [spec_DrawCodeName.f, spec_l00From.f, Option.bind_some, e, w64 (n := v - 1) (by omega) (by omega)]
/-! ### names of codes -/
def cnL : List ByteArray := [(⟨#[111, 107]⟩ : ByteArray), (⟨#[105, 110, 118, 97, 108, 105, 100]⟩ : ByteArray), (⟨#[114, 97, 110, 103, 101]⟩ : ByteArray), (⟨#[110, 111, 116, 45, 102, 111, 117, 110, 100]⟩ : ByteArray), (⟨#[101, 120, 105, 115, 116, 115]⟩ : ByteArray), (⟨#[102, 117, 108, 108]⟩ : ByteArray), (⟨#[115, 116, 97, 116, 101]⟩ : ByteArray), (⟨#[115, 121, 110, 116, 97, 120]⟩ : ByteArray), (⟨#[102, 111, 114, 109, 97, 116]⟩ : ByteArray), (⟨#[99, 108, 97, 115, 104]⟩ : ByteArray), (⟨#[108, 111, 111, 115, 101]⟩ : ByteArray)]
def codeN (k : Int) : ByteArray := if 0 ≤ k ∧ k < 11 then rdOf ByteArray.empty cnL k else (⟨#[]⟩ : ByteArray)
theorem cnL_len : ((([(⟨#[111, 107]⟩ : ByteArray), (⟨#[105, 110, 118, 97, 108, 105, 100]⟩ : ByteArray), (⟨#[114, 97, 110, 103, 101]⟩ : ByteArray), (⟨#[110, 111, 116, 45, 102, 111, 117, 110, 100]⟩ : ByteArray), (⟨#[101, 120, 105, 115, 116, 115]⟩ : ByteArray), (⟨#[102, 117, 108, 108]⟩ : ByteArray), (⟨#[115, 116, 97, 116, 101]⟩ : ByteArray), (⟨#[115, 121, 110, 116, 97, 120]⟩ : ByteArray), (⟨#[102, 111, 114, 109, 97, 116]⟩ : ByteArray), (⟨#[99, 108, 97, 115, 104]⟩ : ByteArray), (⟨#[108, 111, 111, 115, 101]⟩ : ByteArray)] : List ByteArray)).length : Int) = 11 := rfl
theorem impl_CodeName_eq (k : Int) : impl_CodeName.f k = some (codeN k) := by
  simp only [impl_CodeName.f, Option.bind_some, cnL_len]
  unfold codeN
  by_cases h0 : k < 0
  · rw [if_pos h0, if_neg (by omega)]
  · by_cases h1 : k ≥ 11
    · rw [if_neg h0, if_pos h1, if_neg (by omega)]
    · rw [if_neg h0, if_neg h1, if_pos (by omega), if_pos (by omega), if_pos (by omega)]
      rfl
theorem spec_CodeName_eq (k : Int) : spec_CodeName.f k = some (codeN k) := by
  have e10 : wrap64 ((11 : Int) - 1) = 10 := by decide +kernel
  simp only [spec_CodeName.f, Option.bind_some, cnL_len, spec_l00In_eq, e10]
  unfold codeN
  by_cases h : 0 ≤ k ∧ k ≤ 10
  · rw [decide_eq_true h, if_pos rfl, if_pos h.1, if_pos (by omega), if_pos (by omega)]
    rfl
  · rw [decide_eq_false h, if_neg (by decide), if_neg (by omega)]
theorem cnL_data : ∀ i, i < 11 → ∀ n, n < 11 → i ≠ n → (cnL.getD i ByteArray.empty).data.toList ≠ (cnL.getD n ByteArray.empty).data.toList := by decide +kernel
theorem cnL_some : ∀ i, i < 11 → (cnL.getD i ByteArray.empty).data.toList ≠ [] := by decide +kernel
theorem codeN_ne (i : Nat) (k : Int) (hi : i < 11) (h : ¬ (i : Int) = k) : ¬ (codeN (i : Int)).toList = (codeN k).toList := by
  rw [toList_data, toList_data]
  unfold codeN
  rw [if_pos (by omega)]
  unfold rdOf
  rw [Int.toNat_natCast]
  by_cases hk : 0 ≤ k ∧ k < 11
  · rw [if_pos hk]
    exact cnL_data i hi k.toNat (by omega) (by omega)
  · rw [if_neg hk]
    exact cnL_some i hi
/-! ### the law -/
theorem laws_f6texts_self (xs : List ByteArray) (h : xs.length ≤ 9223372036854775807) : Ev (fun k => laws_f6texts.f k xs xs) true := by
  simp only [laws_f6texts.f, if_true]
  refine ev_to (ev_all (len := xs.length) (g := fun k i => laws_f6texts.l0 k xs xs i) (fun _ => true) true ?_ (fun n hn hp => by simp at hp) ?_) (by simp)
  · intro n hn hp r hr
    refine ev_succ ?_
    simp only [laws_f6texts.l0, Int.ofNat_lt.2 hn, show (0 : Int) ≤ (n : Int) from Int.natCast_nonneg _, if_true, wnext hn h]
    exact hr
  · refine ev_succ ?_
    simp only [laws_f6texts.l0, Int.lt_irrefl, if_false]
    exact ev_now _
theorem splA_mem_no (c : UInt8) : ∀ (l cur : List UInt8), c ∉ cur → ∀ y ∈ splA c cur l, c ∉ y
  | [], cur, h, y, hy => by simp [splA] at hy; subst hy; exact h
  | b :: l, cur, h, y, hy => by
    rw [splA_cons] at hy
    by_cases e : b = c
    · rw [if_pos e] at hy
      rcases List.mem_cons.1 hy with rfl | hy
      · exact h
      · exact splA_mem_no c l [] (by simp) y hy
    · rw [if_neg e] at hy
      refine splA_mem_no c l (cur ++ [b]) ?_ y hy
      simp only [List.mem_append, List.mem_singleton, not_or]
      exact ⟨h, fun h => e h.symm⟩
theorem wordsOf_one {s w : ByteArray} (h : w ∈ wordsOf s) : wordsOf w = [w] := by
  unfold wordsOf at h
  rw [List.mem_filter] at h
  obtain ⟨hm, hne⟩ := h
  unfold cutB at hm
  obtain ⟨y, hy, rfl⟩ := List.mem_map.1 hm
  have hn := splA_mem_no 32 _ [] (by simp) y hy
  have e : cutB 32 (toBA y) = [toBA y] := by
    unfold cutB
    rw [data_toBA, splA_no 32 y [] hn]
    rfl
  unfold wordsOf
  rw [e, List.filter_cons, if_pos hne]
  rfl
theorem wordsOf_size {s w : ByteArray} (h : w ∈ wordsOf s) : w.size ≤ s.size := by
  unfold wordsOf at h
  have hm := (List.mem_filter.1 h).1
  unfold cutB at hm
  obtain ⟨y, hy, rfl⟩ := List.mem_map.1 hm
  have := splA_part 32 s.data.toList.length s.data.toList [] (by simp) y hy
  rw [Array.length_toList] at this
  have e : (toBA y).size = y.length := by unfold toBA; simp [ByteArray.size]
  rw [e]; exact this
theorem codes_loop (k : Int) : Ev (fun n => laws_FnDecimals.l1 n k 0) true := by
  refine ev_fold (len := 11) (g := fun n (_ : Unit) i => laws_FnDecimals.l1 n k i) (fun _ _ => ()) (fun _ => ()) true (fun _ _ => rfl) ?_ ?_
  · intro n hn r hr
    refine ev_succ ?_
    by_cases e : (n : Int) = k
    · subst e
      simp only [laws_FnDecimals.l1, show (n : Int) ≤ 10 by omega, if_true, wnext hn (by omega : 11 ≤ 9223372036854775807)]
      exact hr
    · have ne := codeN_ne n k hn e
      simp only [laws_FnDecimals.l1, show (n : Int) ≤ 10 by omega, if_true, e, if_false, impl_CodeName_eq, Option.bind_some, ne, wnext hn (by omega : 11 ≤ 9223372036854775807)]
      exact hr
  · refine ev_succ ?_
    simp only [laws_FnDecimals.l1, show ¬ ((11 : Nat) : Int) ≤ 10 by omega, if_false]
    exact ev_now _
theorem words_check (s : ByteArray) (hs : s.size ≤ 1000) (k : Int) : Ev (fun n => laws_FnDecimals.l0 n (wordsOf s) k 0) true := by
  have wl := wordsOf_len s
  refine ev_fold (len := (wordsOf s).length) (g := fun n (_ : Unit) i => laws_FnDecimals.l0 n (wordsOf s) k i) (fun _ _ => ()) (fun _ => ()) true (fun _ _ => rfl) ?_ ?_
  · intro n hn r hr
    refine ev_succ ?_
    have hm : (wordsOf s).getD n ByteArray.empty ∈ wordsOf s := by rw [getD_lt' _ _ hn]; exact List.getElem_mem hn
    have h1 := wordsOf_one hm
    have h2 := wordsOf_size hm
    have k1 := impl_SplitWords_ev ((wordsOf s).getD n ByteArray.empty) (by omega)
    rw [h1] at k1
    simp only [laws_FnDecimals.l0, Int.ofNat_lt.2 hn, show (0 : Int) ≤ (n : Int) from Int.natCast_nonneg _, if_true, rdOf, Int.toNat_natCast, wnext hn (by omega : (wordsOf s).length ≤ 9223372036854775807)]
    refine Ev.bind k1 ?_
    simp only [List.length_singleton, show ((1 : Nat) : Int) = 1 from rfl, if_true, show (0 : Int) < 1 by decide, show ((0 : Int)).toNat = 0 from rfl, List.getD_cons_zero]
    exact hr
  · refine ev_succ ?_
    simp only [laws_FnDecimals.l0, Int.lt_irrefl, if_false]
    exact codes_loop k
theorem FnDecimals : laws_FnDecimals.Pure := by
  intro l h0
  refine Ev.rounds ?_
  have hl : byteL l := fun y hy => u8_range (h0.2.2 y hy)
  simp only [laws_FnDecimals.f, laws_f6big.f, Option.bind_some]
  by_cases hz : (l.length : Int) > 4096
  · simp only [hz, decide_true, if_true]; exact ev_now _
  simp only [hz, decide_false, Bool.false_eq_true, if_false]
  obtain ⟨n, e1, hn⟩ := draw_ev hl
  obtain ⟨t, e2, ht⟩ := drawRead_ev hl
  obtain ⟨ws, e3, hw⟩ := drawWords_ev hl
  obtain ⟨nm, e4⟩ := drawName_ev hl
  obtain ⟨c, e5, hc⟩ := drawCode_ev hl
  refine Ev.bind e1 ?_
  simp only [impl_Decimal_eq n hn.1 hn.2, Option.bind_some]
  refine Ev.bind (impl_ReadDecimal_ev _) (Ev.bind e2 (Ev.bind (impl_ReadDecimal_ev _) ?_))
  simp only [spec_ReadDecimal.f]
  refine Ev.bind (Ev.bind (spec_l01Number_ev t (by omega)) (ev_now _)) (Ev.bind e3 (Ev.bind (impl_SplitWords_ev ws (by omega)) ?_))
  simp only [e4, e5, Option.bind_some]
  refine Ev.bind (spec_Decimal_ev n hn.1 hn.2) ?_
  simp only [if_true, bne_self_eq_false, Bool.false_eq_true, if_false]
  have wl := wordsOf_len ws
  refine Ev.bind (spec_SplitWords_ev ws (by omega)) (Ev.bind (laws_f6texts_self _ (by omega)) ?_)
  simp only [if_true]
  refine Ev.bind (impl_IsName_ev nm) (Ev.bind (spec_IsName_ev nm) ?_)
  simp only [bne_self_eq_false, Bool.false_eq_true, if_false, impl_CodeName_eq, spec_CodeName_eq, Option.bind_some]
  have fin : Ev (fun k => laws_FnDecimals.j1 k (wordsOf ws) c false) true := by
    refine ev_succ ?_
    simp only [laws_FnDecimals.j1, Bool.false_eq_true, if_false]
    exact words_check ws hw c
  refine ev_succ ?_
  simp only [laws_FnDecimals.j0, Bool.false_eq_true, if_false]
  by_cases a1 : n > -1000000000000000000
  · by_cases a2 : n < 1000000000000000000
    · simp only [a1, a2, if_true, numV_dec n (by omega) a2, bne_self_eq_false]
      exact fin
    · simp only [a1, a2, if_true, if_false]; exact fin
  · simp only [a1, if_false]; exact fin

end Go.Proofs.YtginmioklkcgbaaDoor.Pure

/- Small plain lemmas on numbers, lists and rounds, for the pure statements. No condition. -/
import Derived.Test.YtginmioklkcgbaaVWMore
namespace Go.Proofs.Ytginmioklkcgbaa.Aid
open Go.RowKit Go.Proofs.YtginmioklkcgbaaW.PrintWords Go.Proofs.YtginmioklkcgbaaW.PrintLast Go.Proofs.YtginmioklkcgbaaW.PrintMore
set_option linter.unusedVariables false

theorem wf_range {a : Int} (h : (Lit.int .i64 a).wf = true) : -9223372036854775808 ≤ a ∧ a ≤ 9223372036854775807 := by
  simp only [Lit.wf, IntKind.min, IntKind.max, IntKind.signed, IntKind.bits, Bool.and_eq_true, decide_eq_true_eq, if_true] at h
  omega
theorem w64 {n : Int} (h0 : -9223372036854775808 ≤ n) (h1 : n ≤ 9223372036854775807) : wrap64 n = n := by unfold wrap64; omega
theorem wnext {n : Nat} {N : Nat} (h : n < N) (hN : N ≤ 9223372036854775807) : wrap64 ((n : Int) + 1) = ((n + 1 : Nat) : Int) := by unfold wrap64; omega
theorem maxLen_eq : maxLen = 9223372036854775807 := rfl

/-! ### rounds -/
theorem ev_now {α : Type} (r : α) : Ev (fun _ => some r) r := Ev.now r
theorem ev_const {α : Type} {a : Option α} {r : α} (h : a = some r) : Ev (fun _ => a) r := ⟨0, fun _ _ => h⟩
theorem ev_succ {α : Type} {g : Nat → Option α} {r : α} (h : Ev (fun k => g (k + 1)) r) : Ev g r := Ev.step (fun _ => rfl) h
theorem ev_to {α : Type} {g : Nat → Option α} {r r' : α} (h : Ev g r) (e : r = r') : Ev g r' := e ▸ h

theorem if_pos_ev {c : Prop} [Decidable c] {α : Type} {g f : Nat → Option α} (h : c) : (fun k => if c then g k else f k) = g := by funext k; rw [if_pos h]
theorem if_neg_ev {c : Prop} [Decidable c] {α : Type} {g f : Nat → Option α} (h : ¬ c) : (fun k => if c then g k else f k) = f := by funext k; rw [if_neg h]
/-- A loop over the places from n on, that stops at the first that fails. -/
theorem ev_all {len : Nat} {g : Nat → Int → Option Bool} (p : Nat → Bool) (b : Bool)
    (yes : ∀ n, n < len → p n = true → ∀ r, Ev (fun k => g k ((n + 1 : Nat) : Int)) r → Ev (fun k => g k (n : Int)) r)
    (no : ∀ n, n < len → p n = false → Ev (fun k => g k (n : Int)) false)
    (last : Ev (fun k => g k (len : Int)) b) : Ev (fun k => g k 0) ((List.range len).all p && b) := by
  have key : ∀ d n, n + d = len → Ev (fun k => g k (n : Int)) ((List.range' n d).all p && b) := by
    intro d
    induction d with
    | zero => intro n h; simp only [Nat.add_zero] at h; subst h; simpa using last
    | succ d ih =>
      intro n h
      rw [List.range'_succ, List.all_cons]
      cases hp : p n with
      | true => simpa using yes n (by omega) hp _ (ih (n + 1) (by omega))
      | false => simpa using no n (by omega) hp
  have := key len 0 (by omega)
  rwa [← List.range_eq_range'] at this

/-- A loop that looks for the first place at which p holds. -/
theorem ev_find {ρ : Type} {len : Nat} {g : Nat → Int → Option ρ} (p : Nat → Bool) (hit : Nat → ρ) (miss : ρ)
    (skip : ∀ n, n < len → p n = false → ∀ r, Ev (fun k => g k ((n + 1 : Nat) : Int)) r → Ev (fun k => g k (n : Int)) r)
    (stop : ∀ n, n < len → p n = true → Ev (fun k => g k (n : Int)) (hit n))
    (last : Ev (fun k => g k (len : Int)) miss) : Ev (fun k => g k 0) (match (List.range len).find? p with | some n => hit n | none => miss) := by
  have key : ∀ d n, n + d = len → Ev (fun k => g k (n : Int)) (match (List.range' n d).find? p with | some n => hit n | none => miss) := by
    intro d
    induction d with
    | zero => intro n h; simp only [Nat.add_zero] at h; subst h; simpa using last
    | succ d ih =>
      intro n h
      rw [List.range'_succ, List.find?_cons]
      cases hp : p n with
      | true => simpa using stop n (by omega) hp
      | false => simpa using skip n (by omega) hp _ (ih (n + 1) (by omega))
  have := key len 0 (by omega)
  rwa [← List.range_eq_range'] at this

/-- A loop over the places with a state, an invariant, and whatever is told at the end. -/
theorem ev_loop {σ ρ : Type} {len : Nat} {g : Nat → σ → Int → Option ρ} (Inv : Nat → σ → Prop) (Post : ρ → Prop)
    (round : ∀ n s, n < len → Inv n s → (∃ r, Ev (fun k => g k s (n : Int)) r ∧ Post r) ∨ ∃ s', Inv (n + 1) s' ∧ ∀ r, Ev (fun k => g k s' ((n + 1 : Nat) : Int)) r → Ev (fun k => g k s (n : Int)) r)
    (last : ∀ s, Inv len s → ∃ r, Ev (fun k => g k s (len : Int)) r ∧ Post r) (s : σ) (h0 : Inv 0 s) : ∃ r, Ev (fun k => g k s 0) r ∧ Post r := by
  have key : ∀ d n s, n + d = len → Inv n s → ∃ r, Ev (fun k => g k s (n : Int)) r ∧ Post r := by
    intro d
    induction d with
    | zero => intro n s h hi; simp only [Nat.add_zero] at h; subst h; exact last s hi
    | succ d ih =>
      intro n s h hi
      rcases round n s (by omega) hi with h1 | ⟨s', hi', hg⟩
      · exact h1
      · obtain ⟨r, hr, hp⟩ := ih (n + 1) s' (by omega) hi'
        exact ⟨r, hg r hr, hp⟩
  exact key len 0 s (by omega) h0
/-- The same where each round goes on, and what is told is one value. -/
theorem ev_fold {σ ρ : Type} {len : Nat} {g : Nat → σ → Int → Option ρ} (f : Nat → σ → σ) (S : Nat → σ) (v : ρ)
    (hS : ∀ n, n < len → S (n + 1) = f n (S n))
    (round : ∀ n, n < len → ∀ r, Ev (fun k => g k (f n (S n)) ((n + 1 : Nat) : Int)) r → Ev (fun k => g k (S n) (n : Int)) r)
    (last : Ev (fun k => g k (S len) (len : Int)) v) : Ev (fun k => g k (S 0) 0) v := by
  obtain ⟨r, hr, rfl⟩ := ev_loop (len := len) (g := g) (fun n s => s = S n) (fun r => r = v)
    (fun n s hn hs => .inr ⟨f n (S n), (hS n hn).symm, fun r hr => by subst hs; exact round n hn r hr⟩)
    (fun s hs => ⟨v, by subst hs; exact last, rfl⟩) (S 0) rfl
  exact hr

theorem ev_all2 {len : Nat} {g : Nat → Int → Option Bool} (p : Nat → Bool) (b : Bool)
    (skip : ∀ n, n < len → p n = true → ∀ r, Ev (fun k => g k ((n + 1 : Nat) : Int)) r → Ev (fun k => g k (n : Int)) r)
    (stop : ∀ n, n < len → p n = false → Ev (fun k => g k (n : Int)) false)
    (last : (List.range len).all p = true → Ev (fun k => g k (len : Int)) b) : Ev (fun k => g k 0) ((List.range len).all p && b) := by
  suffices key : ∃ r, Ev (fun k => g k 0) r ∧ r = ((List.range len).all p && b) by obtain ⟨r, hr, e⟩ := key; exact e ▸ hr
  refine ev_loop (len := len) (g := fun k (_ : Unit) i => g k i) (fun n _ => (List.range n).all p = true) (fun r => r = ((List.range len).all p && b)) ?_ ?_ () rfl
  · intro n _ hn hi
    cases hp : p n with
    | true => exact .inr ⟨(), by rw [List.range_succ, List.all_append, hi, List.all_cons, List.all_nil, hp]; rfl, fun r hr => skip n hn hp r hr⟩
    | false =>
      refine .inl ⟨false, stop n hn hp, ?_⟩
      have : (List.range len).all p = false := by rw [List.all_eq_false]; exact ⟨n, List.mem_range.2 hn, by simp [hp]⟩
      rw [this, Bool.false_and]
  · intro _ hi
    exact ⟨b, last hi, by rw [hi, Bool.true_and]⟩

/-! ### lists -/
theorem lset_self {α : Type} {l : List α} {n : Nat} {a z : α} (h : n < l.length) : (l.set n a).getD n z = a := by simp [List.getD_eq_getElem?_getD, h]
theorem lset_ne {α : Type} {l : List α} {n i : Nat} {a z : α} (h : n ≠ i) : (l.set n a).getD i z = l.getD i z := by simp [List.getD_eq_getElem?_getD, List.getElem?_set_ne h]
theorem getD_lt' {α : Type} (xs : List α) (d : α) {n : Nat} (h : n < xs.length) : xs.getD n d = xs[n] := by simp [List.getD_eq_getElem?_getD, h]
theorem foldl_take_succ {α σ : Type} (xs : List α) (d : α) (f : σ → α → σ) (s : σ) {n : Nat} (h : n < xs.length) : (xs.take (n + 1)).foldl f s = f ((xs.take n).foldl f s) (xs.getD n d) := by
  rw [List.take_succ_eq_append_getElem h, List.foldl_append, getD_lt' xs d h]
  rfl
/-- A loop over a list that folds it. -/
theorem ev_foldl {α σ ρ : Type} (xs : List α) (d : α) (f : σ → α → σ) (s0 : σ) {g : Nat → σ → Int → Option ρ} (v : σ → ρ)
    (round : ∀ n, n < xs.length → ∀ s, s = (xs.take n).foldl f s0 → ∀ r, Ev (fun k => g k (f s (xs.getD n d)) ((n + 1 : Nat) : Int)) r → Ev (fun k => g k s (n : Int)) r)
    (last : Ev (fun k => g k (xs.foldl f s0) (xs.length : Int)) (v (xs.foldl f s0))) : Ev (fun k => g k s0 0) (v (xs.foldl f s0)) := by
  have := ev_fold (len := xs.length) (g := g) (fun n s => f s (xs.getD n d)) (fun n => (xs.take n).foldl f s0) (v (xs.foldl f s0)) (fun n hn => foldl_take_succ xs d f s0 hn) (fun n hn r hr => round n hn _ rfl r hr) (by simpa using last)
  simpa using this
theorem flat_len {α : Type} {len m : Nat} (c : Nat → List α) (hc : ∀ n, n < len → (c n).length ≤ m) : ((List.range len).flatMap c).length ≤ len * m := by
  induction len with
  | zero => simp
  | succ n ih =>
    have := ih (fun i hi => hc i (by omega))
    have := hc n (by omega)
    rw [List.range_succ, List.flatMap_append, List.length_append, List.flatMap_singleton, Nat.succ_mul]
    omega
theorem ev_flat {α β ρ : Type} {len m : Nat} {g : Nat → List β → Int → Option ρ} (F : List α → List β) (h0 : F [] = []) (hF : ∀ a b, F (a ++ b) = F a ++ F b) (hl : ∀ a, (F a).length ≤ a.length)
    (c : Nat → List α) (hc : ∀ n, n < len → (c n).length ≤ m) (s0 : List β) (r : ρ)
    (round : ∀ n, n < len → ∀ s, s.length ≤ s0.length + len * m → ∀ r, Ev (fun k => g k (s ++ F (c n)) ((n + 1 : Nat) : Int)) r → Ev (fun k => g k s (n : Int)) r)
    (last : Ev (fun k => g k (s0 ++ F ((List.range len).flatMap c)) (len : Int)) r) : Ev (fun k => g k s0 0) r := by
  have e0 : s0 ++ F ((List.range 0).flatMap c) = s0 := by simp [h0]
  have := ev_fold (len := len) (g := g) (fun n s => s ++ F (c n)) (fun n => s0 ++ F ((List.range n).flatMap c)) r
    (fun n hn => by rw [List.range_succ, List.flatMap_append, hF, List.flatMap_singleton, List.append_assoc])
    (fun n hn r hr => round n hn _ (by
      have a := hl ((List.range n).flatMap c)
      have b := flat_len (len := n) c (fun i hi => hc i (by omega))
      have d := Nat.mul_le_mul_right m (show n ≤ len by omega)
      rw [List.length_append]; omega) r hr)
    last
  rw [e0] at this
  exact this
/-- q, q + 1, .. -/
def upI (q : Int) (n : Nat) : List Int := (List.range n).map fun (i : Nat) => q + (i : Int)
theorem upI_length (q : Int) (n : Nat) : (upI q n).length = n := by simp [upI]
theorem upI_get (q : Int) {n i : Nat} (h : i < n) : (upI q n).getD i 0 = q + (i : Int) := by simp [upI, List.getD_eq_getElem?_getD, h]
theorem fill_up (xs : List Int) (q : Int) {n : Nat} (h : n < xs.length) : (upI q n ++ xs.drop n).set n (q + (n : Int)) = upI q (n + 1) ++ xs.drop (n + 1) := by
  rw [List.set_append_right _ _ (by rw [upI_length]; omega), upI_length, Nat.sub_self, List.drop_eq_getElem_cons h, List.set_cons_zero]
  simp [upI, List.range_succ]
theorem range_all {α : Type} (xs : List α) (d : α) (q : α → Bool) : ((List.range xs.length).all fun n => q (xs.getD n d)) = xs.all q := by
  rw [Bool.eq_iff_iff, List.all_eq_true, List.all_eq_true]
  constructor
  · intro h x hx
    obtain ⟨i, hi, rfl⟩ := List.getElem_of_mem hx
    have := h i (List.mem_range.2 hi)
    simpa [List.getD_eq_getElem?_getD, hi] using this
  · intro h i hi
    have hi' := List.mem_range.1 hi
    have := h (xs[i]) (List.getElem_mem hi')
    simpa [List.getD_eq_getElem?_getD, hi'] using this
theorem getD_lt {α : Type} (xs : List α) (d : α) {n : Nat} (h : n < xs.length) : xs.getD n d = xs[n] := by simp [List.getD_eq_getElem?_getD, h]
/-- A list that is filled from the left. -/
theorem fill_step {α β : Type} (xs : List α) (f : α → β) (d : α) (z : β) {n : Nat} (h : n < xs.length) :
    ((xs.take n).map f ++ List.replicate (xs.length - n) z).set n (f (xs.getD n d)) = (xs.take (n + 1)).map f ++ List.replicate (xs.length - (n + 1)) z := by
  have e1 : ((xs.take n).map f).length = n := by simp; omega
  rw [List.set_append_right _ _ (by omega), e1, Nat.sub_self, getD_lt xs d h]
  obtain ⟨m, hm⟩ : ∃ m, xs.length - n = m + 1 := ⟨xs.length - n - 1, by omega⟩
  rw [hm, List.replicate_succ, List.set_cons_zero, show xs.length - (n + 1) = m by omega, List.take_succ_eq_append_getElem h, List.map_append]
  simp

/-! ### fractions -/
def mkF (n d : Int) : Int × Int := (Int.tdiv n (Int.gcd n d : Nat), Int.tdiv d (Int.gcd n d : Nat))
theorem tdiv_bound (n : Int) (g : Nat) : -(n.natAbs : Int) ≤ Int.tdiv n g ∧ Int.tdiv n g ≤ n.natAbs := by
  have h : (Int.tdiv n g).natAbs ≤ n.natAbs := by
    rw [Int.natAbs_tdiv]
    exact Nat.div_le_self _ _
  omega
theorem gcd_step {a b : Int} (ha : 0 ≤ a) (hb : 0 < b) : 0 ≤ Int.tmod a b ∧ (Int.tmod a b).toNat < b.toNat ∧ Nat.gcd b.toNat (Int.tmod a b).toNat = Nat.gcd a.toNat b.toNat := by
  rw [Int.tmod_eq_emod_of_nonneg ha]
  have h1 := Int.emod_nonneg a (Int.ne_of_gt hb)
  have h2 := Int.emod_lt_of_pos a hb
  refine ⟨h1, by omega, ?_⟩
  have e : (a % b).toNat = a.toNat % b.toNat := by
    have := Int.toNat_emod ha (Int.le_of_lt hb)
    exact this
  rw [e, Nat.gcd_comm a.toNat, Nat.gcd_rec b.toNat a.toNat, Nat.gcd_comm]
/-! ### names -/
def nameCh (c : Int) : Bool := decide (97 ≤ c ∧ c ≤ 122) || decide (48 ≤ c ∧ c ≤ 57) || decide (c = 45)
def isNameB (s : ByteArray) : Bool := decide (1 ≤ s.size) && (decide (s.size ≤ 12) && (decide (97 ≤ bt s 0 ∧ bt s 0 ≤ 122) && (List.range s.size).all fun i => nameCh (bt s i)))
def ropeB (s : ByteArray) (a b c : Int) : Bool := isNameB s && (decide (1 ≤ a ∧ a ≤ 1000) && (decide (1 ≤ b ∧ b ≤ 1000000) && decide (1 ≤ c ∧ c ≤ 100000)))
def purchB (f m : Int) (a : Bool) : Bool := decide (0 ≤ f ∧ f ≤ 4) && (decide (0 ≤ m ∧ m ≤ 4) && (decide (1 ≤ f + m) && (if a then decide (0 ≤ m - f ∧ m - f ≤ 1) else decide (0 ≤ f - m ∧ f - m ≤ 1))))
def springB (l s : Int) : Bool := decide (1 ≤ l ∧ l ≤ 60) && decide (1 ≤ s ∧ s ≤ 1000)
end Go.Proofs.Ytginmioklkcgbaa.Aid

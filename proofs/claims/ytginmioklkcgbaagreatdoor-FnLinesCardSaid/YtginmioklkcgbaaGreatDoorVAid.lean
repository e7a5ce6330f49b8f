import Derived.Test.YtginmioklkcgbaaGreatDoorVWMore
namespace Go.Proofs.YtginmioklkcgbaaGreatDoor.Aid
open Go.RowKit Go.Proofs.YtginmioklkcgbaaGreatDoorW.PrintWords Go.Proofs.YtginmioklkcgbaaGreatDoorW.PrintLast Go.Proofs.YtginmioklkcgbaaGreatDoorW.PrintMore
set_option linter.unusedVariables false
theorem w64 {n : Int} (h0 : -9223372036854775808 ≤ n) (h1 : n ≤ 9223372036854775807) : wrap64 n = n := by unfold wrap64; omega
theorem wnext {n : Nat} {N : Nat} (h : n < N) (hN : N ≤ 9223372036854775807) : wrap64 ((n : Int) + 1) = ((n + 1 : Nat) : Int) := by unfold wrap64; omega
theorem ev_now {α : Type} (r : α) : Ev (fun _ => some r) r := Ev.now r
theorem ev_succ {α : Type} {g : Nat → Option α} {r : α} (h : Ev (fun k => g (k + 1)) r) : Ev g r := Ev.step (fun _ => rfl) h
theorem ev_to {α : Type} {g : Nat → Option α} {r r' : α} (h : Ev g r) (e : r = r') : Ev g r' := e ▸ h
theorem ev_all {len : Nat} {g : Nat → Int → Option Bool} (p : Nat → Bool) (b : Bool)
    (yes : ∀ n, n < len → p n = true → ∀ r, Ev (fun k => g k ((n + 1 : Nat) : Int)) r → Ev (fun k => g k (n : Int)) r)
    (no : ∀ n, n < len → p n = false → Ev (fun k => g k (n : Int)) false)
    (last : Ev (fun k => g k (len : Int)) b) : Ev (fun k => g k 0) ((List.range len).all p && b) := by
  have key : ∀ d n, n + d = len → Ev (fun k => g k (n : Int)) ((List.range' n d).all p && b) := by
    intro d
    induction d with
    | zero => intro n h; simp only [Nat.add_zero] at h; subst h; simpa using last
    | succ d ih =>
      intro n h
      rw [List.range'_succ, List.all_cons]
      cases hp : p n with
      | true => simpa using yes n (by omega) hp _ (ih (n + 1) (by omega))
      | false => simpa using no n (by omega) hp
  have := key len 0 (by omega)
  rwa [← List.range_eq_range'] at this
theorem ev_find {ρ : Type} {len : Nat} {g : Nat → Int → Option ρ} (p : Nat → Bool) (hit : Nat → ρ) (miss : ρ)
    (skip : ∀ n, n < len → p n = false → ∀ r, Ev (fun k => g k ((n + 1 : Nat) : Int)) r → Ev (fun k => g k (n : Int)) r)
    (stop : ∀ n, n < len → p n = true → Ev (fun k => g k (n : Int)) (hit n))
    (last : Ev (fun k => g k (len : Int)) miss) : Ev (fun k => g k 0) (match (List.range len).find? p with | some n => hit n | none => miss) := by
  have key : ∀ d n, n + d = len → Ev (fun k => g k (n : Int)) (match (List.range' n d).find? p with | some n => hit n | none => miss) := by
    intro d
    induction d with
    | zero => intro n h; simp only [Nat.add_zero] at h; subst h; simpa using last
    | succ d ih =>
      intro n h
      rw [List.range'_succ, List.find?_cons]
      cases hp : p n with
      | true => simpa using stop n (by omega) hp
      | false => simpa using skip n (by omega) hp _ (ih (n + 1) (by omega))
  have := key len 0 (by omega)
  rwa [← List.range_eq_range'] at this
theorem ev_loop {σ ρ : Type} {len : Nat} {g : Nat → σ → Int → Option ρ} (Inv : Nat → σ → Prop) (Post : ρ → Prop)
    (round : ∀ n s, n < len → Inv n s → (∃ r, Ev (fun k => g k s (n : Int)) r ∧ Post r) ∨ ∃ s', Inv (n + 1) s' ∧ ∀ r, Ev (fun k => g k s' ((n + 1 : Nat) : Int)) r → Ev (fun k => g k s (n : Int)) r)
    (last : ∀ s, Inv len s → ∃ r, Ev (fun k => g k s (len : Int)) r ∧ Post r) (s : σ) (h0 : Inv 0 s) : ∃ r, Ev (fun k => g k s 0) r ∧ Post r := by
  have key : ∀ d n s, n + d = len → Inv n s → ∃ r, Ev (fun k => g k s (n : Int)) r ∧ Post r := by
    intro d
    induction d with
    | zero => intro n s h hi; simp only [Nat.add_zero] at h; subst h; exact last s hi
    | succ d ih =>
      intro n s h hi
      rcases round n s (by omega) hi with h1 | ⟨s', hi', hg⟩
      · exact h1
      · obtain ⟨r, hr, hp⟩ := ih (n + 1) s' (by omega) hi'
        exact ⟨r, hg r hr, hp⟩
  exact key len 0 s (by omega) h0
theorem ev_fold {σ ρ : Type} {len : Nat} {g : Nat → σ → Int → Option ρ} (f : Nat → σ → σ) (S : Nat → σ) (v : ρ)
    (hS : ∀ n, n < len → S (n + 1) = f n (S n))
    (round : ∀ n, n < len → ∀ r, Ev (fun k => g k (f n (S n)) ((n + 1 : Nat) : Int)) r → Ev (fun k => g k (S n) (n : Int)) r)
    (last : Ev (fun k => g k (S len) (len : Int)) v) : Ev (fun k => g k (S 0) 0) v := by
  obtain ⟨r, hr, rfl⟩ := ev_loop (len := len) (g := g) (fun n s => s = S n) (fun r => r = v)
    (fun n s hn hs => .inr ⟨f n (S n), (hS n hn).symm, fun r hr => by subst hs; exact round n hn r hr⟩)
    (fun s hs => ⟨v, by subst hs; exact last, rfl⟩) (S 0) rfl
  exact hr
theorem ev_all2 {len : Nat} {g : Nat → Int → Option Bool} (p : Nat → Bool) (b : Bool)
    (skip : ∀ n, n < len → p n = true → ∀ r, Ev (fun k => g k ((n + 1 : Nat) : Int)) r → Ev (fun k => g k (n : Int)) r)
    (stop : ∀ n, n < len → p n = false → Ev (fun k => g k (n : Int)) false)
    (last : (List.range len).all p = true → Ev (fun k => g k (len : Int)) b) : Ev (fun k => g k 0) ((List.range len).all p && b) := by
  suffices key : ∃ r, Ev (fun k => g k 0) r ∧ r = ((List.range len).all p && b) by obtain ⟨r, hr, e⟩ := key; exact e ▸ hr
  refine ev_loop (len := len) (g := fun k (_ : Unit) i => g k i) (fun n _ => (List.range n).all p = true) (fun r => r = ((List.range len).all p && b)) ?_ ?_ () rfl
  · intro n _ hn hi
    cases hp : p n with
    | true => exact .inr ⟨(), by rw [List.range_succ, List.all_append, hi, List.all_cons, List.all_nil, hp]; rfl, fun r hr => skip n hn hp r hr⟩
    | false =>
      refine .inl ⟨false, stop n hn hp, ?_⟩
      have : (List.range len).all p = false := by rw [List.all_eq_false]; exact ⟨n, List.mem_range.2 hn, by simp [hp]⟩
      rw [this, Bool.false_and]
  · intro _ hi
    exact ⟨b, last hi, by rw [hi, Bool.true_and]⟩
theorem lset_self {α : Type} {l : List α} {n : Nat} {a z : α} (h : n < l.length) : (l.set n a).getD n z = a := by simp [List.getD_eq_getElem?_getD, h]
theorem lset_ne {α : Type} {l : List α} {n i : Nat} {a z : α} (h : n ≠ i) : (l.set n a).getD i z = l.getD i z := by simp [List.getD_eq_getElem?_getD, List.getElem?_set_ne h]
theorem getD_lt' {α : Type} (xs : List α) (d : α) {n : Nat} (h : n < xs.length) : xs.getD n d = xs[n] := by simp [List.getD_eq_getElem?_getD, h]
theorem foldl_take_succ {α σ : Type} (xs : List α) (d : α) (f : σ → α → σ) (s : σ) {n : Nat} (h : n < xs.length) : (xs.take (n + 1)).foldl f s = f ((xs.take n).foldl f s) (xs.getD n d) := by
  rw [List.take_succ_eq_append_getElem h, List.foldl_append, getD_lt' xs d h]
  rfl
theorem ev_foldl {α σ ρ : Type} (xs : List α) (d : α) (f : σ → α → σ) (s0 : σ) {g : Nat → σ → Int → Option ρ} (v : σ → ρ)
    (round : ∀ n, n < xs.length → ∀ s, s = (xs.take n).foldl f s0 → ∀ r, Ev (fun k => g k (f s (xs.getD n d)) ((n + 1 : Nat) : Int)) r → Ev (fun k => g k s (n : Int)) r)
    (last : Ev (fun k => g k (xs.foldl f s0) (xs.length : Int)) (v (xs.foldl f s0))) : Ev (fun k => g k s0 0) (v (xs.foldl f s0)) := by
  have := ev_fold (len := xs.length) (g := g) (fun n s => f s (xs.getD n d)) (fun n => (xs.take n).foldl f s0) (v (xs.foldl f s0)) (fun n hn => foldl_take_succ xs d f s0 hn) (fun n hn r hr => round n hn _ rfl r hr) (by simpa using last)
  simpa using this
theorem range_all {α : Type} (xs : List α) (d : α) (q : α → Bool) : ((List.range xs.length).all fun n => q (xs.getD n d)) = xs.all q := by
  rw [Bool.eq_iff_iff, List.all_eq_true, List.all_eq_true]
  constructor
  · intro h x hx
    obtain ⟨i, hi, rfl⟩ := List.getElem_of_mem hx
    have := h i (List.mem_range.2 hi)
    simpa [List.getD_eq_getElem?_getD, hi] using this
  · intro h i hi
    have hi' := List.mem_range.1 hi
    have := h (xs[i]) (List.getElem_mem hi')
    simpa [List.getD_eq_getElem?_getD, hi'] using this
theorem getD_lt {α : Type} (xs : List α) (d : α) {n : Nat} (h : n < xs.length) : xs.getD n d = xs[n] := by simp [List.getD_eq_getElem?_getD, h]
def mkF (n d : Int) : Int × Int := (Int.tdiv n (Int.gcd n d : Nat), Int.tdiv d (Int.gcd n d : Nat))
theorem tdiv_bound (n : Int) (g : Nat) : -(n.natAbs : Int) ≤ Int.tdiv n g ∧ Int.tdiv n g ≤ n.natAbs := by
  have h : (Int.tdiv n g).natAbs ≤ n.natAbs := by
    rw [Int.natAbs_tdiv]
    exact Nat.div_le_self _ _
  omega
theorem gcd_step {a b : Int} (ha : 0 ≤ a) (hb : 0 < b) : 0 ≤ Int.tmod a b ∧ (Int.tmod a b).toNat < b.toNat ∧ Nat.gcd b.toNat (Int.tmod a b).toNat = Nat.gcd a.toNat b.toNat := by
  rw [Int.tmod_eq_emod_of_nonneg ha]
  have h1 := Int.emod_nonneg a (Int.ne_of_gt hb)
  have h2 := Int.emod_lt_of_pos a hb
  refine ⟨h1, by omega, ?_⟩
  have e : (a % b).toNat = a.toNat % b.toNat := by
    have := Int.toNat_emod ha (Int.le_of_lt hb)
    exact this
  rw [e, Nat.gcd_comm a.toNat, Nat.gcd_rec b.toNat a.toNat, Nat.gcd_comm]
def nameCh (c : Int) : Bool := decide (97 ≤ c ∧ c ≤ 122) || decide (48 ≤ c ∧ c ≤ 57) || decide (c = 45)
def isNameB (s : ByteArray) : Bool := decide (1 ≤ s.size) && (decide (s.size ≤ 12) && (decide (97 ≤ bt s 0 ∧ bt s 0 ≤ 122) && (List.range s.size).all fun i => nameCh (bt s i)))
end Go.Proofs.YtginmioklkcgbaaGreatDoor.Aid

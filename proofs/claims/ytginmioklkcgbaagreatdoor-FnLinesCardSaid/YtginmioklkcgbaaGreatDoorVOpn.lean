import Derived.Test.YtginmioklkcgbaaGreatDoorVWWords
import Derived.Deep.Slices
import Derived.Deep.Strs
import Derived.Lib.SmallJoins
import Derived.SizedLaws
namespace Go.Proofs.YtginmioklkcgbaaGreatDoor.Opn
open Go.ChangeShapes Go.WideShapes Go.Deep Go.Joins Go.Proofs.YtginmioklkcgbaaGreatDoorW.PrintWords
set_option linter.unusedVariables false
def Opens {α : Type} (P : Program) (T : TypeId) (K : Kd α) (G : α → Prop) : Prop :=
  ∀ {H : Type} (enc : TypeId × Value → H) (w : World) (spare : Nat → Bool) (held : Bool) (fuel : Nat) (cs : List Value) (y : DataW H × List MemPlace),
    DataW.trod enc P w 0 spare held fuel T cs = some y → (∀ n ∈ y.1.weights P T, n ≤ reachBytes) → ∃ x, K.K w x cs ∧ G x
theorem reach_eq : reachBytes = 140737488351232 := rfl
theorem opens_int {P : Program} {T : TypeId} {k : IntKind} (h : P.underlying T = some (.int k)) : Opens P T (Kd.int k) (fun n => (Lit.int k n).wf = true) := by
  intro H enc w spare held fuel cs y hy hw
  obtain ⟨n, rfl, rfl, hn⟩ := DataW.trod_int h hy
  exact ⟨n, rfl, hn⟩
theorem mem_weightsAll {H : Type} {P : Program} {e : TypeId} {d : DataW H} : ∀ {l : List (DataW H)}, d ∈ l → ∀ n ∈ d.weights P e, n ∈ DataW.weightsAll P e l
  | x :: l, hd, n, hn => by
    rw [DataW.weightsAll]
    rcases List.mem_cons.1 hd with rfl | hd
    · exact List.mem_append_left _ hn
    · exact List.mem_append_right _ (mem_weightsAll hd n hn)
theorem list_of {α : Type} {n : Nat} {p : Nat → α → Prop} : (∀ i, i < n → ∃ x, p i x) → ∃ xs : List α, xs.length = n ∧ ∀ i x, xs[i]? = some x → p i x := by
  induction n with
  | zero => intro _; exact ⟨[], rfl, fun i x h => by simp at h⟩
  | succ n ih =>
    intro h
    obtain ⟨xs, hl, hx⟩ := ih (fun i hi => h i (Nat.lt_succ_of_lt hi))
    obtain ⟨x, hp⟩ := h n (Nat.lt_succ_self n)
    refine ⟨xs ++ [x], by simp [hl], fun i z hz => ?_⟩
    by_cases hi : i < xs.length
    · rw [List.getElem?_append_left hi] at hz
      exact hx i z hz
    · have hi2 : i = n := by
        have := (List.getElem?_eq_some_iff.1 hz).1
        simp [hl] at this
        omega
      subst hi2
      rw [List.getElem?_append_right (by omega)] at hz
      simp [hl] at hz
      subst hz
      exact hp
theorem opens_slice {α : Type} {P : Program} {T E : TypeId} {K : Kd α} {G : α → Prop} (hK : Opens P E K G) (h : P.underlying T = some (.slice E)) (hc : P.cellsOf E = K.sz) {B : Nat} (hB : P.bytesOf E = B) :
    Opens P T (Kd.slice E K) (fun xs => xs.length * B ≤ 140737488351232 ∧ xs.length ≤ maxLen ∧ ∀ x ∈ xs, G x) := by
  intro H enc w spare held fuel cs y hy hw
  rcases open_slice h hy with ⟨rfl, rfl⟩ | ⟨a, len, cap, m, n, D, Pl, rfl, _, hl, hm, hmm, rfl, hx⟩
  · exact ⟨[], ⟨none, 0, rfl, Nat.le_refl _, Kd.C_nil _ _⟩, by simp, by simp, by simp⟩
  have hlm : len ≤ m := by rw [hmm]; split <;> omega
  have hwt : ∀ i, i < len → ∀ q ∈ (D i).weights P E, q ≤ reachBytes := by
    intro i hi q hq
    refine hw q ?_
    simp only [DataW.weights, h]
    exact List.mem_cons_of_mem _ (List.mem_append_left _ (mem_weightsAll (List.mem_map.2 ⟨i, List.mem_range.2 hi, rfl⟩) q hq))
  obtain ⟨xs, hxl, hxs⟩ := list_of (α := α) (n := len) (p := fun i x => ∃ c, K.K w x c ∧ G x ∧ w.cells? 0 (a.add (i * P.cellsOf E)) (P.cellsOf E) = some c) (fun i hi => by
    obtain ⟨cs', h1, h2⟩ := hx i (by omega)
    obtain ⟨x, k1, k2⟩ := hK enc w spare held n cs' (D i, Pl i) h2 (hwt i hi)
    exact ⟨x, cs', k1, k2, h1⟩)
  subst hxl
  refine ⟨xs, ⟨some a, cap, rfl, hl, rfl, by unfold maxLen at hm; omega, fun _ => ⟨a, rfl, fun j p hp => ?_⟩⟩, ?_, by omega, fun x hx => ?_⟩
  · obtain ⟨c, k1, _, k3⟩ := hxs j p hp
    refine ⟨c, K.K_len k1, k1, fun i u hu => ?_⟩
    rw [hc] at k3
    obtain ⟨_, hlen, hcell⟩ := World.cells?_some k3
    have hi := (List.getElem?_eq_some_iff.1 hu).1
    have := hcell i (by omega)
    rw [Deep.add_add] at this
    rw [this, hu]
  · have := hw ((xs.length + ((List.range (m - xs.length)).map fun j => D (xs.length + j)).length) * P.bytesOf E) (by simp [DataW.weights, h])
    rw [hB, reach_eq] at this
    exact Nat.le_trans (Nat.mul_le_mul_right _ (Nat.le_add_right _ _)) this
  · obtain ⟨j, hj⟩ := List.getElem?_of_mem hx
    obtain ⟨_, _, k2, _⟩ := hxs j x hj
    exact k2
theorem weights_at {H : Type} {P : Program} {ts : List TypeId} {ds : List (DataW H)} (h : (DataW.weightsEach P ts ds).all (· ≤ reachBytes) = true) {j : Nat} {t : TypeId} {d : DataW H} (ht : ts[j]? = some t) (hd : ds[j]? = some d) :
    ∀ n ∈ d.weights P t, n ≤ reachBytes := fun n hn => by
  have := List.all_eq_true.1 h n (DataW.weights_mem_each ht hd n hn)
  simpa using this
theorem opens_arg {α : Type} {P : Program} {T : TypeId} {K : Kd α} {G : α → Prop} (hO : Opens P T K G) {H : Type} {enc : TypeId × Value → H} {w : World} {spare : Nat → Bool} {held : Bool} {v : Value} {d : DataW H} {p : List MemPlace}
    (h : DataW.Trod enc P w 0 spare held T v d p) (hw : ∀ n ∈ d.weights P T, n ≤ reachBytes) : ∃ x, K.K w x v.cells.toList ∧ G x := by
  obtain ⟨fuel, hf⟩ := h
  exact hO enc w spare held fuel _ _ hf hw
theorem slice_arg {α : Type} {P : Program} {E T : TypeId} {K : Kd α} {r : Reach} {b0 : Nat} {w : World} {v : Value} {xs : List α} (ht : P.underlying T = some (.slice E)) (hv : Value.okWide P w r b0 T v) (h : (Kd.slice E K).K w xs v.cells.toList) :
    ∃ A c, v = .slice A xs.length c ∧ xs.length ≤ c ∧ Kd.C K w A xs.length xs := by
  obtain ⟨a, len, cap, rfl⟩ := okWide_slice ht hv
  obtain ⟨A, c, e, hl, hC⟩ := h
  simp [Value.cells] at e
  obtain ⟨rfl, rfl, rfl⟩ := e
  exact ⟨_, _, rfl, hl, hC⟩
end Go.Proofs.YtginmioklkcgbaaGreatDoor.Opn

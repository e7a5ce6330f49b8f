/- What a law's arguments read as, kind by kind: from the row's reading of a value to the printed kinds' own reading. No condition. -/
import Derived.Test.YtginmioklkcgbaaVWWords
import Derived.Deep.Slices
import Derived.Deep.Strs
import Derived.Lib.SmallJoins
import Derived.SizedLaws
namespace Go.Proofs.Ytginmioklkcgbaa.Opn
open Go.ChangeShapes Go.WideShapes Go.Deep Go.Joins Go.Proofs.YtginmioklkcgbaaW.PrintWords
set_option linter.unusedVariables false

/-- Every reading of a value of type T, within the row's reach, is one of the kind K, and good. -/
def Opens {α : Type} (P : Program) (T : TypeId) (K : Kd α) (G : α → Prop) : Prop :=
  ∀ {H : Type} (enc : TypeId × Value → H) (w : World) (spare : Nat → Bool) (held : Bool) (fuel : Nat) (cs : List Value) (y : DataW H × List MemPlace),
    DataW.trod enc P w 0 spare held fuel T cs = some y → (∀ n ∈ y.1.weights P T, n ≤ reachBytes) → ∃ x, K.K w x cs ∧ G x

theorem reach_eq : reachBytes = 140737488351232 := rfl

theorem opens_int {P : Program} {T : TypeId} {k : IntKind} (h : P.underlying T = some (.int k)) : Opens P T (Kd.int k) (fun n => (Lit.int k n).wf = true) := by
  intro H enc w spare held fuel cs y hy hw
  obtain ⟨n, rfl, rfl, hn⟩ := DataW.trod_int h hy
  exact ⟨n, rfl, hn⟩
theorem opens_bool {P : Program} {T : TypeId} (h : P.underlying T = some .bool) : Opens P T Kd.bool (fun _ => True) := by
  intro H enc w spare held fuel cs y hy hw
  obtain ⟨b, rfl, rfl⟩ := DataW.trod_bool h hy
  exact ⟨b, rfl, trivial⟩
theorem opens_string {P : Program} {T : TypeId} (h : P.underlying T = some .string) : Opens P T Kd.string (fun s => s.size ≤ 140737488351232) := by
  intro H enc w spare held fuel cs y hy hw
  obtain ⟨s, rfl, rfl, hs⟩ := DataW.trod_string h hy
  refine ⟨s, rfl, ?_⟩
  have := hw s.data.toList.length (by simp [DataW.weights])
  rw [reach_eq] at this
  rw [Array.length_toList] at this
  exact this

theorem mem_weightsAll {H : Type} {P : Program} {e : TypeId} {d : DataW H} : ∀ {l : List (DataW H)}, d ∈ l → ∀ n ∈ d.weights P e, n ∈ DataW.weightsAll P e l
  | x :: l, hd, n, hn => by
    rw [DataW.weightsAll]
    rcases List.mem_cons.1 hd with rfl | hd
    · exact List.mem_append_left _ hn
    · exact List.mem_append_right _ (mem_weightsAll hd n hn)

theorem list_of {α : Type} {n : Nat} {p : Nat → α → Prop} : (∀ i, i < n → ∃ x, p i x) → ∃ xs : List α, xs.length = n ∧ ∀ i x, xs[i]? = some x → p i x := by
  induction n with
  | zero => intro _; exact ⟨[], rfl, fun i x h => by simp at h⟩
  | succ n ih =>
    intro h
    obtain ⟨xs, hl, hx⟩ := ih (fun i hi => h i (Nat.lt_succ_of_lt hi))
    obtain ⟨x, hp⟩ := h n (Nat.lt_succ_self n)
    refine ⟨xs ++ [x], by simp [hl], fun i z hz => ?_⟩
    by_cases hi : i < xs.length
    · rw [List.getElem?_append_left hi] at hz
      exact hx i z hz
    · have hi2 : i = n := by
        have := (List.getElem?_eq_some_iff.1 hz).1
        simp [hl] at this
        omega
      subst hi2
      rw [List.getElem?_append_right (by omega)] at hz
      simp [hl] at hz
      subst hz
      exact hp

theorem opens_slice {α : Type} {P : Program} {T E : TypeId} {K : Kd α} {G : α → Prop} (hK : Opens P E K G) (h : P.underlying T = some (.slice E)) (hc : P.cellsOf E = K.sz) {B : Nat} (hB : P.bytesOf E = B) :
    Opens P T (Kd.slice E K) (fun xs => xs.length * B ≤ 140737488351232 ∧ xs.length ≤ maxLen ∧ ∀ x ∈ xs, G x) := by
  intro H enc w spare held fuel cs y hy hw
  rcases open_slice h hy with ⟨rfl, rfl⟩ | ⟨a, len, cap, m, n, D, Pl, rfl, _, hl, hm, hmm, rfl, hx⟩
  · exact ⟨[], ⟨none, 0, rfl, Nat.le_refl _, Kd.C_nil _ _⟩, by simp, by simp, by simp⟩
  have hlm : len ≤ m := by rw [hmm]; split <;> omega
  have hwt : ∀ i, i < len → ∀ q ∈ (D i).weights P E, q ≤ reachBytes := by
    intro i hi q hq
    refine hw q ?_
    simp only [DataW.weights, h]
    exact List.mem_cons_of_mem _ (List.mem_append_left _ (mem_weightsAll (List.mem_map.2 ⟨i, List.mem_range.2 hi, rfl⟩) q hq))
  obtain ⟨xs, hxl, hxs⟩ := list_of (α := α) (n := len) (p := fun i x => ∃ c, K.K w x c ∧ G x ∧ w.cells? 0 (a.add (i * P.cellsOf E)) (P.cellsOf E) = some c) (fun i hi => by
    obtain ⟨cs', h1, h2⟩ := hx i (by omega)
    obtain ⟨x, k1, k2⟩ := hK enc w spare held n cs' (D i, Pl i) h2 (hwt i hi)
    exact ⟨x, cs', k1, k2, h1⟩)
  subst hxl
  refine ⟨xs, ⟨some a, cap, rfl, hl, rfl, by unfold maxLen at hm; omega, fun _ => ⟨a, rfl, fun j p hp => ?_⟩⟩, ?_, by omega, fun x hx => ?_⟩
  · obtain ⟨c, k1, _, k3⟩ := hxs j p hp
    refine ⟨c, K.K_len k1, k1, fun i u hu => ?_⟩
    rw [hc] at k3
    obtain ⟨_, hlen, hcell⟩ := World.cells?_some k3
    have hi := (List.getElem?_eq_some_iff.1 hu).1
    have := hcell i (by omega)
    rw [Deep.add_add] at this
    rw [this, hu]
  · have := hw ((xs.length + ((List.range (m - xs.length)).map fun j => D (xs.length + j)).length) * P.bytesOf E) (by simp [DataW.weights, h])
    rw [hB, reach_eq] at this
    exact Nat.le_trans (Nat.mul_le_mul_right _ (Nat.le_add_right _ _)) this
  · obtain ⟨j, hj⟩ := List.getElem?_of_mem hx
    obtain ⟨_, _, k2, _⟩ := hxs j x hj
    exact k2

theorem opens_struct2 {α β γ : Type} {P : Program} {T : TypeId} {f0 f1 : Field} {K0 : Kd α} {K1 : Kd β} {G0 : α → Prop} {G1 : β → Prop} {pr : γ → α × β} (hs : P.underlying T = some (.struct #[f0, f1]))
    (h0 : Opens P f0.type K0 G0) (h1 : Opens P f1.type K1 G1) (mk : ∀ x0 x1, ∃ x, pr x = (x0, x1))
    (o1 : f0.offset = 0 ∧ f1.offset = P.cellsOf f0.type ∧ P.cellsOf T = P.cellsOf f0.type + P.cellsOf f1.type) :
    Opens P T (Kd.iso (Kd.pair K0 K1) pr) (fun x => G0 (pr x).1 ∧ G1 (pr x).2) := by
  intro H enc w spare held fuel cs y hy hw
  obtain ⟨y0, y1, n, rfl, hl, t0, t1⟩ := trod_struct2 hs hy
  obtain ⟨e0, e1, e⟩ := o1
  simp only [DataW.weights, hs, List.map_cons, List.map_nil, DataW.weightsEach, List.append_nil, List.mem_append] at hw
  obtain ⟨x0, k0, g0⟩ := h0 enc w spare held n _ y0 t0 (fun n hn => hw n (.inl hn))
  obtain ⟨x1, k1, g1⟩ := h1 enc w spare held n _ y1 t1 (fun n hn => hw n (.inr hn))
  obtain ⟨x, hx⟩ := mk x0 x1
  rw [e0, List.drop_zero] at k0
  rw [e1] at k1
  refine ⟨x, ?_, by dsimp only; rw [hx]; exact ⟨g0, g1⟩⟩
  show (Kd.pair K0 K1).K w (pr x) cs
  rw [hx]
  refine ⟨_, _, ?_, k0, k1⟩
  rw [List.take_of_length_le (l := cs.drop _) (by rw [List.length_drop]; omega), List.take_append_drop]

theorem opens_struct3 {α β δ γ : Type} {P : Program} {T : TypeId} {f0 f1 f2 : Field} {K0 : Kd α} {K1 : Kd β} {K2 : Kd δ} {G0 : α → Prop} {G1 : β → Prop} {G2 : δ → Prop} {pr : γ → α × (β × δ)} (hs : P.underlying T = some (.struct #[f0, f1, f2]))
    (h0 : Opens P f0.type K0 G0) (h1 : Opens P f1.type K1 G1) (h2 : Opens P f2.type K2 G2) (mk : ∀ x0 x1 x2, ∃ x, pr x = (x0, (x1, x2)))
    (o1 : f0.offset = 0 ∧ f1.offset = P.cellsOf f0.type ∧ f2.offset = P.cellsOf f0.type + P.cellsOf f1.type ∧ P.cellsOf T = P.cellsOf f0.type + P.cellsOf f1.type + P.cellsOf f2.type) :
    Opens P T (Kd.iso (Kd.pair K0 (Kd.pair K1 K2)) pr) (fun x => G0 (pr x).1 ∧ G1 (pr x).2.1 ∧ G2 (pr x).2.2) := by
  intro H enc w spare held fuel cs y hy hw
  obtain ⟨y0, y1, y2, n, rfl, hl, t0, t1, t2⟩ := trod_struct3 hs hy
  obtain ⟨e0, e1, e2, e⟩ := o1
  simp only [DataW.weights, hs, List.map_cons, List.map_nil, DataW.weightsEach, List.append_nil, List.mem_append] at hw
  obtain ⟨x0, k0, g0⟩ := h0 enc w spare held n _ y0 t0 (fun n hn => hw n (.inl hn))
  obtain ⟨x1, k1, g1⟩ := h1 enc w spare held n _ y1 t1 (fun n hn => hw n (.inr (.inl hn)))
  obtain ⟨x2, k2, g2⟩ := h2 enc w spare held n _ y2 t2 (fun n hn => hw n (.inr (.inr hn)))
  obtain ⟨x, hx⟩ := mk x0 x1 x2
  rw [e0, List.drop_zero] at k0
  rw [e1] at k1
  rw [e2] at k2
  refine ⟨x, ?_, by dsimp only; rw [hx]; exact ⟨g0, g1, g2⟩⟩
  show (Kd.pair K0 (Kd.pair K1 K2)).K w (pr x) cs
  rw [hx]
  refine ⟨_, _, ?_, k0, _, _, rfl, k1, k2⟩
  rw [← List.drop_drop, List.take_of_length_le (l := (cs.drop _).drop _) (by rw [List.length_drop, List.length_drop]; omega), List.take_append_drop, List.take_append_drop]

theorem opens_struct4 {α β δ ε γ : Type} {P : Program} {T : TypeId} {f0 f1 f2 f3 : Field} {K0 : Kd α} {K1 : Kd β} {K2 : Kd δ} {K3 : Kd ε} {G0 : α → Prop} {G1 : β → Prop} {G2 : δ → Prop} {G3 : ε → Prop} {pr : γ → α × (β × (δ × ε))} (hs : P.underlying T = some (.struct #[f0, f1, f2, f3]))
    (h0 : Opens P f0.type K0 G0) (h1 : Opens P f1.type K1 G1) (h2 : Opens P f2.type K2 G2) (h3 : Opens P f3.type K3 G3) (mk : ∀ x0 x1 x2 x3, ∃ x, pr x = (x0, (x1, (x2, x3))))
    (o1 : f0.offset = 0 ∧ f1.offset = P.cellsOf f0.type ∧ f2.offset = P.cellsOf f0.type + P.cellsOf f1.type ∧ f3.offset = P.cellsOf f0.type + P.cellsOf f1.type + P.cellsOf f2.type ∧ P.cellsOf T = P.cellsOf f0.type + P.cellsOf f1.type + P.cellsOf f2.type + P.cellsOf f3.type) :
    Opens P T (Kd.iso (Kd.pair K0 (Kd.pair K1 (Kd.pair K2 K3))) pr) (fun x => G0 (pr x).1 ∧ G1 (pr x).2.1 ∧ G2 (pr x).2.2.1 ∧ G3 (pr x).2.2.2) := by
  intro H enc w spare held fuel cs y hy hw
  obtain ⟨y0, y1, y2, y3, n, rfl, hl, t0, t1, t2, t3⟩ := trod_struct4 hs hy
  obtain ⟨e0, e1, e2, e3, e⟩ := o1
  simp only [DataW.weights, hs, List.map_cons, List.map_nil, DataW.weightsEach, List.append_nil, List.mem_append] at hw
  obtain ⟨x0, k0, g0⟩ := h0 enc w spare held n _ y0 t0 (fun n hn => hw n (.inl hn))
  obtain ⟨x1, k1, g1⟩ := h1 enc w spare held n _ y1 t1 (fun n hn => hw n (.inr (.inl hn)))
  obtain ⟨x2, k2, g2⟩ := h2 enc w spare held n _ y2 t2 (fun n hn => hw n (.inr (.inr (.inl hn))))
  obtain ⟨x3, k3, g3⟩ := h3 enc w spare held n _ y3 t3 (fun n hn => hw n (.inr (.inr (.inr hn))))
  obtain ⟨x, hx⟩ := mk x0 x1 x2 x3
  rw [e0, List.drop_zero] at k0
  rw [e1] at k1
  rw [e2] at k2
  rw [e3] at k3
  refine ⟨x, ?_, by dsimp only; rw [hx]; exact ⟨g0, g1, g2, g3⟩⟩
  show (Kd.pair K0 (Kd.pair K1 (Kd.pair K2 K3))).K w (pr x) cs
  rw [hx]
  refine ⟨_, _, ?_, k0, _, _, rfl, k1, _, _, rfl, k2, k3⟩
  rw [← List.drop_drop, ← List.drop_drop, ← List.drop_drop, List.take_of_length_le (l := ((cs.drop _).drop _).drop _) (by rw [List.length_drop, List.length_drop, List.length_drop]; omega), List.take_append_drop, List.take_append_drop, List.take_append_drop]

/-- What the row gives of its argument j. -/
theorem weights_at {H : Type} {P : Program} {ts : List TypeId} {ds : List (DataW H)} (h : (DataW.weightsEach P ts ds).all (· ≤ reachBytes) = true) {j : Nat} {t : TypeId} {d : DataW H} (ht : ts[j]? = some t) (hd : ds[j]? = some d) :
    ∀ n ∈ d.weights P t, n ≤ reachBytes := fun n hn => by
  have := List.all_eq_true.1 h n (DataW.weights_mem_each ht hd n hn)
  simpa using this
theorem opens_arg {α : Type} {P : Program} {T : TypeId} {K : Kd α} {G : α → Prop} (hO : Opens P T K G) {H : Type} {enc : TypeId × Value → H} {w : World} {spare : Nat → Bool} {held : Bool} {v : Value} {d : DataW H} {p : List MemPlace}
    (h : DataW.Trod enc P w 0 spare held T v d p) (hw : ∀ n ∈ d.weights P T, n ≤ reachBytes) : ∃ x, K.K w x v.cells.toList ∧ G x := by
  obtain ⟨fuel, hf⟩ := h
  exact hO enc w spare held fuel _ _ hf hw
theorem slice_arg {α : Type} {P : Program} {E T : TypeId} {K : Kd α} {r : Reach} {b0 : Nat} {w : World} {v : Value} {xs : List α} (ht : P.underlying T = some (.slice E)) (hv : Value.okWide P w r b0 T v) (h : (Kd.slice E K).K w xs v.cells.toList) :
    ∃ A c, v = .slice A xs.length c ∧ xs.length ≤ c ∧ Kd.C K w A xs.length xs := by
  obtain ⟨a, len, cap, rfl⟩ := okWide_slice ht hv
  obtain ⟨A, c, e, hl, hC⟩ := h
  simp [Value.cells] at e
  obtain ⟨rfl, rfl, rfl⟩ := e
  exact ⟨_, _, rfl, hl, hC⟩
theorem agg_arg {P : Program} {T : TypeId} {fs : Array Field} {r : Reach} {b0 : Nat} {w : World} {v : Value} {cs : List Value} (ht : P.underlying T = some (.struct fs)) (hv : Value.okWide P w r b0 T v) (h : v.cells.toList = cs) : v = .agg cs.toArray := by
  obtain ⟨c, rfl, _⟩ := okWide_struct ht hv
  subst h
  simp [Value.cells]
end Go.Proofs.Ytginmioklkcgbaa.Opn

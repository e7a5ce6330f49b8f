import Derived.Test.YtginmioklkcgbaaGreatDoorVExt
import Derived.Test.YtginmioklkcgbaaGreatDoorVWTab
import Derived.Test.YtginmioklkcgbaaGreatDoorVWQPut
import Derived.Test.YtginmioklkcgbaaGreatDoorVWApart
import Derived.Test.YtginmioklkcgbaaGreatDoorVWN
import Derived.Test.YtginmioklkcgbaaGreatDoorVGnd
namespace Go.Proofs.YtginmioklkcgbaaGreatDoorW.PrintWords
open Go.RowKit Go.Proofs.YtginmioklkcgbaaGreatDoorW.PrintLast Go.Proofs.YtginmioklkcgbaaGreatDoor
set_option linter.unusedVariables false
theorem sQ {p : Prop} (g : p := by first | (simp only [putAll, Act.put, List.setIfInBounds_toArray, List.set_cons_zero, List.set_cons_succ]; done) | (simp only [putAll, Act.put, List.setIfInBounds_toArray, List.set_cons_zero, List.set_cons_succ]; rfl)) : p := g
theorem rF {α : Type} {d : Kd α} {e : Nat} {w : World} {base : Nat} {ok : Nat → Prop} {v : Value} {xs : List α} (h : Kd.R d e w base ok v xs) {g t : Nat} {cells : Array Value} (hb : w.heap[g]? = some (.cells cells t (0, 0))) {x y : Value} (ht : ∀ q, q ∈ e :: d.E → q ≠ t := by decide) :
    Kd.R d e ((w.setCell ⟨g, 0, none⟩ x).setCell ⟨g, 1, none⟩ y) base ok v xs :=
  Kd.R_mono (Kd.R_far (p := ⟨g, 1, none⟩) (Kd.R_far (p := ⟨g, 0, none⟩) (Kd.R_types h hb ht) (fun _ hk => hk.2) x) (fun _ hk => hk.2) y) (fun _ h_ => h_.1)
theorem sF {w w' : World} {g g' : Nat} {cs : Array Value} {t : Nat} (h : w.heap[g]? = some (.cells cs t (0, 0))) (n : g ≠ g')
    (k : w.heap[g]? = some (.cells cs t (0, 0)) → g ≠ g' → w'.heap[g]? = some (.cells cs t (0, 0)) := by (intro h n; (with_reducible repeat (first | refine blk_drewN ?_ _ | refine blk_drew ?_ | refine blk_alloc ?_ _ | refine blk_far ?_ n _)); exact h)) : w'.heap[g]? = some (.cells cs t (0, 0)) := k h n
theorem put2 {w : World} {g t : Nat} {a b x y : Value} (h : w.heap[g]? = some (.cells #[a, b] t (0, 0))) : ((w.setCell ⟨g, 0, none⟩ x).setCell ⟨g, 1, none⟩ y).heap[g]? = some (.cells #[x, y] t (0, 0)) :=
  blk_put (cs := #[x, b]) (blk_put (cs := #[a, b]) h 0 _ rfl) 1 _ rfl
theorem put3 {w : World} {g t : Nat} {a b c x y z : Value} (h : w.heap[g]? = some (.cells #[a, b, c] t (0, 0))) : (((w.setCell ⟨g, 0, none⟩ x).setCell ⟨g, 1, none⟩ y).setCell ⟨g, 2, none⟩ z).heap[g]? = some (.cells #[x, y, z] t (0, 0)) :=
  blk_put (cs := #[x, y, c]) (blk_put (cs := #[x, b, c]) (blk_put (cs := #[a, b, c]) h 0 _ rfl) 1 _ rfl) 2 _ rfl
theorem far2 {w : World} {g g' t : Nat} {cs : Array Value} {x y : Value} (h : w.heap[g]? = some (.cells cs t (0, 0))) (n : g ≠ g') : ((w.setCell ⟨g', 0, none⟩ x).setCell ⟨g', 1, none⟩ y).heap[g]? = some (.cells cs t (0, 0)) := blk_far (blk_far h n _) n _
theorem sRC {α : Type} {d : Kd α} {e : Nat} {w w' : World} {base : Nat} {ok : Nat → Prop} {A : Option Addr} {n c : Nat} {xs : List α} (h : Kd.R d e w base ok (.slice A n c) xs)
    (g : Kd.R d e w base ok (.slice A n c) xs → Kd.R d e w' base ok (.slice A n c) xs := by (intro h; (with_reducible repeat (first | apply Kd.R_alloc | apply Kd.R_drewN | apply Kd.R_drew)); exact h)) : Kd.C d w' A xs.length xs := (Kd.R_reads' (g h)).2.2
theorem gW {w w1 : World} {g : Nat} (hg : g = w1.heap.size) (h : Below w.heap.size w w1) : w.heap.size ≤ g := by rw [hg]; exact below_size h
theorem nL {w1 : World} {g g' : Nat} {o : Obj} (hg : g' = w1.heap.size) (h : w1.heap[g]? = some o) : g ≠ g' := by rw [hg]; exact Nat.ne_of_lt (blk_lt h)
theorem nG {w1 : World} {g g' : Nat} {o : Obj} (hg : g' = w1.heap.size) (h : w1.heap[g]? = some o) : g' ≠ g := by rw [hg]; exact Nat.ne_of_gt (blk_lt h)
theorem eV {p : Prop} (g : p := by first | rfl | (simp; done) | (simp [*]; done) | (simp only [i64_w]; done) | (simp [i64_w]; done)) : p := g
theorem eE {p : Prop} (g : p := by first | rfl | (simp [i64_w]; done) | (simp; done) | (simp [*]; done)) : p := g
theorem eH {p q : Prop} (H : q) (g : q → p := by (intro H; simp at H; first | (simp [H]; done) | (simp [H, i64_w]; done))) : p := g H
theorem eN {p : Prop} (g : p := by first | exact Kd.R_nil _ _ _ _ _ | exact Kd.N_nil _ _ _ _ _ | exact Kd.V_nil _ _ _ _ _ | exact Kd.Q_nil _ _ _ _ _ | exact Kd.S_nil _ _ _ _ _) : p := g
theorem eD {p : Prop} (g : p := by repeat (first | exact Drawn0.refl _ | apply Drawn0.step)) : p := g
theorem sD {p : Prop} [Decidable p] (g : decide p = true := by first | (with_reducible assumption) | assumption) : p := of_decide_eq_true g
theorem bC {w W : World} {a : Addr} {v : Value} (h : Below w.heap.size w W) (hx : w.cell? a = some v) : W.cell? a = some v := (h.cell (World.block_lt_of_cell? w _ hx)).trans hx
theorem nF {w : World} {a : Addr} {v : Value} {n g : Nat} {p : Prop} (hx : w.cell? a = some v) (hg : n ≤ g) (k : w.cell? a = some v → n ≤ g → p := by (intro hx hg; first | exact Nat.ne_of_lt (Nat.lt_of_lt_of_le (by have := World.block_lt_of_cell? _ _ hx; first | rwa [add_block] at this | exact this) hg) | (rw [add_block]; exact Nat.ne_of_lt (Nat.lt_of_lt_of_le (by have := World.block_lt_of_cell? _ _ hx; first | rwa [add_block] at this | exact this) hg)) | (show (Addr.add _ _).block ≠ _; rw [add_block]; exact Nat.ne_of_lt (Nat.lt_of_lt_of_le (by have := World.block_lt_of_cell? _ _ hx; first | rwa [add_block] at this | exact this) hg)) | (dsimp only; exact Nat.ne_of_lt (Nat.lt_of_lt_of_le (by have := World.block_lt_of_cell? _ _ hx; first | rwa [add_block] at this | exact this) hg)))) : p := k hx hg
theorem sK {w W W' : World} {g : Nat} {row : Option Nat} (h : KeepBut w W g row) (k : KeepBut w W g row → KeepBut w W' g row := by (intro h; repeat (first | (with_reducible first | exact h | apply KeepBut.set_ | apply keep_drewN | apply keep_drew | apply keep_alloc) | exact h))) : KeepBut w W' g row := k h
theorem sWg {n : Nat} {w w1 w2 : World} {g : Nat} (h : Below n w w1) (hg : n ≤ g) (k : Below n w w1 → n ≤ g → Below n w w2 := by (intro h hg; repeat (first | (with_reducible first | exact h | apply below_alloc | apply pw_below_drewN | apply below_drew1 | refine below_set ?_ (Aside0.out (by assumption)) | refine below_set ?_ hg) | exact h))) : Below n w w2 := k h hg
theorem iE {α : Type} {p : Prop} [Decidable p] {a b : Option α} {r : α} (h : (if p then a else b) = some r) : (p ∧ a = some r) ∨ (¬ p ∧ b = some r) := by
  by_cases c : p
  · rw [if_pos c] at h; exact .inl ⟨c, h⟩
  · rw [if_neg c] at h; exact .inr ⟨c, h⟩
theorem iN {α : Type} {p : Prop} [Decidable p] {a : Option α} {r : α} (h : (if p then a else none) = some r) : p ∧ a = some r := by
  rcases iE h with h | ⟨_, h⟩
  · exact h
  · cases h
theorem bE {α β : Type} {x : Option α} {f : α → Option β} {r : β} (h : x.bind f = some r) : ∃ t, Aside0 (x = some t) ∧ f t = some r := by
  obtain ⟨t, h1, h2⟩ := Option.bind_eq_some_iff.mp h
  exact ⟨t, ⟨h1⟩, h2⟩
theorem nY {α β : Type} {x : α} {f : α → Option β} {r : β} (h : (some x).bind f = some r) : ∃ y, Aside0 (y = x) ∧ f y = some r := ⟨x, ⟨rfl⟩, h⟩
theorem jL0 {a b : Nat} (h : a ≤ b := by first | omega | exact Nat.le_refl _) : Aside0 (a ≤ b) := ⟨h⟩
theorem jL1 {a b c d : Nat} (h : Aside0 (a ≤ b)) (g : a ≤ b → c ≤ d := by (intro h; first | omega | exact Nat.le_refl _)) : Aside0 (c ≤ d) := ⟨g h.out⟩
theorem jL2 {a b c d e f : Nat} (h : Aside0 (a ≤ b)) (k : Aside0 (c ≤ d)) (g : a ≤ b → c ≤ d → e ≤ f := by (intro h k; first | omega | exact Nat.le_refl _)) : Aside0 (e ≤ f) := ⟨g h.out k.out⟩
theorem sK2 {w W W' : World} {g : Nat} {row : Option Nat} (h : KeepBut w W g row) (k : KeepBut w W g row → KeepBut w W' g row := by (intro h; repeat (first | (with_reducible first | exact h | apply KeepBut.set_ | apply keep_drewN | apply keep_drew | apply keep_alloc) | refine keep_far ?_ (Aside0.out (by assumption)) _ | exact h))) : KeepBut w W' g row := k h
theorem sKp {w W W' : World} {S : Nat → Prop} (h : Kept w W S) (k : Kept w W S → Kept w W' S := by (intro h; repeat (first | (with_reducible first | exact h | apply Kept.alloc | apply Kept.drewN | apply Kept.drew) | exact h))) : Kept w W' S := k h
theorem kB {w w1 : World} {g g' : Nat} {row : Option Nat} {o : Obj} (h : KeepBut w w1 g row) (hb : w.heap[g']? = some o) (hg : g' ≠ g) (hr : some g' ≠ row := by simp) : w1.heap[g']? = some o := h.blk hb hg hr
theorem kT {w W1 W2 : World} {g : Nat} (h : KeepBut w W1 g none) (k : KeepBut W1 W2 g none) : KeepBut w W2 g none := h.trans k (.inl rfl)
theorem bq {w : World} {g : Nat} {t : TypeId} {cs : Array Value} {v : Value} (h : w.heap[g]? = some (.cells cs t (0, 0))) (i : Nat) (e : cs[i]? = some v := by rfl) : w.cell? ⟨g, i, none⟩ = some v := (blk_cell h i).trans e
theorem z1 {w : World} {g : Nat} {t : TypeId} {a : Value} (h : w.heap[g]? = some (.cells #[a] t (0, 0))) : w.cell? ⟨g, 0, none⟩ = some a ∧ w.frozen? ⟨g, 0, none⟩ = false := ⟨bq h 0, blk_frozen h 0⟩
theorem z2 {w : World} {g : Nat} {t : TypeId} {a b : Value} (h : w.heap[g]? = some (.cells #[a, b] t (0, 0))) : w.cell? ⟨g, 0, none⟩ = some a ∧ w.cell? ⟨g, 1, none⟩ = some b ∧ w.frozen? ⟨g, 0, none⟩ = false ∧ w.frozen? ⟨g, 1, none⟩ = false := ⟨bq h 0, bq h 1, blk_frozen h 0, blk_frozen h 1⟩
theorem z3 {w : World} {g : Nat} {t : TypeId} {a b c : Value} (h : w.heap[g]? = some (.cells #[a, b, c] t (0, 0))) : w.cell? ⟨g, 0, none⟩ = some a ∧ w.cell? ⟨g, 1, none⟩ = some b ∧ w.cell? ⟨g, 2, none⟩ = some c ∧ w.frozen? ⟨g, 0, none⟩ = false ∧ w.frozen? ⟨g, 1, none⟩ = false ∧ w.frozen? ⟨g, 2, none⟩ = false := ⟨bq h 0, bq h 1, bq h 2, blk_frozen h 0, blk_frozen h 1, blk_frozen h 2⟩
theorem rG {α : Type} {d : Kd α} {e : Nat} {w : World} {base g : Nat} {ok : Nat → Prop} {v : Value} {xs : List α} (h : Kd.R d e w base ok v xs) (hk : ∀ k, ok k → k ≠ g) {x y : Value} : Kd.R d e ((w.setCell ⟨g, 0, none⟩ x).setCell ⟨g, 1, none⟩ y) base ok v xs :=
  Kd.R_far (p := ⟨g, 1, none⟩) (Kd.R_far (p := ⟨g, 0, none⟩) h hk x) hk y
theorem sZ {w w' : World} {g : Nat} {t : TypeId} {cs cs' : Array Value} (h : w.heap[g]? = some (.cells cs t (0, 0))) (k : w.heap[g]? = some (.cells cs t (0, 0)) → w'.heap[g]? = some (.cells cs' t (0, 0)) := by (intro h; (repeat (first | exact h | (with_reducible first | apply blk_drewN | apply blk_drew | apply blk_alloc) | apply blk_put | apply blk_far)); all_goals first | rfl | exact Aside0.out (by assumption))) : w'.heap[g]? = some (.cells cs' t (0, 0)) := k h
theorem lR {α : Type} {d : Kd α} {e : Nat} {w W w1 : World} {base : Nat} {ok : Nat → Prop} {v : Value} {xs : List α} (h : Aside0 (Kd.R d e w base ok v xs)) (hb : Below W.heap.size W w1)
    (g : Kd.R d e w base ok v xs → Kd.R d e W base ok v xs := by (intro h; (with_reducible repeat (first | apply Kd.R_alloc | apply Kd.R_drewN | apply Kd.R_drew)); exact h)) : Aside0 (Kd.R d e w1 base ok v xs) := ⟨Kd.R_below (g h.out) hb⟩
theorem lB {w W w1 : World} {g : Nat} {o : Obj} (h : Aside0 (w.heap[g]? = some o)) (hb : Below W.heap.size W w1)
    (k : w.heap[g]? = some o → W.heap[g]? = some o := by (intro h; (with_reducible repeat (first | refine blk_drewN ?_ _ | refine blk_drew ?_ | refine blk_alloc ?_ _)); exact h)) : Aside0 (w1.heap[g]? = some o) := ⟨blk_below (k h.out) hb⟩
theorem lW {w w1 W w2 : World} (h : Aside0 (Below w.heap.size w w1)) (hb : Below W.heap.size W w2)
    (g : Below w.heap.size w w1 → Below w.heap.size w W := by (intro h; repeat (first | (with_reducible first | exact h | apply below_alloc | apply pw_below_drewN | apply below_drew1 | refine below_set ?_ (Aside0.out (by assumption))) | exact h))) : Aside0 (Below w.heap.size w w2) := ⟨below_step (g h.out) hb⟩
theorem nD {a b : Nat} (h : Aside0 (a ≠ b)) : a ≠ b ∧ b ≠ a := ⟨h.out, fun e => h.out e.symm⟩
structure Lk (w W : World) : Prop where out : Below w.heap.size w W
theorem ch {w W : World} (h : Below w.heap.size w W := by (with_reducible repeat' (first | exact Below.refl _ _ | refine below_set ?_ ?_ | refine below_drew1 ?_ | refine pw_below_drewN ?_ _ | refine gW (Aside0.out (by assumption)) ?_ | refine below_step ?_ (Lk.out (by assumption))))) : Below w.heap.size w W := h
theorem uC {α : Type} {d : Kd α} {e : Nat} {w W : World} {base : Nat} {ok : Nat → Prop} {A : Option Addr} {n c : Nat} {xs : List α} (h : Aside0 (Kd.R d e w base ok (.slice A n c) xs)) (b : Below w.heap.size w W := by exact ch) : Kd.C d W A xs.length xs := Kd.C_below (Kd.R_reads' h.out).2.2 b
theorem uK {α : Type} {d : Kd α} {w W : World} {A : Option Addr} {n : Nat} {xs : List α} (h : Aside0 (Kd.C d w A n xs)) (b : Below w.heap.size w W := by exact ch) : Kd.C d W A n xs := Kd.C_below h.out b
theorem uL {α : Type} {d : Kd α} {e : Nat} {w : World} {base : Nat} {ok : Nat → Prop} {A : Option Addr} {c : Nat} {xs : List α} (h : Aside0 (Kd.R d e w base ok (.slice A xs.length c) xs)) : xs.length ≤ c := (Kd.R_reads' h.out).2.1
theorem uB {w W : World} {g : Nat} {o : Obj} (h : Aside0 (w.heap[g]? = some o)) (b : Below w.heap.size w W := by exact ch) : W.heap[g]? = some o := blk_below h.out b
theorem uT {w W : World} (h : Gnd.Tab w) (b : Below w.heap.size w W := by exact ch) : Gnd.Tab W := h.on b
theorem uM {w W : World} (h : Gnd.Max w) (b : Below w.heap.size w W := by exact ch) : Gnd.Max W := h.on b
theorem uN {w W : World} {g g' : Nat} {o : Obj} (hg : Aside0 (g' = W.heap.size)) (h : Aside0 (w.heap[g]? = some o)) (b : Below w.heap.size w W := by exact ch) : g' ≠ g ∧ g ≠ g' := ⟨nG hg.out (uB h b), nL hg.out (uB h b)⟩
theorem bL {w W : World} {a : Addr} {v : Value} (b : Below w.heap.size w W) (hx : w.cell? a = some v) : W.cell? a = some v := bC b hx
theorem oK {S : World → Prop} {G K : Act → World → Prop} {a : Act} {w W : World} (hK : Shut (∀ a' w', S w' → (S w' → G a' w') → K a' w')) (h : S w) (g : S W → G a W) (b : Below w.heap.size w W := by exact ch) (k : Below w.heap.size w W → S w → S W := by (intro b; (try dsimp only); repeat (first | exact bL b | refine And.imp (bL b) ?_))) : K a W := hK.out a W (k b h) g
theorem iT {α : Type} {p : Prop} [Decidable p] {a b : Option α} {r : α} (h : (if p then a else b) = some r) (n : b ≠ some r) : p ∧ a = some r := by
  rcases iE h with h | h
  · exact h
  · exact absurd h.2 n
theorem iF {α : Type} {p : Bool} {a b : Option α} {r : α} (h : (if p = true then a else b) = some r) (n : a ≠ some r) : p = false ∧ b = some r := by
  rcases iE h with h | h
  · exact absurd h.2 n
  · exact ⟨Bool.eq_false_iff.mpr h.1, h.2⟩
theorem iQ {α β : Type} [BEq β] [LawfulBEq β] {x y : β} [Decidable (x = y)] {a b : Option α} {r : α} (h : (if x = y then a else b) = some r) (n : b ≠ some r) : (x == y) = true ∧ (x != y) = false ∧ a = some r :=
  have h := iT h n; ⟨beq_iff_eq.mpr h.1, bne_eq_false_iff_eq.mpr h.1, h.2⟩
theorem iO {α β : Type} [BEq β] [LawfulBEq β] {x y : β} [Decidable (x = y)] {a b : Option α} {r : α} (h : (if (x != y) = true then a else b) = some r) (n : a ≠ some r) : (x != y) = false ∧ decide (x = y) = true ∧ (x == y) = true ∧ b = some r :=
  have h := iF h n; ⟨h.1, decide_eq_true (by simpa using h.1), by simpa using h.1, h.2⟩
theorem iL {α : Type} {p : Prop} [Decidable p] {a b : Option α} {r : α} (h : (if p then a else b) = some r) (n : a ≠ some r) : decide p = false ∧ b = some r := by
  rcases iE h with h | h
  · exact absurd h.2 n
  · exact ⟨decide_eq_false h.1, h.2⟩
theorem iI {α : Type} {b p : Bool} {x a : Option α} {r : α} (h : (if b = true then (if p = true then x else a) else a) = some r) (n : x ≠ some r) : (b = true → p = false) ∧ a = some r := by
  rcases iE h with h | h
  · exact ⟨fun _ => (iF h.2 n).1, (iF h.2 n).2⟩
  · exact ⟨fun e => absurd e h.1, h.2⟩
theorem iD {α : Type} {p : Prop} [Decidable p] {a b : Option α} {r : α} (h : (if p then a else b) = some r) : (decide p = true ∧ a = some r) ∨ (decide p = false ∧ b = some r) := by
  rcases iE h with h | h
  · exact .inl ⟨decide_eq_true h.1, h.2⟩
  · exact .inr ⟨decide_eq_false h.1, h.2⟩
theorem iZ {α : Type} {p : Bool} {a b : Option α} {r : α} (h : (if p = true then a else b) = some r) : (p = true ∧ a = some r) ∨ (p = false ∧ b = some r) := by
  rcases iE h with h | h
  · exact .inl h
  · exact .inr ⟨Bool.eq_false_iff.mpr h.1, h.2⟩
theorem iB {α β : Type} [BEq β] [LawfulBEq β] {x y : β} [Decidable (x = y)] {a b : Option α} {r : α} (h : (if x = y then a else b) = some r) : ((x == y) = true ∧ (x != y) = false ∧ a = some r) ∨ (¬ x = y ∧ (x == y) = false ∧ (x != y) = true ∧ b = some r) := by
  rcases iE h with h | h
  · exact .inl ⟨beq_iff_eq.mpr h.1, bne_eq_false_iff_eq.mpr h.1, h.2⟩
  · exact .inr ⟨h.1, beq_eq_false_iff_ne.mpr h.1, bne_iff_ne.mpr h.1, h.2⟩
theorem i2 {α β : Type} {a c : α} {b d : β} (h : some (a, b) = some (c, d)) : a = c ∧ b = d := by cases h; exact ⟨rfl, rfl⟩
theorem i3 {α β γ : Type} {a c : α} {b d : β} {e f : γ} (h : some (a, b, e) = some (c, d, f)) : a = c ∧ b = d ∧ e = f := by cases h; exact ⟨rfl, rfl, rfl⟩
theorem i4 {α β γ δ : Type} {a c : α} {b d : β} {e f : γ} {g k : δ} (h : some (a, b, e, g) = some (c, d, f, k)) : a = c ∧ b = d ∧ e = f ∧ g = k := by cases h; exact ⟨rfl, rfl, rfl, rfl⟩
section
variable {P : Program} {ops : Array Oper} {rest : List Oper} {oi : Oper} {a : Act} {w : World} {Q : Exit → Act → World → Prop}
theorem gk (f : FuncId) {as_ : Array Operand} {ts : Array TypeId} (_ho : oi.op = .call { callee := .value (.func f), args := as_, argTypes := ts }) (h : wpList P ops Q (oi :: rest) a w) : wpList P ops Q (oi :: rest) a w := h
theorem gt (N : Tmp) (_hN : oi.dst = some N) (h : wpList P ops Q (oi :: rest) a w) : wpList P ops Q (oi :: rest) a w := h
theorem gC (N : Option Tmp) (hd : oi.dst = N) {f : FuncId} {fn : Func} {as_ : Array Operand} {ts : Array TypeId} (hf : P.funcs[f]? = some fn) (args : Array Value) {R : Ending → World → Prop} (hc : Calls P f args w R) (k : ∀ e w', R e w' → ∃ v, e = .returned v ∧ wpList P ops Q rest (a.put N v) w')
    (hg : oi.guard = none := by rfl) (hop : oi.op = .call { callee := .value (.func f), args := as_, argTypes := ts } := by rfl) (hname : (fn.name == "runtime.NumGoroutine") = false := by kernel_rfl) (hb : fn.body.isSome = true := by rfl)
    (hargs : as_.map a.eval = args := by (try simp only [List.map_toArray, List.map_cons, List.map_nil]); first | done | rfl | (simp only [List.length_drop, List.length_take]; rfl)) : wpList P ops Q (oi :: rest) a w := goesL_ N hd hg hf hname hb args hop hargs (hc.mono k)
end
theorem eW {p : Prop} (g : p := by first | exact ⟨rfl, _, World.drewN_drewN _ _ _⟩ | exact ⟨rfl, _, Eq.trans (World.drewN_drewN _ _ _) (congrArg (World.drewN _) (Nat.add_assoc _ _ _))⟩) : p := g
section
variable {P : Program} {ops : Array Oper} {rest : List Oper} {o : Oper} {a : Act} {Q : Exit → Act → World → Prop}
theorem bx {W : World} (N : Tmp) (cs : Array Value) (t : TypeId) (h : ∀ g, g = W.heap.size → ∀ w1, w1.heap[g]? = some (.cells cs t (0, 0)) → Below W.heap.size W w1 → wpList P ops Q rest (a.put o.dst (.pointer (some ⟨g, 0, none⟩))) w1)
    (_hd : o.dst = some N := by rfl) (hgd : o.guard = none := by rfl) (hrun : (execOp a.eval o).run P W = .ok (.value (.pointer (some ⟨W.heap.size, 0, none⟩))) (W.alloc (.cells cs t (0, 0))) := by first | (go_simp; done) | (go_simp; rfl)) : wpList P ops Q (o :: rest) a W := box_event hgd _hd hrun h
end
section
variable {P : Program} {ops : Array Oper} {Q : Exit → Act → World → Prop} {S : World → Prop} {ds : List Nat} {md : Region.Mode}
theorem pX (i : Nat) (n : Tmp) {oi : Oper} {v : Value} {fuel : Nat} {l : Array Bool} {a : Act} {w : World} {a' : Act} (h : wpAnyLast P md ops Q S ds fuel (l.setIfInBounds i true) a' w)
    (hi : ops[i]? = some oi := by rfl) (hN : oi.dst = some n := by rfl) (hc : anyB md ops l (l.setIfInBounds i true) i = true := by exact any_of HT_.out (by kernel_rfl)) (hQ : ∀ c a w, Q (.panic c) (a.put oi.dst v) w → Q (.panic c) a w := by exact fun _ _ _ h => h)
    (hw : Region.wanted oi (yielded ops a.tmps) = true := by rfl) (hy : ∀ w', (execOp a.eval oi).run P w' = .ok (.value v) w' := by (intro w'; go_simp; with_reducible rfl)) (ha : a.put (some n) v = a' := by (simp only [Act.put, List.setIfInBounds_toArray, List.set_cons_zero, List.set_cons_succ, i64_w, i32_w]; rfl)) :
    wpAnyLast P md ops Q S ds (fuel + 1) l a w := pure_ _ hi hN hc hQ (Or.inl ⟨hw, hy⟩) ha h
theorem pU (i : Nat) (n : Tmp) {oi : Oper} {fuel : Nat} {l : Array Bool} {a : Act} {w : World} {a' : Act} (h : wpAnyLast P md ops Q S ds fuel (l.setIfInBounds i true) a' w)
    (hi : ops[i]? = some oi := by rfl) (hN : oi.dst = some n := by rfl) (hc : anyB md ops l (l.setIfInBounds i true) i = true := by exact any_of HT_.out (by kernel_rfl)) (hQ : ∀ c a w, Q (.panic c) (a.put oi.dst undef) w → Q (.panic c) a w := by exact fun _ _ _ h => h)
    (hy : Yields P ops oi undef a := by exact Or.inr ⟨by rfl, rfl⟩) (ha : a.put (some n) undef = a' := by (simp only [Act.put, List.setIfInBounds_toArray, List.set_cons_zero, List.set_cons_succ, i64_w, i32_w]; rfl)) :
    wpAnyLast P md ops Q S ds (fuel + 1) l a w := pure_ _ hi hN hc hQ hy ha h
theorem tX (i : Nat) (n : Tmp) {oi : Oper} {v : Value} {fuel : Nat} {l : Array Bool} {a : Act} {w : World} {a' : Act} (h : wpAnyLast P md ops Q S ds fuel (l.setIfInBounds i true) a' w)
    (hi : ops[i]? = some oi := by rfl) (hN : oi.dst = some n := by rfl) (hc : takeB md ops ds l (l.setIfInBounds i true) i = true := by exact take_ofW HT_.out HW_.out (by kernel_rfl)) (hQ : ∀ c a w, Q (.panic c) (a.put oi.dst v) w → Q (.panic c) a w := by exact fun _ _ _ h => h)
    (hw : Region.wanted oi (yielded ops a.tmps) = true := by rfl) (hS : S w := by exact hHeld) (hy : ∀ w', S w' → (execOp a.eval oi).run P w' = .ok (.value v) w' := by (intro w' hs; (try dsimp only at hs); (repeat (rcases hs with ⟨s, hs⟩)); go_simp; with_reducible rfl)) (ha : a.put (some n) v = a' := by (simp only [Act.put, List.setIfInBounds_toArray, List.set_cons_zero, List.set_cons_succ, i64_w, i32_w]; rfl)) :
    wpAnyLast P md ops Q S ds (fuel + 1) l a w := take_ _ hi hN hc hQ (Or.inl ⟨hw, hy⟩) hS ha h
theorem tB (b : Bool) (v : Value) (i : Nat) (n : Tmp) {oi : Oper} {fuel : Nat} {l : Array Bool} {a : Act} {w : World} {a' : Act} (h : wpAnyLast P md ops Q S ds fuel (l.setIfInBounds i true) a' w)
    (hi : ops[i]? = some oi := by rfl) (hN : oi.dst = some n := by rfl) (hc : takeB md ops ds l (l.setIfInBounds i true) i = true := by exact take_ofW HT_.out HW_.out (by kernel_rfl)) (hc' : anyB md ops l (l.setIfInBounds i true) i = true := by exact any_of HT_.out (by kernel_rfl)) (hQ : ∀ v c a w, Q (.panic c) (a.put oi.dst v) w → Q (.panic c) a w := by exact fun _ _ _ _ h => h)
    (hw : b = true → Region.wanted oi (yielded ops a.tmps) = true := by (intro h; subst h; rfl)) (hu : b = false → Yields P ops oi undef a := by (intro h; subst h; exact Or.inr ⟨by rfl, rfl⟩)) (hS : S w := by exact hHeld)
    (hy : b = true → ∀ w', S w' → (execOp a.eval oi).run P w' = .ok (.value v) w' := by (intro h w' hs; subst h; (try dsimp only at hs); (repeat (rcases hs with ⟨s, hs⟩)); go_simp; first | done | with_reducible rfl)) (ha : a.put (some n) (cond b v undef) = a' := by (simp only [Act.put, List.setIfInBounds_toArray, List.set_cons_zero, List.set_cons_succ, i64_w, i32_w]; rfl)) :
    wpAnyLast P md ops Q S ds (fuel + 1) l a w := by
  cases b
  · exact pU i n h hi hN hc' (hQ undef) (hu rfl) ha
  · exact tX i n h hi hN hc (hQ v) (hw rfl) hS (hy rfl) ha
theorem pB (b : Bool) (v : Value) (i : Nat) (n : Tmp) {oi : Oper} {fuel : Nat} {l : Array Bool} {a : Act} {w : World} {a' : Act} (h : wpAnyLast P md ops Q S ds fuel (l.setIfInBounds i true) a' w)
    (hi : ops[i]? = some oi := by rfl) (hN : oi.dst = some n := by rfl) (hc : anyB md ops l (l.setIfInBounds i true) i = true := by exact any_of HT_.out (by kernel_rfl)) (hQ : ∀ v c a w, Q (.panic c) (a.put oi.dst v) w → Q (.panic c) a w := by exact fun _ _ _ _ h => h)
    (hw : b = true → Region.wanted oi (yielded ops a.tmps) = true := by (intro h; subst h; rfl)) (hu : b = false → Yields P ops oi undef a := by (intro h; subst h; exact Or.inr ⟨by rfl, rfl⟩)) (hy : b = true → ∀ w', (execOp a.eval oi).run P w' = .ok (.value v) w' := by (intro h w'; subst h; (try simp only [cond_true]); go_simp; first | done | with_reducible rfl)) (ha : a.put (some n) (cond b v undef) = a' := by (simp only [Act.put, List.setIfInBounds_toArray, List.set_cons_zero, List.set_cons_succ, i64_w, i32_w]; rfl)) :
    wpAnyLast P md ops Q S ds (fuel + 1) l a w := by
  cases b
  · exact pU i n h hi hN hc (hQ undef) (hu rfl) ha
  · exact pX i n h hi hN hc (hQ v) (hw rfl) (hy rfl) ha
theorem oX (i : Nat) (N : Option Tmp) {oi : Oper} {fuel : Nat} {l : Array Bool} {a : Act} {w : World}
    (h : ∀ K : Act → World → Prop, Shut (∀ a' w', S w' → (S w' → wpAnyLast P md ops Q S ds fuel (l.setIfInBounds i true) a' w') → K a' w') → if Region.wanted oi (yielded ops a.tmps) = true then Oper.wp P oi a w K Q else K (a.put N undef) w)
    (hi : ops[i]? = some oi := by rfl) (hN : oi.dst = N := by rfl) (hc : readyB md ops l (l.setIfInBounds i true) i = true := by exact one_of HT_.out (by kernel_rfl)) (hd : i ∉ ds := by decide) :
    wpAnyLast P md ops Q S ds (fuel + 1) l a w := one_ _ hi hN hc hd h
theorem lX (i : Nat) (N : Option Tmp) {oi : Oper} {fuel : Nat} {l : Array Bool} {a : Act} {w : World}
    (h : ∀ K : Act → World → Prop, Shut (∀ a' w', wpAnyLast P md ops Q S ds fuel (l.setIfInBounds i true) a' w' → K a' w') → if Region.wanted oi (yielded ops a.tmps) = true then Oper.wp P oi a w K Q else K (a.put N undef) w)
    (hi : ops[i]? = some oi := by rfl) (hN : oi.dst = N := by rfl) (hc : readyB md ops l (l.setIfInBounds i true) i = true := by exact one_of HT_.out (by kernel_rfl)) (hd : i ∈ ds := by decide) :
    wpAnyLast P md ops Q S ds (fuel + 1) l a w := last_ _ hi hN hc hd h
theorem nX (n : Tmp) {fuel : Nat} {l : Array Bool} {a a' : Act} {v : Value} {w : World} (h : wpAnyLast P md ops Q S ds fuel l a' w) (ha : a.put (some n) v = a' := by (simp only [Act.put, List.setIfInBounds_toArray, List.set_cons_zero, List.set_cons_succ, i64_w, i32_w]; rfl)) : wpAnyLast P md ops Q S ds fuel l (a.put (some n) v) w := norm_ ha h
theorem dX {l : Array Bool} {a : Act} {w : World} {n : Nat} (h : Q .normal a w) (hr : (Region.ready md ops l == []) = true := by exact done_of HT_.out (by kernel_rfl)) : wpAnyLast P md ops Q S ds n l a w := done_ hr h
theorem gR {id : Nat} {Q : Exit → Act → World → Prop} {l : List Oper} {a : Act} {w : World} (h : (Code.region id l.toArray true).wp P Q a w) : (Code.region id l.toArray true).wp P Q a w := h
end
end Go.Proofs.YtginmioklkcgbaaGreatDoorW.PrintWords

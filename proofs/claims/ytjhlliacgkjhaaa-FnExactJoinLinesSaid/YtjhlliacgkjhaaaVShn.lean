/- Short words for a long walk. No condition. -/
import Derived.Test.YtjhlliacgkjhaaaVExt
namespace Go.Proofs.YtjhlliacgkjhaaaW.PrintWords
open Go.RowKit Go.Proofs.YtjhlliacgkjhaaaW.PrintLast
theorem sQ {p : Prop} (g : p := by first | (simp only [putAll, Act.put, List.setIfInBounds_toArray, List.set_cons_zero, List.set_cons_succ]; done) | (simp only [putAll, Act.put, List.setIfInBounds_toArray, List.set_cons_zero, List.set_cons_succ]; rfl)) : p := g
theorem rF {α : Type} {d : Kd α} {e : Nat} {w : World} {base : Nat} {ok : Nat → Prop} {v : Value} {xs : List α} (h : Kd.R d e w base ok v xs) {g t : Nat} {cells : Array Value} (hb : w.heap[g]? = some (.cells cells t (0, 0))) {x y : Value} (ht : ∀ q, q ∈ e :: d.E → q ≠ t := by decide) :
    Kd.R d e ((w.setCell ⟨g, 0, none⟩ x).setCell ⟨g, 1, none⟩ y) base ok v xs :=
  Kd.R_mono (Kd.R_far (p := ⟨g, 1, none⟩) (Kd.R_far (p := ⟨g, 0, none⟩) (Kd.R_types h hb ht) (fun _ hk => hk.2) x) (fun _ hk => hk.2) y) (fun _ h_ => h_.1)
theorem sF {w w' : World} {g g' : Nat} {cs : Array Value} {t : Nat} (h : w.heap[g]? = some (.cells cs t (0, 0))) (n : g ≠ g')
    (k : w.heap[g]? = some (.cells cs t (0, 0)) → g ≠ g' → w'.heap[g]? = some (.cells cs t (0, 0)) := by (intro h n; (with_reducible repeat (first | refine blk_drewN ?_ _ | refine blk_drew ?_ | refine blk_alloc ?_ _ | refine blk_far ?_ n _)); exact h)) : w'.heap[g]? = some (.cells cs t (0, 0)) := k h n
theorem put2 {w : World} {g t : Nat} {a b x y : Value} (h : w.heap[g]? = some (.cells #[a, b] t (0, 0))) : ((w.setCell ⟨g, 0, none⟩ x).setCell ⟨g, 1, none⟩ y).heap[g]? = some (.cells #[x, y] t (0, 0)) :=
  blk_put (cs := #[x, b]) (blk_put (cs := #[a, b]) h 0 _ rfl) 1 _ rfl
theorem sRC {α : Type} {d : Kd α} {e : Nat} {w w' : World} {base : Nat} {ok : Nat → Prop} {A : Option Addr} {n c : Nat} {xs : List α} (h : Kd.R d e w base ok (.slice A n c) xs)
    (g : Kd.R d e w base ok (.slice A n c) xs → Kd.R d e w' base ok (.slice A n c) xs := by (intro h; (with_reducible repeat (first | apply Kd.R_alloc | apply Kd.R_drewN | apply Kd.R_drew)); exact h)) : Kd.C d w' A xs.length xs := (Kd.R_reads' (g h)).2.2
theorem gW {w w1 : World} {g : Nat} (hg : g = w1.heap.size) (h : Below w.heap.size w w1) : w.heap.size ≤ g := by rw [hg]; exact below_size h
theorem nL {w1 : World} {g g' : Nat} {o : Obj} (hg : g' = w1.heap.size) (h : w1.heap[g]? = some o) : g ≠ g' := by rw [hg]; exact Nat.ne_of_lt (blk_lt h)
theorem nG {w1 : World} {g g' : Nat} {o : Obj} (hg : g' = w1.heap.size) (h : w1.heap[g]? = some o) : g' ≠ g := by rw [hg]; exact Nat.ne_of_gt (blk_lt h)
end Go.Proofs.YtjhlliacgkjhaaaW.PrintWords

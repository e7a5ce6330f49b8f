/- One element of a row, read behind a pointer to it. No condition. -/
import Derived.Test.YtbcgndhcieeloaaWMore
namespace Go.Proofs.YtbcgndhcieeloaaW.PrintMore
open Go.RowKit Go.Proofs.YtbcgndhcieeloaaW.PrintWords Go.Proofs.YtbcgndhcieeloaaW.PrintLast
theorem elem_C {α : Type} {k : Kd α} {w : World} {ad : Addr} {n : Nat} {xs : List α} (h : Kd.C k w (some ad) n xs) (z : α) (i : Int) (h0 : 0 ≤ i) (h1 : i < (n : Int)) :
    Kd.C k w (some (ad.add (i.toNat * k.sz))) 1 [xs.getD i.toNat z] := by
  obtain ⟨hl, _, hp⟩ := h
  obtain ⟨ad', e, hc⟩ := hp (by omega)
  injection e with e
  subst e
  have hi : i.toNat < xs.length := by omega
  obtain ⟨c, k1, k2, k3⟩ := hc i.toNat _ (List.getElem?_eq_getElem hi)
  refine ⟨rfl, by omega, fun _ => ⟨_, rfl, fun j p hj => ?_⟩⟩
  cases j with
  | succ j => simp at hj
  | zero =>
    simp only [List.getElem?_cons_zero, Option.some.injEq] at hj
    subst hj
    refine ⟨c, k1, ?_, fun m u hu => ?_⟩
    · rw [List.getD_eq_getElem?_getD, List.getElem?_eq_getElem hi]; exact k2
    · have := k3 m u hu
      rwa [Nat.zero_mul, Nat.zero_add, ← PrintWords.add_add] at *
end Go.Proofs.YtbcgndhcieeloaaW.PrintMore

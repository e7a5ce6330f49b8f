import Derived.Test.YtginmioklkcgbaaGreatDoorVWMore
namespace Go.Proofs.YtginmioklkcgbaaGreatDoorW.PrintMore
open Go.RowKit Go.Proofs.YtginmioklkcgbaaGreatDoorW.PrintWords Go.Proofs.YtginmioklkcgbaaGreatDoorW.PrintLast
theorem elem_C {α : Type} {k : Kd α} {w : World} {ad : Addr} {n : Nat} {xs : List α} (h : Kd.C k w (some ad) n xs) (z : α) (i : Int) (h0 : 0 ≤ i) (h1 : i < (n : Int)) :
    Kd.C k w (some (ad.add (i.toNat * k.sz))) 1 [xs.getD i.toNat z] := by
  obtain ⟨hl, _, hp⟩ := h
  obtain ⟨ad', e, hc⟩ := hp (by omega)
  injection e with e
  subst e
  have hi : i.toNat < xs.length := by omega
  obtain ⟨c, k1, k2, k3⟩ := hc i.toNat _ (List.getElem?_eq_getElem hi)
  refine ⟨rfl, by omega, fun _ => ⟨_, rfl, fun j p hj => ?_⟩⟩
  cases j with
  | succ j => simp at hj
  | zero =>
    simp only [List.getElem?_cons_zero, Option.some.injEq] at hj
    subst hj
    refine ⟨c, k1, ?_, fun m u hu => ?_⟩
    · rw [List.getD_eq_getElem?_getD, List.getElem?_eq_getElem hi]; exact k2
    · have := k3 m u hu
      rwa [Nat.zero_mul, Nat.zero_add, ← PrintWords.add_add] at *
theorem box_C {α : Type} {k : Kd α} {w : World} {g : Nat} {t : TypeId} {a : Array Value} {x : α} (h : w.heap[g]? = some (.cells a t (0, 0))) (hk : k.K w x a.toList) : Kd.C k w (some ⟨g, 0, none⟩) 1 [x] := by
  refine ⟨rfl, by omega, fun _ => ⟨_, rfl, fun j p hj => ?_⟩⟩
  cases j with
  | succ j => simp at hj
  | zero =>
    simp only [List.getElem?_cons_zero, Option.some.injEq] at hj
    subst hj
    refine ⟨a.toList, by rw [k.K_len hk], hk, fun m u hu => ?_⟩
    have := blk_cell h m
    have e : a[m]? = some u := by rw [← hu, Array.getElem?_toList]
    rw [e] at this
    have e2 : ((⟨g, 0, none⟩ : Addr).add (0 * k.sz + m)) = ⟨g, m, none⟩ := by
      by_cases hm : m = 0
      · subst hm; simp [Addr.add]
      · simp [Addr.add, hm]
    rw [e2]; exact this
end Go.Proofs.YtginmioklkcgbaaGreatDoorW.PrintMore
namespace Go.Proofs.YtginmioklkcgbaaGreatDoorW.PrintWords
open Go.RowKit Go.Proofs.YtginmioklkcgbaaGreatDoorW.PrintLast
section
variable {P : Program} {ops : Array Oper} {Q : Exit → Act → World → Prop}
theorem gate_closure {o : Oper} {rest : List Oper} {a : Act} {W : World} (c : Nat) {as : Array Operand} {ts : Array TypeId} (_ho : o.op = .call { callee := .value (.tmp c), args := as, argTypes := ts }) (h : wpList P ops Q (o :: rest) a W) : wpList P ops Q (o :: rest) a W := h
theorem goesC_ {rest : List Oper} {oi : Oper} {a : Act} {w : World} (N : Option Tmp) (hd : oi.dst = N) (hg : oi.guard = none) {f : FuncId} {fn : Func} {c : Operand} {as : Array Operand} {ts : Array TypeId} (hf : P.funcs[f]? = some fn) (hname : (fn.name == "runtime.NumGoroutine") = false) (hb : fn.body.isSome = true) (args lb : Array Value)
    (hop : oi.op = .call { callee := .value c, args := as, argTypes := ts }) (hc : a.eval c = .func (.func f) #[] lb) (hargs : as.map a.eval ++ lb = args)
    (h : Calls P f args w fun e w' => ∃ v, e = .returned v ∧ wpList P ops Q rest (a.put N v) w') : wpList P ops Q (oi :: rest) a w := by
  refine wpList_plain hg fun K hK => ?_
  have he := enters_ hf hname hb args w
  have hrun : (execOp a.eval oi).run P w = .ok (.enter f args) w := by
    unfold execOp
    simp [hop, resolve, Deferred.ofValue, invoke, hc, hargs, he]
  unfold Oper.wp
  rw [hrun, Oper.upon_enter]
  refine h.mono fun e w'' hh => ?_
  obtain ⟨v, rfl, hk⟩ := hh
  subst hd
  exact hK _ _ hk
end
end Go.Proofs.YtginmioklkcgbaaGreatDoorW.PrintWords
namespace Go.Proofs.YtginmioklkcgbaaGreatDoorW.PrintWords
open Go.RowKit Go.Proofs.YtginmioklkcgbaaGreatDoorW.PrintLast
theorem aS {p : Prop} (h : p) : Aside0 p := Aside0.mk h
theorem sG {p : Prop} (g : p := by (try simp only [List.map_toArray, List.map_cons, List.map_nil]); first | done | rfl | (simp only [List.length_drop, List.length_take]; rfl)) : p := g
theorem sP {p : Prop} (g : p := by (simp only [Act.put, List.setIfInBounds_toArray, List.set_cons_zero, List.set_cons_succ, i64_w, i32_w]; rfl)) : p := g
theorem sR {α : Type} {d : Kd α} {e : Nat} {w w' : World} {base : Nat} {ok : Nat → Prop} {v : Value} {xs : List α} (h : Kd.R d e w base ok v xs)
    (g : Kd.R d e w base ok v xs → Kd.R d e w' base ok v xs := by (intro h; (with_reducible repeat (first | apply Kd.R_alloc | apply Kd.R_drewN | apply Kd.R_drew)); exact h)) : Kd.R d e w' base ok v xs := g h
theorem sB {w w' : World} {g : Nat} {o : Obj} (h : w.heap[g]? = some o)
    (k : w.heap[g]? = some o → w'.heap[g]? = some o := by (intro h; (with_reducible repeat (first | refine blk_drewN ?_ _ | refine blk_drew ?_ | refine blk_alloc ?_ _)); exact h)) : w'.heap[g]? = some o := k h
theorem sW {n : Nat} {w w1 w2 : World} (h : Below n w w1)
    (g : Below n w w1 → Below n w w2 := by (intro h; repeat (first | (with_reducible first | exact h | apply below_alloc | apply pw_below_drewN | apply below_drew1 | refine below_set ?_ (Aside0.out (by assumption))) | exact h))) : Below n w w2 := g h
theorem sC {α : Type} {d : Kd α} {w w' : World} {A : Option Addr} {n : Nat} {xs : List α} (h : Kd.C d w A n xs)
    (g : Kd.C d w A n xs → Kd.C d w' A n xs := by (intro h; repeat (first | exact h | (with_reducible refine Kd.C_alloc ?_ _) | (with_reducible refine Kd.C_drewN ?_ _) | (with_reducible refine Kd.C_drew ?_)))) : Kd.C d w' A n xs := g h
def PieceAt (w : World) (g b o : Nat) (a0 a1 : Int) : Prop := b ≠ g ∧ w.cell? ⟨b, o, none⟩ = some (.int .i64 a0) ∧ w.cell? ⟨b, o + 1, none⟩ = some (.int .i64 a1) ∧ w.frozen? ⟨b, o, none⟩ = false ∧ w.frozen? ⟨b, o + 1, none⟩ = false
theorem PieceAt.keep {w W : World} {g b o : Nat} {a0 a1 : Int} (h : PieceAt w g b o a0 a1) (k : KeepBut w W g none) : PieceAt W g b o a0 a1 := by
  obtain ⟨h1, h2, h3, h4, h5⟩ := h
  have e : W.heap[b]? = w.heap[b]? := k.2 b (World.block_lt_of_cell? _ _ h2) h1 (by simp)
  refine ⟨h1, ?_, ?_, ?_, ?_⟩
  · show World.cell? W _ = _; unfold World.cell? at h2 ⊢; rw [e]; exact h2
  · show World.cell? W _ = _; unfold World.cell? at h3 ⊢; rw [e]; exact h3
  · show World.frozen? W _ = _; unfold World.frozen? at h4 ⊢; rw [e]; exact h4
  · show World.frozen? W _ = _; unfold World.frozen? at h5 ⊢; rw [e]; exact h5
theorem setCell_own {w : World} {a : Addr} {v : Value} (h : w.cell? a = some v) : w.setCell a v = w := by
  unfold World.setCell
  have : w.heap.modify a.block (fun | .cells c elem frozen => .cells (if a.spot.isSome then c else c.setIfInBounds a.off v) elem frozen | o => o) = w.heap := by
    apply Array.ext
    · simp
    · intro i h1 h2
      rw [Array.getElem_modify]
      split
      · rename_i e
        subst e
        unfold World.cell? at h
        rw [Array.getElem?_eq_getElem h2] at h
        cases ho : w.heap[a.block] with
        | cells c t fr =>
          rw [ho] at h
          simp only at h ⊢
          cases hs : a.spot.isSome
          · rw [hs] at h
            simp only [Bool.false_eq_true, if_false] at h ⊢
            congr 1
            apply Array.ext
            · simp
            · intro j j1 j2
              rw [Array.getElem_setIfInBounds]
              split
              · rename_i e2
                subst e2
                rw [Array.getElem?_eq_getElem j2] at h
                exact (Option.some.inj h).symm
              · rfl
          · simp
        | _ => rfl
      · rfl
  exact congrArg (fun h : Array Obj => ({ w with heap := h } : World)) this
theorem cell_next {w : World} {b o : Nat} {v u : Value} (h : w.cell? ⟨b, o + 1, none⟩ = some v) : (w.setCell ⟨b, o, none⟩ u).cell? ⟨b, o + 1, none⟩ = some v := by
  rw [World.cell?_setCell_other _ _ _ _ (by simp)]; exact h
end Go.Proofs.YtginmioklkcgbaaGreatDoorW.PrintWords

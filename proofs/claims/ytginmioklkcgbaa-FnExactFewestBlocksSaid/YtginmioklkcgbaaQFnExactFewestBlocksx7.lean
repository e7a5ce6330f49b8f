/- The program's search for the best tackle, a closure over its best and a map, told by hand: what each call comes to. No condition. -/
import Derived.Test.YtginmioklkcgbaaQFnExactFewestBlocksx1
import Derived.Test.YtginmioklkcgbaaQFnExactFewestBlocksx4
import Derived.Maps.Own
import Derived.Maps.Views
import Derived.Maps.Keyed
import Derived.Lib.SliceRun
namespace Go.Proofs.Ytginmioklkcgbaa.QFnExactFewestBlocks
open Go.RowKit Go.Proofs.YtginmioklkcgbaaW.PrintWords Go.Proofs.YtginmioklkcgbaaW.PrintLast Go.Proofs.YtginmioklkcgbaaW.PrintMore
attribute [local go_sem] max2_int min2_int max_two min_two max_three min_three max_four min_four   -- for this text's walks alone
set_option linter.unusedVariables false
set_option linter.unusedSimpArgs false

/-! ### the map of first purchases -/
def v140 (x : S140) : Value := .agg #[.int .i64 x.f0, .int .i64 x.f1, .bool x.f2]
def d140 (x : S140) : DataW Unit := .agg [.lit (.int .i64 x.f0), .lit (.int .i64 x.f1), .lit (.bool x.f2)]
def r140 (v : Value) : Option (DataW Unit × List MemPlace) :=
  match v with
  | .agg cs => (match cs.toList with
    | [.int .i64 a, .int .i64 b, .bool c] => some (.agg [.lit (.int .i64 a), .lit (.int .i64 b), .lit (.bool c)], [])
    | _ => none)
  | _ => none
theorem r140_of (x : S140) : r140 (v140 x) = some (d140 x, []) := rfl
theorem r140_inv {v : Value} {x : S140} {ps : List MemPlace} (h : r140 v = some (d140 x, ps)) : v = v140 x := by
  unfold r140 at h
  split at h
  · rename_i cs
    split at h
    · rename_i a b c he
      simp only [d140, Option.some.injEq, Prod.mk.injEq, DataW.agg.injEq, List.cons.injEq, DataW.lit.injEq, Lit.int.injEq, Lit.bool.injEq] at h
      obtain ⟨⟨⟨_, rfl⟩, ⟨_, rfl⟩, rfl, _⟩, _⟩ := h
      unfold v140
      rw [← he]
    · cases h
  · cases h
def MapIs (w : World) (b n : Nat) (F : Int → S140) : Prop := ∃ D : DataW Unit, w.ownsMap Try.prog 2 r140 b n D ∧ Maps.IsMap D ∧ ∀ a, D.atKey (.int .i64 a) (d140 z140) = d140 (F a)
theorem law2 : Maps.Keyed Try.prog 2 := Maps.int_keyed Try.underlying2
theorem key2 {a : Int} (h0 : 0 ≤ a) (h1 : a ≤ 100) : keyOf Try.prog 2 (.int .i64 a) = some (.int .i64 a) := by
  unfold keyOf mapKey
  rw [Try.underlying2]
  have : (Lit.int .i64 a).wf = true := by
    simp [Lit.wf, IntKind.min, IntKind.max, IntKind.bits, IntKind.signed] <;> omega
  simp [this]
theorem zero140 (w : World) : (zeroValue 140).run Try.prog w = .ok (v140 z140) w := by
  obtain ⟨i, hi, hz⟩ := Option.map_eq_some_iff.1 info140
  simp only [Prod.mk.injEq] at hz
  simp [zeroValue, typeInfo, hi, hz.1, v140, z140, go_sem]
theorem MapIs.lookup {w : World} {b n : Nat} {F : Int → S140} (h : MapIs w b n F) {a : Int} (h0 : 0 ≤ a) (h1 : a ≤ 100) : (Instr.lookup 145 (.map (some b)) (.int .i64 a) false).run Try.prog w = .ok (v140 (F a)) w := by
  obtain ⟨D, hD, _, hF⟩ := h
  obtain ⟨v, ps, hr, hv⟩ := hD.lookup law2 Try.underlying145 (zero140 w) (r140_of z140) (key2 h0 h1)
  rw [hF] at hv
  rw [hr, r140_inv hv]
theorem MapIs.update {w : World} {b n : Nat} {F : Int → S140} (h : MapIs w b n F) (hn : n < 1000) {a : Int} (h0 : 0 ≤ a) (h1 : a ≤ 100) (x : S140) :
    ∃ w', (Instr.mapUpdate 145 (.map (some b)) (.int .i64 a) (v140 x)).run Try.prog w = .ok () w' ∧ MapIs w' b (n + 1) (fun c => if c = a then x else F c) ∧ w.grownBy w' (some b) := by
  obtain ⟨D, hD, hM, hF⟩ := h
  obtain ⟨w', hr, ho, hg⟩ := hD.update law2 Try.underlying145 (by unfold maxLen; omega) (key2 h0 h1) (r140_of x)
  refine ⟨w', hr, ⟨_, ho, ?_, fun c => ?_⟩, hg⟩
  · obtain ⟨es, rfl⟩ := hM
    exact ⟨_, rfl⟩
  · by_cases hc : c = a
    · subst hc
      show _ = d140 (if c = c then x else F c)
      rw [if_pos rfl]
      exact Maps.atKey_put_same hM (by trivial) _ _
    · show _ = d140 (if c = a then x else F c)
      rw [if_neg hc, Maps.atKey_put_other (by simpa using hc)]
      exact hF c
theorem MapIs.made (w : World) : MapIs (w.alloc (.map #[] 0)) w.heap.size 0 (fun _ => z140) :=
  ⟨.map [], World.ownsMap_made w Try.prog 2 r140, ⟨_, rfl⟩, fun _ => rfl⟩
theorem MapIs.kept {w w' : World} {b n : Nat} {F : Int → S140} (h : MapIs w b n F) (hb : w'.heap[b]? = w.heap[b]?) : MapIs w' b n F := by
  obtain ⟨D, ⟨es, cl, h1, h2⟩, hM, hF⟩ := h
  exact ⟨D, ⟨es, cl, hb.trans h1, h2⟩, hM, hF⟩
theorem MapIs.lt {w : World} {b n : Nat} {F : Int → S140} (h : MapIs w b n F) : b < w.heap.size := by
  obtain ⟨D, hD, _⟩ := h
  exact hD.lt
/-! ### the search that closes over its best -/
def fv109 (g1 g2 g3 g4 : Nat) : Value := .func (.func 109) #[] #[.pointer (some ⟨g1, 0, none⟩), .pointer (some ⟨g2, 0, none⟩), .pointer (some ⟨g3, 0, none⟩), .pointer (some ⟨g4, 0, none⟩)]
def BestIs (w0 w : World) (bv : Value) : Option (List S140) → Prop
  | none => bv = .slice none 0 0
  | some xs => ∃ (ad : Addr) (c : Nat), bv = .slice (some ad) xs.length c ∧ Kd.R k140 140 w w0.heap.size (fun _ => True) bv xs
theorem BestIs.below {w0 w w' : World} {bv : Value} {best : Option (List S140)} (h : BestIs w0 w bv best) (hb : Below w.heap.size w w') : BestIs w0 w' bv best := by
  cases best with
  | none => exact h
  | some xs =>
    obtain ⟨ad, c, e, hr⟩ := h
    exact ⟨ad, c, e, Kd.R_below hr hb⟩
theorem BestIs.set {w0 w : World} {bv : Value} {best : Option (List S140)} (h : BestIs w0 w bv best) {g t : Nat} {cs : Array Value} (hb : w.heap[g]? = some (.cells cs t (0, 0))) (ht : t ≠ 140) (j : Nat) (u : Value) : BestIs w0 (w.setCell ⟨g, j, none⟩ u) bv best := by
  cases best with
  | none => exact h
  | some xs =>
    obtain ⟨ad, c, e, hr⟩ := h
    refine ⟨ad, c, e, Kd.R_mono (Kd.R_far (p := ⟨g, j, none⟩) (Kd.R_types hr hb (fun q hq => ?_)) (fun _ hk => hk.2) u) (fun _ hk => hk.1)⟩
    have : q = 140 := by
      have he : k140.E = [] := rfl
      rw [he] at hq
      simpa using hq
    subst this
    exact ht.symm
def ExtAt (w0 w : World) (g1 g2 g3 g4 mb : Nat) (F : Int → S140) (best : Option (List S140)) (few : Int) : Prop :=
  ∃ (bv : Value) (n : Nat), BestIs w0 w bv best ∧ w.heap[g1]? = some (.cells #[bv] 115 (0, 0)) ∧ w.heap[g2]? = some (.cells #[.int .i64 few] 2 (0, 0)) ∧ w.heap[g3]? = some (.cells #[.map (some mb)] 145 (0, 0)) ∧
    w.heap[g4]? = some (.cells #[fv109 g1 g2 g3 g4] 146 (0, 0)) ∧ MapIs w mb n F ∧ Below w0.heap.size w0 w
theorem ExtAt.below {w0 w w' : World} {g1 g2 g3 g4 mb : Nat} {F : Int → S140} {best : Option (List S140)} {few : Int} (h : ExtAt w0 w g1 g2 g3 g4 mb F best few) (hb : Below w.heap.size w w') : ExtAt w0 w' g1 g2 g3 g4 mb F best few := by
  obtain ⟨bv, n, h0, h1, h2, h3, h4, hM, hB⟩ := h
  exact ⟨bv, n, h0.below hb, blk_below h1 hb, blk_below h2 hb, blk_below h3 hb, blk_below h4 hb, hM.kept (hb.block mb hM.lt), below_step hB hb⟩
theorem MapIs.set {w : World} {b n : Nat} {F : Int → S140} (h : MapIs w b n F) {g t : Nat} {cs : Array Value} (hb : w.heap[g]? = some (.cells cs t (0, 0))) (j : Nat) (u : Value) : MapIs (w.setCell ⟨g, j, none⟩ u) b n F := by
  refine h.kept (Below.heap_setCell w ⟨g, j, none⟩ u b ?_)
  rintro rfl
  obtain ⟨D, ⟨es, cl, h1, _⟩, _⟩ := h
  rw [h1] at hb
  simp at hb
theorem ExtAt.set {w0 w : World} {g1 g2 g3 g4 mb : Nat} {F : Int → S140} {best : Option (List S140)} {few : Int} (h : ExtAt w0 w g1 g2 g3 g4 mb F best few) (hg1 : w0.heap.size ≤ g1) (hg2 : w0.heap.size ≤ g2)
    {v : Value} {xs : List S140} (hv : BestIs w0 w v (some xs)) (b : Int) : ExtAt w0 ((w.setCell ⟨g1, 0, none⟩ v).setCell ⟨g2, 0, none⟩ (.int .i64 b)) g1 g2 g3 g4 mb F (some xs) b := by
  obtain ⟨bv, n, h0, h1, h2, h3, h4, hM, hB⟩ := h
  have n12 : g1 ≠ g2 := blk_ne h1 h2 (by decide)
  have n31 : g3 ≠ g1 := blk_ne h3 h1 (by decide)
  have n32 : g3 ≠ g2 := blk_ne h3 h2 (by decide)
  have n41 : g4 ≠ g1 := blk_ne h4 h1 (by decide)
  have n42 : g4 ≠ g2 := blk_ne h4 h2 (by decide)
  have k1 : (w.setCell ⟨g1, 0, none⟩ v).heap[g1]? = some (.cells #[v] 115 (0, 0)) := blk_put (cs := #[bv]) h1 0 v rfl
  have k2 : (w.setCell ⟨g1, 0, none⟩ v).heap[g2]? = some (.cells #[.int .i64 few] 2 (0, 0)) := blk_far h2 n12.symm v
  exact ⟨v, n, (hv.set h1 (by decide) 0 v).set k2 (by decide) 0 _, blk_far k1 n12 _, blk_put (cs := #[.int .i64 few]) k2 0 _ rfl, blk_far (blk_far h3 n31 _) n32 _, blk_far (blk_far h4 n41 _) n42 _, (hM.set h1 0 v).set k2 0 _, below_set (below_set hB hg1) hg2⟩
mutual
def impl_extend.f (F : Int → S140) : Nat → List S140 → Int → Int → Int → Option (List S140) → Int → Option (Option (List S140) × Int)
 | 0, _, _, _, _, _, _ => none
 | k + 1, list, left, most, blocks, best, few => if left = 1 then (if best.isNone = true ∨ blocks < few then some (some list, blocks) else some (best, few)) else if list.length = 6 then some (best, few) else impl_extend.l F k list left blocks (if left < most then left else most) best few
def impl_extend.l (F : Int → S140) : Nat → List S140 → Int → Int → Int → Option (List S140) → Int → Option (Option (List S140) × Int)
 | 0, _, _, _, _, _, _ => none
 | k + 1, list, left, blocks, a, best, few => if a ≥ 2 then (if Int.tmod left a = 0 then ((impl_blocksOf.f (F a).f0 (F a).f1 (F a).f2).bind fun c => (impl_extend.f F k (list ++ [F a]) (wrap64 (Int.tdiv left a)) a (wrap64 (blocks + c)) best few).bind fun r => impl_extend.l F k list left blocks (wrap64 (a - 1)) r.1 r.2) else impl_extend.l F k list left blocks (wrap64 (a - 1)) best few) else some (best, few)
end
theorem w64s (n : Int) (h : -9223372036854775808 ≤ n ∧ n ≤ 9223372036854775807) : wrap64 n = n := by unfold wrap64; omega
theorem ne_new {W : World} {g : Nat} {o : Obj} (h : W.heap[g]? = some o) {v : Value} (hn : ∃ b, v.ownBlock = some b ∧ W.heap.size ≤ b) : some g ≠ v.ownBlock := by
  obtain ⟨b, e, hb⟩ := hn
  rw [e]
  intro he
  have := blk_lt h
  injection he with he
  omega
theorem ne_app {W : World} {g : Nat} {o : Obj} (h : W.heap[g]? = some o) {v v1 : Value} (hne : some g ≠ v.ownBlock) (hat : v1.ownBlock = v.ownBlock ∨ ∃ b, v1.ownBlock = some b ∧ W.heap.size ≤ b) : some g ≠ v1.ownBlock := by
  rcases hat with e | hn
  · rw [e]; exact hne
  · exact ne_new h hn
section
variable {P : Program} {ops : Array Oper} {Q : Exit → Act → World → Prop}
theorem goesKB_ {oi : Oper} {N : Option Tmp} {a : Act} {w : World} {K : Act → World → Prop} {f : FuncId} {fn : Func} {c : Operand} {as_ : Array Operand} {ts : Array TypeId} (hf : P.funcs[f]? = some fn) (hname : (fn.name == "runtime.NumGoroutine") = false) (hb : fn.body.isSome = true) (args1 args lb : Array Value)
    (hw : Region.wanted oi (yielded ops a.tmps) = true) (hN : oi.dst = N) (hop : oi.op = .call { callee := .value c, args := as_, argTypes := ts }) (hc : a.eval c = .func (.func f) #[] lb) (hargs : as_.map a.eval = args1) (hcat : args1 ++ lb = args)
    (h : Calls P f args w fun e w' => ∃ v, e = .returned v ∧ K (a.put N v) w') : if Region.wanted oi (yielded ops a.tmps) = true then Oper.wp P oi a w K Q else K (a.put N undef) w := by
  subst hcat
  subst hargs
  refine call_ f _ hw hN ?_ h
  have he := enters_ hf hname hb (as_.map a.eval ++ lb) w
  unfold execOp
  simp [hop, resolve, Deferred.ofValue, invoke, hc, he]
end
theorem eql_nil115 (w : World) (A : Option Addr) (n c : Nat) : (binOp .eql 115 (.slice A n c) (.slice none 0 0)).run Try.prog w = .ok (.bool A.isNone) w := Lib.run_eql_slice_nil w 115 140 A n c 0 0 Try.underlying115
set_option maxHeartbeats 8000000 in
set_option maxRecDepth 100000 in
theorem impl_extend.calls (F : Int → S140) (k : Nat) : ∀ (list : List S140) (left most blocks : Int) (best : Option (List S140)) (few : Int) (r : Option (List S140) × Int) (w0 w : World) (g1 g2 g3 g4 mb : Nat) (A : Option Addr) (c : Nat) (hg1 : w0.heap.size ≤ g1) (hg2 : w0.heap.size ≤ g2)
    (hS : ExtAt w0 w g1 g2 g3 g4 mb F best few) (hC : ∀ W', Kept w W' (fun b => b = g1 ∨ b = g2) → Kd.C k140 W' A list.length list) (hc : list.length ≤ c) (hl6 : list.length ≤ 6) (hne : left = 1 → 0 < list.length) (hm : most ≤ 9) (h : impl_extend.f F k list left most blocks best few = some r),
    Calls Try.prog 109 #[.slice A list.length c, .int .i64 left, .int .i64 most, .int .i64 blocks, .pointer (some ⟨g1, 0, none⟩), .pointer (some ⟨g2, 0, none⟩), .pointer (some ⟨g3, 0, none⟩), .pointer (some ⟨g4, 0, none⟩)] w
      fun e w' => e = .returned (.tuple #[]) ∧ ExtAt w0 w' g1 g2 g3 g4 mb F r.1 r.2 ∧ Kept w w' (fun b => b = g1 ∨ b = g2) := by
 induction k using Nat.strongRecOn with
 | _ k ih =>
 intro list left most blocks best few r w0 w g1 g2 g3 g4 mb A c hg1 hg2 hS hC hc hl6 hne hm h
 cases k with
 | zero => simp [impl_extend.f] at h
 | succ k =>
 simp only [impl_extend.f] at h
 have EX := aS hS
 have HC := aS hC
 have hS' := hS
 obtain ⟨bv, n, hBest, hb1, hb2, hb3, hb4, hMap, hBel⟩ := hS'
 have hcz_1 : w.cell? ⟨g1, 0, none⟩ = some bv := (blk_cell hb1 0).trans rfl
 have hcz_2 : w.cell? ⟨g2, 0, none⟩ = some (.int .i64 few) := (blk_cell hb2 0).trans rfl
 have hfz_1 := blk_frozen hb1 0
 have hfz_2 := blk_frozen hb2 0
 have BE := aS hBest
 clear hS hC hBest hb1 hb2 hb3 hb4 hMap hBel
 have Hne := aS hne
 clear hne
 have HH := aS h
 clear h
 go_enter Try.func109, Try.ntmps109
 by_cases c1 : left = 1
 · have h := HH.out
   clear HH
   rw [if_pos c1] at h
   have hpos := Hne.out c1
   have c1b : (left == 1) = true := beq_iff_eq.mpr c1
   have hcase : (best = none) ∨ (∃ xs, best = some xs ∧ blocks < few) ∨ (∃ xs, best = some xs ∧ ¬ blocks < few) := by
     cases best with
     | none => exact .inl rfl
     | some xs => by_cases hx : blocks < few <;> simp [hx]
   rcases hcase with rfl | ⟨xs, rfl, hlt⟩ | ⟨xs, rfl, hlt⟩
   rotate_left 2
   · rw [if_neg (by simp [hlt])] at h
     obtain rfl := Option.some.inj h
     have hltb : decide (blocks < few) = false := decide_eq_false hlt
     obtain ⟨adb, cb, rfl, hrb⟩ := BE.out
     clear hrb
     have hq : (binOp .eql 115 (.slice (some adb) xs.length cb) (.slice none 0 0)).run Try.prog w = .ok (.bool false) w := eql_nil115 _ _ _ _
     go_wp2
     (try simp only [Exit.inBlock, Exit.then])
     refine bodyPost_ret (results_none rfl _ _ _) rfl ?_
     exact ⟨rfl, EX.out, Kept.refl _ _⟩
   all_goals (
     rw [if_pos (by simp [*])] at h
     obtain rfl := Option.some.inj h
     clear h
     first
     | (obtain ⟨adb, cb, rfl, hrb⟩ := BE.out; clear hrb; have hltb : decide (blocks < few) = true := decide_eq_true hlt; have hq : (binOp .eql 115 (.slice (some adb) xs.length cb) (.slice none 0 0)).run Try.prog w = .ok (.bool false) w := eql_nil115 _ _ _ _; go_upto_if 22 with (fail))
     | (obtain rfl : bv = .slice none 0 0 := BE.out; have hq : (binOp .eql 115 (.slice none 0 0) (.slice none 0 0)).run Try.prog w = .ok (.bool true) w := eql_nil115 _ _ _ _; go_upto_if 22 with (fail))
     (try simp only [Act.put, List.setIfInBounds_toArray, List.set_cons_zero, List.set_cons_succ])
     go_wp2_with (first
      | ((with_reducible refine gate_dst (N := 23) rfl ?_); refine Kd.R_lit k140 _ 140 ?hg (N := 23) ?hd (xs := ([] : List (S140))) (inner := []) (ok := fun _ => True) (okp := fun _ => True) ?hr ?hp (fun _ hk => hk) trivial (Below.refl _ _) (Nat.le_refl _) (by simp) ?_; (case hd => rfl); (case hg => rfl); (case hr => first | (go_simp; done) | (go_simp; rfl)); (case hp => exact (Reps.none _ _)); intro v1 w1 ho hb hg_ hnew_; have HN := aS ho; have HBA := aS hb; clear ho hb hg_ hnew_)
      | ((with_reducible refine gate_builtin (b := .append) (xs := #[.tmp 23, .tmp 24]) rfl ?_); at_builtin; refine Kd.R_append_rows k140 (w0 := w) w.heap.size rfl (.tmp 23) (.tmp 24) 115 140 (.agg #[(.int .i64 0), (.int .i64 0), (.bool false)]) 24 rfl Try.underlying115 info140 rfl (by decide) (by omega) v1 [] list _ _ _ (fun _ => True) (fun _ => False) rfl rfl ?aO ?aR (fun _ _ h => h) (fun _ h => h.elim) ?aF ?aB ?aS ?aL ?_; (case aR => exact HC.out _ (Kept.of_below (sW HBA.out) _)); (case aB => exact (sW HBA.out)); (case aF => exact (fun _ _ => trivial)); (case aO => exact (sR HN.out)); (case aS => exact (below_size (sW HBA.out))); (case aL => simp only [List.length_nil]; omega); intro v2 w2 ho2 hb2 hgr hat; obtain ⟨ad2, c2, rfl⟩ := Kd.R_slice1 ho2 hpos; have HV := aS ho2; have EX2 := aS (EX.out.below hb2); have HK2 := aS (Kept.of_below hb2 (fun b => b = g1 ∨ b = g2)); clear ho2 hb2 hgr hat hcz_1 hcz_2 hfz_1 hfz_2 HBA HN; obtain ⟨bv2, n2, hBest2, hb1, hb2, hb3, hb4, hMap2, hBel2⟩ := EX2.out; have hcz_1 : w2.cell? ⟨g1, 0, none⟩ = some bv2 := (blk_cell hb1 0).trans rfl; have hcz_2 : w2.cell? ⟨g2, 0, none⟩ = some (.int .i64 few) := (blk_cell hb2 0).trans rfl; have hfz_1 := blk_frozen hb1 0; have hfz_2 := blk_frozen hb2 0; have hn12 : g2 ≠ g1 := blk_ne hb2 hb1 (by decide); have HBs := aS hBel2; clear hBest2 hb1 hb2 hb3 hb4 hMap2 hBel2))
     (try simp only [Exit.inBlock, Exit.then])
     refine bodyPost_ret (results_none rfl _ _ _) rfl ?_
     have hw : w0.heap.size ≤ w.heap.size := by obtain ⟨_, _, _, _, _, _, _, _, hB⟩ := EX.out; exact hB.size
     exact ⟨rfl, EX2.out.set hg1 hg2 ⟨ad2, c2, rfl, Kd.R_lower HV.out hw⟩ blocks, (HK2.out.setCell (p := ⟨g1, 0, none⟩) (.inl (.inl rfl)) _).setCell (p := ⟨g2, 0, none⟩) (.inl (.inr rfl)) _⟩)
 · have h := HH.out
   clear HH
   rw [if_neg c1] at h
   have c1b : (left == 1) = false := beq_eq_false_iff_ne.mpr c1
   by_cases c4 : list.length = 6
   · rw [if_pos c4] at h
     obtain rfl := Option.some.inj h
     clear h
     have c4b : ((list.length : Int) == 6) = true := beq_iff_eq.mpr (by omega)
     go_wp2
     (try simp only [Exit.inBlock, Exit.then])
     refine bodyPost_ret (results_none rfl _ _ _) rfl ?_
     exact ⟨rfl, EX.out, Kept.refl _ _⟩
   rw [if_neg c4] at h
   have c4b : ((list.length : Int) == 6) = false := beq_eq_false_iff_ne.mpr (by omega)
   have H' := aS h
   clear h hcz_1 hcz_2 hfz_1 hfz_2 BE
   have hmin : (if left < most then left else most) ≤ 9 := by split <;> omega
   obtain ⟨m0, hm0⟩ : ∃ m0, m0 = (if left < most then left else most) := ⟨_, rfl⟩
   rw [← hm0] at H' hmin
   have Nm0 := aS hm0
   clear hm0
   rcases Int.lt_or_le left most with cm | cm
   all_goals (
   (first
    | (have e0 : m0 = left := by rw [Nm0.out, if_pos cm])
    | (have e0 : m0 = most := by rw [Nm0.out, if_neg (Int.not_lt.mpr cm)]))
   rw [e0] at H' hmin
   clear Nm0 e0 m0
   go_upto_region 5 with (fail)
   go_loopg [12] k (fun kq v12 w' => ∃ (a : Int) (best1 : Option (List S140)) (few1 : Int), v12 = .int .i64 a ∧ Aside0 (impl_extend.l F kq list left blocks a best1 few1 = some r) ∧ Aside0 (kq ≤ k) ∧ Aside0 (a ≤ 9) ∧ Aside0 (ExtAt w0 w' g1 g2 g3 g4 mb F best1 few1) ∧ Aside0 (Kept w w' (fun b => b = g1 ∨ b = g2)))
   case atStart => exact ⟨_, best, few, rfl, H', ⟨Nat.le_refl _⟩, ⟨hmin⟩, EX, aS (Kept.refl _ _)⟩
   case round =>
     clear H' EX
     obtain ⟨a, best1, few1, rfl, HA, HK, HM, EX, KP⟩ := hrel
     cases gk with
     | zero => exact absurd HA.out (by simp [impl_extend.l])
     | succ k1 =>
     have H := HA.out
     clear HA
     simp only [impl_extend.l] at H
     by_cases c5 : a ≥ 2
     rotate_left
     · rw [if_neg c5] at H
       have c5b : decide (a ≥ 2) = false := decide_eq_false c5
       clear c5
       obtain rfl := Option.some.inj H
       clear H
       go_wp2
       go_end0
       exact ⟨rfl, EX.out, KP.out⟩
     rw [if_pos c5] at H
     have c5b : decide (a ≥ 2) = true := decide_eq_true c5
     have hane : ¬ a = 0 := by omega
     have c50 : (a == 0) = false := beq_eq_false_iff_ne.mpr hane
     by_cases c6 : Int.tmod left a = 0
     rotate_left
     · rw [if_neg c6] at H
       have c6c : (Int.tmod left a == 0) = false := beq_eq_false_iff_ne.mpr c6
       have H' := aS H
       clear H
       go_wp2
       go_roundg k1
       case measure => have := HK.out; omega
       case rel => exact ⟨wrap64 (a - 1), best1, few1, (by first | rfl | (simp; done) | (simp only [i64_w]; done)), H', ⟨by have := HK.out; omega⟩, ⟨by have := HM.out; rw [w64s _ (by omega)]; omega⟩, EX, KP⟩
     rw [if_pos c6] at H
     have c6c : (Int.tmod left a == 0) = true := beq_iff_eq.mpr c6
     replace H := Option.bind_eq_some_iff.mp H
     obtain ⟨cc, A4, H⟩ := H
     have AC := aS A4
     clear A4
     replace H := Option.bind_eq_some_iff.mp H
     obtain ⟨⟨best2, few2⟩, A5, H⟩ := H
     have AW := aS A5
     clear A5
     have H' := aS H
     clear H
     obtain ⟨bv1, n1, hBest1, hb1, hb2, hb3, hb4, hMap1, hBel1⟩ := EX.out
     have hcz_3 : wr.cell? ⟨g3, 0, none⟩ = some (.map (some mb)) := (blk_cell hb3 0).trans rfl
     have hlk : (Instr.lookup 145 (.map (some mb)) (.int .i64 a) false).run Try.prog wr = .ok (v140 (F a)) wr := hMap1.lookup (by omega) (by have := HM.out; omega)
     unfold v140 at hlk
     have G1 := aS hb1
     have G2 := aS hb2
     have G4 := aS hb4
     clear hBest1 hb1 hb2 hb3 hb4 hMap1 hBel1
     have HBA := aS (Below.refl wr.heap.size wr)
     go_upto_region 9 with (first
       | ((with_reducible refine gate_dst (N := 13) rfl ?_); refine box_event ?hg (N := 13) ?hd (cs := #[.int .i64 0, .int .i64 0, .bool false]) (t := 140) ?hr ?_; (case hd => rfl); (case hg => rfl); (case hr => first | (go_simp; done) | (go_simp; rfl)); intro gp hg w3 hbox hb; have hgW : wr.heap.size ≤ gp := (by rw [hg]; exact (below_size (sW HBA.out))); replace HBA := aS (below_step (sW HBA.out) hb); have BK := aS hbox; clear hb hg hbox; have hcz_p0 : w3.cell? ⟨gp, 0, none⟩ = some (.int .i64 0) := (blk_cell BK.out 0).trans rfl; have hcz_p1 : w3.cell? ⟨gp, 1, none⟩ = some (.int .i64 0) := (blk_cell BK.out 1).trans rfl; have hcz_p2 : w3.cell? ⟨gp, 2, none⟩ = some (.bool false) := (blk_cell BK.out 2).trans rfl; have hfz_p0 := blk_frozen BK.out 0; have hfz_p1 := blk_frozen BK.out 1; have hfz_p2 := blk_frozen BK.out 2))
     obtain ⟨ys, hys⟩ : ∃ y_ : List (S140), y_ = list ++ [F a] := ⟨_, rfl⟩
     have Nys := aS hys
     clear hys hcz_3 hlk hcz_p0 hcz_p1 hcz_p2 hfz_p0 hfz_p1 hfz_p2
     have BP := aS (blk_put (cs := #[_, _, _]) (blk_put (cs := #[_, _, _]) (blk_put (cs := #[_, _, _]) BK.out 0 (.int .i64 (F a).f0) rfl) 1 (.int .i64 (F a).f1) rfl) 2 (.bool (F a).f2) rfl)
     replace HBA := aS (below_set (v := .bool (F a).f2) (j := 2) (below_set (v := .int .i64 (F a).f1) (j := 1) (below_set (v := .int .i64 (F a).f0) (j := 0) (sW HBA.out) hgW) hgW) hgW)
     clear BK
     generalize (((w3.setCell ⟨gp, 0, none⟩ (.int .i64 (F a).f0)).setCell ⟨gp, 1, none⟩ (.int .i64 (F a).f1)).setCell ⟨gp, 2, none⟩ (.bool (F a).f2)) = w8 at BP HBA ⊢
     replace BP := aS (blk_drew BP.out)
     replace HBA := aS (below_drew1 HBA.out)
     refine start_ (n := 16) (S := fun w' => w'.cell? ⟨gp, 0, none⟩ = some (.int .i64 (F a).f0) ∧ w'.cell? ⟨gp, 1, none⟩ = some (.int .i64 (F a).f1) ∧ w'.cell? ⟨gp, 2, none⟩ = some (.bool (F a).f2) ∧ w'.cell? ⟨g4, 0, none⟩ = some (fv109 g1 g2 g3 g4)) (ds := [15]) #[false, false, false, false, false, false, false, false, false, false, false, false, false, false, false, false] (by kernel_rfl) rfl rfl ⟨(blk_cell BP.out 0).trans rfl, (blk_cell BP.out 1).trans rfl, (blk_cell BP.out 2).trans rfl, (blk_cell (blk_below G4.out HBA.out) 0).trans rfl⟩ (fun hHeld => ?_)
     generalize w8.drew = w9 at BP HBA hHeld ⊢
     refine pure_ (i := 2) (N := (some 46)) (v := ?_) (a' := ?_) #[false, false, true, false, false, false, false, false, false, false, false, false, false, false, false, false] rfl rfl (by kernel_rfl) (fun _ _ _ h => h) (Or.inl ⟨by rfl, ?_⟩) ?_ ?_
     rotate_left
     · intro w'; go_simp; with_reducible rfl
     rotate_left
     · exact sP
     refine pure_ (i := 7) (N := (some 51)) (v := ?_) (a' := ?_) #[false, false, true, false, false, false, false, true, false, false, false, false, false, false, false, false] rfl rfl (by kernel_rfl) (fun _ _ _ h => h) (Or.inl ⟨by rfl, ?_⟩) ?_ ?_
     rotate_left
     · intro w'; go_simp; with_reducible rfl
     rotate_left
     · exact sP
     refine pure_ (i := 8) (N := (some 52)) (v := ?_) (a' := ?_) #[false, false, true, false, false, false, false, true, true, false, false, false, false, false, false, false] rfl rfl (by kernel_rfl) (fun _ _ _ h => h) (Or.inl ⟨by rfl, ?_⟩) ?_ ?_
     rotate_left
     · intro w'; go_simp; with_reducible rfl
     rotate_left
     · exact sP
     refine pure_ (i := 9) (N := (some 53)) (v := ?_) (a' := ?_) #[false, false, true, false, false, false, false, true, true, true, false, false, false, false, false, false] rfl rfl (by kernel_rfl) (fun _ _ _ h => h) (Or.inl ⟨by rfl, ?_⟩) ?_ ?_
     rotate_left
     · intro w'; go_simp; with_reducible rfl
     rotate_left
     · exact sP
     refine pure_ (i := 10) (N := (some 54)) (v := ?_) (a' := ?_) #[false, false, true, false, false, false, false, true, true, true, true, false, false, false, false, false] rfl rfl (by kernel_rfl) (fun _ _ _ h => h) (Or.inl ⟨by rfl, ?_⟩) ?_ ?_
     rotate_left
     · intro w'; go_simp; with_reducible rfl
     rotate_left
     · exact sP
     refine pure_ (i := 11) (N := (some 55)) (v := ?_) (a' := ?_) #[false, false, true, false, false, false, false, true, true, true, true, true, false, false, false, false] rfl rfl (by kernel_rfl) (fun _ _ _ h => h) (Or.inl ⟨by rfl, ?_⟩) ?_ ?_
     rotate_left
     · intro w'; go_simp; with_reducible rfl
     rotate_left
     · exact sP
     refine take_ (i := 0) (N := (some 44)) (v := ?_) (a' := ?_) #[true, false, true, false, false, false, false, true, true, true, true, true, false, false, false, false] rfl rfl (by kernel_rfl) (fun _ _ _ h => h) (Or.inl ⟨by rfl, ?_⟩) hHeld ?_ ?_
     rotate_left
     · rintro w' ⟨s0, s1, s2, s3⟩; go_simp; with_reducible rfl
     rotate_left
     · exact sP
     refine take_ (i := 4) (N := (some 48)) (v := ?_) (a' := ?_) #[true, false, true, false, true, false, false, true, true, true, true, true, false, false, false, false] rfl rfl (by kernel_rfl) (fun _ _ _ h => h) (Or.inl ⟨by rfl, ?_⟩) hHeld ?_ ?_
     rotate_left
     · rintro w' ⟨s0, s1, s2, s3⟩; go_simp; with_reducible rfl
     rotate_left
     · exact sP
     refine take_ (i := 12) (N := (some 56)) (v := ?_) (a' := ?_) #[true, false, true, false, true, false, false, true, true, true, true, true, true, false, false, false] rfl rfl (by kernel_rfl) (fun _ _ _ h => h) (Or.inl ⟨by rfl, ?_⟩) hHeld ?_ ?_
     rotate_left
     · rintro w' ⟨s0, s1, s2, s3⟩; go_simp; with_reducible rfl
     rotate_left
     · exact sP
     refine join_ (σ := Value × Value × Value) 4 #[true, true, true, true, true, true, false, true, true, true, true, true, true, false, false, false] (fun s_ => [(45, s_.1), (47, s_.2.1), (49, s_.2.2)]) (fun s_ w' => (w'.cell? ⟨gp, 0, none⟩ = some (.int .i64 (F a).f0) ∧ w'.cell? ⟨gp, 1, none⟩ = some (.int .i64 (F a).f1) ∧ w'.cell? ⟨gp, 2, none⟩ = some (.bool (F a).f2) ∧ w'.cell? ⟨g4, 0, none⟩ = some (fv109 g1 g2 g3 g4)) ∧ Kd.R k140 140 w' wr.heap.size (fun _ => True) s_.2.1 ([] ++ list) ∧ Kd.R k140 140 w' wr.heap.size (fun _ => True) s_.2.2 [F a] ∧ w'.heap[gp]? = some (.cells #[.int .i64 (F a).f0, .int .i64 (F a).f1, .bool (F a).f2] 140 (0, 0)) ∧ some gp ≠ (s_.2.1 : Value).ownBlock ∧ Below wr.heap.size wr w') ?_ ?_
     rotate_left
     ·
      intro hJ135
      refine join_ (σ := Value × Value) 5 #[true, true, true, false, true, true, false, true, true, true, true, true, true, false, false, false] (fun s_ => [(45, s_.1), (49, s_.2)]) (fun s_ w' => (w'.cell? ⟨gp, 0, none⟩ = some (.int .i64 (F a).f0) ∧ w'.cell? ⟨gp, 1, none⟩ = some (.int .i64 (F a).f1) ∧ w'.cell? ⟨gp, 2, none⟩ = some (.bool (F a).f2) ∧ w'.cell? ⟨g4, 0, none⟩ = some (fv109 g1 g2 g3 g4)) ∧ Kd.R k140 140 w' wr.heap.size (fun _ => True) s_.1 [] ∧ Kd.R k140 140 w' wr.heap.size (fun k_ => some k_ ≠ (s_.1 : Value).ownBlock) s_.2 [F a] ∧ w'.heap[gp]? = some (.cells #[.int .i64 (F a).f0, .int .i64 (F a).f1, .bool (F a).f2] 140 (0, 0)) ∧ some gp ≠ (s_.1 : Value).ownBlock ∧ Below wr.heap.size wr w') ?_ ?_
      rotate_left
      ·
       intro hJ15
       refine two_ (i := 1) (j := 5) (Ni := some 45) (Nj := some 49) #[true, true, true, false, true, false, false, true, true, true, true, true, true, false, false, false] #[true, false, true, false, true, true, false, true, true, true, true, true, true, false, false, false] rfl rfl rfl rfl (by kernel_rfl) (by decide) (by decide) (fun K hK => ?_) (fun K hK => ?_)
       ·
        refine Kd.R_lit_step k140 _ 140 ?hg (N := 45) ?hd (xs := ([] : List (S140))) (inner := []) (ok := fun _ => True) (okp := fun _ => True) ?hr ?hp (fun _ hk => hk) trivial (Below.refl _ _) (Nat.le_refl _) (by simp) ?_; (case hd => rfl); (case hg => rfl); (case hr => first | (go_simp; done) | (go_simp; rfl)); (case hp => exact (Reps.none _ _))
        intro v45 wl ho hb hg_ hnew_
        have H45 := aS (Kd.R_lower ho (below_size (sW HBA.out)))
        have hne45 := ne_new (sB BP.out) hnew_
        replace BP := aS (blk_below (sB BP.out) hb)
        replace HBA := aS (below_step (sW HBA.out) hb)
        clear ho hb hg_ hnew_
        refine hK.out _ _ ⟨(blk_cell BP.out 0).trans rfl, (blk_cell BP.out 1).trans rfl, (blk_cell BP.out 2).trans rfl, (blk_cell (blk_below G4.out HBA.out) 0).trans rfl⟩ (fun hHeld => ?_)
        clear hK K
        refine norm_ (a' := ?_) ?_ ?_
        rotate_left
        · show Act.put _ (some 45) _ = _
          exact sP
        refine two_ (i := 3) (j := 5) (Ni := some 47) (Nj := some 49) #[true, true, true, true, true, false, false, true, true, true, true, true, true, false, false, false] #[true, true, true, false, true, true, false, true, true, true, true, true, true, false, false, false] rfl rfl rfl rfl (by kernel_rfl) (by decide) (by decide) (fun K hK => ?_) (fun K hK => ?_)
        ·
         refine Kd.R_append_rows_step k140 (w0 := wr) wr.heap.size (by rfl) (.tmp 45) (.tmp 46) 115 140 (.agg #[(.int .i64 0), (.int .i64 0), (.bool false)]) 24 rfl Try.underlying115 info140 rfl (by decide) (by omega) v45 [] list _ _ _ (fun _ => True) (fun _ => False) rfl rfl ?aO ?aR (fun _ _ h => h) (fun _ h => h.elim) ?aF ?aB ?aS ?aL ?_
         (case aR => exact HC.out _ (KP.out.below (sW HBA.out)))
         (case aB => exact (sW HBA.out))
         (case aF => exact (fun _ _ => trivial))
         (case aO => exact (sR H45.out))
         (case aS => exact (below_size (sW HBA.out)))
         (case aL => simp only [List.length_nil]; omega)
         intro v47 wl ho hb hgr hat
         have hne47 := ne_app (sB BP.out) hne45 hat
         replace BP := aS (blk_grown (sB BP.out) hgr hne45)
         have H47 := aS ho
         replace HBA := aS hb
         clear ho hb hgr hat H45 hne45
         refine hK.out _ _ ⟨(blk_cell BP.out 0).trans rfl, (blk_cell BP.out 1).trans rfl, (blk_cell BP.out 2).trans rfl, (blk_cell (blk_below G4.out HBA.out) 0).trans rfl⟩ (fun hHeld => ?_)
         clear hK K
         refine norm_ (a' := ?_) ?_ ?_
         rotate_left
         · show Act.put _ (some 47) _ = _
           exact sP
         refine one_ (i := 5) (N := some 49) #[true, true, true, true, true, true, false, true, true, true, true, true, true, false, false, false] rfl rfl (by kernel_rfl) (by decide) (fun K hK => ?_)
         refine Kd.R_lit_step k140 _ 140 ?hg (N := 49) ?hd (xs := ([F a] : List (S140))) (inner := [.int .i64 (F a).f0, .int .i64 (F a).f1, .bool (F a).f2]) (ok := fun _ => True) (okp := fun _ => True) ?hr ?hp (fun _ hk => hk) trivial (Below.refl _ _) (Nat.le_refl _) (by simp) ?_; (case hd => rfl); (case hg => rfl); (case hr => first | (go_simp; done) | (go_simp; rfl)); (case hp => exact (Reps.c3 (k140_mkM _ _ _ (F a)) (Reps.none _ _)))
         intro v49 wl ho hb hg_ hnew_
         have H49 := aS (Kd.R_lower ho (below_size (sW HBA.out)))
         replace H47 := aS (Kd.R_below (sR H47.out) hb)
         replace BP := aS (blk_below (sB BP.out) hb)
         replace HBA := aS (below_step (sW HBA.out) hb)
         clear ho hb hg_ hnew_
         refine hK.out _ _ ⟨(blk_cell BP.out 0).trans rfl, (blk_cell BP.out 1).trans rfl, (blk_cell BP.out 2).trans rfl, (blk_cell (blk_below G4.out HBA.out) 0).trans rfl⟩ (fun hHeld => ?_)
         clear hK K
         refine norm_ (a' := ?_) ?_ ?_
         rotate_left
         · show Act.put _ (some 49) _ = _
           exact sP
         exact norm_ (by first | (simp only [putAll, Act.put, List.setIfInBounds_toArray, List.set_cons_zero, List.set_cons_succ]; done) | (simp only [putAll, Act.put, List.setIfInBounds_toArray, List.set_cons_zero, List.set_cons_succ]; rfl)) (hJ135 (v45, v47, v49) _ ⟨hHeld, sR H47.out, sR (Kd.R_mono H49.out (fun _ _ => trivial)), sB BP.out, hne47, sW HBA.out⟩)
        ·
         refine Kd.R_lit_step k140 _ 140 ?hg (N := 49) ?hd (xs := ([F a] : List (S140))) (inner := [.int .i64 (F a).f0, .int .i64 (F a).f1, .bool (F a).f2]) (ok := fun _ => True) (okp := fun _ => True) ?hr ?hp (fun _ hk => hk) trivial (Below.refl _ _) (Nat.le_refl _) (by simp) ?_; (case hd => rfl); (case hg => rfl); (case hr => first | (go_simp; done) | (go_simp; rfl)); (case hp => exact (Reps.c3 (k140_mkM _ _ _ (F a)) (Reps.none _ _)))
         intro v49 wl ho hb hg_ hnew_
         have H49 := aS (Kd.R_lower (Kd.R_new' ho (Kd.R_lt (sR H45.out))) (below_size (sW HBA.out)))
         replace H45 := aS (Kd.R_below (sR H45.out) hb)
         replace BP := aS (blk_below (sB BP.out) hb)
         replace HBA := aS (below_step (sW HBA.out) hb)
         clear ho hb hg_ hnew_
         refine hK.out _ _ ⟨(blk_cell BP.out 0).trans rfl, (blk_cell BP.out 1).trans rfl, (blk_cell BP.out 2).trans rfl, (blk_cell (blk_below G4.out HBA.out) 0).trans rfl⟩ (fun hHeld => ?_)
         clear hK K
         refine norm_ (a' := ?_) ?_ ?_
         rotate_left
         · show Act.put _ (some 49) _ = _
           exact sP
         exact norm_ (by first | (simp only [putAll, Act.put, List.setIfInBounds_toArray, List.set_cons_zero, List.set_cons_succ]; done) | (simp only [putAll, Act.put, List.setIfInBounds_toArray, List.set_cons_zero, List.set_cons_succ]; rfl)) (hJ15 (v45, v49) _ ⟨hHeld, sR H45.out, sR (Kd.R_mono H49.out (fun _ hk => hk.2)), sB BP.out, hne45, sW HBA.out⟩)
       ·
        refine Kd.R_lit_step k140 _ 140 ?hg (N := 49) ?hd (xs := ([F a] : List (S140))) (inner := [.int .i64 (F a).f0, .int .i64 (F a).f1, .bool (F a).f2]) (ok := fun _ => True) (okp := fun _ => True) ?hr ?hp (fun _ hk => hk) trivial (Below.refl _ _) (Nat.le_refl _) (by simp) ?_; (case hd => rfl); (case hg => rfl); (case hr => first | (go_simp; done) | (go_simp; rfl)); (case hp => exact (Reps.c3 (k140_mkM _ _ _ (F a)) (Reps.none _ _)))
        intro v49 wl ho hb hg_ hnew_
        have H49 := aS (Kd.R_lower ho (below_size (sW HBA.out)))
        replace BP := aS (blk_below (sB BP.out) hb)
        replace HBA := aS (below_step (sW HBA.out) hb)
        clear ho hb hg_ hnew_
        refine hK.out _ _ ⟨(blk_cell BP.out 0).trans rfl, (blk_cell BP.out 1).trans rfl, (blk_cell BP.out 2).trans rfl, (blk_cell (blk_below G4.out HBA.out) 0).trans rfl⟩ (fun hHeld => ?_)
        clear hK K
        refine norm_ (a' := ?_) ?_ ?_
        rotate_left
        · show Act.put _ (some 49) _ = _
          exact sP
        refine one_ (i := 1) (N := some 45) #[true, true, true, false, true, true, false, true, true, true, true, true, true, false, false, false] rfl rfl (by kernel_rfl) (by decide) (fun K hK => ?_)
        refine Kd.R_lit_step k140 _ 140 ?hg (N := 45) ?hd (xs := ([] : List (S140))) (inner := []) (ok := fun _ => True) (okp := fun _ => True) ?hr ?hp (fun _ hk => hk) trivial (Below.refl _ _) (Nat.le_refl _) (by simp) ?_; (case hd => rfl); (case hg => rfl); (case hr => first | (go_simp; done) | (go_simp; rfl)); (case hp => exact (Reps.none _ _))
        intro v45 wl ho hb hg_ hnew_
        replace H49 := aS (Kd.R_elder' (sR H49.out) (Kd.R_base ho) hb)
        have H45 := aS (Kd.R_lower ho (below_size (sW HBA.out)))
        have hne45 := ne_new (sB BP.out) hnew_
        replace BP := aS (blk_below (sB BP.out) hb)
        replace HBA := aS (below_step (sW HBA.out) hb)
        clear ho hb hg_ hnew_
        refine hK.out _ _ ⟨(blk_cell BP.out 0).trans rfl, (blk_cell BP.out 1).trans rfl, (blk_cell BP.out 2).trans rfl, (blk_cell (blk_below G4.out HBA.out) 0).trans rfl⟩ (fun hHeld => ?_)
        clear hK K
        refine norm_ (a' := ?_) ?_ ?_
        rotate_left
        · show Act.put _ (some 45) _ = _
          exact sP
        exact norm_ (by first | (simp only [putAll, Act.put, List.setIfInBounds_toArray, List.set_cons_zero, List.set_cons_succ]; done) | (simp only [putAll, Act.put, List.setIfInBounds_toArray, List.set_cons_zero, List.set_cons_succ]; rfl)) (hJ15 (v45, v49) _ ⟨hHeld, sR H45.out, sR (Kd.R_mono H49.out (fun _ hk => hk.2)), sB BP.out, hne45, sW HBA.out⟩)
      ·
       rintro ⟨v45, v49⟩ wj ⟨hHeld, h0_, h1_, h2_, hne45, h4_⟩
       try dsimp only at hHeld h0_ h1_ h2_ hne45 h4_
       have H45 := aS h0_
       have H49 := aS h1_
       replace BP := aS h2_
       replace HBA := aS h4_
       clear h0_ h1_ h2_ h4_
       refine norm_ (a' := ?_) ?_ ?_
       rotate_left
       · (simp only [putAll, Act.put, List.setIfInBounds_toArray, List.set_cons_zero, List.set_cons_succ])
         rfl
       refine one_ (i := 3) (N := some 47) #[true, true, true, true, true, true, false, true, true, true, true, true, true, false, false, false] rfl rfl (by kernel_rfl) (by decide) (fun K hK => ?_)
       refine Kd.R_append_rows_step k140 (w0 := wr) wr.heap.size (by rfl) (.tmp 45) (.tmp 46) 115 140 (.agg #[(.int .i64 0), (.int .i64 0), (.bool false)]) 24 rfl Try.underlying115 info140 rfl (by decide) (by omega) v45 [] list _ _ _ (fun _ => True) (fun _ => False) rfl rfl ?aO ?aR (fun _ _ h => h) (fun _ h => h.elim) ?aF ?aB ?aS ?aL ?_
       (case aR => exact HC.out _ (KP.out.below (sW HBA.out)))
       (case aB => exact (sW HBA.out))
       (case aF => exact (fun _ _ => trivial))
       (case aO => exact (sR H45.out))
       (case aS => exact (below_size (sW HBA.out)))
       (case aL => simp only [List.length_nil]; omega)
       intro v47 wl ho hb hgr hat
       have hne47 := ne_app (sB BP.out) hne45 hat
       replace H49 := aS (Kd.R_grown (sR H49.out) hgr (fun _ hk => hk))
       replace BP := aS (blk_grown (sB BP.out) hgr hne45)
       have H47 := aS ho
       replace HBA := aS hb
       clear ho hb hgr hat H45 hne45
       refine hK.out _ _ ⟨(blk_cell BP.out 0).trans rfl, (blk_cell BP.out 1).trans rfl, (blk_cell BP.out 2).trans rfl, (blk_cell (blk_below G4.out HBA.out) 0).trans rfl⟩ (fun hHeld => ?_)
       clear hK K
       refine norm_ (a' := ?_) ?_ ?_
       rotate_left
       · show Act.put _ (some 47) _ = _
         exact sP
       exact norm_ (by first | (simp only [putAll, Act.put, List.setIfInBounds_toArray, List.set_cons_zero, List.set_cons_succ]; done) | (simp only [putAll, Act.put, List.setIfInBounds_toArray, List.set_cons_zero, List.set_cons_succ]; rfl)) (hJ135 (v45, v47, v49) _ ⟨hHeld, sR H47.out, sR (Kd.R_mono H49.out (fun _ _ => trivial)), sB BP.out, hne47, sW HBA.out⟩)

     rintro ⟨v45, v47, v49⟩ wj ⟨hHeld, h0_, h1_, h2_, hne47, h4_⟩
     try dsimp only at hHeld h0_ h1_ h2_ hne47 h4_
     have H47 := aS h0_
     have H49 := aS h1_
     replace BP := aS h2_
     replace HBA := aS h4_
     clear h0_ h1_ h2_ h4_
     obtain ⟨A49, c49, rfl⟩ := Kd.R_slice H49.out
     refine norm_ (a' := ?_) ?_ ?_
     rotate_left
     · (simp only [putAll, Act.put, List.setIfInBounds_toArray, List.set_cons_zero, List.set_cons_succ])
       rfl
     refine one_ (i := 6) (N := (some 50)) #[true, true, true, true, true, true, true, true, true, true, true, true, true, false, false, false] rfl rfl (by kernel_rfl) (by decide) (fun K hK => ?_)
     refine Kd.R_append_rows_step k140 (w0 := wr) wr.heap.size (by rfl) (.tmp 47) (.tmp 49) 115 140 (.agg #[(.int .i64 0), (.int .i64 0), (.bool false)]) 24 rfl Try.underlying115 info140 rfl (by decide) (by omega) v47 ([] ++ list) [F a] _ _ _ (fun _ => True) (fun _ => False) rfl rfl ?aO ?aR (fun _ _ h => h) (fun _ h => h.elim) ?aF ?aB ?aS ?aL ?_
     (case aR => exact sC (Kd.R_reads' H49.out).2.2)
     (case aB => exact (sW HBA.out))
     (case aF => exact (fun _ _ => trivial))
     (case aO => exact (sR H47.out))
     (case aS => exact (below_size (sW HBA.out)))
     (case aL => simp only [List.nil_append, List.length_cons, List.length_nil]; omega)
     intro v50 wl ho hb hgr hat
     rw [List.nil_append, ← Nys.out] at ho
     replace BP := aS (blk_grown (sB BP.out) hgr hne47)
     have H50 := aS ho
     replace HBA := aS hb
     clear ho hb hgr hat H47 H49 hne47
     refine hK.out _ _ ⟨(blk_cell BP.out 0).trans rfl, (blk_cell BP.out 1).trans rfl, (blk_cell BP.out 2).trans rfl, (blk_cell (blk_below G4.out HBA.out) 0).trans rfl⟩ (fun hHeld => ?_)
     clear hK K
     obtain ⟨A50, c50, rfl⟩ := Kd.R_slice H50.out
     refine norm_ (a' := ?_) ?_ ?_
     rotate_left
     · show Act.put _ (some 50) _ = _
       exact sP
     refine one_ (i := 13) (N := (some 57)) #[true, true, true, true, true, true, true, true, true, true, true, true, true, true, false, false] rfl rfl (by kernel_rfl) (by decide) (fun K hK => ?_)
     refine goes_ Try.func110 (by kernel_rfl) rfl #[.agg #[.int .i64 (F a).f0, .int .i64 (F a).f1, .bool (F a).f2]] (by rfl) rfl rfl sG ?_
     with_reducible refine (impl_blocksOf.calls _ _ _ cc _ AC.out).mono ?_
     rintro e wl ⟨rfl, hb⟩
     refine ⟨_, rfl, ?_⟩
     replace H50 := aS (Kd.R_below (sR H50.out) hb)
     replace BP := aS (blk_below (sB BP.out) hb)
     replace HBA := aS (below_step (sW HBA.out) hb)
     clear hb
     refine hK.out _ _ ⟨(blk_cell BP.out 0).trans rfl, (blk_cell BP.out 1).trans rfl, (blk_cell BP.out 2).trans rfl, (blk_cell (blk_below G4.out HBA.out) 0).trans rfl⟩ (fun hHeld => ?_)
     clear hK K
     refine norm_ (a' := ?_) ?_ ?_
     rotate_left
     · show Act.put _ (some 57) _ = _
       exact sP
     refine pure_ (i := 14) (N := (some 58)) (v := ?_) (a' := ?_) #[true, true, true, true, true, true, true, true, true, true, true, true, true, true, true, false] rfl rfl (by kernel_rfl) (fun _ _ _ h => h) (Or.inl ⟨by rfl, ?_⟩) ?_ ?_
     rotate_left
     · intro w'; go_simp; with_reducible rfl
     rotate_left
     · exact sP
     refine last_ (i := 15) (N := (some 59)) #[true, true, true, true, true, true, true, true, true, true, true, true, true, true, true, true] rfl rfl (by kernel_rfl) (by decide) (fun K hK => ?_)
     refine goesKB_ Try.func109 (by kernel_rfl) rfl #[.slice A50 ys.length c50, .int .i64 (wrap64 (Int.tdiv left a)), .int .i64 a, .int .i64 (wrap64 (blocks + cc))] #[.slice A50 ys.length c50, .int .i64 (wrap64 (Int.tdiv left a)), .int .i64 a, .int .i64 (wrap64 (blocks + cc)), .pointer (some ⟨g1, 0, none⟩), .pointer (some ⟨g2, 0, none⟩), .pointer (some ⟨g3, 0, none⟩), .pointer (some ⟨g4, 0, none⟩)] #[.pointer (some ⟨g1, 0, none⟩), .pointer (some ⟨g2, 0, none⟩), .pointer (some ⟨g3, 0, none⟩), .pointer (some ⟨g4, 0, none⟩)] (by rfl) rfl rfl rfl sG (by rfl) ?_
     have hEX := EX.out.below HBA.out
     have hCC := Kd.C_kept_own (S := fun b => b = g1 ∨ b = g2) (Kd.R_types (Kd.R_types H50.out (blk_below G1.out HBA.out) (by decide)) (blk_below G2.out HBA.out) (by decide)) (fun k_ hk hs => hs.elim hk.1.2 hk.2)
     refine (ih k1 (by have := HK.out; omega) ys _ a _ best1 few1 (best2, few2) w0 _ g1 g2 g3 g4 mb A50 c50 hg1 hg2 hEX hCC (Kd.R_reads' H50.out).2.1 (by rw [Nys.out, List.length_append]; simp only [List.length_cons, List.length_nil]; omega) (fun _ => by rw [Nys.out]; simp) HM.out (by rw [Nys.out]; exact AW.out)).mono ?_
     rintro e wl ⟨rfl, hE2, hK2⟩
     refine ⟨_, rfl, ?_⟩
     have EX2 := aS hE2
     have KP2 := aS ((KP.out.below HBA.out).then_ hK2 (fun _ hk => .inl hk))
     clear hE2 hK2 hEX hCC
     refine hK.out _ _ ?_
     clear hK K
     refine norm_ (a' := ?_) ?_ ?_
     rotate_left
     · show Act.put _ (some 59) _ = _
       exact sP
     refine done_ (by kernel_rfl) ?_

     go_wp2
     go_roundg k1
     case measure => have := HK.out; omega
     case rel => exact ⟨wrap64 (a - 1), best2, few2, (by first | rfl | (simp; done) | (simp only [i64_w]; done)), H', ⟨by have := HK.out; omega⟩, ⟨by have := HM.out; rw [w64s _ (by omega)]; omega⟩, EX2, KP2⟩)

end Go.Proofs.Ytginmioklkcgbaa.QFnExactFewestBlocks

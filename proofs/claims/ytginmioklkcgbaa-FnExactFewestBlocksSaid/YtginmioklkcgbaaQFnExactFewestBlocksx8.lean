/- The law's own call, and the two functions that it compares, told by hand: what each call comes to. No condition. -/
import Derived.Test.YtginmioklkcgbaaQFnExactFewestBlocksx5
import Derived.Test.YtginmioklkcgbaaQFnExactFewestBlocksx6
import Derived.Test.YtginmioklkcgbaaQFnExactFewestBlocksx7
import Derived.Laws.EntriesVeiled
namespace Go.Proofs.Ytginmioklkcgbaa.QFnExactFewestBlocks
open Go.RowKit Go.Proofs.YtginmioklkcgbaaW.PrintWords Go.Proofs.YtginmioklkcgbaaW.PrintLast Go.Proofs.YtginmioklkcgbaaW.PrintMore
attribute [local go_sem] max2_int min2_int max_two min_two max_three min_three max_four min_four   -- for this text's walks alone
set_option linter.unusedVariables false
set_option linter.unusedSimpArgs false

theorem below_grown {b : Nat} {w W W1 : World} (h : Below w.heap.size w W) (hg : W.grownBy W1 (some b)) (hb : w.heap.size ≤ b) : Below w.heap.size w W1 :=
  ⟨hg.os.trans h.os, hg.tape.trans h.tape, hg.output.trans h.output, Nat.le_trans h.size hg.size, fun k hk =>
    (hg.block k (Nat.lt_of_lt_of_le hk h.size) (fun he => by injection he with he; omega)).trans (h.block k hk)⟩
def impl_bestTackle.l : Nat → Int → (Int → S140) → Option (Int → S140)
 | 0, _, _ => none
 | k + 1, a, F => if a ≤ 9 then ((impl_purchasesFor.f k a).bind fun ps => (if 0 < ps.length then impl_bestTackle.l k (wrap64 (a + 1)) (fun c => if c = a then rd_T140 ps 0 else F c) else none)) else some F
def impl_bestTackle.f (k : Nat) (a0 : Int) : Option (Option (List S140)) := if a0 = 1 then some (some [⟨1, 0, false⟩]) else (impl_bestTackle.l k 2 (fun _ => z140)).bind fun F => (impl_extend.f F k [] a0 9 0 none 0).bind fun r => some r.1
set_option maxHeartbeats 8000000 in
set_option maxRecDepth 100000 in
theorem impl_bestTackle.calls (k : Nat) (a0 : Int) (r : Option (List S140)) (w : World) (h : impl_bestTackle.f k a0 = some r) :
    Calls Try.prog 85 #[.int .i64 a0] w fun e w' => ∃ v : Value, e = .returned v ∧ BestIs w w' v r ∧ Below w.heap.size w w' := by
 unfold impl_bestTackle.f at h
 have HB := aS (Below.refl w.heap.size w)
 by_cases c1 : a0 = 1
 · rw [if_pos c1] at h
   have c1b : (a0 == 1) = true := beq_iff_eq.mpr c1
   obtain rfl := Option.some.inj h
   clear h
   go_enter Try.func85, Try.ntmps85
   go_wp2_with (first
     | ((with_reducible refine gate_dst (N := 11) rfl ?_); refine Kd.R_lit k140 _ 140 ?hg (N := 11) ?hd (xs := ([⟨1, 0, false⟩] : List (S140))) (inner := [.int .i64 1, .int .i64 0, .bool false]) (ok := fun _ => True) (okp := fun _ => True) ?hr ?hp (fun _ hk => hk) trivial (Below.refl _ _) (Nat.le_refl _) (by simp) ?_; (case hd => rfl); (case hg => rfl); (case hr => first | (go_simp; done) | (go_simp; rfl)); (case hp => exact (Reps.c3 (k140_mkM _ _ _ (⟨1, 0, false⟩ : S140)) (Reps.none _ _))); intro v1 w1 ho hb hg_ hnew_; have HO := aS ho; replace HB := aS hb; clear ho hb hg_ hnew_; obtain ⟨ad1, c1_, rfl⟩ := Kd.R_slice1 HO.out (by simp)))
   go_ret
   exact ⟨_, rfl, ⟨ad1, c1_, rfl, HO.out⟩, sW HB.out⟩
 · rw [if_neg c1] at h
   have c1b : (a0 == 1) = false := beq_eq_false_iff_ne.mpr c1
   replace h := Option.bind_eq_some_iff.mp h
   obtain ⟨F, AF0, h⟩ := h
   have AF := aS AF0
   have HH := aS h
   clear AF0 h
   have hmm := @run_makeMap Try.prog
   go_enter Try.func85, Try.ntmps85
   go_upto_region 4 with (first
     | ((with_reducible refine gate_dst (N := 3) rfl ?_); refine box_event ?hg (N := 3) ?hd (cs := #[.map none]) (t := 145) ?hr ?_; (case hd => rfl); (case hg => rfl); (case hr => first | (go_simp; done) | (go_simp; rfl)); intro g3 hg w3 hbox hb; have hgW : w.heap.size ≤ g3 := (by rw [hg]; exact (below_size (sW HB.out))); have MP := aS ((MapIs.made w).kept (hb.block _ (MapIs.made w).lt)); replace HB := aS (below_step (sW HB.out) hb); have BK := aS hbox; clear hb hg hbox hmm; have hcz_3 : w3.cell? ⟨g3, 0, none⟩ = some (.map none) := (blk_cell BK.out 0).trans rfl; have hfz_3 := blk_frozen BK.out 0))
   replace MP := aS (MP.out.set BK.out 0 (.map (some w.heap.size)))
   replace HB := aS (below_set (v := .map (some w.heap.size)) (j := 0) (sW HB.out) hgW)
   have G3 := aS (blk_put (cs := #[_]) BK.out 0 (.map (some w.heap.size)) rfl)
   clear hcz_3 hfz_3 BK
   generalize (w3.setCell ⟨g3, 0, none⟩ (.map (some w.heap.size))) = w4 at MP HB G3 ⊢
   go_upto_region 5 with (fail)
   go_loopg [4] k (fun kq v4 w' => ∃ (a : Int) (n : Nat) (F1 : Int → S140), v4 = .int .i64 a ∧ Aside0 (impl_bestTackle.l kq a F1 = some F) ∧ Aside0 (kq ≤ k) ∧ Aside0 (2 ≤ a ∧ (n : Int) ≤ a) ∧ Aside0 (w'.heap[g3]? = some (.cells #[.map (some w.heap.size)] 145 (0, 0))) ∧ Aside0 (MapIs w' w.heap.size n F1) ∧ Aside0 (Below w.heap.size w w'))
   case atStart => exact ⟨2, 0, _, rfl, AF, ⟨Nat.le_refl _⟩, ⟨by omega⟩, G3, MP, HB⟩
   case round =>
     clear AF MP G3 HB
     obtain ⟨a, n, F1, rfl, HA, HK, HN, G3, MP, HB⟩ := hrel
     cases gk with
     | zero => exact absurd HA.out (by simp [impl_bestTackle.l])
     | succ k1 =>
     have H := HA.out
     clear HA
     simp only [impl_bestTackle.l] at H
     by_cases c5 : a ≤ 9
     · rw [if_pos c5] at H
       have c5b : decide (a ≤ 9) = true := decide_eq_true c5
       replace H := Option.bind_eq_some_iff.mp H
       obtain ⟨ps, A2, H⟩ := H
       have AP := aS A2
       clear A2
       have hps : 0 < ps.length := by
         by_cases hp : 0 < ps.length
         · exact hp
         · rw [if_neg hp] at H; cases H
       rw [if_pos hps] at H
       have H' := aS H
       clear H
       have q0 : (0 : Int) < (ps.length : Int) := by omega
       have qi : (0 < ps.length) = True := eq_true hps
       clear HH
       go_upto_region 7 with (fail)
       replace MP := aS (MP.out.kept (w' := wr.drew) rfl)
       replace G3 := aS (blk_drew G3.out)
       replace HB := aS (below_drew1 HB.out)
       refine start_ (n := 7) (S := fun w' => w'.cell? ⟨g3, 0, none⟩ = some (.map (some w.heap.size))) (ds := []) #[false, false, false, false, false, false, false] (by kernel_rfl) rfl rfl ((blk_cell G3.out 0).trans rfl) (fun hHeld => ?_)
       generalize wr.drew = w9 at MP G3 HB hHeld ⊢
       refine pure_ (i := 1) (N := (some 18)) (v := ?_) (a' := ?_) #[false, true, false, false, false, false, false] rfl rfl (by kernel_rfl) (fun _ _ _ h => h) (Or.inl ⟨by rfl, ?_⟩) ?_ ?_
       rotate_left
       · intro w'; go_simp; with_reducible rfl
       rotate_left
       · exact sP
       refine pure_ (i := 2) (N := (some 19)) (v := ?_) (a' := ?_) #[false, true, true, false, false, false, false] rfl rfl (by kernel_rfl) (fun _ _ _ h => h) (Or.inl ⟨by rfl, ?_⟩) ?_ ?_
       rotate_left
       · intro w'; go_simp; with_reducible rfl
       rotate_left
       · exact sP
       refine take_ (i := 0) (N := (some 17)) (v := ?_) (a' := ?_) #[true, true, true, false, false, false, false] rfl rfl (by kernel_rfl) (fun _ _ _ h => h) (Or.inl ⟨by rfl, ?_⟩) hHeld ?_ ?_
       rotate_left
       · rintro w' s0; go_simp; with_reducible rfl
       rotate_left
       · exact sP
       refine one_ (i := 3) (N := (some 20)) #[true, true, true, true, false, false, false] rfl rfl (by kernel_rfl) (by decide) (fun K hK => ?_)
       refine goes_ Try.func108 (by kernel_rfl) rfl #[.int .i64 a] (by rfl) rfl rfl sG ?_
       with_reducible refine (impl_purchasesFor.calls k1 a ps _ AP.out).mono ?_
       rintro e wl ⟨v20, rfl, ho, hb⟩
       refine ⟨_, rfl, ?_⟩
       have HP := aS ho
       have M2 := aS (MP.out.kept (hb.block w.heap.size MP.out.lt))
       have G3b := aS (blk_below (sB G3.out) hb)
       replace HB := aS (below_step (sW HB.out) hb)
       clear ho hb MP G3
       have MP := M2
       have G3 := G3b
       clear M2 G3b
       obtain ⟨Ap, cp, rfl⟩ := Kd.R_slice HP.out
       obtain ⟨ad, e_, hx_0, hx_1, hx_2⟩ := at_T140 (Kd.R_reads' HP.out).2.2 0 (by omega) q0
       subst e_
       rw [show ((0 : Int)).toNat = 0 from rfl, show 0 * 3 = 0 from rfl, Addr.add_zero'] at hx_0 hx_1 hx_2
       refine hK.out _ _ ((blk_cell G3.out 0).trans rfl) (fun hHeld => ?_)
       clear hK K
       refine norm_ (a' := ?_) ?_ ?_
       rotate_left
       · show Act.put _ (some 20) _ = _
         exact sP
       refine pure_ (i := 4) (N := (some 21)) (v := ?_) (a' := ?_) #[true, true, true, true, true, false, false] rfl rfl (by kernel_rfl) (fun _ _ _ h => h) (Or.inl ⟨by rfl, ?_⟩) ?_ ?_
       rotate_left
       · intro w'; go_simp; with_reducible rfl
       rotate_left
       · exact sP
       refine one_ (i := 5) (N := (some 22)) #[true, true, true, true, true, true, false] rfl rfl (by kernel_rfl) (by decide) (fun K hK => ?_)
       refine event_step (w1 := wl) (v := .agg #[.int .i64 (rd_T140 ps 0).f0, .int .i64 (rd_T140 ps 0).f1, .bool (rd_T140 ps 0).f2]) (by rfl) (by go_simp; try rfl) ?_
       refine hK.out _ _ ((blk_cell G3.out 0).trans rfl) (fun hHeld => ?_)
       clear hK K
       refine norm_ (a' := ?_) ?_ ?_
       rotate_left
       · show Act.put _ (some 22) _ = _
         exact sP
       refine one_ (i := 6) (N := none) #[true, true, true, true, true, true, true] rfl rfl (by kernel_rfl) (by decide) (fun K hK => ?_)
       obtain ⟨wu, hru, hMu, hgu⟩ := MP.out.update (by have := HN.out; omega) (a := a) (by have := HN.out; omega) (by omega) (rd_T140 ps 0)
       unfold v140 at hru
       refine skip_ (w1 := wu) (by rfl) rfl (by go_simp; try rfl) ?_
       have hne3 : some g3 ≠ some w.heap.size := by
         intro he
         injection he with he
         obtain ⟨D_, ⟨es_, cl_, hh_, _⟩, _⟩ := MP.out
         have := G3.out
         rw [he, hh_] at this
         simp at this
       have G3b := aS (blk_grown G3.out hgu hne3)
       have HBb := aS (below_grown HB.out hgu (Nat.le_refl _))
       clear MP G3 HB hgu hru hne3
       have MP := aS hMu
       have G3 := G3b
       have HB := HBb
       clear hMu G3b HBb
       refine hK.out _ _ ((blk_cell G3.out 0).trans rfl) (fun hHeld => ?_)
       clear hK K
       refine done_ (by kernel_rfl) ?_
       go_wp2
       go_roundg k1
       case measure => have := HK.out; omega
       case rel => exact ⟨wrap64 (a + 1), n + 1, _, (by first | rfl | (simp; done) | (simp only [i64_w]; done)), H', ⟨by have := HK.out; omega⟩, ⟨by have := HN.out; rw [w64s _ (by omega)]; omega⟩, G3, MP, HB⟩
     · rw [if_neg c5] at H
       have c5b : decide (a ≤ 9) = false := decide_eq_false c5
       clear c5
       obtain rfl := Option.some.inj H
       clear H
       have h := HH.out
       clear HH
       replace h := Option.bind_eq_some_iff.mp h
       obtain ⟨⟨best2, few2⟩, A2, h⟩ := h
       have AE := aS A2
       obtain rfl := Option.some.inj h
       clear A2 h
       go_upto_region 12 with (first
         | ((with_reducible refine gate_dst (N := 5) rfl ?_); refine box_event ?hg (N := 5) ?hd (cs := #[.slice none 0 0]) (t := 115) ?hr ?_; (case hd => rfl); (case hg => rfl); (case hr => first | (go_simp; done) | (go_simp; rfl)); intro g1 hg w5 hbox hb; have hg1 : w.heap.size ≤ g1 := (by rw [hg]; exact (below_size (sW HB.out))); have M2 := aS (MP.out.kept (hb.block _ MP.out.lt)); replace G3 := aS (blk_below (sB G3.out) hb); replace HB := aS (below_step (sW HB.out) hb); have G1 := aS hbox; clear hb hg hbox MP; have MP := M2; clear M2)
         | ((with_reducible refine gate_dst (N := 6) rfl ?_); refine box_event ?hg (N := 6) ?hd (cs := #[.int .i64 0]) (t := 2) ?hr ?_; (case hd => rfl); (case hg => rfl); (case hr => first | (go_simp; done) | (go_simp; rfl)); intro g2 hg w6 hbox hb; have hg2 : w.heap.size ≤ g2 := (by rw [hg]; exact (below_size (sW HB.out))); have M2 := aS (MP.out.kept (hb.block _ MP.out.lt)); replace G3 := aS (blk_below (sB G3.out) hb); replace G1 := aS (blk_below (sB G1.out) hb); replace HB := aS (below_step (sW HB.out) hb); have G2 := aS hbox; clear hb hg hbox MP; have MP := M2; clear M2; have hcz_2 : w6.cell? ⟨g2, 0, none⟩ = some (.int .i64 0) := (blk_cell G2.out 0).trans rfl; have hfz_2 := blk_frozen G2.out 0)
         | ((with_reducible refine gate_dst (N := 7) rfl ?_); refine box_event ?hg (N := 7) ?hd (cs := #[.nilFunc]) (t := 146) ?hr ?_; (case hd => rfl); (case hg => rfl); (case hr => first | (go_simp; done) | (go_simp; rfl)); intro g4 hg w7 hbox hb; have hg4 : w.heap.size ≤ g4 := (by rw [hg]; exact (below_size (below_set (sW HB.out) hg2))); have n12 : g1 ≠ g2 := blk_ne G1.out G2.out (by decide); have n32 : g3 ≠ g2 := blk_ne G3.out G2.out (by decide); have M2 := aS ((MP.out.set G2.out 0 (.int .i64 0)).kept (hb.block _ (MP.out.set G2.out 0 (.int .i64 0)).lt)); replace G1 := aS (blk_below (blk_far G1.out n12 _) hb); replace G3 := aS (blk_below (blk_far G3.out n32 _) hb); replace G2 := aS (blk_below (blk_put (cs := #[_]) G2.out 0 (.int .i64 0) rfl) hb); replace HB := aS (below_step (below_set (sW HB.out) hg2) hb); have G4 := aS hbox; clear hb hg hbox MP hcz_2 hfz_2; have MP := M2; clear M2; have hcz_4 : w7.cell? ⟨g4, 0, none⟩ = some .nilFunc := (blk_cell G4.out 0).trans rfl; have hfz_4 := blk_frozen G4.out 0))
       have n14 : g1 ≠ g4 := blk_ne G1.out G4.out (by decide)
       have n24 : g2 ≠ g4 := blk_ne G2.out G4.out (by decide)
       have n34 : g3 ≠ g4 := blk_ne G3.out G4.out (by decide)
       have M2 := aS (MP.out.set G4.out 0 (fv109 g1 g2 g3 g4))
       replace G1 := aS (blk_far (p := ⟨g4, 0, none⟩) G1.out n14 (fv109 g1 g2 g3 g4))
       replace G2 := aS (blk_far (p := ⟨g4, 0, none⟩) G2.out n24 (fv109 g1 g2 g3 g4))
       replace G3 := aS (blk_far (p := ⟨g4, 0, none⟩) G3.out n34 (fv109 g1 g2 g3 g4))
       replace HB := aS (below_set (v := fv109 g1 g2 g3 g4) (j := 0) (sW HB.out) hg4)
       replace G4 := aS (blk_put (cs := #[_]) G4.out 0 (fv109 g1 g2 g3 g4) rfl)
       clear MP hcz_4 hfz_4
       have MP := M2
       clear M2
       have hfold : (w7.setCell ⟨g4, 0, none⟩ (.func (.func 109) #[] #[.pointer (some ⟨g1, 0, none⟩), .pointer (some ⟨g2, 0, none⟩), .pointer (some ⟨g3, 0, none⟩), .pointer (some ⟨g4, 0, none⟩)])) = w7.setCell ⟨g4, 0, none⟩ (fv109 g1 g2 g3 g4) := rfl
       rw [hfold]
       clear hfold
       generalize (w7.setCell ⟨g4, 0, none⟩ (fv109 g1 g2 g3 g4)) = w8 at G1 G2 G3 G4 MP HB ⊢
       have EX := aS (show ExtAt w w8 g1 g2 g3 g4 w.heap.size F1 none 0 from ⟨_, n, rfl, G1.out, G2.out, G3.out, G4.out, MP.out, HB.out⟩)
       have hcz_4 : w8.cell? ⟨g4, 0, none⟩ = some (fv109 g1 g2 g3 g4) := (blk_cell G4.out 0).trans rfl
       clear MP HB G2 G3 G1
       go_upto_region 13 with (first
         | ((with_reducible refine gate_closure 24 rfl ?_); refine goesC_ (some 26) rfl rfl Try.func109 (by kernel_rfl) rfl #[.slice none ([] : List S140).length 0, .int .i64 a0, .int .i64 9, .int .i64 0, .pointer (some ⟨g1, 0, none⟩), .pointer (some ⟨g2, 0, none⟩), .pointer (some ⟨g3, 0, none⟩), .pointer (some ⟨g4, 0, none⟩)] #[.pointer (some ⟨g1, 0, none⟩), .pointer (some ⟨g2, 0, none⟩), .pointer (some ⟨g3, 0, none⟩), .pointer (some ⟨g4, 0, none⟩)] rfl rfl (by first | rfl | (simp only [List.map_toArray, List.map_cons, List.map_nil]; rfl)) ?_; refine (impl_extend.calls F1 k [] a0 9 0 none 0 (best2, few2) w _ g1 g2 g3 g4 w.heap.size none 0 hg1 hg2 EX.out Kd.C_kept_nil (Nat.le_refl _) (by simp) (fun h1 => absurd h1 c1) (by omega) AE.out).mono ?_; rintro e w10 ⟨rfl, hE, hK⟩; refine ⟨_, rfl, ?_⟩; have EX2 := aS hE; clear hE hK EX hcz_4; obtain ⟨bv, n2, hBest, hb1, hb2, hb3, hb4, hMap, hBel⟩ := EX2.out; have BE := aS hBest; have HB := aS hBel; have hcz_1 : w10.cell? ⟨g1, 0, none⟩ = some bv := (blk_cell hb1 0).trans rfl; clear hBest hb1 hb2 hb3 hb4 hMap hBel EX2))
       (try simp only [Act.put, List.setIfInBounds_toArray, List.set_cons_zero, List.set_cons_succ])
       go_wp2
       go_ret
       exact ⟨_, rfl, BE.out, HB.out⟩
def impl_FewestBlocks.f (k : Nat) (a0 : Int) : Option (Int × Int) := (impl_within.f a0 1 5000).bind fun t => if t = true then ((impl_bestTackle.f k a0).bind fun b => b.elim (some (0, 3)) (fun xs => impl_BlocksOf.f k xs)) else some (0, 2)
set_option maxHeartbeats 8000000 in
set_option maxRecDepth 100000 in
theorem impl_FewestBlocks.calls (k : Nat) (a0 r1 r2 : Int) (w : World) (h : impl_FewestBlocks.f k a0 = some (r1, r2)) :
    Calls Try.prog 41 #[.int .i64 a0] w fun e w' => e = .returned (.tuple #[.int .i64 r1, .int .i64 r2]) ∧ Below w.heap.size w w' := by
 unfold impl_FewestBlocks.f at h
 have HB := aS (Below.refl w.heap.size w)
 replace h := Option.bind_eq_some_iff.mp h
 obtain ⟨t, A1, h⟩ := h
 have AT := aS A1
 have HH := aS h
 clear A1 h
 go_enter Try.func41, Try.ntmps41
 go_upto_if 7 with (first
   | ((with_reducible refine gate_callee (f := 50) rfl ?_); refine goesL_ (some 6) rfl rfl Try.func50 (by kernel_rfl) rfl #[.int .i64 a0, .int .i64 1, .int .i64 5000] rfl sG ?_; (with_reducible refine (impl_within.calls a0 1 5000 t _ AT.out).mono ?_); rintro e w' ⟨rfl, ⟨nd, rfl⟩⟩; refine ⟨_, rfl, ?_⟩))
 (try simp only [Act.put, List.setIfInBounds_toArray, List.set_cons_zero, List.set_cons_succ])
 have h := HH.out
 clear HH
 by_cases c1 : t = true
 rotate_left
 · rw [if_neg c1] at h
   replace c1 := Bool.eq_false_iff.mpr c1
   subst c1
   simp only [Option.some.injEq, Prod.mk.injEq] at h
   obtain ⟨rfl, rfl⟩ := h
   go_wp2
   repeat (go_quiet (fail); try go_wp2)
   go_ret2
   exact ⟨rfl, sW HB.out⟩
 rw [if_pos c1] at h
 subst c1
 replace h := Option.bind_eq_some_iff.mp h
 obtain ⟨b, A2, h⟩ := h
 have AB := aS A2
 have HH := aS h
 clear A2 h
 go_upto_region 4 with (first
   | ((with_reducible refine gate_callee (f := 85) rfl ?_); refine goesL_ (some 9) rfl rfl Try.func85 (by kernel_rfl) rfl #[.int .i64 a0] rfl sG ?_; (with_reducible refine (impl_bestTackle.calls k a0 b _ AB.out).mono ?_); rintro e w5 ⟨v5, rfl, hv, hb⟩; refine ⟨_, rfl, ?_⟩; have BE := aS hv; replace HB := aS (below_step (sW HB.out) hb); clear hb hv))
 (try simp only [Act.put, List.setIfInBounds_toArray, List.set_cons_zero, List.set_cons_succ])
 have h := HH.out
 clear HH
 cases b with
 | none =>
   simp only [Option.elim_none, Option.some.injEq, Prod.mk.injEq] at h
   obtain ⟨rfl, rfl⟩ := h
   obtain rfl : v5 = .slice none 0 0 := BE.out
   have hq : (binOp .eql 115 (.slice none 0 0) (.slice none 0 0)).run Try.prog w5 = .ok (.bool true) w5 := eql_nil115 _ _ _ _
   go_wp2
   repeat (go_quiet (fail); try go_wp2)
   go_ret2
   exact ⟨rfl, sW HB.out⟩
 | some xs =>
   simp only [Option.elim_some] at h
   obtain ⟨adb, cb, rfl, hrb⟩ := BE.out
   have HR := aS hrb
   have AL := aS h
   clear BE hrb h
   have hq : (binOp .eql 115 (.slice (some adb) xs.length cb) (.slice none 0 0)).run Try.prog w5 = .ok (.bool false) w5 := eql_nil115 _ _ _ _
   go_wp2_with (first
     | ((with_reducible refine gate_callee (f := 86) rfl ?_); refine goesL_ (some 13) rfl rfl Try.func86 (by kernel_rfl) rfl #[.slice (some adb) xs.length cb] rfl sG ?_; (with_reducible refine (impl_BlocksOf.calls k _ _ xs r1 r2 _ ?side1 ?side2 AL.out).mono ?_); (case side1 => exact sC (Kd.R_reads' HR.out).2.2); (case side2 => exact (Kd.R_reads' HR.out).2.1); rintro e w6 ⟨rfl, hb⟩; refine ⟨_, rfl, ?_⟩; replace HB := aS (below_step (sW HB.out) hb); clear hb))
   repeat (go_quiet (fail); try go_wp2)
   go_ret2
   exact ⟨rfl, sW HB.out⟩
set_option maxHeartbeats 8000000 in
set_option maxRecDepth 100000 in
theorem laws_FnExactFewestBlocks.calls (k : Nat) (a0 r1 r2 : Int) (w : World) (h1 : spec_FewestBlocks.f k a0 = some (r1, r2)) (h2 : impl_FewestBlocks.f k a0 = some (r1, r2)) :
    Calls Try.prog 6 #[.int .i64 a0] w fun e w' => e = .returned (.bool true) ∧ Below w.heap.size w w' := by
 have HB := aS (Below.refl w.heap.size w)
 have A1 := aS h1
 have A2 := aS h2
 clear h1 h2
 go_enter Try.func6, Try.ntmps6
 go_wp2_with (first
   | ((with_reducible refine gate_callee (f := 40) rfl ?_); refine goesL_ (some 9) rfl rfl Try.func40 (by kernel_rfl) rfl #[.int .i64 a0] rfl sG ?_; (with_reducible refine (spec_FewestBlocks.calls k a0 r1 r2 _ A1.out).mono ?_); rintro e w5 ⟨rfl, hb⟩; refine ⟨_, rfl, ?_⟩; replace HB := aS (below_step (sW HB.out) hb); clear hb)
   | ((with_reducible refine gate_callee (f := 41) rfl ?_); refine goesL_ (some 14) rfl rfl Try.func41 (by kernel_rfl) rfl #[.int .i64 a0] rfl sG ?_; (with_reducible refine (impl_FewestBlocks.calls k a0 r1 r2 _ A2.out).mono ?_); rintro e w6 ⟨rfl, hb⟩; refine ⟨_, rfl, ?_⟩; replace HB := aS (below_step (sW HB.out) hb); clear hb))
 repeat (go_quiet (fail); try go_wp2)
 go_ret
 exact ⟨by first | rfl | simp, sW HB.out⟩
/-- THE ONE PURE STATEMENT of laws_FnExactFewestBlocks. -/
def laws_FnExactFewestBlocks.Pure : Prop := ∀ (a0 : Int), ((Lit.int .i64 a0).wf = true) → ∃ k r1 r2, spec_FewestBlocks.f k a0 = some (r1, r2) ∧ impl_FewestBlocks.f k a0 = some (r1, r2)

end Go.Proofs.Ytginmioklkcgbaa.QFnExactFewestBlocks

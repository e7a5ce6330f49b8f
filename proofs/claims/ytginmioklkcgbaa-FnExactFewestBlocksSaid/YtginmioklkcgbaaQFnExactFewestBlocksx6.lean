/- The reference's search for the tackle with the fewest blocks, told by hand: what each call comes to. No condition. -/
import Derived.Test.YtginmioklkcgbaaQFnExactFewestBlocksx1
import Derived.Test.YtginmioklkcgbaaQFnExactFewestBlocksx3
namespace Go.Proofs.Ytginmioklkcgbaa.QFnExactFewestBlocks
open Go.RowKit Go.Proofs.YtginmioklkcgbaaW.PrintWords Go.Proofs.YtginmioklkcgbaaW.PrintLast Go.Proofs.YtginmioklkcgbaaW.PrintMore
attribute [local go_sem] max2_int min2_int max_two min_two max_three min_three max_four min_four   -- for this text's walks alone
set_option linter.unusedVariables false
set_option linter.unusedSimpArgs false

mutual
def spec_walk.f : Nat → Nat → Int → Int → Int → Int → Option Int
 | 0, _, _, _, _, _ => none
 | k + 1, n, few, left, most, blocks => if few ≥ 0 ∧ blocks ≥ few then some few else if left = 1 then some blocks else if n = 6 then some few else (spec_l00Min.f most left).bind fun m => spec_walk.l k n few left blocks m
def spec_walk.l : Nat → Nat → Int → Int → Int → Int → Option Int
 | 0, _, _, _, _, _ => none
 | k + 1, n, few, left, blocks, a => if a ≥ 2 then (if Int.tmod left a = 0 then (spec_l05All.f k a).bind fun all => (if all.length = 0 then spec_walk.l k n few left blocks (wrap64 (a - 1)) else (spec_l05CountAt.f all).bind fun c => (spec_walk.f k (n + 1) few (wrap64 (Int.tdiv left a)) a (wrap64 (blocks + c))).bind fun few' => spec_walk.l k n few' left blocks (wrap64 (a - 1))) else spec_walk.l k n few left blocks (wrap64 (a - 1))) else some few
end
/-- Where the search stands: its state at block g, its list a row of its own. -/
def WalkAt (w0 w : World) (g : Nat) (xs : List S140) (few : Int) : Prop := ∃ lv bv : Value, w.heap[g]? = some (.cells #[lv, bv, .int .i64 few] 143 (0, 0)) ∧ Kd.R k140 140 w w0.heap.size (fun k_ => k_ ≠ g) lv xs ∧ Below w0.heap.size w0 w


set_option maxHeartbeats 8000000 in
set_option maxRecDepth 100000 in
theorem spec_walk.calls (k : Nat) : ∀ (n : Nat) (few left most blocks r : Int) (w0 w : World) (g : Nat) (xs : List S140) (hg : w0.heap.size ≤ g) (hS : WalkAt w0 w g xs few) (hn : xs.length = n) (hn6 : n ≤ 6) (h : spec_walk.f k n few left most blocks = some r),
    Calls Try.prog 107 #[.pointer (some ⟨g, 0, none⟩), .int .i64 left, .int .i64 most, .int .i64 blocks] w fun e w' => e = .returned (.tuple #[]) ∧ WalkAt w0 w' g xs r := by
 induction k using Nat.strongRecOn with
 | _ k ih =>
 intro n few left most blocks r w0 w g xs hg hS hn hn6 h
 obtain ⟨lv, bv, hBK, hL, hB⟩ := hS
 subst hn
 cases k with
 | zero => simp [spec_walk.f] at h
 | succ k =>
 simp only [spec_walk.f] at h
 have HB := aS hB
 have BK := aS hBK
 have HO := aS hL
 clear hL hB hBK
 have hcz_0 : w.cell? ⟨g, 0, none⟩ = some lv := (blk_cell BK.out 0).trans rfl
 have hcz_1 : w.cell? ⟨g, 1, none⟩ = some bv := (blk_cell BK.out 1).trans rfl
 have hcz_2 : w.cell? ⟨g, 2, none⟩ = some (.int .i64 few) := (blk_cell BK.out 2).trans rfl
 have hfz_0 := blk_frozen BK.out 0
 have hfz_1 := blk_frozen BK.out 1
 have hfz_2 := blk_frozen BK.out 2
 obtain ⟨A, c, rfl⟩ := Kd.R_slice HO.out
 go_enter Try.func107, Try.ntmps107
 have hcase : (few ≥ 0 ∧ blocks ≥ few) ∨ ¬ (few ≥ 0) ∨ (few ≥ 0 ∧ ¬ (blocks ≥ few)) := by by_cases h1 : few ≥ 0 <;> by_cases h2 : blocks ≥ few <;> simp [h1, h2]
 rcases hcase with hstop | hgo
 · rw [if_pos hstop] at h
   obtain rfl := Option.some.inj h
   have c1b : decide (few ≥ 0) = true := decide_eq_true hstop.1
   have c2b : decide (blocks ≥ few) = true := decide_eq_true hstop.2
   clear hstop
   go_wp2
   (try simp only [Exit.inBlock, Exit.then])
   refine bodyPost_ret (results_none rfl _ _ _) rfl ?_
   exact ⟨rfl, _, _, BK.out, HO.out, HB.out⟩
 have hng : ¬ (few ≥ 0 ∧ blocks ≥ few) := by rcases hgo with h1 | h1 <;> omega
 rw [if_neg hng] at h
 clear hng
 have HH := aS h
 clear h
 rcases hgo with c1 | ⟨c1, c2⟩
 all_goals (first
  | (have c1b : decide (few ≥ 0) = false := decide_eq_false c1; clear c1; go_upto_if 23 with (fail))
  | (have c1b : decide (few ≥ 0) = true := decide_eq_true c1; have c2b : decide (blocks ≥ few) = false := decide_eq_false c2; clear c1 c2; go_upto_if 23 with (fail)))
 rotate_left
 all_goals (
  (try simp only [Act.put, List.setIfInBounds_toArray, List.set_cons_zero, List.set_cons_succ])
  by_cases c3 : left = 1
  · have h := HH.out
    clear HH
    rw [if_pos c3] at h
    obtain rfl := Option.some.inj h
    clear h
    have c3b : (left == 1) = true := beq_iff_eq.mpr c3
    go_wp2_with (first
     | ((with_reducible refine gate_dst (N := 27) rfl ?_); refine Kd.R_lit k140 _ 140 ?hg (N := 27) ?hd (xs := ([] : List (S140))) (inner := []) (ok := fun _ => True) (okp := fun _ => True) ?hr ?hp (fun _ hk => hk) trivial (Below.refl _ _) (Nat.le_refl _) (by simp) ?_; (case hd => rfl); (case hg => rfl); (case hr => first | (go_simp; done) | (go_simp; rfl)); (case hp => exact (Reps.none _ _)); intro v1 w1 ho hb hg_ hnew_; have hbase1 : ∀ k, v1.ownBlock = some k → w.heap.size ≤ k := Kd.R_base ho; have n0_ := aS (Kd.R_elder' (sR HO.out) hbase1 hb); have n1_ := aS (blk_below (sB BK.out) hb); have HN := aS (Kd.R_lower ho (below_size (sW HB.out))); have n2_ := aS (below_step (sW HB.out) hb); clear HO BK HB; have HO := n0_; have BK := n1_; have HB := n2_; clear n0_ n1_ n2_ hcz_0 hcz_1 hcz_2 hfz_0 hfz_1 hfz_2; have hcz_0 : w1.cell? ⟨g, 0, none⟩ = some (.slice A xs.length c) := (blk_cell BK.out 0).trans rfl; have hcz_1 : w1.cell? ⟨g, 1, none⟩ = some bv := (blk_cell BK.out 1).trans rfl; have hfz_0 := blk_frozen BK.out 0; have hfz_1 := blk_frozen BK.out 1)
     | ((with_reducible refine gate_builtin (b := .append) (xs := #[.tmp 27, .tmp 31]) rfl ?_); at_builtin; refine Kd.R_append_rows k140 (w0 := w0) w0.heap.size rfl (.tmp 27) (.tmp 31) 115 140 (.agg #[(.int .i64 0), (.int .i64 0), (.bool false)]) 24 rfl Try.underlying115 info140 rfl (by decide) (by omega) v1 [] xs _ _ _ (fun _ => True) (fun _ => False) rfl rfl ?aO ?aR (fun _ _ h => h) (fun _ h => h.elim) ?aF ?aB ?aS ?aL ?_; (case aR => exact sC (Kd.R_reads' HO.out).2.2); (case aB => exact (sW HB.out)); (case aF => exact (fun _ _ => trivial)); (case aO => exact (sR HN.out)); (case aS => exact (below_size (sW HB.out))); (case aL => simp only [List.length_nil]; omega); intro v2 w2 ho2 hb2 hgr hat; obtain ⟨A2, c2, rfl⟩ := Kd.R_slice ho2; have n0_ := aS (Kd.R_grown (sR HO.out) hgr (fun _ hk => hk.2)); have n1_ := aS (blk_grown (sB BK.out) hgr (Kd.R_ne HN.out BK.out (by decide))); clear HO BK HB; have HO := n0_; have BK := n1_; have HB := aS hb2; clear n0_ n1_ hcz_0 hcz_1 hfz_0 hfz_1; have hcz_1 : w2.cell? ⟨g, 1, none⟩ = some bv := (blk_cell BK.out 1).trans rfl;  have hcz_2 : w2.cell? ⟨g, 2, none⟩ = some (.int .i64 few) := (blk_cell BK.out 2).trans rfl; have hfz_1 := blk_frozen BK.out 1; have hfz_2 := blk_frozen BK.out 2))
    (try simp only [Exit.inBlock, Exit.then])
    refine bodyPost_ret (results_none rfl _ _ _) rfl ?_
    refine ⟨rfl, _, _, blk_put (cs := #[_, _, _]) (blk_put (cs := #[_, _, _]) (sB BK.out) 1 _ rfl) 2 _ rfl, ?_, ?_⟩
    · exact Kd.R_far (p := ⟨g, 2, none⟩) (Kd.R_far (p := ⟨g, 1, none⟩) (sR (Kd.R_mono HO.out (fun _ hk => hk.1))) (fun _ hk => hk) _) (fun _ hk => hk) _
    · exact below_set (below_set (sW HB.out) hg) hg
  · have h := HH.out
    clear HH
    rw [if_neg c3] at h
    have c3b : (left == 1) = false := beq_eq_false_iff_ne.mpr c3
    by_cases c4 : xs.length = 6
    · rw [if_pos c4] at h
      obtain rfl := Option.some.inj h
      clear h
      have c4b : ((xs.length : Int) == 6) = true := beq_iff_eq.mpr (by omega)
      go_wp2
      (try simp only [Exit.inBlock, Exit.then])
      refine bodyPost_ret (results_none rfl _ _ _) rfl ?_
      exact ⟨rfl, _, _, BK.out, HO.out, HB.out⟩
    · rw [if_neg c4] at h
      have c4b : ((xs.length : Int) == 6) = false := beq_eq_false_iff_ne.mpr (by omega)
      replace h := Option.bind_eq_some_iff.mp h
      obtain ⟨m, A1, h⟩ := h
      have AM := aS A1
      have H' := aS h
      clear A1 h
      go_wp2_with (first
       | ((with_reducible refine gate_callee (f := 97) rfl ?_); refine goesL_ (some 48) rfl rfl Try.func97 (by kernel_rfl) rfl #[.int .i64 most, .int .i64 left] rfl sG ?_; (with_reducible refine (spec_l00Min.calls most left m _ AM.out).mono ?_); rintro e w' ⟨rfl, ⟨nd, rfl⟩⟩; refine ⟨_, rfl, ?_⟩; replace BK := aS (blk_drewN BK.out nd); replace HO := aS (Kd.R_drewN HO.out nd); replace HB := aS (pw_below_drewN HB.out nd)))
      clear hcz_0 hcz_1 hcz_2 hfz_0 hfz_1 hfz_2
      go_loopg [9] k (fun kq v9 w' => ∃ (a fw : Int) (A1 : Option Addr) (c1 : Nat) (bv1 : Value), v9 = .int .i64 a ∧ Aside0 (spec_walk.l kq xs.length fw left blocks a = some r) ∧ Aside0 (kq ≤ k) ∧ Aside0 (w'.heap[g]? = some (.cells #[.slice A1 xs.length c1, bv1, .int .i64 fw] 143 (0, 0))) ∧ Aside0 (Kd.R k140 140 w' w0.heap.size (fun k_ => k_ ≠ g) (.slice A1 xs.length c1) xs) ∧ Aside0 (Below w0.heap.size w0 w'))
      case atStart => exact ⟨m, few, A, c, bv, rfl, H', ⟨Nat.le_refl _⟩, aS (sB BK.out), aS (sR HO.out), aS (sW HB.out)⟩
      case round =>
        clear H' AM BK HO HB
        obtain ⟨a, fw, A1, c1, bv1, rfl, HA, HK, BK, HO, HB⟩ := hrel
        cases gk with
        | zero => exact absurd HA.out (by simp [spec_walk.l])
        | succ k1 =>
        have H := HA.out
        clear HA
        simp only [spec_walk.l] at H
        by_cases c5 : a ≥ 2
        rotate_left
        · rw [if_neg c5] at H
          have c5b : decide (a ≥ 2) = false := decide_eq_false c5
          clear c5
          obtain rfl := Option.some.inj H
          clear H
          go_wp2
          go_end0
          exact ⟨rfl, _, _, sB BK.out, sR HO.out, sW HB.out⟩
        rw [if_pos c5] at H
        have c5b : decide (a ≥ 2) = true := decide_eq_true c5
        have hane : ¬ a = 0 := by omega
        have c50 : (a == 0) = false := beq_eq_false_iff_ne.mpr (by omega)
        by_cases c6 : Int.tmod left a = 0
        rotate_left
        · rw [if_neg c6] at H
          have c6c : (Int.tmod left a != 0) = true := bne_iff_ne.mpr c6
          have H' := aS H
          clear H
          go_wp2
          go_roundg k1
          case measure => have := HK.out; omega
          case rel => exact ⟨wrap64 (a - 1), fw, A1, c1, bv1, (by first | rfl | (simp; done) | (simp only [i64_w]; done)), H', ⟨by have := HK.out; omega⟩, aS (sB BK.out), aS (sR HO.out), aS (sW HB.out)⟩
        rw [if_pos c6] at H
        have c6c : (Int.tmod left a != 0) = false := bne_eq_false_iff_eq.mpr c6
        replace H := Option.bind_eq_some_iff.mp H
        obtain ⟨all, A2, H⟩ := H
        have AA := aS A2
        clear A2
        have HC := aS H
        clear H
        go_upto_if 61 with (first
         | ((with_reducible refine gate_callee (f := 120) rfl ?_); refine goesL_ (some 58) rfl rfl Try.func120 (by kernel_rfl) rfl #[.int .i64 a] rfl sG ?_; (with_reducible refine (spec_l05All.calls k1 a all _ AA.out).mono ?_); rintro e w5 ⟨v0, rfl, ho, hb⟩; refine ⟨_, rfl, ?_⟩; have HN := aS (Kd.R_lower (Kd.R_new' ho (Kd.R_lt (sR HO.out))) (below_size (sW HB.out))); have n0_ := aS (Kd.R_elder' (sR HO.out) (Kd.R_base ho) hb); have n1_ := aS (blk_below (sB BK.out) hb); have n2_ := aS (below_step (sW HB.out) hb); clear HO BK HB; have HO := n0_; have BK := n1_; have HB := n2_; clear n0_ n1_ n2_ ho hb; obtain ⟨A3, c3, rfl⟩ := Kd.R_slice HN.out))
        (try simp only [Act.put, List.setIfInBounds_toArray, List.set_cons_zero, List.set_cons_succ])
        by_cases c7 : all.length = 0
        · have H := HC.out
          rw [if_pos c7] at H
          have c7b : ((all.length : Int) == 0) = true := beq_iff_eq.mpr (by omega)
          have H' := aS H
          clear H HC
          go_wp2
          go_roundg k1
          case measure => have := HK.out; omega
          case rel => exact ⟨wrap64 (a - 1), fw, A1, c1, bv1, (by first | rfl | (simp; done) | (simp only [i64_w]; done)), H', ⟨by have := HK.out; omega⟩, aS (sB BK.out), aS (sR (Kd.R_mono HO.out (fun _ hk => hk.1))), aS (sW HB.out)⟩
        have H := HC.out
        rw [if_neg c7] at H
        clear HC
        have c7b : ((all.length : Int) == 0) = false := beq_eq_false_iff_ne.mpr (by omega)
        have q0 : (0 : Int) < (all.length : Int) := by omega
        replace H := Option.bind_eq_some_iff.mp H
        obtain ⟨cc, A4, H⟩ := H
        have AC := aS A4
        clear A4
        replace H := Option.bind_eq_some_iff.mp H
        obtain ⟨fw2, A5, H⟩ := H
        have AW := aS A5
        clear A5
        have H' := aS H
        clear H
        obtain ⟨ad, e_, hx_0, hx_1, hx_2⟩ := at_T140 (Kd.R_reads' HN.out).2.2 0 (by omega) q0
        subst e_
        have qi : (0 < all.length) = True := eq_true (by omega)
        rw [show ((0 : Int)).toNat = 0 from rfl, show 0 * 3 = 0 from rfl, Addr.add_zero'] at hx_0 hx_1 hx_2
        have hcz_0 : w5.cell? ⟨g, 0, none⟩ = some (.slice A1 xs.length c1) := (blk_cell BK.out 0).trans rfl
        have hfz_0 := blk_frozen BK.out 0
        go_upto_region 12 with (fail)
        obtain ⟨ys, hys⟩ : ∃ y_ : List (S140), y_ = xs ++ [rd_T140 all 0] := ⟨_, rfl⟩
        have Nys := aS hys
        clear hys
        have n0_ := aS (Kd.R_drew HO.out)
        have n1_ := aS (Kd.R_drew HN.out)
        have n2_ := aS (blk_drew BK.out)
        have n3_ := aS (below_drew1 HB.out)
        clear HO HN BK HB
        have HO := n0_; have HN := n1_; have BK := n2_; have HB := n3_
        clear n0_ n1_ n2_ n3_
        refine start_ (n := 13) (S := fun w' => w'.cell? ⟨g, 0, none⟩ = some (.slice A1 xs.length c1) ∧ w'.cell? ad = some (.int .i64 (rd_T140 all 0).f0) ∧ w'.cell? ⟨ad.block, ad.off + 1, none⟩ = some (.int .i64 (rd_T140 all 0).f1) ∧ w'.cell? ⟨ad.block, ad.off + 2, none⟩ = some (.bool (rd_T140 all 0).f2)) (ds := [12]) #[false, false, false, false, false, false, false, false, false, false, false, false, false] (by kernel_rfl) rfl rfl ⟨(blk_cell BK.out 0).trans rfl, hx_0, hx_1, hx_2⟩ (fun hHeld => ?_)
        clear hcz_0 hfz_0 hx_0 hx_1 hx_2
        generalize w5.drew = w6 at HO HN BK HB hHeld ⊢
        refine pure_ (i := 0) (N := (some 62)) (v := ?_) (a' := ?_) #[true, false, false, false, false, false, false, false, false, false, false, false, false] rfl rfl (by kernel_rfl) (fun _ _ _ h => h) (Or.inl ⟨by rfl, ?_⟩) ?_ ?_
        rotate_left
        · intro w'; go_simp; with_reducible rfl
        rotate_left
        · exact sP
        refine pure_ (i := 1) (N := (some 63)) (v := ?_) (a' := ?_) #[true, true, false, false, false, false, false, false, false, false, false, false, false] rfl rfl (by kernel_rfl) (fun _ _ _ h => h) (Or.inl ⟨by rfl, ?_⟩) ?_ ?_
        rotate_left
        · intro w'; go_simp; with_reducible rfl
        rotate_left
        · exact sP
        refine pure_ (i := 2) (N := (some 64)) (v := ?_) (a' := ?_) #[true, true, true, false, false, false, false, false, false, false, false, false, false] rfl rfl (by kernel_rfl) (fun _ _ _ h => h) (Or.inl ⟨by rfl, ?_⟩) ?_ ?_
        rotate_left
        · intro w'; go_simp; with_reducible rfl
        rotate_left
        · exact sP
        refine pure_ (i := 3) (N := (some 65)) (v := ?_) (a' := ?_) #[true, true, true, true, false, false, false, false, false, false, false, false, false] rfl rfl (by kernel_rfl) (fun _ _ _ h => h) (Or.inl ⟨by rfl, ?_⟩) ?_ ?_
        rotate_left
        · intro w'; go_simp; with_reducible rfl
        rotate_left
        · exact sP
        refine pure_ (i := 5) (N := (some 67)) (v := ?_) (a' := ?_) #[true, true, true, true, false, true, false, false, false, false, false, false, false] rfl rfl (by kernel_rfl) (fun _ _ _ h => h) (Or.inl ⟨by rfl, ?_⟩) ?_ ?_
        rotate_left
        · intro w'; go_simp; with_reducible rfl
        rotate_left
        · exact sP
        refine pure_ (i := 6) (N := (some 68)) (v := ?_) (a' := ?_) #[true, true, true, true, false, true, true, false, false, false, false, false, false] rfl rfl (by kernel_rfl) (fun _ _ _ h => h) (Or.inl ⟨by rfl, ?_⟩) ?_ ?_
        rotate_left
        · intro w'; go_simp; with_reducible rfl
        rotate_left
        · exact sP
        refine take_ (i := 4) (N := (some 66)) (v := ?_) (a' := ?_) #[true, true, true, true, true, true, true, false, false, false, false, false, false] rfl rfl (by kernel_rfl) (fun _ _ _ h => h) (Or.inl ⟨by rfl, ?_⟩) hHeld ?_ ?_
        rotate_left
        · rintro w' ⟨s0, s1, s2, s3⟩; go_simp; with_reducible rfl
        rotate_left
        · exact sP
        refine take_ (i := 7) (N := (some 69)) (v := ?_) (a' := ?_) #[true, true, true, true, true, true, true, true, false, false, false, false, false] rfl rfl (by kernel_rfl) (fun _ _ _ h => h) (Or.inl ⟨by rfl, ?_⟩) hHeld ?_ ?_
        rotate_left
        · rintro w' ⟨s0, s1, s2, s3⟩; go_simp; with_reducible rfl
        rotate_left
        · exact sP
        refine one_ (i := 8) (N := (some 70)) #[true, true, true, true, true, true, true, true, true, false, false, false, false] rfl rfl (by kernel_rfl) (by decide) (fun K hK => ?_)
        refine Kd.R_lit_step k140 _ 140 ?hg (N := 70) ?hd (xs := ([rd_T140 all 0] : List (S140))) (inner := [.int .i64 (rd_T140 all 0).f0, .int .i64 (rd_T140 all 0).f1, .bool (rd_T140 all 0).f2]) (ok := fun _ => True) (okp := fun _ => True) ?hr ?hp (fun _ hk => hk) trivial (Below.refl _ _) (Nat.le_refl _) (by simp) ?_; (case hd => rfl); (case hg => rfl); (case hr => first | (go_simp; done) | (go_simp; rfl)); (case hp => exact (Reps.c3 (k140_mkM _ _ _ (rd_T140 all 0)) (Reps.none _ _)))
        intro v8 w7 ho hb hg_ hnew_
        have n0_ := aS (Kd.R_elder' (sR HO.out) (Kd.R_base ho) hb)
        have n1_ := aS (blk_below (sB BK.out) hb)
        have n3_ := aS (Kd.R_below (sR HN.out) hb)
        have H8 := aS (Kd.R_lower ho (below_size (sW HB.out)))
        have n2_ := aS (below_step (sW HB.out) hb)
        clear HO BK HB HN
        have HO := n0_; have BK := n1_; have HB := n2_; have HN := n3_
        clear n0_ n1_ n2_ n3_ ho hb hg_ hnew_
        obtain ⟨A8, c8, rfl⟩ := Kd.R_slice H8.out
        refine hK.out _ _ ⟨(blk_cell BK.out 0).trans rfl, ?_⟩ (fun hHeld => ?_)
        · obtain ⟨ad2, e_, hy_0, hy_1, hy_2⟩ := at_T140 (Kd.R_reads' HN.out).2.2 0 (by omega) q0
          obtain rfl : ad = ad2 := (by injection e_)
          rw [show ((0 : Int)).toNat = 0 from rfl, show 0 * 3 = 0 from rfl, Addr.add_zero'] at hy_0 hy_1 hy_2
          exact ⟨hy_0, hy_1, hy_2⟩
        clear hK K
        refine norm_ (a' := ?_) ?_ ?_
        rotate_left
        · show Act.put _ (some 70) _ = _
          exact sP
        refine one_ (i := 9) (N := (some 71)) #[true, true, true, true, true, true, true, true, true, true, false, false, false] rfl rfl (by kernel_rfl) (by decide) (fun K hK => ?_)
        refine Kd.R_append_rows_step k140 (w0 := w0) w0.heap.size (by rfl) (.tmp 66) (.tmp 70) 115 140 (.agg #[(.int .i64 0), (.int .i64 0), (.bool false)]) 24 rfl Try.underlying115 info140 rfl (by decide) (by omega) (.slice A1 xs.length c1) xs [rd_T140 all 0] _ _ _ (fun k_ => k_ ≠ g) (fun _ => False) rfl rfl ?aO ?aR (fun _ _ h => h) (fun _ h => h.elim) ?aF ?aB ?aS ?aL ?_
        (case aR => exact sC (Kd.R_reads' H8.out).2.2)
        (case aB => exact (sW HB.out))
        (case aF => exact (fun k_ hk => Kd.freshB (sB BK.out) k_ hk))
        (case aO => exact (sR (Kd.R_mono HO.out (fun _ hk => hk.1.1))))
        (case aS => exact (below_size (sW HB.out)))
        (case aL => simp only [List.length_cons, List.length_nil]; omega)
        intro v9 w8 ho hb hgr hat
        rw [← Nys.out] at ho
        have n0_ := aS (blk_grown (sB BK.out) hgr (Kd.R_ne HO.out BK.out (by decide)))
        have n1_ := aS (Kd.R_grown (sR HN.out) hgr (fun _ hk => hk.2))
        clear BK HB HN HO H8
        have BK := n0_; have HN := n1_; have HB := aS hb; have HO := aS ho
        clear n0_ n1_ ho hb hgr hat
        refine hK.out _ _ ⟨(blk_cell BK.out 0).trans rfl, ?_⟩ (fun hHeld => ?_)
        · obtain ⟨ad2, e_, hy_0, hy_1, hy_2⟩ := at_T140 (Kd.R_reads' HN.out).2.2 0 (by omega) q0
          obtain rfl : ad = ad2 := (by injection e_)
          rw [show ((0 : Int)).toNat = 0 from rfl, show 0 * 3 = 0 from rfl, Addr.add_zero'] at hy_0 hy_1 hy_2
          exact ⟨hy_0, hy_1, hy_2⟩
        clear hK K
        obtain ⟨A9, c9, rfl⟩ := Kd.R_slice HO.out
        refine norm_ (a' := ?_) ?_ ?_
        rotate_left
        · show Act.put _ (some 71) _ = _
          exact sP
        refine pure_ (i := 10) (N := (some 72)) (v := ?_) (a' := ?_) #[true, true, true, true, true, true, true, true, true, true, true, false, false] rfl rfl (by kernel_rfl) (fun _ _ _ h => h) (Or.inl ⟨by rfl, ?_⟩) ?_ ?_
        rotate_left
        · intro w'; go_simp; with_reducible rfl
        rotate_left
        · exact sP
        refine pure_ (i := 11) (N := (some 73)) (v := ?_) (a' := ?_) #[true, true, true, true, true, true, true, true, true, true, true, true, false] rfl rfl (by kernel_rfl) (fun _ _ _ h => h) (Or.inl ⟨by rfl, ?_⟩) ?_ ?_
        rotate_left
        · intro w'; go_simp; with_reducible rfl
        rotate_left
        · exact sP
        refine last_ (i := 12) (N := none) #[true, true, true, true, true, true, true, true, true, true, true, true, true] rfl rfl (by kernel_rfl) (by decide) (fun K hK => ?_)
        have hs_ : w8.cell? ⟨g, 0, none⟩ = some (.slice A1 xs.length c1) := (blk_cell BK.out 0).trans rfl
        have hfs_ := blk_frozen BK.out 0
        refine skip_ (w1 := ?_) (by rfl) rfl ?_ ?_
        rotate_left
        · go_simp; rfl
        refine hK.out _ _ ?_
        clear hK K
        refine done_ (by kernel_rfl) ?_
        replace HN := aS (Kd.R_far (p := ⟨g, 0, none⟩) (Kd.R_types HN.out BK.out (by decide)) (fun _ hk => hk.2) (.slice A9 ys.length c9))
        replace BK := aS (blk_put (cs := #[_, _, _]) BK.out 0 (.slice A9 ys.length c9) rfl)
        replace HO := aS (Kd.R_far (p := ⟨g, 0, none⟩) HO.out (fun _ hk => hk) (.slice A9 ys.length c9))
        replace HB := aS (below_set (sW HB.out) hg (v := .slice A9 ys.length c9) (j := 0))
        clear hHeld
        generalize (w8.setCell ⟨g, 0, none⟩ (.slice A9 ys.length c9)) = w9 at HN BK HO HB ⊢
        go_upto_region 13 with (fail)
        replace HN := aS (Kd.R_drew HN.out)
        replace BK := aS (blk_drew BK.out)
        replace HO := aS (Kd.R_drew HO.out)
        replace HB := aS (below_drew1 HB.out)
        refine start_ (n := 11) (S := fun _ => True) (ds := []) #[false, false, false, false, false, false, false, false, false, false, false] (by kernel_rfl) rfl rfl trivial (fun hHeld => ?_)
        generalize w9.drew = w10 at HN BK HO HB ⊢
        refine pure_ (i := 0) (N := (some 74)) (v := ?_) (a' := ?_) #[true, false, false, false, false, false, false, false, false, false, false] rfl rfl (by kernel_rfl) (fun _ _ _ h => h) (Or.inl ⟨by rfl, ?_⟩) ?_ ?_
        rotate_left
        · intro w'; go_simp; with_reducible rfl
        rotate_left
        · exact sP
        refine pure_ (i := 1) (N := (some 75)) (v := ?_) (a' := ?_) #[true, true, false, false, false, false, false, false, false, false, false] rfl rfl (by kernel_rfl) (fun _ _ _ h => h) (Or.inl ⟨by rfl, ?_⟩) ?_ ?_
        rotate_left
        · intro w'; go_simp; with_reducible rfl
        rotate_left
        · exact sP
        refine pure_ (i := 2) (N := (some 76)) (v := ?_) (a' := ?_) #[true, true, true, false, false, false, false, false, false, false, false] rfl rfl (by kernel_rfl) (fun _ _ _ h => h) (Or.inl ⟨by rfl, ?_⟩) ?_ ?_
        rotate_left
        · intro w'; go_simp; with_reducible rfl
        rotate_left
        · exact sP
        refine pure_ (i := 3) (N := (some 77)) (v := ?_) (a' := ?_) #[true, true, true, true, false, false, false, false, false, false, false] rfl rfl (by kernel_rfl) (fun _ _ _ h => h) (Or.inl ⟨by rfl, ?_⟩) ?_ ?_
        rotate_left
        · intro w'; go_simp; with_reducible rfl
        rotate_left
        · exact sP
        refine pure_ (i := 4) (N := (some 78)) (v := ?_) (a' := ?_) #[true, true, true, true, true, false, false, false, false, false, false] rfl rfl (by kernel_rfl) (fun _ _ _ h => h) (Or.inl ⟨by rfl, ?_⟩) ?_ ?_
        rotate_left
        · intro w'; go_simp; with_reducible rfl
        rotate_left
        · exact sP
        refine pure_ (i := 5) (N := (some 79)) (v := ?_) (a' := ?_) #[true, true, true, true, true, true, false, false, false, false, false] rfl rfl (by kernel_rfl) (fun _ _ _ h => h) (Or.inl ⟨by rfl, ?_⟩) ?_ ?_
        rotate_left
        · intro w'; go_simp; with_reducible rfl
        rotate_left
        · exact sP
        refine pure_ (i := 6) (N := (some 80)) (v := ?_) (a' := ?_) #[true, true, true, true, true, true, true, false, false, false, false] rfl rfl (by kernel_rfl) (fun _ _ _ h => h) (Or.inl ⟨by rfl, ?_⟩) ?_ ?_
        rotate_left
        · intro w'; go_simp; with_reducible rfl
        rotate_left
        · exact sP
        refine pure_ (i := 7) (N := (some 81)) (v := ?_) (a' := ?_) #[true, true, true, true, true, true, true, true, false, false, false] rfl rfl (by kernel_rfl) (fun _ _ _ h => h) (Or.inl ⟨by rfl, ?_⟩) ?_ ?_
        rotate_left
        · intro w'; go_simp; with_reducible rfl
        rotate_left
        · exact sP
        refine one_ (i := 8) (N := (some 82)) #[true, true, true, true, true, true, true, true, true, false, false] rfl rfl (by kernel_rfl) (by decide) (fun K hK => ?_)
        refine goes_ Try.func121 (by kernel_rfl) rfl #[.pointer (some ad)] (by rfl) rfl rfl sG ?_
        with_reducible refine (spec_l05CountAt.calls (some ad) c3 all cc _ ?side1 ?side2 AC.out).mono ?_
        (case side1 => exact sC (Kd.R_reads' HN.out).2.2)
        (case side2 => exact (Kd.R_reads' HN.out).2.1)
        rintro e w' ⟨rfl, ⟨nd2, rfl⟩⟩
        refine ⟨_, rfl, ?_⟩
        replace BK := aS (blk_drewN BK.out nd2)
        replace HO := aS (Kd.R_drewN HO.out nd2)
        replace HB := aS (pw_below_drewN HB.out nd2)
        generalize w10.drewN nd2 = w11 at BK HO HB ⊢
        refine hK.out _ _ trivial (fun hHeld => ?_)
        clear hK K
        refine norm_ (a' := ?_) ?_ ?_
        rotate_left
        · show Act.put _ (some 82) _ = _
          exact sP
        refine pure_ (i := 9) (N := (some 83)) (v := ?_) (a' := ?_) #[true, true, true, true, true, true, true, true, true, true, false] rfl rfl (by kernel_rfl) (fun _ _ _ h => h) (Or.inl ⟨by rfl, ?_⟩) ?_ ?_
        rotate_left
        · intro w'; go_simp; with_reducible rfl
        rotate_left
        · exact sP
        refine one_ (i := 10) (N := (some 84)) #[true, true, true, true, true, true, true, true, true, true, true] rfl rfl (by kernel_rfl) (by decide) (fun K hK => ?_)
        refine goes_ Try.func107 (by kernel_rfl) rfl #[.pointer (some ⟨g, 0, none⟩), .int .i64 (wrap64 (Int.tdiv left a)), .int .i64 a, .int .i64 (wrap64 (blocks + cc))] (by rfl) rfl rfl sG ?_
        refine (ih k1 (by have := HK.out; omega) (xs.length + 1) fw _ a _ fw2 w0 _ g ys hg ⟨_, _, BK.out, HO.out, HB.out⟩ (by rw [Nys.out]; simp) (by omega) AW.out).mono ?_
        rintro e w12 ⟨rfl, lv2, bv2, hBK2, hL2, hB2⟩
        refine ⟨_, rfl, ?_⟩
        replace BK := aS hBK2
        replace HO := aS hL2
        replace HB := aS hB2
        clear hBK2 hL2 hB2
        refine hK.out _ _ trivial (fun hHeld => ?_)
        clear hK K
        obtain ⟨A13, c13, rfl⟩ := Kd.R_slice HO.out
        refine norm_ (a' := ?_) ?_ ?_
        rotate_left
        · show Act.put _ (some 84) _ = _
          exact sP
        refine done_ (by kernel_rfl) ?_
        have hlen : ys.length = xs.length + 1 := by rw [Nys.out]; simp
        have hcap : ys.length ≤ c13 := (Kd.R_reads' HO.out).2.1
        have hcz_0 : w12.cell? ⟨g, 0, none⟩ = some (.slice A13 ys.length c13) := (blk_cell BK.out 0).trans rfl
        have hfz_0 := blk_frozen BK.out 0
        have HT := aS (Kd.R_take (m := xs.length) HO.out (by omega))
        have ht : ys.take xs.length = xs := by rw [Nys.out]; simp
        rw [ht] at HT
        have hcl : xs.length ≤ c13 := by omega
        clear hlen ht hHeld
        have Ncap := aS hcap
        clear hcap
        go_wp2
        go_roundg k1
        case measure => have := HK.out; omega
        case rel => exact ⟨wrap64 (a - 1), fw2, A13, c13, bv2, (by first | rfl | (simp; done) | (simp only [i64_w]; done)), H', ⟨by have := HK.out; omega⟩, aS (sB (blk_put (cs := #[_, _, _]) BK.out 0 (.slice A13 xs.length c13) rfl)), aS (sR (Kd.R_far (p := ⟨g, 0, none⟩) HT.out (fun _ hk => hk) (.slice A13 xs.length c13))), aS (below_set (sW HB.out) hg)⟩)
def spec_l05Best.f (k : Nat) (a0 : Int) : Option Int := if a0 = 1 then some 1 else spec_walk.f k 0 (-1) a0 9 0
set_option maxHeartbeats 8000000 in
set_option maxRecDepth 100000 in
theorem spec_l05Best.calls (k : Nat) (a0 r : Int) (w : World) (h : spec_l05Best.f k a0 = some r) :
    Calls Try.prog 84 #[.int .i64 a0] w fun e w' => (∃ v : Value, e = .returned (.tuple #[v, .int .i64 r])) ∧ Below w.heap.size w w' := by
 unfold spec_l05Best.f at h
 have HB := aS (Below.refl w.heap.size w)
 by_cases c1 : a0 = 1
 · rw [if_pos c1] at h
   have c1b : (a0 == 1) = true := beq_iff_eq.mpr c1
   obtain rfl := Option.some.inj h
   clear h
   go_enter Try.func84, Try.ntmps84
   go_wp2
   go_ret2
   exact ⟨⟨_, rfl⟩, sW HB.out⟩
 · rw [if_neg c1] at h
   have c1b : (a0 == 1) = false := beq_eq_false_iff_ne.mpr c1
   have AW := aS h
   clear h
   go_enter Try.func84, Try.ntmps84
   go_wp2_with (first
     | ((with_reducible refine gate_dst (N := 9) rfl ?_); refine Kd.R_lit k140 _ 140 ?hg (N := 9) ?hd (xs := ([] : List (S140))) (inner := []) (ok := fun _ => True) (okp := fun _ => True) ?hr ?hp (fun _ hk => hk) trivial (Below.refl _ _) (Nat.le_refl _) (by simp) ?_; (case hd => rfl); (case hg => rfl); (case hr => first | (go_simp; done) | (go_simp; rfl)); (case hp => exact (Reps.none _ _)); intro v1 w1 ho hb hg_ hnew_; have HO := aS ho; replace HB := aS hb; clear ho hb hg_ hnew_; obtain ⟨A1, c1_, rfl⟩ := Kd.R_slice HO.out)
     | ((with_reducible refine gate_dst (N := 10) rfl ?_); refine Kd.R_lit k140 _ 140 ?hg (N := 10) ?hd (xs := ([] : List (S140))) (inner := []) (ok := fun _ => True) (okp := fun _ => True) ?hr ?hp (fun _ hk => hk) trivial (Below.refl _ _) (Nat.le_refl _) (by simp) ?_; (case hd => rfl); (case hg => rfl); (case hr => first | (go_simp; done) | (go_simp; rfl)); (case hp => exact (Reps.none _ _)); intro v2 w2 ho hb hg_ hnew_; replace HO := aS (Kd.R_below (sR HO.out) hb); replace HB := aS (below_step (sW HB.out) hb); obtain ⟨A2, c2_, rfl⟩ := Kd.R_slice ho; clear ho hb hg_ hnew_)
     | ((with_reducible refine gate_dst (N := 12) rfl ?_); refine box_event ?hg (N := 12) ?hd (cs := #[.slice A1 ([] : List S140).length c1_, .slice A2 ([] : List S140).length c2_, .int .i64 (-1)]) (t := 143) ?hr ?_; (case hd => rfl); (case hg => rfl); (case hr => first | (go_simp; done) | (go_simp; rfl)); intro gb hg w3 hbox hb; have hgW : w.heap.size ≤ gb := (by rw [hg]; exact (below_size (sW HB.out))); replace HO := aS (Kd.R_below (Kd.R_elderB (sR HO.out) gb (Nat.le_of_eq hg.symm)) hb); replace HB := aS (below_step (sW HB.out) hb); have BK := aS hbox; clear hb hg hbox)
     | ((with_reducible refine gate_callee (f := 107) rfl ?_); refine goesL_ (some 15) rfl rfl Try.func107 (by kernel_rfl) rfl #[.pointer (some ⟨gb, 0, none⟩), .int .i64 a0, .int .i64 9, .int .i64 0] rfl sG ?_; refine (spec_walk.calls k 0 (-1) a0 9 0 r w _ gb [] hgW ⟨_, _, BK.out, Kd.R_mono HO.out (fun _ hk => hk.2), HB.out⟩ rfl (by omega) AW.out).mono ?_; rintro e w4 ⟨rfl, lv4, bv4, hBK4, hL4, hB4⟩; refine ⟨_, rfl, ?_⟩; replace BK := aS hBK4; replace HB := aS hB4; clear HO hBK4 hL4 hB4; have hcz_1 : w4.cell? ⟨gb, 1, none⟩ = some bv4 := (blk_cell BK.out 1).trans rfl; have hcz_2 : w4.cell? ⟨gb, 2, none⟩ = some (.int .i64 r) := (blk_cell BK.out 2).trans rfl))
   repeat (go_quiet (fail); try go_wp2)
   go_ret2
   exact ⟨⟨_, rfl⟩, sW HB.out⟩
def spec_FewestBlocks.f (k : Nat) (a0 : Int) : Option (Int × Int) := (spec_l05Wanted.f a0).bind fun t => if t = true then (spec_l05Best.f k a0).bind fun few => (if few < 0 then some (0, 3) else some (few, 0)) else some (0, 2)
set_option maxHeartbeats 8000000 in
set_option maxRecDepth 100000 in
theorem spec_FewestBlocks.calls (k : Nat) (a0 r1 r2 : Int) (w : World) (h : spec_FewestBlocks.f k a0 = some (r1, r2)) :
    Calls Try.prog 40 #[.int .i64 a0] w fun e w' => e = .returned (.tuple #[.int .i64 r1, .int .i64 r2]) ∧ Below w.heap.size w w' := by
 unfold spec_FewestBlocks.f at h
 have HB := aS (Below.refl w.heap.size w)
 replace h := Option.bind_eq_some_iff.mp h
 obtain ⟨t, A1, h⟩ := h
 have AT := aS A1
 have HH := aS h
 clear A1 h
 go_enter Try.func40, Try.ntmps40
 go_upto_if 8 with (first
   | ((with_reducible refine gate_callee (f := 83) rfl ?_); refine goesL_ (some 7) rfl rfl Try.func83 (by kernel_rfl) rfl #[.int .i64 a0] rfl sG ?_; (with_reducible refine (spec_l05Wanted.calls a0 t _ AT.out).mono ?_); rintro e w' ⟨rfl, ⟨nd, rfl⟩⟩; refine ⟨_, rfl, ?_⟩))
 (try simp only [Act.put, List.setIfInBounds_toArray, List.set_cons_zero, List.set_cons_succ])
 have h := HH.out
 clear HH
 by_cases c1 : t = true
 rotate_left
 · rw [if_neg c1] at h
   replace c1 := Bool.eq_false_iff.mpr c1
   subst c1
   simp only [Option.some.injEq, Prod.mk.injEq] at h
   obtain ⟨rfl, rfl⟩ := h
   go_wp2
   repeat (go_quiet (fail); try go_wp2)
   go_ret2
   exact ⟨rfl, sW HB.out⟩
 rw [if_pos c1] at h
 subst c1
 replace h := Option.bind_eq_some_iff.mp h
 obtain ⟨few, A2, h⟩ := h
 have AB := aS A2
 have HH := aS h
 clear A2 h
 go_upto_if 15 with (first
   | ((with_reducible refine gate_callee (f := 84) rfl ?_); refine goesL_ (some 11) rfl rfl Try.func84 (by kernel_rfl) rfl #[.int .i64 a0] rfl sG ?_; (with_reducible refine (spec_l05Best.calls k a0 few _ AB.out).mono ?_); rintro e w5 ⟨⟨v5, rfl⟩, hb⟩; refine ⟨_, rfl, ?_⟩; replace HB := aS (below_step (sW HB.out) hb); clear hb))
 (try simp only [Act.put, List.setIfInBounds_toArray, List.set_cons_zero, List.set_cons_succ])
 have h := HH.out
 clear HH
 by_cases c2 : few < 0
 · rw [if_pos c2] at h
   have c2b : decide (few < 0) = true := decide_eq_true c2
   simp only [Option.some.injEq, Prod.mk.injEq] at h
   obtain ⟨rfl, rfl⟩ := h
   go_wp2
   repeat (go_quiet (fail); try go_wp2)
   go_ret2
   exact ⟨rfl, sW HB.out⟩
 · rw [if_neg c2] at h
   have c2b : decide (few < 0) = false := decide_eq_false c2
   simp only [Option.some.injEq, Prod.mk.injEq] at h
   obtain ⟨rfl, rfl⟩ := h
   go_wp2
   repeat (go_quiet (fail); try go_wp2)
   go_ret2
   exact ⟨rfl, sW HB.out⟩

end Go.Proofs.Ytginmioklkcgbaa.QFnExactFewestBlocks

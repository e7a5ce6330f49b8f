/- What the Go functions of this law compute, each as a Lean function, and that each call comes to that answer; written by a program of this session. No condition. -/
import Derived.Test.YtjhlliacgkjhaaaVShn
import Derived.Test.YtjhlliacgkjhaaaVQFnExactJoinLinesx13
namespace Go.Proofs.Ytjhlliacgkjhaaa.QFnExactJoinLines
open Go.RowKit Go.Proofs.YtjhlliacgkjhaaaW.PrintWords Go.Proofs.YtjhlliacgkjhaaaW.PrintLast Go.Proofs.YtjhlliacgkjhaaaW.PrintMore
attribute [local go_sem] max2_int min2_int max_two min_two max_three min_three max_four min_four   -- for this text's walks alone
set_option linter.unusedVariables false
set_option linter.unusedSimpArgs false

def laws_FnExactJoinLines.T11 : Bool × List (List Nat × List Nat) := (true, [([], []), ([0], [0]), ([], []), ([2, 1], [2]), ([], []), ([4, 3], [4]), ([], []), ([1, 3, 5, 6, 5], [1, 3, 5, 6]), ([7], [7]), ([8], [8]), ([8], [8]), ([], []), ([11, 9, 7, 0, 1, 2, 3, 4, 5, 6, 7, 8, 9, 11], [9, 11]), ([10, 12, 0, 1, 2, 3, 4, 5, 6, 7, 8, 9, 10, 11, 12], [10])])
def laws_FnExactJoinLines.B11 : List Nat := [0, 1, 0, 7, 0, 31, 0, 127, 255, 511, 511, 0, 3071, 8191]
theorem laws_FnExactJoinLines.tab11 : rtab .any (opsOf Try.f4 11) = laws_FnExactJoinLines.T11 := by kernel_rfl
theorem laws_FnExactJoinLines.bits11 : waitsOk laws_FnExactJoinLines.T11.2 laws_FnExactJoinLines.B11 = true := by kernel_rfl
def laws_FnExactJoinLines.T38 : Bool × List (List Nat × List Nat) := (true, [([], []), ([0], [0]), ([], []), ([2, 1], [2]), ([], []), ([4, 3], [4]), ([], []), ([1, 3, 5, 6, 5], [1, 3, 5, 6]), ([7], [7]), ([8], [8]), ([8], [8]), ([], []), ([11, 9, 7, 0, 1, 2, 3, 4, 5, 6, 7, 8, 9, 11], [9, 11]), ([10, 12, 0, 1, 2, 3, 4, 5, 6, 7, 8, 9, 10, 11, 12], [10])])
def laws_FnExactJoinLines.B38 : List Nat := [0, 1, 0, 7, 0, 31, 0, 127, 255, 511, 511, 0, 3071, 8191]
theorem laws_FnExactJoinLines.tab38 : rtab .any (opsOf Try.f4 38) = laws_FnExactJoinLines.T38 := by kernel_rfl
theorem laws_FnExactJoinLines.bits38 : waitsOk laws_FnExactJoinLines.T38.2 laws_FnExactJoinLines.B38 = true := by kernel_rfl
def laws_FnExactJoinLines.bF (n k : Nat) : Array Bool := ((List.range n).map fun i => k.testBit i).toArray
set_option maxHeartbeats 8000000 in
set_option maxRecDepth 100000 in
theorem laws_FnExactJoinLines.calls (k : Nat) (A0 : Option Addr) (c0 : Nat) (l0 : List (S68)) (A1_0 : Option Addr) (c1_0 : Nat) (l1_0 : List (S94)) (A1_1 : Option Addr) (c1_1 : Nat) (l1_1 : List Int) (A2_0 : Option Addr) (c2_0 : Nat) (l2_0 : List (S94)) (A2_1 : Option Addr) (c2_1 : Nat) (l2_1 : List Int) (a3 : Int) (r : Bool) (w : World) (hr0 : Kd.C k68 w A0 l0.length l0) (hc0 : l0.length ≤ c0) (hr1_0 : Kd.C k94 w A1_0 l1_0.length l1_0) (hc1_0 : l1_0.length ≤ c1_0) (hr1_1 : Kd.C (Kd.int .i64) w A1_1 l1_1.length l1_1) (hc1_1 : l1_1.length ≤ c1_1) (hr2_0 : Kd.C k94 w A2_0 l2_0.length l2_0) (hc2_0 : l2_0.length ≤ c2_0) (hr2_1 : Kd.C (Kd.int .i64) w A2_1 l2_1.length l2_1) (hc2_1 : l2_1.length ≤ c2_1) (h : laws_FnExactJoinLines.f k l0 l1_0 l1_1 l2_0 l2_1 a3 = some r) :
  Calls Try.prog 4 #[.slice A0 l0.length c0, .agg #[.slice A1_0 l1_0.length c1_0, .slice A1_1 l1_1.length c1_1], .agg #[.slice A2_0 l2_0.length c2_0, .slice A2_1 l2_1.length c2_1], .int .i64 a3] w fun e w' => e = .returned (.bool r) ∧ Below w.heap.size w w' := by
 have hu40 := Try.underlying40
 have hu45 := Try.underlying45
 have HR0 := aS hr0
 have HC0 := aS hc0
 clear hr0 hc0
 have HR1_0 := aS hr1_0
 have HC1_0 := aS hc1_0
 clear hr1_0 hc1_0
 have HR1_1 := aS hr1_1
 have HC1_1 := aS hc1_1
 clear hr1_1 hc1_1
 have HR2_0 := aS hr2_0
 have HC2_0 := aS hc2_0
 clear hr2_0 hc2_0
 have HR2_1 := aS hr2_1
 have HC2_1 := aS hc2_1
 clear hr2_1 hc2_1
 have HB := aS (Below.refl w.heap.size w)
 have H : ((laws_szJoinS.f k l0 1048576).bind fun t341 => (if t341 < 0 then (some true) else ((laws_szLine.f l1_0 l1_1 t341).bind fun t342 => (if t342 < 0 then (some true) else ((laws_szLine.f l2_0 l2_1 t342).bind fun t343 => (if t343 < 0 then (some true) else ((laws_toJoinS.f k l0).bind fun t344 => ((laws_toLine.f k l1_0 l1_1).bind fun bt347 => ((laws_toLine.f k l2_0 l2_1).bind fun bt353 => ((spec_JoinLines.f k t344 bt347.1 bt347.2 bt353.1 bt353.2 a3).bind fun bt359 => ((laws_toJoinS.f k l0).bind fun t367 => ((laws_toLine.f k l1_0 l1_1).bind fun bt370 => ((laws_toLine.f k l2_0 l2_1).bind fun bt377 => ((impl_JoinLines.f k t367 bt370.1 bt370.2 bt377.1 bt377.2 a3).bind fun bt384 => ((laws_eqLine.f k bt384.1 bt384.2.1 bt359.1 bt359.2.1).bind fun t392 => (if t392 = true then (laws_FnExactJoinLines.j0 k l0 a3 bt359.2.2 t367 bt384.2.2 (bt384.2.2 != bt359.2.2) l1_0 l1_1 l2_0 l2_1 bt359.1 bt359.2.1 bt370.1 bt370.2 bt377.1 bt377.2 bt384.1 bt384.2.1) else (laws_FnExactJoinLines.j0 k l0 a3 bt359.2.2 t367 bt384.2.2 true l1_0 l1_1 l2_0 l2_1 bt359.1 bt359.2.1 bt370.1 bt370.2 bt377.1 bt377.2 bt384.1 bt384.2.1))))))))))))))))) = some r := h
 clear h
 replace H := Option.bind_eq_some_iff.mp H
 obtain ⟨t341, A50, H⟩ := H
 try dsimp only at H
 have A5 := aS A50
 clear A50
 have HC6 := aS H
 clear H
 go_enter Try.func4, Try.ntmps4
 go_upto_if 26 with (first | ((with_reducible refine gate_dst (N := 5) rfl ?_); refine box_event ?hg (N := 5) ?hd (cs := #[.slice A1_0 l1_0.length c1_0, .slice A1_1 l1_1.length c1_1]) (t := 40) ?hr ?_; (case hd => rfl); (case hg => rfl); (case hr => first | (go_simp; done) | (go_simp; rfl)); intro gb339 hg w7 hbox hb; have BK339 := aS (hbox); have GW339 := aS (gW hg (sW HB.out)); have GE339 := aS (gW hg (sW HB.out)); replace HB := aS (below_step (sW HB.out) hb); clear hb hbox hg) | ((with_reducible refine gate_dst (N := 6) rfl ?_); refine box_event ?hg (N := 6) ?hd (cs := #[.slice A2_0 l2_0.length c2_0, .slice A2_1 l2_1.length c2_1]) (t := 40) ?hr ?_; (case hd => rfl); (case hg => rfl); (case hr => first | (go_simp; done) | (go_simp; rfl)); intro gb340 hg w8 hbox hb; have BK340 := aS (hbox); have GW340 := aS (gW hg (sW HB.out)); have GE340 := aS (gW hg (sW HB.out)); replace HB := aS (below_step (sW HB.out) hb); have NB339_340 := aS (nL hg (sB BK339.out)); have NB340_339 := aS (nG hg (sB BK339.out)); replace BK339 := aS (blk_below (sB BK339.out) hb); clear hb hbox hg) | ((with_reducible refine gate_callee (f := 12) rfl ?_); refine goesL_ (some 24) rfl rfl Try.func12 (by kernel_rfl) rfl #[.slice A0 l0.length c0, .int .i64 1048576] rfl sG ?_; (with_reducible refine (laws_szJoinS.calls k _ _ l0 1048576 t341 _ ?side1 ?side2 A5.out).mono ?_); (case side1 => exact sC (Kd.C_below HR0.out HB.out)); (case side2 => exact HC0.out); rintro e w9 ⟨rfl, hb⟩; refine ⟨_, rfl, ?_⟩; replace BK339 := aS (blk_below (sB BK339.out) hb); replace BK340 := aS (blk_below (sB BK340.out) hb); replace HB := aS (below_step (sW HB.out) hb); (try clear hb); (try clear hb2); (try clear hk); (try clear hi)))
 (try simp only [Act.put, List.setIfInBounds_toArray, List.set_cons_zero, List.set_cons_succ])
 have H := HC6.out
 clear HC6
 by_cases c10 : t341 < 0
 ·
  rw [if_pos c10] at H
  have c10b0 : decide (t341 < 0) = true := decide_eq_true c10
  clear c10
  (first | rw [c10b0] | (simp only [i64_w, i32_w]; rw [c10b0]) | (rw [c10b2]; simp only [Bool.not_false, Bool.not_true]) | skip)
  obtain rfl := Option.some.inj H
  go_wp2
  go_ret
  exact ⟨by first | rfl | (simp [errW_none, errW_some, i64_w]; done) | (simp [errW_none, errW_some] <;> rfl) | (simp [*, errW_none, errW_some] <;> rfl), by repeat (first | (with_reducible first | exact HB.out | apply below_alloc | apply pw_below_drewN | apply below_drew1) | exact HB.out)⟩
 ·
  rw [if_neg c10] at H
  have c10b0 : decide (t341 < 0) = false := decide_eq_false c10
  clear c10
  (first | rw [c10b0] | (simp only [i64_w, i32_w]; rw [c10b0]) | (rw [c10b2]; simp only [Bool.not_false, Bool.not_true]) | skip)
  replace H := Option.bind_eq_some_iff.mp H
  obtain ⟨t342, A110, H⟩ := H
  try dsimp only at H
  have A11 := aS A110
  clear A110
  have HC12 := aS H
  clear H
  have hnb13 := NB339_340.out
  have hnc13 := NB340_339.out
  have hcz14_0 : w9.cell? ⟨gb339, 0, none⟩ = some (.slice A1_0 l1_0.length c1_0) := (blk_cell BK339.out 0).trans rfl
  have hcz14_1 : w9.cell? ⟨gb339, 1, none⟩ = some (.slice A1_1 l1_1.length c1_1) := (blk_cell BK339.out 1).trans rfl
  have hfz14_0 := blk_frozen BK339.out 0
  have hfz14_1 := blk_frozen BK339.out 1
  go_upto_if 31 with (first | ((with_reducible refine gate_callee (f := 13) rfl ?_); refine goesL_ (some 29) rfl rfl Try.func13 (by kernel_rfl) rfl #[.agg #[.slice A1_0 l1_0.length c1_0, .slice A1_1 l1_1.length c1_1], .int .i64 t341] rfl sG ?_; (with_reducible refine (laws_szLine.calls _ _ l1_0 _ _ l1_1 t341 t342 _ ?side1 ?side2 ?side3 ?side4 A11.out).mono ?_); (case side1 => exact sC (Kd.C_below HR1_0.out HB.out)); (case side2 => exact HC1_0.out); (case side3 => exact sC (Kd.C_below HR1_1.out HB.out)); (case side4 => exact HC1_1.out); rintro e w15 ⟨rfl, hb⟩; refine ⟨_, rfl, ?_⟩; replace BK339 := aS (blk_below (sB BK339.out) hb); replace BK340 := aS (blk_below (sB BK340.out) hb); replace HB := aS (below_step (sW HB.out) hb); (try clear hb); (try clear hb2); (try clear hk); (try clear hi)))
  (try simp only [Act.put, List.setIfInBounds_toArray, List.set_cons_zero, List.set_cons_succ])
  have H := HC12.out
  clear HC12
  by_cases c16 : t342 < 0
  ·
   rw [if_pos c16] at H
   have c16b0 : decide (t342 < 0) = true := decide_eq_true c16
   clear c16
   (first | rw [c16b0] | (simp only [i64_w, i32_w]; rw [c16b0]) | (rw [c16b2]; simp only [Bool.not_false, Bool.not_true]) | skip)
   obtain rfl := Option.some.inj H
   go_wp2
   go_ret
   exact ⟨by first | rfl | (simp [errW_none, errW_some, i64_w]; done) | (simp [errW_none, errW_some] <;> rfl) | (simp [*, errW_none, errW_some] <;> rfl), by repeat (first | (with_reducible first | exact HB.out | apply below_alloc | apply pw_below_drewN | apply below_drew1) | exact HB.out)⟩
  ·
   rw [if_neg c16] at H
   have c16b0 : decide (t342 < 0) = false := decide_eq_false c16
   clear c16
   (first | rw [c16b0] | (simp only [i64_w, i32_w]; rw [c16b0]) | (rw [c16b2]; simp only [Bool.not_false, Bool.not_true]) | skip)
   replace H := Option.bind_eq_some_iff.mp H
   obtain ⟨t343, A170, H⟩ := H
   try dsimp only at H
   have A17 := aS A170
   clear A170
   have HC18 := aS H
   clear H
   have hnb19 := NB340_339.out
   have hnc19 := NB339_340.out
   have hcz20_0 : w15.cell? ⟨gb340, 0, none⟩ = some (.slice A2_0 l2_0.length c2_0) := (blk_cell BK340.out 0).trans rfl
   have hcz20_1 : w15.cell? ⟨gb340, 1, none⟩ = some (.slice A2_1 l2_1.length c2_1) := (blk_cell BK340.out 1).trans rfl
   have hfz20_0 := blk_frozen BK340.out 0
   have hfz20_1 := blk_frozen BK340.out 1
   go_upto_if 36 with (first | ((with_reducible refine gate_callee (f := 13) rfl ?_); refine goesL_ (some 34) rfl rfl Try.func13 (by kernel_rfl) rfl #[.agg #[.slice A2_0 l2_0.length c2_0, .slice A2_1 l2_1.length c2_1], .int .i64 t342] rfl sG ?_; (with_reducible refine (laws_szLine.calls _ _ l2_0 _ _ l2_1 t342 t343 _ ?side1 ?side2 ?side3 ?side4 A17.out).mono ?_); (case side1 => exact sC (Kd.C_below HR2_0.out HB.out)); (case side2 => exact HC2_0.out); (case side3 => exact sC (Kd.C_below HR2_1.out HB.out)); (case side4 => exact HC2_1.out); rintro e w21 ⟨rfl, hb⟩; refine ⟨_, rfl, ?_⟩; replace BK339 := aS (blk_below (sB BK339.out) hb); replace BK340 := aS (blk_below (sB BK340.out) hb); replace HB := aS (below_step (sW HB.out) hb); (try clear hb); (try clear hb2); (try clear hk); (try clear hi)))
   (try simp only [Act.put, List.setIfInBounds_toArray, List.set_cons_zero, List.set_cons_succ])
   have H := HC18.out
   clear HC18
   by_cases c22 : t343 < 0
   ·
    rw [if_pos c22] at H
    have c22b0 : decide (t343 < 0) = true := decide_eq_true c22
    clear c22
    (first | rw [c22b0] | (simp only [i64_w, i32_w]; rw [c22b0]) | (rw [c22b2]; simp only [Bool.not_false, Bool.not_true]) | skip)
    obtain rfl := Option.some.inj H
    go_wp2
    go_ret
    exact ⟨by first | rfl | (simp [errW_none, errW_some, i64_w]; done) | (simp [errW_none, errW_some] <;> rfl) | (simp [*, errW_none, errW_some] <;> rfl), by repeat (first | (with_reducible first | exact HB.out | apply below_alloc | apply pw_below_drewN | apply below_drew1) | exact HB.out)⟩
   ·
    rw [if_neg c22] at H
    have c22b0 : decide (t343 < 0) = false := decide_eq_false c22
    clear c22
    (first | rw [c22b0] | (simp only [i64_w, i32_w]; rw [c22b0]) | (rw [c22b2]; simp only [Bool.not_false, Bool.not_true]) | skip)
    replace H := Option.bind_eq_some_iff.mp H
    obtain ⟨t344, A230, H⟩ := H
    try dsimp only at H
    have A23 := aS A230
    clear A230
    replace H := Option.bind_eq_some_iff.mp H
    obtain ⟨⟨t347, t350⟩, A240, H⟩ := H
    try dsimp only at H
    have A24 := aS A240
    clear A240
    replace H := Option.bind_eq_some_iff.mp H
    obtain ⟨⟨t353, t356⟩, A250, H⟩ := H
    try dsimp only at H
    have A25 := aS A250
    clear A250
    replace H := Option.bind_eq_some_iff.mp H
    obtain ⟨⟨t359, t362, t365⟩, A260, H⟩ := H
    try dsimp only at H
    have A26 := aS A260
    clear A260
    replace H := Option.bind_eq_some_iff.mp H
    obtain ⟨t367, A270, H⟩ := H
    try dsimp only at H
    have A27 := aS A270
    clear A270
    replace H := Option.bind_eq_some_iff.mp H
    obtain ⟨⟨t370, t373⟩, A280, H⟩ := H
    try dsimp only at H
    have A28 := aS A280
    clear A280
    replace H := Option.bind_eq_some_iff.mp H
    obtain ⟨⟨t377, t380⟩, A290, H⟩ := H
    try dsimp only at H
    have A29 := aS A290
    clear A290
    replace H := Option.bind_eq_some_iff.mp H
    obtain ⟨⟨t384, t387, t390⟩, A300, H⟩ := H
    try dsimp only at H
    have A30 := aS A300
    clear A300
    have HC31 := aS H
    clear H
    try go_wp2
    replace BK339 := aS (blk_drew BK339.out); replace BK340 := aS (blk_drew BK340.out); replace HB := aS (below_drew1 HB.out)
    refine start_ (n := 14) (S := fun w' => w'.cell? ⟨gb339, 0, none⟩ = some (.slice A1_0 l1_0.length c1_0) ∧ w'.cell? ⟨gb339, 1, none⟩ = some (.slice A1_1 l1_1.length c1_1) ∧ w'.cell? ⟨gb340, 0, none⟩ = some (.slice A2_0 l2_0.length c2_0) ∧ w'.cell? ⟨gb340, 1, none⟩ = some (.slice A2_1 l2_1.length c2_1)) (ds := []) #[false, false, false, false, false, false, false, false, false, false, false, false, false, false] (by kernel_rfl) rfl rfl ⟨(blk_cell BK339.out 0).trans rfl, (blk_cell BK339.out 1).trans rfl, (blk_cell BK340.out 0).trans rfl, (blk_cell BK340.out 1).trans rfl⟩ (fun hHeld => ?_); refine with_tabW laws_FnExactJoinLines.tab11 laws_FnExactJoinLines.bits11 (fun HT_ HW_ => ?_)
    generalize w21.drew = w32 at BK339 BK340 HB hHeld ⊢
    refine pure_ (i := 0) (N := some 38) (v := ?_) (a' := ?_) (laws_FnExactJoinLines.bF 14 1) rfl rfl (any_of HT_.out (by kernel_rfl)) (fun _ _ _ h => h) (Or.inl ⟨by rfl, ?_⟩) ?_ ?_
    rotate_left
    ·
     intro w'
     go_simp
     with_reducible rfl
    rotate_left
    ·
     exact sP
    refine pure_ (i := 6) (N := some 44) (v := ?_) (a' := ?_) (laws_FnExactJoinLines.bF 14 65) rfl rfl (any_of HT_.out (by kernel_rfl)) (fun _ _ _ h => h) (Or.inl ⟨by rfl, ?_⟩) ?_ ?_
    rotate_left
    ·
     intro w'
     go_simp
     with_reducible rfl
    rotate_left
    ·
     exact sP
    refine take_ (i := 2) (N := some 40) (v := ?_) (a' := ?_) (laws_FnExactJoinLines.bF 14 69) rfl rfl (take_ofW HT_.out HW_.out (by kernel_rfl)) (fun _ _ _ h => h) (Or.inl ⟨by rfl, ?_⟩) hHeld ?_ ?_
    rotate_left
    ·
     rintro w' ⟨s0, s1, s2, s3⟩
     go_simp
     with_reducible rfl
    rotate_left
    ·
     exact sP
    refine take_ (i := 4) (N := some 42) (v := ?_) (a' := ?_) (laws_FnExactJoinLines.bF 14 85) rfl rfl (take_ofW HT_.out HW_.out (by kernel_rfl)) (fun _ _ _ h => h) (Or.inl ⟨by rfl, ?_⟩) hHeld ?_ ?_
    rotate_left
    ·
     rintro w' ⟨s0, s1, s2, s3⟩
     go_simp
     with_reducible rfl
    rotate_left
    ·
     exact sP
    refine join_ (σ := Value × Value × Value × Value × Value × Value × Value × Nat) 2 #[true, true, true, true, true, true, true, true, true, true, true, true, false, false] (fun s_ => [(39, s_.1), (41, .agg #[s_.2.1, s_.2.2.1]), (43, .agg #[s_.2.2.2.1, s_.2.2.2.2.1]), (45, .tuple #[.agg #[s_.2.2.2.2.2.1, s_.2.2.2.2.2.2.1], .int .i64 t365]), (10, .pointer (some ⟨s_.2.2.2.2.2.2.2, 0, none⟩)), (37, .tuple #[.agg #[s_.2.2.2.2.2.1, s_.2.2.2.2.2.2.1], .int .i64 t365]), (46, .agg #[s_.2.2.2.2.2.1, s_.2.2.2.2.2.2.1]), (47, .int .i64 t365)]) (fun s_ w' => (w'.cell? ⟨gb339, 0, none⟩ = some (.slice A1_0 l1_0.length c1_0) ∧ w'.cell? ⟨gb339, 1, none⟩ = some (.slice A1_1 l1_1.length c1_1) ∧ w'.cell? ⟨gb340, 0, none⟩ = some (.slice A2_0 l2_0.length c2_0) ∧ w'.cell? ⟨gb340, 1, none⟩ = some (.slice A2_1 l2_1.length c2_1)) ∧ (Kd.R k74 74 w' w.heap.size (fun _ => True) s_.1 t344) ∧ (Kd.R k91 91 w' w.heap.size (fun k_ => some k_ ≠ (s_.2.2.2.1 : Value).ownBlock ∧ some k_ ≠ (s_.2.2.2.2.2.1 : Value).ownBlock) s_.2.1 t347) ∧ (Kd.R (Kd.int .i64) 2 w' w.heap.size (fun k_ => some k_ ≠ (s_.2.2.2.2.1 : Value).ownBlock ∧ some k_ ≠ (s_.2.2.2.2.2.2.1 : Value).ownBlock) s_.2.2.1 t350) ∧ (Kd.R k91 91 w' w.heap.size (fun k_ => some k_ ≠ (s_.2.1 : Value).ownBlock ∧ some k_ ≠ (s_.2.2.2.2.2.1 : Value).ownBlock) s_.2.2.2.1 t353) ∧ (Kd.R (Kd.int .i64) 2 w' w.heap.size (fun k_ => some k_ ≠ (s_.2.2.1 : Value).ownBlock ∧ some k_ ≠ (s_.2.2.2.2.2.2.1 : Value).ownBlock) s_.2.2.2.2.1 t356) ∧ (Kd.R k91 91 w' w.heap.size (fun k_ => some k_ ≠ (s_.2.1 : Value).ownBlock ∧ some k_ ≠ (s_.2.2.2.1 : Value).ownBlock) s_.2.2.2.2.2.1 t359) ∧ (Kd.R (Kd.int .i64) 2 w' w.heap.size (fun k_ => some k_ ≠ (s_.2.2.1 : Value).ownBlock ∧ some k_ ≠ (s_.2.2.2.2.1 : Value).ownBlock) s_.2.2.2.2.2.2.1 t362) ∧ (w'.heap[gb339]? = some (.cells #[.slice A1_0 l1_0.length c1_0, .slice A1_1 l1_1.length c1_1] 40 (0, 0))) ∧ (w'.heap[gb340]? = some (.cells #[.slice A2_0 l2_0.length c2_0, .slice A2_1 l2_1.length c2_1] 40 (0, 0))) ∧ (w'.heap[s_.2.2.2.2.2.2.2]? = some (.cells #[.slice none 0 0, .slice none 0 0] 45 (0, 0))) ∧ (w.heap.size ≤ s_.2.2.2.2.2.2.2) ∧ (w.heap.size ≤ s_.2.2.2.2.2.2.2) ∧ (gb339 ≠ s_.2.2.2.2.2.2.2) ∧ (s_.2.2.2.2.2.2.2 ≠ gb339) ∧ (gb340 ≠ s_.2.2.2.2.2.2.2) ∧ (s_.2.2.2.2.2.2.2 ≠ gb340) ∧ (Below w.heap.size w w')) ?_ ?_
    ·
     clear BK339 BK340 HB
     rintro ⟨v345, v348, v351, v354, v357, v360, v363, gb366⟩ w43 ⟨hHeld, h0_, h1_, h2_, h3_, h4_, h5_, h6_, h7_, h8_, h9_, h10_, h11_, h12_, h13_, h14_, h15_, h16_⟩
     try dsimp only at hHeld h0_ h1_ h2_ h3_ h4_ h5_ h6_ h7_ h8_ h9_ h10_ h11_ h12_ h13_ h14_ h15_ h16_
     have HO346 := aS h0_; have HO349 := aS h1_; have HO352 := aS h2_; have HO355 := aS h3_; have HO358 := aS h4_; have HO361 := aS h5_; have HO364 := aS h6_; have BK339 := aS h7_; have BK340 := aS h8_; have BK366 := aS h9_; have GW366 := aS h10_; have GE366 := aS h11_; have NB339_366 := aS h12_; have NB366_339 := aS h13_; have NB340_366 := aS h14_; have NB366_340 := aS h15_; have HB := aS h16_
     clear h0_ h1_ h2_ h3_ h4_ h5_ h6_ h7_ h8_ h9_ h10_ h11_ h12_ h13_ h14_ h15_ h16_
     obtain ⟨Ao44, co44, eo44⟩ := Kd.R_slice HO361.out
     (first | subst eo44 | (injection eo44 with f1_ f2_ f3_; have f4_ := f1_.symm; have f5_ := f3_.symm; clear f1_ f2_ f3_; subst f4_; subst f5_))
     obtain ⟨Ao46, co46, eo46⟩ := Kd.R_slice HO364.out
     (first | subst eo46 | (injection eo46 with f1_ f2_ f3_; have f4_ := f1_.symm; have f5_ := f3_.symm; clear f1_ f2_ f3_; subst f4_; subst f5_))
     refine norm_ (a' := ?_) ?_ ?_
     rotate_left
     ·
      exact sQ
     refine one_ (i := 12) (N := none) #[true, true, true, true, true, true, true, true, true, true, true, true, true, false] rfl rfl (one_of HT_.out (by kernel_rfl)) (by decide) (fun K hK => ?_)
     have hs45 : w43.cell? ⟨gb366, 0, none⟩ = some (.slice none 0 0) := (blk_cell BK366.out 0).trans rfl
     have hfs45 := blk_frozen BK366.out 0
     have hns45_0 := NB339_366.out
     have hns45_1 := NB340_366.out
     have hms45_0 := NB366_339.out
     have hms45_1 := NB366_340.out
     have hs47 : w43.cell? ⟨gb366, 1, none⟩ = some (.slice none 0 0) := (blk_cell BK366.out 1).trans rfl
     have hfs47 := blk_frozen BK366.out 1
     have hns47_0 := NB339_366.out
     have hns47_1 := NB340_366.out
     have hms47_0 := NB366_339.out
     have hms47_1 := NB366_340.out
     refine skip_ (w1 := ?_) (by rfl) rfl ?_ ?_
     rotate_left
     ·
      go_simp
      rfl
     refine hK.out _ _ ⟨((cell_far (p := ⟨gb366, _, none⟩) NB339_366.out _).trans (((cell_far (p := ⟨gb366, _, none⟩) NB339_366.out _).trans (hHeld.1)))), ((cell_far (p := ⟨gb366, _, none⟩) NB339_366.out _).trans (((cell_far (p := ⟨gb366, _, none⟩) NB339_366.out _).trans (hHeld.2.1)))), ((cell_far (p := ⟨gb366, _, none⟩) NB340_366.out _).trans (((cell_far (p := ⟨gb366, _, none⟩) NB340_366.out _).trans (hHeld.2.2.1)))), ((cell_far (p := ⟨gb366, _, none⟩) NB340_366.out _).trans (((cell_far (p := ⟨gb366, _, none⟩) NB340_366.out _).trans (hHeld.2.2.2))))⟩ (fun hHeld => ?_)
     clear hK K
     refine pure_ (i := 13) (N := some 11) (v := ?_) (a' := ?_) (laws_FnExactJoinLines.bF 14 16383) rfl rfl (any_of HT_.out (by kernel_rfl)) (fun _ _ _ h => h) (Or.inl ⟨by rfl, ?_⟩) ?_ ?_
     rotate_left
     ·
      intro w'
      go_simp
      with_reducible rfl
     rotate_left
     ·
      exact sP
     refine done_ (done_of HT_.out (by kernel_rfl)) ?_
     go_upto_region 16 with (first | ((with_reducible refine gate_callee (f := 15) rfl ?_); refine goesL_ (some 49) rfl rfl Try.func15 (by kernel_rfl) rfl #[.slice A0 l0.length c0] rfl sG ?_; (with_reducible refine (laws_toJoinS.calls k _ _ l0 t367 _ ?side1 ?side2 A27.out).mono ?_); (case side1 => exact Kd.C_below HR0.out (sW HB.out)); (case side2 => exact HC0.out); rintro e w48 ⟨v368, rfl, ho0, hb⟩; refine ⟨_, rfl, ?_⟩; replace HO349 := aS (Kd.R_below (sR (rF HO349.out BK366.out)) hb); replace HO352 := aS (Kd.R_below (sR (rF HO352.out BK366.out)) hb); replace HO355 := aS (Kd.R_below (sR (rF HO355.out BK366.out)) hb); replace HO358 := aS (Kd.R_below (sR (rF HO358.out BK366.out)) hb); replace HO361 := aS (Kd.R_below (sR (rF HO361.out BK366.out)) hb); replace HO364 := aS (Kd.R_below (sR (rF HO364.out BK366.out)) hb); have HO369 := aS (Kd.R_lower (Kd.R_new' ho0 (Kd.R_lt (sR (rF HO346.out BK366.out)))) (below_size (sW HB.out))); replace HO346 := aS (Kd.R_elder' (sR (rF HO346.out BK366.out)) (Kd.R_base ho0) hb); replace BK339 := aS (blk_below (sF BK339.out NB339_366.out) hb); replace BK340 := aS (blk_below (sF BK340.out NB340_366.out) hb); replace BK366 := aS (blk_below (sB (put2 BK366.out)) hb); replace HB := aS (below_step (sW HB.out) hb); (try clear hb); (try clear hb2); (try clear hk); (try clear hi); (try clear ho0); have hnb49 := NB339_340.out; have hnc49 := NB340_339.out; have hnb50 := NB339_366.out; have hnc50 := NB366_339.out; have hcz51_0 : w48.cell? ⟨gb339, 0, none⟩ = some (.slice A1_0 l1_0.length c1_0) := (blk_cell BK339.out 0).trans rfl; have hcz51_1 : w48.cell? ⟨gb339, 1, none⟩ = some (.slice A1_1 l1_1.length c1_1) := (blk_cell BK339.out 1).trans rfl; have hfz51_0 := blk_frozen BK339.out 0; have hfz51_1 := blk_frozen BK339.out 1) | ((with_reducible refine gate_callee (f := 16) rfl ?_); refine goesL_ (some 51) rfl rfl Try.func16 (by kernel_rfl) rfl #[.agg #[.slice A1_0 l1_0.length c1_0, .slice A1_1 l1_1.length c1_1]] rfl sG ?_; (with_reducible refine (laws_toLine.calls k _ _ l1_0 _ _ l1_1 t370 t373 _ ?side1 ?side2 ?side3 ?side4 A28.out).mono ?_); (case side1 => exact sC (Kd.C_below HR1_0.out HB.out)); (case side2 => exact HC1_0.out); (case side3 => exact sC (Kd.C_below HR1_1.out HB.out)); (case side4 => exact HC1_1.out); rintro e w52 ⟨v371, v374, rfl, ho0, ho1, hb⟩; refine ⟨_, rfl, ?_⟩; replace HO346 := aS (Kd.R_below (sR HO346.out) hb); replace HO369 := aS (Kd.R_below (sR HO369.out) hb); have HO372 := aS (Kd.R_lower (Kd.R_new' (Kd.R_new' (Kd.R_new' ho0 (Kd.R_lt (sR HO349.out))) (Kd.R_lt (sR HO355.out))) (Kd.R_lt (sR HO361.out))) (below_size (sW HB.out))); replace HO349 := aS (Kd.R_elder' (sR HO349.out) (Kd.R_base ho0) hb); replace HO355 := aS (Kd.R_elder' (sR HO355.out) (Kd.R_base ho0) hb); replace HO361 := aS (Kd.R_elder' (sR HO361.out) (Kd.R_base ho0) hb); have HO375 := aS (Kd.R_lower (Kd.R_new' (Kd.R_new' (Kd.R_new' ho1 (Kd.R_lt (sR HO352.out))) (Kd.R_lt (sR HO358.out))) (Kd.R_lt (sR HO364.out))) (below_size (sW HB.out))); replace HO352 := aS (Kd.R_elder' (sR HO352.out) (Kd.R_base ho1) hb); replace HO358 := aS (Kd.R_elder' (sR HO358.out) (Kd.R_base ho1) hb); replace HO364 := aS (Kd.R_elder' (sR HO364.out) (Kd.R_base ho1) hb); replace BK339 := aS (blk_below (sB BK339.out) hb); replace BK340 := aS (blk_below (sB BK340.out) hb); replace BK366 := aS (blk_below (sB BK366.out) hb); replace HB := aS (below_step (sW HB.out) hb); (try clear hb); (try clear hb2); (try clear hk); (try clear hi); (try clear ho0); (try clear ho1)) | ((with_reducible refine gate_dst (N := 13) rfl ?_); refine box_event ?hg (N := 13) ?hd (cs := #[.slice none 0 0, .slice none 0 0]) (t := 45) ?hr ?_; (case hd => rfl); (case hg => rfl); (case hr => first | (go_simp; done) | (go_simp; rfl)); intro gb376 hg w53 hbox hb; replace HO346 := aS (Kd.R_below (sR HO346.out) hb); replace HO349 := aS (Kd.R_below (sR HO349.out) hb); replace HO352 := aS (Kd.R_below (sR HO352.out) hb); replace HO355 := aS (Kd.R_below (sR HO355.out) hb); replace HO358 := aS (Kd.R_below (sR HO358.out) hb); replace HO361 := aS (Kd.R_below (sR HO361.out) hb); replace HO364 := aS (Kd.R_below (sR HO364.out) hb); replace HO369 := aS (Kd.R_below (sR HO369.out) hb); replace HO372 := aS (Kd.R_below (sR HO372.out) hb); replace HO375 := aS (Kd.R_below (sR HO375.out) hb); have BK376 := aS (hbox); have GW376 := aS (gW hg (sW HB.out)); have GE376 := aS (gW hg (sW HB.out)); replace HB := aS (below_step (sW HB.out) hb); have NB339_376 := aS (nL hg (sB BK339.out)); have NB376_339 := aS (nG hg (sB BK339.out)); replace BK339 := aS (blk_below (sB BK339.out) hb); have NB340_376 := aS (nL hg (sB BK340.out)); have NB376_340 := aS (nG hg (sB BK340.out)); replace BK340 := aS (blk_below (sB BK340.out) hb); have NB366_376 := aS (nL hg (sB BK366.out)); have NB376_366 := aS (nG hg (sB BK366.out)); replace BK366 := aS (blk_below (sB BK366.out) hb); clear hb hbox hg; obtain ⟨Ao54, co54, eo54⟩ := Kd.R_slice HO372.out; subst eo54; have hnb55 := NB376_339.out; have hnc55 := NB339_376.out; have hnb56 := NB376_340.out; have hnc56 := NB340_376.out; have hnb57 := NB376_366.out; have hnc57 := NB366_376.out; have hcz58_0 : w53.cell? ⟨gb376, 0, none⟩ = some (.slice none 0 0) := (blk_cell BK376.out 0).trans rfl; have hcz58_1 : w53.cell? ⟨gb376, 1, none⟩ = some (.slice none 0 0) := (blk_cell BK376.out 1).trans rfl; have hfz58_0 := blk_frozen BK376.out 0; have hfz58_1 := blk_frozen BK376.out 1; obtain ⟨Ao59, co59, eo59⟩ := Kd.R_slice HO375.out; subst eo59; have hnb60 := NB340_366.out; have hnc60 := NB366_340.out; have hcz61_0 : w53.cell? ⟨gb340, 0, none⟩ = some (.slice A2_0 l2_0.length c2_0) := (blk_cell BK340.out 0).trans rfl; have hcz61_1 : w53.cell? ⟨gb340, 1, none⟩ = some (.slice A2_1 l2_1.length c2_1) := (blk_cell BK340.out 1).trans rfl; have hfz61_0 := blk_frozen BK340.out 0; have hfz61_1 := blk_frozen BK340.out 1) | ((with_reducible refine gate_callee (f := 16) rfl ?_); refine goesL_ (some 53) rfl rfl Try.func16 (by kernel_rfl) rfl #[.agg #[.slice A2_0 l2_0.length c2_0, .slice A2_1 l2_1.length c2_1]] rfl sG ?_; (with_reducible refine (laws_toLine.calls k _ _ l2_0 _ _ l2_1 t377 t380 _ ?side1 ?side2 ?side3 ?side4 A29.out).mono ?_); (case side1 => exact Kd.C_below HR2_0.out (sW HB.out)); (case side2 => exact HC2_0.out); (case side3 => exact Kd.C_below HR2_1.out (sW HB.out)); (case side4 => exact HC2_1.out); rintro e w62 ⟨v378, v381, rfl, ho0, ho1, hb⟩; refine ⟨_, rfl, ?_⟩; replace HO346 := aS (Kd.R_below (sR (rF HO346.out BK376.out)) hb); replace HO369 := aS (Kd.R_below (sR (rF HO369.out BK376.out)) hb); have HO379 := aS (Kd.R_lower (Kd.R_new' (Kd.R_new' (Kd.R_new' (Kd.R_new' ho0 (Kd.R_lt (sR (rF HO349.out BK376.out)))) (Kd.R_lt (sR (rF HO355.out BK376.out)))) (Kd.R_lt (sR (rF HO361.out BK376.out)))) (Kd.R_lt (sR (rF HO372.out BK376.out)))) (below_size (sW HB.out))); replace HO349 := aS (Kd.R_elder' (sR (rF HO349.out BK376.out)) (Kd.R_base ho0) hb); replace HO355 := aS (Kd.R_elder' (sR (rF HO355.out BK376.out)) (Kd.R_base ho0) hb); replace HO361 := aS (Kd.R_elder' (sR (rF HO361.out BK376.out)) (Kd.R_base ho0) hb); replace HO372 := aS (Kd.R_elder' (sR (rF HO372.out BK376.out)) (Kd.R_base ho0) hb); have HO382 := aS (Kd.R_lower (Kd.R_new' (Kd.R_new' (Kd.R_new' (Kd.R_new' ho1 (Kd.R_lt (sR (rF HO352.out BK376.out)))) (Kd.R_lt (sR (rF HO358.out BK376.out)))) (Kd.R_lt (sR (rF HO364.out BK376.out)))) (Kd.R_lt (sR (rF HO375.out BK376.out)))) (below_size (sW HB.out))); replace HO352 := aS (Kd.R_elder' (sR (rF HO352.out BK376.out)) (Kd.R_base ho1) hb); replace HO358 := aS (Kd.R_elder' (sR (rF HO358.out BK376.out)) (Kd.R_base ho1) hb); replace HO364 := aS (Kd.R_elder' (sR (rF HO364.out BK376.out)) (Kd.R_base ho1) hb); replace HO375 := aS (Kd.R_elder' (sR (rF HO375.out BK376.out)) (Kd.R_base ho1) hb); replace BK339 := aS (blk_below (sF BK339.out NB339_376.out) hb); replace BK340 := aS (blk_below (sF BK340.out NB340_376.out) hb); replace BK366 := aS (blk_below (sF BK366.out NB366_376.out) hb); replace BK376 := aS (blk_below (sB (put2 BK376.out)) hb); replace HB := aS (below_step (sW HB.out) hb); (try clear hb); (try clear hb2); (try clear hk); (try clear hi); (try clear ho0); (try clear ho1)) | ((with_reducible refine gate_dst (N := 14) rfl ?_); refine box_event ?hg (N := 14) ?hd (cs := #[.slice none 0 0, .slice none 0 0]) (t := 45) ?hr ?_; (case hd => rfl); (case hg => rfl); (case hr => first | (go_simp; done) | (go_simp; rfl)); intro gb383 hg w63 hbox hb; replace HO346 := aS (Kd.R_below (sR HO346.out) hb); replace HO349 := aS (Kd.R_below (sR HO349.out) hb); replace HO352 := aS (Kd.R_below (sR HO352.out) hb); replace HO355 := aS (Kd.R_below (sR HO355.out) hb); replace HO358 := aS (Kd.R_below (sR HO358.out) hb); replace HO361 := aS (Kd.R_below (sR HO361.out) hb); replace HO364 := aS (Kd.R_below (sR HO364.out) hb); replace HO369 := aS (Kd.R_below (sR HO369.out) hb); replace HO372 := aS (Kd.R_below (sR HO372.out) hb); replace HO375 := aS (Kd.R_below (sR HO375.out) hb); replace HO379 := aS (Kd.R_below (sR HO379.out) hb); replace HO382 := aS (Kd.R_below (sR HO382.out) hb); have BK383 := aS (hbox); have GW383 := aS (gW hg (sW HB.out)); have GE383 := aS (gW hg (sW HB.out)); replace HB := aS (below_step (sW HB.out) hb); have NB339_383 := aS (nL hg (sB BK339.out)); have NB383_339 := aS (nG hg (sB BK339.out)); replace BK339 := aS (blk_below (sB BK339.out) hb); have NB340_383 := aS (nL hg (sB BK340.out)); have NB383_340 := aS (nG hg (sB BK340.out)); replace BK340 := aS (blk_below (sB BK340.out) hb); have NB366_383 := aS (nL hg (sB BK366.out)); have NB383_366 := aS (nG hg (sB BK366.out)); replace BK366 := aS (blk_below (sB BK366.out) hb); have NB376_383 := aS (nL hg (sB BK376.out)); have NB383_376 := aS (nG hg (sB BK376.out)); replace BK376 := aS (blk_below (sB BK376.out) hb); clear hb hbox hg; obtain ⟨Ao64, co64, eo64⟩ := Kd.R_slice HO379.out; subst eo64; have hnb65 := NB383_339.out; have hnc65 := NB339_383.out; have hnb66 := NB383_340.out; have hnc66 := NB340_383.out; have hnb67 := NB383_366.out; have hnc67 := NB366_383.out; have hnb68 := NB383_376.out; have hnc68 := NB376_383.out; have hcz69_0 : w63.cell? ⟨gb383, 0, none⟩ = some (.slice none 0 0) := (blk_cell BK383.out 0).trans rfl; have hcz69_1 : w63.cell? ⟨gb383, 1, none⟩ = some (.slice none 0 0) := (blk_cell BK383.out 1).trans rfl; have hfz69_0 := blk_frozen BK383.out 0; have hfz69_1 := blk_frozen BK383.out 1; obtain ⟨Ao70, co70, eo70⟩ := Kd.R_slice HO382.out; subst eo70; have hcz71_0 : w63.cell? ⟨gb376, 0, none⟩ = some (.slice Ao54 t370.length co54) := (blk_cell BK376.out 0).trans rfl; have hcz71_1 : w63.cell? ⟨gb376, 1, none⟩ = some (.slice Ao59 t373.length co59) := (blk_cell BK376.out 1).trans rfl; have hfz71_0 := blk_frozen BK376.out 0; have hfz71_1 := blk_frozen BK376.out 1; obtain ⟨Ao72, co72, eo72⟩ := Kd.R_slice HO369.out; subst eo72) | ((with_reducible refine gate_callee (f := 17) rfl ?_); refine goesL_ (some 59) rfl rfl Try.func17 (by kernel_rfl) rfl #[.slice Ao72 t367.length co72, .agg #[.slice Ao54 t370.length co54, .slice Ao59 t373.length co59], .agg #[.slice Ao64 t377.length co64, .slice Ao70 t380.length co70], .int .i64 a3] rfl sG ?_; (with_reducible refine (impl_JoinLines.calls k _ _ t367 _ _ t370 _ _ t373 _ _ t377 _ _ t380 a3 t384 t387 t390 _ ?side1 ?side2 ?side3 ?side4 ?side5 ?side6 ?side7 ?side8 ?side9 ?side10 A30.out).mono ?_); (case side1 => exact sRC (rF HO369.out BK383.out)); (case side2 => exact (Kd.R_reads' HO369.out).2.1); (case side3 => exact sRC (rF HO372.out BK383.out)); (case side4 => exact (Kd.R_reads' HO372.out).2.1); (case side5 => exact sRC (rF HO375.out BK383.out)); (case side6 => exact (Kd.R_reads' HO375.out).2.1); (case side7 => exact sRC (rF HO379.out BK383.out)); (case side8 => exact (Kd.R_reads' HO379.out).2.1); (case side9 => exact sRC (rF HO382.out BK383.out)); (case side10 => exact (Kd.R_reads' HO382.out).2.1); rintro e w73 ⟨v385, v388, rfl, ho0, ho1, hb⟩; refine ⟨_, rfl, ?_⟩; replace HO346 := aS (Kd.R_below (sR (rF HO346.out BK383.out)) hb); replace HO369 := aS (Kd.R_below (sR (rF HO369.out BK383.out)) hb); have HO386 := aS (Kd.R_lower (Kd.R_new' (Kd.R_new' (Kd.R_new' (Kd.R_new' (Kd.R_new' ho0 (Kd.R_lt (sR (rF HO349.out BK383.out)))) (Kd.R_lt (sR (rF HO355.out BK383.out)))) (Kd.R_lt (sR (rF HO361.out BK383.out)))) (Kd.R_lt (sR (rF HO372.out BK383.out)))) (Kd.R_lt (sR (rF HO379.out BK383.out)))) (below_size (sW HB.out))); replace HO349 := aS (Kd.R_elder' (sR (rF HO349.out BK383.out)) (Kd.R_base ho0) hb); replace HO355 := aS (Kd.R_elder' (sR (rF HO355.out BK383.out)) (Kd.R_base ho0) hb); replace HO361 := aS (Kd.R_elder' (sR (rF HO361.out BK383.out)) (Kd.R_base ho0) hb); replace HO372 := aS (Kd.R_elder' (sR (rF HO372.out BK383.out)) (Kd.R_base ho0) hb); replace HO379 := aS (Kd.R_elder' (sR (rF HO379.out BK383.out)) (Kd.R_base ho0) hb); have HO389 := aS (Kd.R_lower (Kd.R_new' (Kd.R_new' (Kd.R_new' (Kd.R_new' (Kd.R_new' ho1 (Kd.R_lt (sR (rF HO352.out BK383.out)))) (Kd.R_lt (sR (rF HO358.out BK383.out)))) (Kd.R_lt (sR (rF HO364.out BK383.out)))) (Kd.R_lt (sR (rF HO375.out BK383.out)))) (Kd.R_lt (sR (rF HO382.out BK383.out)))) (below_size (sW HB.out))); replace HO352 := aS (Kd.R_elder' (sR (rF HO352.out BK383.out)) (Kd.R_base ho1) hb); replace HO358 := aS (Kd.R_elder' (sR (rF HO358.out BK383.out)) (Kd.R_base ho1) hb); replace HO364 := aS (Kd.R_elder' (sR (rF HO364.out BK383.out)) (Kd.R_base ho1) hb); replace HO375 := aS (Kd.R_elder' (sR (rF HO375.out BK383.out)) (Kd.R_base ho1) hb); replace HO382 := aS (Kd.R_elder' (sR (rF HO382.out BK383.out)) (Kd.R_base ho1) hb); replace BK339 := aS (blk_below (sF BK339.out NB339_383.out) hb); replace BK340 := aS (blk_below (sF BK340.out NB340_383.out) hb); replace BK366 := aS (blk_below (sF BK366.out NB366_383.out) hb); replace BK376 := aS (blk_below (sF BK376.out NB376_383.out) hb); replace BK383 := aS (blk_below (sB (put2 BK383.out)) hb); replace HB := aS (below_step (sW HB.out) hb); (try clear hb); (try clear hb2); (try clear hk); (try clear hi); (try clear ho0); (try clear ho1)) | ((with_reducible refine gate_dst (N := 15) rfl ?_); refine box_event ?hg (N := 15) ?hd (cs := #[.slice none 0 0, .slice none 0 0]) (t := 45) ?hr ?_; (case hd => rfl); (case hg => rfl); (case hr => first | (go_simp; done) | (go_simp; rfl)); intro gb391 hg w74 hbox hb; replace HO346 := aS (Kd.R_below (sR HO346.out) hb); replace HO349 := aS (Kd.R_below (sR HO349.out) hb); replace HO352 := aS (Kd.R_below (sR HO352.out) hb); replace HO355 := aS (Kd.R_below (sR HO355.out) hb); replace HO358 := aS (Kd.R_below (sR HO358.out) hb); replace HO361 := aS (Kd.R_below (sR HO361.out) hb); replace HO364 := aS (Kd.R_below (sR HO364.out) hb); replace HO369 := aS (Kd.R_below (sR HO369.out) hb); replace HO372 := aS (Kd.R_below (sR HO372.out) hb); replace HO375 := aS (Kd.R_below (sR HO375.out) hb); replace HO379 := aS (Kd.R_below (sR HO379.out) hb); replace HO382 := aS (Kd.R_below (sR HO382.out) hb); replace HO386 := aS (Kd.R_below (sR HO386.out) hb); replace HO389 := aS (Kd.R_below (sR HO389.out) hb); have BK391 := aS (hbox); have GW391 := aS (gW hg (sW HB.out)); have GE391 := aS (gW hg (sW HB.out)); replace HB := aS (below_step (sW HB.out) hb); have NB339_391 := aS (nL hg (sB BK339.out)); have NB391_339 := aS (nG hg (sB BK339.out)); replace BK339 := aS (blk_below (sB BK339.out) hb); have NB340_391 := aS (nL hg (sB BK340.out)); have NB391_340 := aS (nG hg (sB BK340.out)); replace BK340 := aS (blk_below (sB BK340.out) hb); have NB366_391 := aS (nL hg (sB BK366.out)); have NB391_366 := aS (nG hg (sB BK366.out)); replace BK366 := aS (blk_below (sB BK366.out) hb); have NB376_391 := aS (nL hg (sB BK376.out)); have NB391_376 := aS (nG hg (sB BK376.out)); replace BK376 := aS (blk_below (sB BK376.out) hb); have NB383_391 := aS (nL hg (sB BK383.out)); have NB391_383 := aS (nG hg (sB BK383.out)); replace BK383 := aS (blk_below (sB BK383.out) hb); clear hb hbox hg; obtain ⟨Ao75, co75, eo75⟩ := Kd.R_slice HO386.out; subst eo75; have hnb76 := NB391_339.out; have hnc76 := NB339_391.out; have hnb77 := NB391_340.out; have hnc77 := NB340_391.out; have hnb78 := NB391_366.out; have hnc78 := NB366_391.out; have hnb79 := NB391_376.out; have hnc79 := NB376_391.out; have hnb80 := NB391_383.out; have hnc80 := NB383_391.out; have hcz81_0 : w74.cell? ⟨gb391, 0, none⟩ = some (.slice none 0 0) := (blk_cell BK391.out 0).trans rfl; have hcz81_1 : w74.cell? ⟨gb391, 1, none⟩ = some (.slice none 0 0) := (blk_cell BK391.out 1).trans rfl; have hfz81_0 := blk_frozen BK391.out 0; have hfz81_1 := blk_frozen BK391.out 1; obtain ⟨Ao82, co82, eo82⟩ := Kd.R_slice HO389.out; subst eo82))
     (try simp only [Act.put, List.setIfInBounds_toArray, List.set_cons_zero, List.set_cons_succ])
     go_cut [70] (fun v70 wc => ∃ (kq : Nat) (x70_30 : Bool), v70 = .bool x70_30 ∧ Aside0 (laws_FnExactJoinLines.j0 kq l0 a3 t365 t367 t390 x70_30 l1_0 l1_1 l2_0 l2_1 t359 t362 t370 t373 t377 t380 t384 t387 = some r) ∧ Aside0 (kq ≤ k) ∧ Aside0 (Kd.R k74 74 wc w.heap.size (fun _ => True) (.slice Ao72 t367.length co72) t367) ∧ Aside0 (Kd.R k91 91 wc w.heap.size (fun k_ => some k_ ≠ ((.slice Ao54 t370.length co54) : Value).ownBlock ∧ some k_ ≠ ((.slice Ao64 t377.length co64) : Value).ownBlock ∧ some k_ ≠ ((.slice Ao75 t384.length co75) : Value).ownBlock) (.slice Ao44 t359.length co44) t359) ∧ Aside0 (Kd.R (Kd.int .i64) 2 wc w.heap.size (fun k_ => some k_ ≠ ((.slice Ao59 t373.length co59) : Value).ownBlock ∧ some k_ ≠ ((.slice Ao70 t380.length co70) : Value).ownBlock ∧ some k_ ≠ ((.slice Ao82 t387.length co82) : Value).ownBlock) (.slice Ao46 t362.length co46) t362) ∧ Aside0 (Kd.R k91 91 wc w.heap.size (fun k_ => some k_ ≠ ((.slice Ao44 t359.length co44) : Value).ownBlock ∧ some k_ ≠ ((.slice Ao64 t377.length co64) : Value).ownBlock ∧ some k_ ≠ ((.slice Ao75 t384.length co75) : Value).ownBlock) (.slice Ao54 t370.length co54) t370) ∧ Aside0 (Kd.R (Kd.int .i64) 2 wc w.heap.size (fun k_ => some k_ ≠ ((.slice Ao46 t362.length co46) : Value).ownBlock ∧ some k_ ≠ ((.slice Ao70 t380.length co70) : Value).ownBlock ∧ some k_ ≠ ((.slice Ao82 t387.length co82) : Value).ownBlock) (.slice Ao59 t373.length co59) t373) ∧ Aside0 (Kd.R k91 91 wc w.heap.size (fun k_ => some k_ ≠ ((.slice Ao44 t359.length co44) : Value).ownBlock ∧ some k_ ≠ ((.slice Ao54 t370.length co54) : Value).ownBlock ∧ some k_ ≠ ((.slice Ao75 t384.length co75) : Value).ownBlock) (.slice Ao64 t377.length co64) t377) ∧ Aside0 (Kd.R (Kd.int .i64) 2 wc w.heap.size (fun k_ => some k_ ≠ ((.slice Ao46 t362.length co46) : Value).ownBlock ∧ some k_ ≠ ((.slice Ao59 t373.length co59) : Value).ownBlock ∧ some k_ ≠ ((.slice Ao82 t387.length co82) : Value).ownBlock) (.slice Ao70 t380.length co70) t380) ∧ Aside0 (Kd.R k91 91 wc w.heap.size (fun k_ => some k_ ≠ ((.slice Ao44 t359.length co44) : Value).ownBlock ∧ some k_ ≠ ((.slice Ao54 t370.length co54) : Value).ownBlock ∧ some k_ ≠ ((.slice Ao64 t377.length co64) : Value).ownBlock) (.slice Ao75 t384.length co75) t384) ∧ Aside0 (Kd.R (Kd.int .i64) 2 wc w.heap.size (fun k_ => some k_ ≠ ((.slice Ao46 t362.length co46) : Value).ownBlock ∧ some k_ ≠ ((.slice Ao59 t373.length co59) : Value).ownBlock ∧ some k_ ≠ ((.slice Ao70 t380.length co70) : Value).ownBlock) (.slice Ao82 t387.length co82) t387) ∧ Aside0 (wc.heap[gb339]? = some (.cells #[(.slice A1_0 l1_0.length c1_0), (.slice A1_1 l1_1.length c1_1)] 40 (0, 0))) ∧ Aside0 (wc.heap[gb340]? = some (.cells #[(.slice A2_0 l2_0.length c2_0), (.slice A2_1 l2_1.length c2_1)] 40 (0, 0))) ∧ Aside0 (wc.heap[gb366]? = some (.cells #[(.slice Ao44 t359.length co44), (.slice Ao46 t362.length co46)] 45 (0, 0))) ∧ Aside0 (wc.heap[gb376]? = some (.cells #[(.slice Ao54 t370.length co54), (.slice Ao59 t373.length co59)] 45 (0, 0))) ∧ Aside0 (wc.heap[gb383]? = some (.cells #[(.slice Ao64 t377.length co64), (.slice Ao70 t380.length co70)] 45 (0, 0))) ∧ Aside0 (wc.heap[gb391]? = some (.cells #[(.slice Ao75 t384.length co75), (.slice Ao82 t387.length co82)] 45 (0, 0))) ∧ Aside0 (Below w.heap.size w wc))
     case first =>
      as_aux_lemma =>
       have H := HC31.out
       clear HC31
       replace H := Option.bind_eq_some_iff.mp H
       obtain ⟨t392, A830, H⟩ := H
       try dsimp only at H
       have A83 := aS A830
       clear A830
       by_cases c84 : t392 = true
       ·
        subst c84
        rw [if_pos rfl] at H
        have H' := aS H
        clear H
        have hnb85 := NB391_339.out
        have hnc85 := NB339_391.out
        have hnb86 := NB391_340.out
        have hnc86 := NB340_391.out
        have hnb87 := NB391_366.out
        have hnc87 := NB366_391.out
        have hnb88 := NB391_376.out
        have hnc88 := NB376_391.out
        have hnb89 := NB391_383.out
        have hnc89 := NB383_391.out
        have hcz90_0 : w74.cell? ⟨gb391, 0, none⟩ = some (.slice none 0 0) := (blk_cell BK391.out 0).trans rfl
        have hcz90_1 : w74.cell? ⟨gb391, 1, none⟩ = some (.slice none 0 0) := (blk_cell BK391.out 1).trans rfl
        have hfz90_0 := blk_frozen BK391.out 0
        have hfz90_1 := blk_frozen BK391.out 1
        have hnb91 := NB366_339.out
        have hnc91 := NB339_366.out
        have hnb92 := NB366_340.out
        have hnc92 := NB340_366.out
        have hnb93 := NB366_376.out
        have hnc93 := NB376_366.out
        have hnb94 := NB366_383.out
        have hnc94 := NB383_366.out
        have hcz95_0 : w74.cell? ⟨gb366, 0, none⟩ = some (.slice Ao44 t359.length co44) := (blk_cell BK366.out 0).trans rfl
        have hcz95_1 : w74.cell? ⟨gb366, 1, none⟩ = some (.slice Ao46 t362.length co46) := (blk_cell BK366.out 1).trans rfl
        have hfz95_0 := blk_frozen BK366.out 0
        have hfz95_1 := blk_frozen BK366.out 1
        go_wp2_with (first | ((with_reducible refine gate_callee (f := 18) rfl ?_); refine goesL_ (some 64) rfl rfl Try.func18 (by kernel_rfl) rfl #[.agg #[.slice Ao75 t384.length co75, .slice Ao82 t387.length co82], .agg #[.slice Ao44 t359.length co44, .slice Ao46 t362.length co46]] rfl sG ?_; (with_reducible refine (laws_eqLine.calls k _ _ t384 _ _ t387 _ _ t359 _ _ t362 true _ ?side1 ?side2 ?side3 ?side4 ?side5 ?side6 ?side7 ?side8 A83.out).mono ?_); (case side1 => exact sRC (rF HO386.out BK391.out)); (case side2 => exact (Kd.R_reads' HO386.out).2.1); (case side3 => exact sRC (rF HO389.out BK391.out)); (case side4 => exact (Kd.R_reads' HO389.out).2.1); (case side5 => exact sRC (rF HO361.out BK391.out)); (case side6 => exact (Kd.R_reads' HO361.out).2.1); (case side7 => exact sRC (rF HO364.out BK391.out)); (case side8 => exact (Kd.R_reads' HO364.out).2.1); rintro e w96 ⟨rfl, hb⟩; refine ⟨_, rfl, ?_⟩; replace HO346 := aS (Kd.R_below (sR (rF HO346.out BK391.out)) hb); replace HO349 := aS (Kd.R_below (sR (rF HO349.out BK391.out)) hb); replace HO352 := aS (Kd.R_below (sR (rF HO352.out BK391.out)) hb); replace HO355 := aS (Kd.R_below (sR (rF HO355.out BK391.out)) hb); replace HO358 := aS (Kd.R_below (sR (rF HO358.out BK391.out)) hb); replace HO361 := aS (Kd.R_below (sR (rF HO361.out BK391.out)) hb); replace HO364 := aS (Kd.R_below (sR (rF HO364.out BK391.out)) hb); replace HO369 := aS (Kd.R_below (sR (rF HO369.out BK391.out)) hb); replace HO372 := aS (Kd.R_below (sR (rF HO372.out BK391.out)) hb); replace HO375 := aS (Kd.R_below (sR (rF HO375.out BK391.out)) hb); replace HO379 := aS (Kd.R_below (sR (rF HO379.out BK391.out)) hb); replace HO382 := aS (Kd.R_below (sR (rF HO382.out BK391.out)) hb); replace HO386 := aS (Kd.R_below (sR (rF HO386.out BK391.out)) hb); replace HO389 := aS (Kd.R_below (sR (rF HO389.out BK391.out)) hb); replace BK339 := aS (blk_below (sF BK339.out NB339_391.out) hb); replace BK340 := aS (blk_below (sF BK340.out NB340_391.out) hb); replace BK366 := aS (blk_below (sF BK366.out NB366_391.out) hb); replace BK376 := aS (blk_below (sF BK376.out NB376_391.out) hb); replace BK383 := aS (blk_below (sF BK383.out NB383_391.out) hb); replace BK391 := aS (blk_below (sB (put2 BK391.out)) hb); replace HB := aS (below_step (sW HB.out) hb); (try clear hb); (try clear hb2); (try clear hk); (try clear hi)))
        go_meet
        case rel => exact ⟨_, ((t390 != t365)), (by first | rfl | (simp; done) | (simp [*]; done) | (simp only [i64_w]; done) | (simp [i64_w]; done)), H', ⟨by first | omega | exact Nat.le_refl _⟩, (aS (sR (Kd.R_mono HO369.out (fun _ hk => trivial)))), (aS (sR (Kd.R_mono HO361.out (fun _ hk => ⟨hk.1.1.2, ⟨hk.1.2, hk.2⟩⟩)))), (aS (sR (Kd.R_mono HO364.out (fun _ hk => ⟨hk.1.1.2, ⟨hk.1.2, hk.2⟩⟩)))), (aS (sR (Kd.R_mono HO372.out (fun _ hk => ⟨hk.1.1.2, ⟨hk.1.2, hk.2⟩⟩)))), (aS (sR (Kd.R_mono HO375.out (fun _ hk => ⟨hk.1.1.2, ⟨hk.1.2, hk.2⟩⟩)))), (aS (sR (Kd.R_mono HO379.out (fun _ hk => ⟨hk.1.1.2, ⟨hk.1.2, hk.2⟩⟩)))), (aS (sR (Kd.R_mono HO382.out (fun _ hk => ⟨hk.1.1.2, ⟨hk.1.2, hk.2⟩⟩)))), (aS (sR (Kd.R_mono HO386.out (fun _ hk => ⟨hk.1.1.2, ⟨hk.1.2, hk.2⟩⟩)))), (aS (sR (Kd.R_mono HO389.out (fun _ hk => ⟨hk.1.1.2, ⟨hk.1.2, hk.2⟩⟩)))), (aS (sB BK339.out)), (aS (sB BK340.out)), (aS (sB BK366.out)), (aS (sB BK376.out)), (aS (sB BK383.out)), (aS (sB BK391.out)), (aS (sW HB.out))⟩
       replace c84 := Bool.eq_false_iff.mpr c84
       subst c84
       rw [if_neg (show ¬ (false = true) by decide)] at H
       have H' := aS H
       clear H
       have hnb97 := NB391_339.out
       have hnc97 := NB339_391.out
       have hnb98 := NB391_340.out
       have hnc98 := NB340_391.out
       have hnb99 := NB391_366.out
       have hnc99 := NB366_391.out
       have hnb100 := NB391_376.out
       have hnc100 := NB376_391.out
       have hnb101 := NB391_383.out
       have hnc101 := NB383_391.out
       have hcz102_0 : w74.cell? ⟨gb391, 0, none⟩ = some (.slice none 0 0) := (blk_cell BK391.out 0).trans rfl
       have hcz102_1 : w74.cell? ⟨gb391, 1, none⟩ = some (.slice none 0 0) := (blk_cell BK391.out 1).trans rfl
       have hfz102_0 := blk_frozen BK391.out 0
       have hfz102_1 := blk_frozen BK391.out 1
       have hnb103 := NB366_339.out
       have hnc103 := NB339_366.out
       have hnb104 := NB366_340.out
       have hnc104 := NB340_366.out
       have hnb105 := NB366_376.out
       have hnc105 := NB376_366.out
       have hnb106 := NB366_383.out
       have hnc106 := NB383_366.out
       have hcz107_0 : w74.cell? ⟨gb366, 0, none⟩ = some (.slice Ao44 t359.length co44) := (blk_cell BK366.out 0).trans rfl
       have hcz107_1 : w74.cell? ⟨gb366, 1, none⟩ = some (.slice Ao46 t362.length co46) := (blk_cell BK366.out 1).trans rfl
       have hfz107_0 := blk_frozen BK366.out 0
       have hfz107_1 := blk_frozen BK366.out 1
       go_wp2_with (first | ((with_reducible refine gate_callee (f := 18) rfl ?_); refine goesL_ (some 64) rfl rfl Try.func18 (by kernel_rfl) rfl #[.agg #[.slice Ao75 t384.length co75, .slice Ao82 t387.length co82], .agg #[.slice Ao44 t359.length co44, .slice Ao46 t362.length co46]] rfl sG ?_; (with_reducible refine (laws_eqLine.calls k _ _ t384 _ _ t387 _ _ t359 _ _ t362 false _ ?side1 ?side2 ?side3 ?side4 ?side5 ?side6 ?side7 ?side8 A83.out).mono ?_); (case side1 => exact sRC (rF HO386.out BK391.out)); (case side2 => exact (Kd.R_reads' HO386.out).2.1); (case side3 => exact sRC (rF HO389.out BK391.out)); (case side4 => exact (Kd.R_reads' HO389.out).2.1); (case side5 => exact sRC (rF HO361.out BK391.out)); (case side6 => exact (Kd.R_reads' HO361.out).2.1); (case side7 => exact sRC (rF HO364.out BK391.out)); (case side8 => exact (Kd.R_reads' HO364.out).2.1); rintro e w108 ⟨rfl, hb⟩; refine ⟨_, rfl, ?_⟩; replace HO346 := aS (Kd.R_below (sR (rF HO346.out BK391.out)) hb); replace HO349 := aS (Kd.R_below (sR (rF HO349.out BK391.out)) hb); replace HO352 := aS (Kd.R_below (sR (rF HO352.out BK391.out)) hb); replace HO355 := aS (Kd.R_below (sR (rF HO355.out BK391.out)) hb); replace HO358 := aS (Kd.R_below (sR (rF HO358.out BK391.out)) hb); replace HO361 := aS (Kd.R_below (sR (rF HO361.out BK391.out)) hb); replace HO364 := aS (Kd.R_below (sR (rF HO364.out BK391.out)) hb); replace HO369 := aS (Kd.R_below (sR (rF HO369.out BK391.out)) hb); replace HO372 := aS (Kd.R_below (sR (rF HO372.out BK391.out)) hb); replace HO375 := aS (Kd.R_below (sR (rF HO375.out BK391.out)) hb); replace HO379 := aS (Kd.R_below (sR (rF HO379.out BK391.out)) hb); replace HO382 := aS (Kd.R_below (sR (rF HO382.out BK391.out)) hb); replace HO386 := aS (Kd.R_below (sR (rF HO386.out BK391.out)) hb); replace HO389 := aS (Kd.R_below (sR (rF HO389.out BK391.out)) hb); replace BK339 := aS (blk_below (sF BK339.out NB339_391.out) hb); replace BK340 := aS (blk_below (sF BK340.out NB340_391.out) hb); replace BK366 := aS (blk_below (sF BK366.out NB366_391.out) hb); replace BK376 := aS (blk_below (sF BK376.out NB376_391.out) hb); replace BK383 := aS (blk_below (sF BK383.out NB383_391.out) hb); replace BK391 := aS (blk_below (sB (put2 BK391.out)) hb); replace HB := aS (below_step (sW HB.out) hb); (try clear hb); (try clear hb2); (try clear hk); (try clear hi)))
       go_meet
       case rel => exact ⟨_, (true), (by first | rfl | (simp; done) | (simp [*]; done) | (simp only [i64_w]; done) | (simp [i64_w]; done)), H', ⟨by first | omega | exact Nat.le_refl _⟩, (aS (sR (Kd.R_mono HO369.out (fun _ hk => trivial)))), (aS (sR (Kd.R_mono HO361.out (fun _ hk => ⟨hk.1.1.2, ⟨hk.1.2, hk.2⟩⟩)))), (aS (sR (Kd.R_mono HO364.out (fun _ hk => ⟨hk.1.1.2, ⟨hk.1.2, hk.2⟩⟩)))), (aS (sR (Kd.R_mono HO372.out (fun _ hk => ⟨hk.1.1.2, ⟨hk.1.2, hk.2⟩⟩)))), (aS (sR (Kd.R_mono HO375.out (fun _ hk => ⟨hk.1.1.2, ⟨hk.1.2, hk.2⟩⟩)))), (aS (sR (Kd.R_mono HO379.out (fun _ hk => ⟨hk.1.1.2, ⟨hk.1.2, hk.2⟩⟩)))), (aS (sR (Kd.R_mono HO382.out (fun _ hk => ⟨hk.1.1.2, ⟨hk.1.2, hk.2⟩⟩)))), (aS (sR (Kd.R_mono HO386.out (fun _ hk => ⟨hk.1.1.2, ⟨hk.1.2, hk.2⟩⟩)))), (aS (sR (Kd.R_mono HO389.out (fun _ hk => ⟨hk.1.1.2, ⟨hk.1.2, hk.2⟩⟩)))), (aS (sB BK339.out)), (aS (sB BK340.out)), (aS (sB BK366.out)), (aS (sB BK376.out)), (aS (sB BK383.out)), (aS (sB BK391.out)), (aS (sW HB.out))⟩
     case rest =>
      as_aux_lemma =>
       clear HC31
       (try clear c1); (try clear c2); (try clear p2); (try clear c4); (try clear c5); (try clear c6); (try clear c7); (try clear c8); (try clear c9); (try clear c10); (try clear c14); (try clear c15); (try clear c16); (try clear c17); (try clear c18); (try clear c49); (try clear c50); (try clear c55); (try clear c56); (try clear c57); (try clear c60); (try clear c65); (try clear c66); (try clear c67); (try clear c68); (try clear c76); (try clear c77); (try clear c78); (try clear c79); (try clear c80); (try clear c84); (try clear c85); (try clear c86); (try clear c87); (try clear c88); (try clear c89); (try clear c91); (try clear c92); (try clear c93); (try clear c94); (try clear c97); (try clear c98); (try clear c99); (try clear c100); (try clear c101); (try clear c103); (try clear c104); (try clear c105); (try clear c106); (try clear hcz102_0); (try clear hcz102_1); (try clear hcz107_0); (try clear hcz107_1); (try clear hcz51_0); (try clear hcz51_1); (try clear hcz58_0); (try clear hcz58_1); (try clear hcz61_0); (try clear hcz61_1); (try clear hcz69_0); (try clear hcz69_1); (try clear hcz71_0); (try clear hcz71_1); (try clear hcz81_0); (try clear hcz81_1); (try clear hcz90_0); (try clear hcz90_1); (try clear hcz95_0); (try clear hcz95_1); (try clear hfz102_0); (try clear hfz102_1); (try clear hfz107_0); (try clear hfz107_1); (try clear hfz51_0); (try clear hfz51_1); (try clear hfz58_0); (try clear hfz58_1); (try clear hfz61_0); (try clear hfz61_1); (try clear hfz69_0); (try clear hfz69_1); (try clear hfz71_0); (try clear hfz71_1); (try clear hfz81_0); (try clear hfz81_1); (try clear hfz90_0); (try clear hfz90_1); (try clear hfz95_0); (try clear hfz95_1)
       obtain ⟨kq, x70_30, rfl, HA, HJ30, HO_12, HO_367000, HO_367001, HO_377000, HO_377001, HO_384000, HO_384001, HO_392000, HO_392001, BK339, BK340, BK366, BK376, BK383, BK391, HB⟩ := hcut
       cases kq with
       | zero => exact absurd HA.out (by simp [laws_FnExactJoinLines.j0])
       | succ kj30 =>
        have H := HA.out
        clear HA
        simp only [laws_FnExactJoinLines.j0] at H
        by_cases c109 : x70_30 = true
        ·
         subst c109
         rw [if_pos rfl] at H
         obtain rfl := Option.some.inj H
         go_wp2
         go_ret
         exact ⟨by first | rfl | (simp [errW_none, errW_some, i64_w]; done) | (simp [errW_none, errW_some] <;> rfl) | (simp [*, errW_none, errW_some] <;> rfl), by repeat (first | (with_reducible first | exact HB.out | apply below_alloc | apply pw_below_drewN | apply below_drew1) | exact HB.out)⟩
        ·
         replace c109 := Bool.eq_false_iff.mpr c109
         subst c109
         rw [if_neg (show ¬ (false = true) by decide)] at H
         replace H := Option.bind_eq_some_iff.mp H
         obtain ⟨t393, A1100, H⟩ := H
         try dsimp only at H
         have A110 := aS A1100
         clear A1100
         replace H := Option.bind_eq_some_iff.mp H
         obtain ⟨t396, A1110, H⟩ := H
         try dsimp only at H
         have A111 := aS A1110
         clear A1110
         have HC112 := aS H
         clear H
         go_upto_if 75 with (first | ((with_reducible refine gate_callee (f := 15) rfl ?_); refine goesL_ (some 73) rfl rfl Try.func15 (by kernel_rfl) rfl #[.slice A0 l0.length c0] rfl sG ?_; (with_reducible refine (laws_toJoinS.calls kj30 _ _ l0 t393 _ ?side1 ?side2 A110.out).mono ?_); (case side1 => exact sC (Kd.C_below HR0.out HB.out)); (case side2 => exact HC0.out); rintro e w113 ⟨v394, rfl, ho0, hb⟩; refine ⟨_, rfl, ?_⟩; replace HO_367000 := aS (Kd.R_below (sR HO_367000.out) hb); replace HO_367001 := aS (Kd.R_below (sR HO_367001.out) hb); replace HO_377000 := aS (Kd.R_below (sR HO_377000.out) hb); replace HO_377001 := aS (Kd.R_below (sR HO_377001.out) hb); replace HO_384000 := aS (Kd.R_below (sR HO_384000.out) hb); replace HO_384001 := aS (Kd.R_below (sR HO_384001.out) hb); replace HO_392000 := aS (Kd.R_below (sR HO_392000.out) hb); replace HO_392001 := aS (Kd.R_below (sR HO_392001.out) hb); have HO395 := aS (Kd.R_lower (Kd.R_new' ho0 (Kd.R_lt (sR HO_12.out))) (below_size (sW HB.out))); replace HO_12 := aS (Kd.R_elder' (sR HO_12.out) (Kd.R_base ho0) hb); replace BK339 := aS (blk_below (sB BK339.out) hb); replace BK340 := aS (blk_below (sB BK340.out) hb); replace BK366 := aS (blk_below (sB BK366.out) hb); replace BK376 := aS (blk_below (sB BK376.out) hb); replace BK383 := aS (blk_below (sB BK383.out) hb); replace BK391 := aS (blk_below (sB BK391.out) hb); replace HB := aS (below_step (sW HB.out) hb); (try clear hb); (try clear hb2); (try clear hk); (try clear hi); (try clear ho0); obtain ⟨Ao114, co114, eo114⟩ := Kd.R_slice HO395.out; subst eo114) | ((with_reducible refine gate_callee (f := 19) rfl ?_); refine goesL_ (some 74) rfl rfl Try.func19 (by kernel_rfl) rfl #[.slice Ao72 t367.length co72, .slice Ao114 t393.length co114] rfl sG ?_; (with_reducible refine (laws_eqJoinS.calls kj30 _ _ t367 _ _ t393 t396 _ ?side1 ?side2 ?side3 ?side4 A111.out).mono ?_); (case side1 => exact sC (Kd.R_reads' HO_12.out).2.2); (case side2 => exact (Kd.R_reads' HO_12.out).2.1); (case side3 => exact sC (Kd.R_reads' HO395.out).2.2); (case side4 => exact (Kd.R_reads' HO395.out).2.1); rintro e w115 ⟨rfl, hb⟩; refine ⟨_, rfl, ?_⟩; replace HO_12 := aS (Kd.R_below (sR HO_12.out) hb); replace HO_367000 := aS (Kd.R_below (sR HO_367000.out) hb); replace HO_367001 := aS (Kd.R_below (sR HO_367001.out) hb); replace HO_377000 := aS (Kd.R_below (sR HO_377000.out) hb); replace HO_377001 := aS (Kd.R_below (sR HO_377001.out) hb); replace HO_384000 := aS (Kd.R_below (sR HO_384000.out) hb); replace HO_384001 := aS (Kd.R_below (sR HO_384001.out) hb); replace HO_392000 := aS (Kd.R_below (sR HO_392000.out) hb); replace HO_392001 := aS (Kd.R_below (sR HO_392001.out) hb); replace HO395 := aS (Kd.R_below (sR HO395.out) hb); replace BK339 := aS (blk_below (sB BK339.out) hb); replace BK340 := aS (blk_below (sB BK340.out) hb); replace BK366 := aS (blk_below (sB BK366.out) hb); replace BK376 := aS (blk_below (sB BK376.out) hb); replace BK383 := aS (blk_below (sB BK383.out) hb); replace BK391 := aS (blk_below (sB BK391.out) hb); replace HB := aS (below_step (sW HB.out) hb); (try clear hb); (try clear hb2); (try clear hk); (try clear hi)))
         (try simp only [Act.put, List.setIfInBounds_toArray, List.set_cons_zero, List.set_cons_succ])
         have H := HC112.out
         clear HC112
         by_cases c116 : t396 = true
         ·
          subst c116
          rw [if_pos rfl] at H
          replace H := Option.bind_eq_some_iff.mp H
          obtain ⟨⟨t397, t400⟩, A1170, H⟩ := H
          try dsimp only at H
          have A117 := aS A1170
          clear A1170
          replace H := Option.bind_eq_some_iff.mp H
          obtain ⟨t403, A1180, H⟩ := H
          try dsimp only at H
          have A118 := aS A1180
          clear A1180
          have HC119 := aS H
          clear H
          try go_wp2
          replace HO_12 := aS (Kd.R_drew HO_12.out); replace HO_367000 := aS (Kd.R_drew HO_367000.out); replace HO_367001 := aS (Kd.R_drew HO_367001.out); replace HO_377000 := aS (Kd.R_drew HO_377000.out); replace HO_377001 := aS (Kd.R_drew HO_377001.out); replace HO_384000 := aS (Kd.R_drew HO_384000.out); replace HO_384001 := aS (Kd.R_drew HO_384001.out); replace HO_392000 := aS (Kd.R_drew HO_392000.out); replace HO_392001 := aS (Kd.R_drew HO_392001.out); replace HO395 := aS (Kd.R_drew HO395.out); replace BK339 := aS (blk_drew BK339.out); replace BK340 := aS (blk_drew BK340.out); replace BK366 := aS (blk_drew BK366.out); replace BK376 := aS (blk_drew BK376.out); replace BK383 := aS (blk_drew BK383.out); replace BK391 := aS (blk_drew BK391.out); replace HB := aS (below_drew1 HB.out)
          refine start_ (n := 5) (S := fun w' => w'.cell? ⟨gb376, 0, none⟩ = some (.slice Ao54 t370.length co54) ∧ w'.cell? ⟨gb376, 1, none⟩ = some (.slice Ao59 t373.length co59) ∧ w'.cell? ⟨gb339, 0, none⟩ = some (.slice A1_0 l1_0.length c1_0) ∧ w'.cell? ⟨gb339, 1, none⟩ = some (.slice A1_1 l1_1.length c1_1)) (ds := []) #[false, false, false, false, false] (by kernel_rfl) rfl rfl ⟨(blk_cell BK376.out 0).trans rfl, (blk_cell BK376.out 1).trans rfl, (blk_cell BK339.out 0).trans rfl, (blk_cell BK339.out 1).trans rfl⟩ (fun hHeld => ?_)
          generalize w115.drew = w120 at HO_12 HO_367000 HO_367001 HO_377000 HO_377001 HO_384000 HO_384001 HO_392000 HO_392001 HO395 BK339 BK340 BK366 BK376 BK383 BK391 HB hHeld ⊢
          refine take_ (i := 0) (N := some 76) (v := ?_) (a' := ?_) #[true, false, false, false, false] rfl rfl (by kernel_rfl) (fun _ _ _ h => h) (Or.inl ⟨by rfl, ?_⟩) hHeld ?_ ?_
          rotate_left
          ·
           rintro w' ⟨s0, s1, s2, s3⟩
           go_simp
           with_reducible rfl
          rotate_left
          ·
           exact sP
          refine take_ (i := 1) (N := some 77) (v := ?_) (a' := ?_) #[true, true, false, false, false] rfl rfl (by kernel_rfl) (fun _ _ _ h => h) (Or.inl ⟨by rfl, ?_⟩) hHeld ?_ ?_
          rotate_left
          ·
           rintro w' ⟨s0, s1, s2, s3⟩
           go_simp
           with_reducible rfl
          rotate_left
          ·
           exact sP
          refine one_ (i := 2) (N := some 78) #[true, true, true, false, false] rfl rfl (by kernel_rfl) (by decide) (fun K hK => ?_)
          refine goes_ Try.func16 (by kernel_rfl) rfl #[.agg #[.slice A1_0 l1_0.length c1_0, .slice A1_1 l1_1.length c1_1]] (by rfl) rfl rfl sG ?_
          with_reducible refine (laws_toLine.calls kj30 _ _ l1_0 _ _ l1_1 t397 t400 _ ?side1 ?side2 ?side3 ?side4 A117.out).mono ?_
          (case side1 => exact sC (Kd.C_below HR1_0.out HB.out))
          (case side2 => exact HC1_0.out)
          (case side3 => exact sC (Kd.C_below HR1_1.out HB.out))
          (case side4 => exact HC1_1.out)
          rintro e w121 ⟨v398, v401, rfl, ho0, ho1, hb⟩
          refine ⟨_, rfl, ?_⟩
          replace HO_12 := aS (Kd.R_below (sR HO_12.out) hb); replace HO395 := aS (Kd.R_below (sR HO395.out) hb); have HO399 := aS (Kd.R_lower (Kd.R_new' (Kd.R_new' (Kd.R_new' (Kd.R_new' ho0 (Kd.R_lt (sR HO_367000.out))) (Kd.R_lt (sR HO_377000.out))) (Kd.R_lt (sR HO_384000.out))) (Kd.R_lt (sR HO_392000.out))) (below_size (sW HB.out))); replace HO_367000 := aS (Kd.R_elder' (sR HO_367000.out) (Kd.R_base ho0) hb); replace HO_377000 := aS (Kd.R_elder' (sR HO_377000.out) (Kd.R_base ho0) hb); replace HO_384000 := aS (Kd.R_elder' (sR HO_384000.out) (Kd.R_base ho0) hb); replace HO_392000 := aS (Kd.R_elder' (sR HO_392000.out) (Kd.R_base ho0) hb); have HO402 := aS (Kd.R_lower (Kd.R_new' (Kd.R_new' (Kd.R_new' (Kd.R_new' ho1 (Kd.R_lt (sR HO_367001.out))) (Kd.R_lt (sR HO_377001.out))) (Kd.R_lt (sR HO_384001.out))) (Kd.R_lt (sR HO_392001.out))) (below_size (sW HB.out))); replace HO_367001 := aS (Kd.R_elder' (sR HO_367001.out) (Kd.R_base ho1) hb); replace HO_377001 := aS (Kd.R_elder' (sR HO_377001.out) (Kd.R_base ho1) hb); replace HO_384001 := aS (Kd.R_elder' (sR HO_384001.out) (Kd.R_base ho1) hb); replace HO_392001 := aS (Kd.R_elder' (sR HO_392001.out) (Kd.R_base ho1) hb); replace BK339 := aS (blk_below (sB BK339.out) hb); replace BK340 := aS (blk_below (sB BK340.out) hb); replace BK366 := aS (blk_below (sB BK366.out) hb); replace BK376 := aS (blk_below (sB BK376.out) hb); replace BK383 := aS (blk_below (sB BK383.out) hb); replace BK391 := aS (blk_below (sB BK391.out) hb); replace HB := aS (below_step (sW HB.out) hb)
          (try clear hb); (try clear hb2); (try clear hk); (try clear hi); (try clear ho0); (try clear ho1)
          obtain ⟨Ao122, co122, eo122⟩ := Kd.R_slice HO399.out
          (first | subst eo122 | (injection eo122 with f1_ f2_ f3_; have f4_ := f1_.symm; have f5_ := f3_.symm; clear f1_ f2_ f3_; subst f4_; subst f5_))
          obtain ⟨Ao123, co123, eo123⟩ := Kd.R_slice HO402.out
          (first | subst eo123 | (injection eo123 with f1_ f2_ f3_; have f4_ := f1_.symm; have f5_ := f3_.symm; clear f1_ f2_ f3_; subst f4_; subst f5_))
          refine hK.out _ _ ⟨(blk_cell BK376.out 0).trans rfl, (blk_cell BK376.out 1).trans rfl, (blk_cell BK339.out 0).trans rfl, (blk_cell BK339.out 1).trans rfl⟩ (fun hHeld => ?_)
          clear hK K
          refine norm_ (a' := ?_) ?_ ?_
          rotate_left
          ·
           show Act.put _ (some 78) _ = _
           exact sP
          refine one_ (i := 3) (N := some 79) #[true, true, true, true, false] rfl rfl (by kernel_rfl) (by decide) (fun K hK => ?_)
          refine goes_ Try.func18 (by kernel_rfl) rfl #[.agg #[.slice Ao54 t370.length co54, .slice Ao59 t373.length co59], .agg #[.slice Ao122 t397.length co122, .slice Ao123 t400.length co123]] (by rfl) rfl rfl sG ?_
          with_reducible refine (laws_eqLine.calls kj30 _ _ t370 _ _ t373 _ _ t397 _ _ t400 t403 _ ?side1 ?side2 ?side3 ?side4 ?side5 ?side6 ?side7 ?side8 A118.out).mono ?_
          (case side1 => exact sC (Kd.R_reads' HO_377000.out).2.2)
          (case side2 => exact (Kd.R_reads' HO_377000.out).2.1)
          (case side3 => exact sC (Kd.R_reads' HO_377001.out).2.2)
          (case side4 => exact (Kd.R_reads' HO_377001.out).2.1)
          (case side5 => exact sC (Kd.R_reads' HO399.out).2.2)
          (case side6 => exact (Kd.R_reads' HO399.out).2.1)
          (case side7 => exact sC (Kd.R_reads' HO402.out).2.2)
          (case side8 => exact (Kd.R_reads' HO402.out).2.1)
          rintro e w124 ⟨rfl, hb⟩
          refine ⟨_, rfl, ?_⟩
          replace HO_12 := aS (Kd.R_below (sR HO_12.out) hb); replace HO_367000 := aS (Kd.R_below (sR HO_367000.out) hb); replace HO_367001 := aS (Kd.R_below (sR HO_367001.out) hb); replace HO_377000 := aS (Kd.R_below (sR HO_377000.out) hb); replace HO_377001 := aS (Kd.R_below (sR HO_377001.out) hb); replace HO_384000 := aS (Kd.R_below (sR HO_384000.out) hb); replace HO_384001 := aS (Kd.R_below (sR HO_384001.out) hb); replace HO_392000 := aS (Kd.R_below (sR HO_392000.out) hb); replace HO_392001 := aS (Kd.R_below (sR HO_392001.out) hb); replace HO395 := aS (Kd.R_below (sR HO395.out) hb); replace HO399 := aS (Kd.R_below (sR HO399.out) hb); replace HO402 := aS (Kd.R_below (sR HO402.out) hb); replace BK339 := aS (blk_below (sB BK339.out) hb); replace BK340 := aS (blk_below (sB BK340.out) hb); replace BK366 := aS (blk_below (sB BK366.out) hb); replace BK376 := aS (blk_below (sB BK376.out) hb); replace BK383 := aS (blk_below (sB BK383.out) hb); replace BK391 := aS (blk_below (sB BK391.out) hb); replace HB := aS (below_step (sW HB.out) hb)
          (try clear hb); (try clear hb2); (try clear hk); (try clear hi)
          refine hK.out _ _ ⟨(blk_cell BK376.out 0).trans rfl, (blk_cell BK376.out 1).trans rfl, (blk_cell BK339.out 0).trans rfl, (blk_cell BK339.out 1).trans rfl⟩ (fun hHeld => ?_)
          clear hK K
          refine norm_ (a' := ?_) ?_ ?_
          rotate_left
          ·
           show Act.put _ (some 79) _ = _
           exact sP
          refine pure_ (i := 4) (N := some 80) (v := ?_) (a' := ?_) #[true, true, true, true, true] rfl rfl (by kernel_rfl) (fun _ _ _ h => h) (Or.inl ⟨by rfl, ?_⟩) ?_ ?_
          rotate_left
          ·
           intro w'
           go_simp
           with_reducible rfl
          rotate_left
          ·
           exact sP
          refine done_ (by kernel_rfl) ?_
          go_upto_if 80 with (fail)
          have H := HC119.out
          clear HC119
          by_cases c125 : t403 = true
          rotate_left
          ·
           replace c125 := Bool.eq_false_iff.mpr c125
           subst c125
           rw [if_neg (show ¬ (false = true) by decide)] at H
           obtain rfl := Option.some.inj H
           go_wp2
           go_ret
           exact ⟨by first | rfl | (simp [errW_none, errW_some, i64_w]; done) | (simp [errW_none, errW_some] <;> rfl) | (simp [*, errW_none, errW_some] <;> rfl), by repeat (first | (with_reducible first | exact HB.out | apply below_alloc | apply pw_below_drewN | apply below_drew1) | exact HB.out)⟩
          subst c125
          rw [if_pos rfl] at H
          replace H := Option.bind_eq_some_iff.mp H
          obtain ⟨⟨t404, t407⟩, A1260, H⟩ := H
          try dsimp only at H
          have A126 := aS A1260
          clear A1260
          replace H := Option.bind_eq_some_iff.mp H
          obtain ⟨t410, A1270, H⟩ := H
          try dsimp only at H
          have A127 := aS A1270
          clear A1270
          have HC128 := aS H
          clear H
          try go_wp2
          replace HO_12 := aS (Kd.R_drew HO_12.out); replace HO_367000 := aS (Kd.R_drew HO_367000.out); replace HO_367001 := aS (Kd.R_drew HO_367001.out); replace HO_377000 := aS (Kd.R_drew HO_377000.out); replace HO_377001 := aS (Kd.R_drew HO_377001.out); replace HO_384000 := aS (Kd.R_drew HO_384000.out); replace HO_384001 := aS (Kd.R_drew HO_384001.out); replace HO_392000 := aS (Kd.R_drew HO_392000.out); replace HO_392001 := aS (Kd.R_drew HO_392001.out); replace HO395 := aS (Kd.R_drew HO395.out); replace HO399 := aS (Kd.R_drew HO399.out); replace HO402 := aS (Kd.R_drew HO402.out); replace BK339 := aS (blk_drew BK339.out); replace BK340 := aS (blk_drew BK340.out); replace BK366 := aS (blk_drew BK366.out); replace BK376 := aS (blk_drew BK376.out); replace BK383 := aS (blk_drew BK383.out); replace BK391 := aS (blk_drew BK391.out); replace HB := aS (below_drew1 HB.out)
          refine start_ (n := 5) (S := fun w' => w'.cell? ⟨gb383, 0, none⟩ = some (.slice Ao64 t377.length co64) ∧ w'.cell? ⟨gb383, 1, none⟩ = some (.slice Ao70 t380.length co70) ∧ w'.cell? ⟨gb340, 0, none⟩ = some (.slice A2_0 l2_0.length c2_0) ∧ w'.cell? ⟨gb340, 1, none⟩ = some (.slice A2_1 l2_1.length c2_1)) (ds := []) #[false, false, false, false, false] (by kernel_rfl) rfl rfl ⟨(blk_cell BK383.out 0).trans rfl, (blk_cell BK383.out 1).trans rfl, (blk_cell BK340.out 0).trans rfl, (blk_cell BK340.out 1).trans rfl⟩ (fun hHeld => ?_)
          generalize w124.drew = w129 at HO_12 HO_367000 HO_367001 HO_377000 HO_377001 HO_384000 HO_384001 HO_392000 HO_392001 HO395 HO399 HO402 BK339 BK340 BK366 BK376 BK383 BK391 HB hHeld ⊢
          refine take_ (i := 0) (N := some 81) (v := ?_) (a' := ?_) #[true, false, false, false, false] rfl rfl (by kernel_rfl) (fun _ _ _ h => h) (Or.inl ⟨by rfl, ?_⟩) hHeld ?_ ?_
          rotate_left
          ·
           rintro w' ⟨s0, s1, s2, s3⟩
           go_simp
           with_reducible rfl
          rotate_left
          ·
           exact sP
          refine take_ (i := 1) (N := some 82) (v := ?_) (a' := ?_) #[true, true, false, false, false] rfl rfl (by kernel_rfl) (fun _ _ _ h => h) (Or.inl ⟨by rfl, ?_⟩) hHeld ?_ ?_
          rotate_left
          ·
           rintro w' ⟨s0, s1, s2, s3⟩
           go_simp
           with_reducible rfl
          rotate_left
          ·
           exact sP
          refine one_ (i := 2) (N := some 83) #[true, true, true, false, false] rfl rfl (by kernel_rfl) (by decide) (fun K hK => ?_)
          refine goes_ Try.func16 (by kernel_rfl) rfl #[.agg #[.slice A2_0 l2_0.length c2_0, .slice A2_1 l2_1.length c2_1]] (by rfl) rfl rfl sG ?_
          with_reducible refine (laws_toLine.calls kj30 _ _ l2_0 _ _ l2_1 t404 t407 _ ?side1 ?side2 ?side3 ?side4 A126.out).mono ?_
          (case side1 => exact sC (Kd.C_below HR2_0.out HB.out))
          (case side2 => exact HC2_0.out)
          (case side3 => exact sC (Kd.C_below HR2_1.out HB.out))
          (case side4 => exact HC2_1.out)
          rintro e w130 ⟨v405, v408, rfl, ho0, ho1, hb⟩
          refine ⟨_, rfl, ?_⟩
          replace HO_12 := aS (Kd.R_below (sR HO_12.out) hb); replace HO395 := aS (Kd.R_below (sR HO395.out) hb); have HO406 := aS (Kd.R_lower (Kd.R_new' (Kd.R_new' (Kd.R_new' (Kd.R_new' (Kd.R_new' ho0 (Kd.R_lt (sR HO_367000.out))) (Kd.R_lt (sR HO_377000.out))) (Kd.R_lt (sR HO_384000.out))) (Kd.R_lt (sR HO_392000.out))) (Kd.R_lt (sR HO399.out))) (below_size (sW HB.out))); replace HO_367000 := aS (Kd.R_elder' (sR HO_367000.out) (Kd.R_base ho0) hb); replace HO_377000 := aS (Kd.R_elder' (sR HO_377000.out) (Kd.R_base ho0) hb); replace HO_384000 := aS (Kd.R_elder' (sR HO_384000.out) (Kd.R_base ho0) hb); replace HO_392000 := aS (Kd.R_elder' (sR HO_392000.out) (Kd.R_base ho0) hb); replace HO399 := aS (Kd.R_elder' (sR HO399.out) (Kd.R_base ho0) hb); have HO409 := aS (Kd.R_lower (Kd.R_new' (Kd.R_new' (Kd.R_new' (Kd.R_new' (Kd.R_new' ho1 (Kd.R_lt (sR HO_367001.out))) (Kd.R_lt (sR HO_377001.out))) (Kd.R_lt (sR HO_384001.out))) (Kd.R_lt (sR HO_392001.out))) (Kd.R_lt (sR HO402.out))) (below_size (sW HB.out))); replace HO_367001 := aS (Kd.R_elder' (sR HO_367001.out) (Kd.R_base ho1) hb); replace HO_377001 := aS (Kd.R_elder' (sR HO_377001.out) (Kd.R_base ho1) hb); replace HO_384001 := aS (Kd.R_elder' (sR HO_384001.out) (Kd.R_base ho1) hb); replace HO_392001 := aS (Kd.R_elder' (sR HO_392001.out) (Kd.R_base ho1) hb); replace HO402 := aS (Kd.R_elder' (sR HO402.out) (Kd.R_base ho1) hb); replace BK339 := aS (blk_below (sB BK339.out) hb); replace BK340 := aS (blk_below (sB BK340.out) hb); replace BK366 := aS (blk_below (sB BK366.out) hb); replace BK376 := aS (blk_below (sB BK376.out) hb); replace BK383 := aS (blk_below (sB BK383.out) hb); replace BK391 := aS (blk_below (sB BK391.out) hb); replace HB := aS (below_step (sW HB.out) hb)
          (try clear hb); (try clear hb2); (try clear hk); (try clear hi); (try clear ho0); (try clear ho1)
          obtain ⟨Ao131, co131, eo131⟩ := Kd.R_slice HO406.out
          (first | subst eo131 | (injection eo131 with f1_ f2_ f3_; have f4_ := f1_.symm; have f5_ := f3_.symm; clear f1_ f2_ f3_; subst f4_; subst f5_))
          obtain ⟨Ao132, co132, eo132⟩ := Kd.R_slice HO409.out
          (first | subst eo132 | (injection eo132 with f1_ f2_ f3_; have f4_ := f1_.symm; have f5_ := f3_.symm; clear f1_ f2_ f3_; subst f4_; subst f5_))
          refine hK.out _ _ ⟨(blk_cell BK383.out 0).trans rfl, (blk_cell BK383.out 1).trans rfl, (blk_cell BK340.out 0).trans rfl, (blk_cell BK340.out 1).trans rfl⟩ (fun hHeld => ?_)
          clear hK K
          refine norm_ (a' := ?_) ?_ ?_
          rotate_left
          ·
           show Act.put _ (some 83) _ = _
           exact sP
          refine one_ (i := 3) (N := some 84) #[true, true, true, true, false] rfl rfl (by kernel_rfl) (by decide) (fun K hK => ?_)
          refine goes_ Try.func18 (by kernel_rfl) rfl #[.agg #[.slice Ao64 t377.length co64, .slice Ao70 t380.length co70], .agg #[.slice Ao131 t404.length co131, .slice Ao132 t407.length co132]] (by rfl) rfl rfl sG ?_
          with_reducible refine (laws_eqLine.calls kj30 _ _ t377 _ _ t380 _ _ t404 _ _ t407 t410 _ ?side1 ?side2 ?side3 ?side4 ?side5 ?side6 ?side7 ?side8 A127.out).mono ?_
          (case side1 => exact sC (Kd.R_reads' HO_384000.out).2.2)
          (case side2 => exact (Kd.R_reads' HO_384000.out).2.1)
          (case side3 => exact sC (Kd.R_reads' HO_384001.out).2.2)
          (case side4 => exact (Kd.R_reads' HO_384001.out).2.1)
          (case side5 => exact sC (Kd.R_reads' HO406.out).2.2)
          (case side6 => exact (Kd.R_reads' HO406.out).2.1)
          (case side7 => exact sC (Kd.R_reads' HO409.out).2.2)
          (case side8 => exact (Kd.R_reads' HO409.out).2.1)
          rintro e w133 ⟨rfl, hb⟩
          refine ⟨_, rfl, ?_⟩
          replace HO_12 := aS (Kd.R_below (sR HO_12.out) hb); replace HO_367000 := aS (Kd.R_below (sR HO_367000.out) hb); replace HO_367001 := aS (Kd.R_below (sR HO_367001.out) hb); replace HO_377000 := aS (Kd.R_below (sR HO_377000.out) hb); replace HO_377001 := aS (Kd.R_below (sR HO_377001.out) hb); replace HO_384000 := aS (Kd.R_below (sR HO_384000.out) hb); replace HO_384001 := aS (Kd.R_below (sR HO_384001.out) hb); replace HO_392000 := aS (Kd.R_below (sR HO_392000.out) hb); replace HO_392001 := aS (Kd.R_below (sR HO_392001.out) hb); replace HO395 := aS (Kd.R_below (sR HO395.out) hb); replace HO399 := aS (Kd.R_below (sR HO399.out) hb); replace HO402 := aS (Kd.R_below (sR HO402.out) hb); replace HO406 := aS (Kd.R_below (sR HO406.out) hb); replace HO409 := aS (Kd.R_below (sR HO409.out) hb); replace BK339 := aS (blk_below (sB BK339.out) hb); replace BK340 := aS (blk_below (sB BK340.out) hb); replace BK366 := aS (blk_below (sB BK366.out) hb); replace BK376 := aS (blk_below (sB BK376.out) hb); replace BK383 := aS (blk_below (sB BK383.out) hb); replace BK391 := aS (blk_below (sB BK391.out) hb); replace HB := aS (below_step (sW HB.out) hb)
          (try clear hb); (try clear hb2); (try clear hk); (try clear hi)
          refine hK.out _ _ ⟨(blk_cell BK383.out 0).trans rfl, (blk_cell BK383.out 1).trans rfl, (blk_cell BK340.out 0).trans rfl, (blk_cell BK340.out 1).trans rfl⟩ (fun hHeld => ?_)
          clear hK K
          refine norm_ (a' := ?_) ?_ ?_
          rotate_left
          ·
           show Act.put _ (some 84) _ = _
           exact sP
          refine pure_ (i := 4) (N := some 85) (v := ?_) (a' := ?_) #[true, true, true, true, true] rfl rfl (by kernel_rfl) (fun _ _ _ h => h) (Or.inl ⟨by rfl, ?_⟩) ?_ ?_
          rotate_left
          ·
           intro w'
           go_simp
           with_reducible rfl
          rotate_left
          ·
           exact sP
          refine done_ (by kernel_rfl) ?_
          go_upto_if 85 with (fail)
          have H := HC128.out
          clear HC128
          by_cases c134 : t410 = true
          rotate_left
          ·
           replace c134 := Bool.eq_false_iff.mpr c134
           subst c134
           rw [if_neg (show ¬ (false = true) by decide)] at H
           obtain rfl := Option.some.inj H
           go_wp2
           go_ret
           exact ⟨by first | rfl | (simp [errW_none, errW_some, i64_w]; done) | (simp [errW_none, errW_some] <;> rfl) | (simp [*, errW_none, errW_some] <;> rfl), by repeat (first | (with_reducible first | exact HB.out | apply below_alloc | apply pw_below_drewN | apply below_drew1) | exact HB.out)⟩
          subst c134
          rw [if_pos rfl] at H
          replace H := Option.bind_eq_some_iff.mp H
          obtain ⟨⟨t411, t412⟩, A1350, H⟩ := H
          try dsimp only at H
          have A135 := aS A1350
          clear A1350
          replace H := Option.bind_eq_some_iff.mp H
          obtain ⟨⟨t413, t414, t415⟩, A1360, H⟩ := H
          try dsimp only at H
          have A136 := aS A1360
          clear A1360
          replace H := Option.bind_eq_some_iff.mp H
          obtain ⟨⟨t416, t417, t418⟩, A1370, H⟩ := H
          try dsimp only at H
          have A137 := aS A1370
          clear A1370
          have HC138 := aS H
          clear H
          go_upto_region 28 with (first | ((with_reducible refine gate_callee (f := 20) rfl ?_); refine goesL_ (some 88) rfl rfl Try.func20 (by kernel_rfl) rfl #[.slice Ao72 t367.length co72, .int .i64 1] rfl sG ?_; (with_reducible refine (laws_markJoinS.calls kj30 (fun k_ => some k_ = (.slice Ao72 t367.length co72 : Value).ownBlock) (.slice Ao72 t367.length co72) t367 1 t411 t412 w _ ?side1 ?side2 A135.out).mono ?_); (case side1 => repeat (first | (with_reducible first | exact HB.out | apply below_alloc | apply pw_below_drewN | apply below_drew1 | refine below_set ?_ GE339.out | refine below_set ?_ GE340.out | refine below_set ?_ GE366.out | refine below_set ?_ GE376.out | refine below_set ?_ GE383.out | refine below_set ?_ GE391.out) | exact HB.out)); (case side2 => exact Kd.R_tight rfl HO_12.out); rintro e w139 ⟨rfl, hy0, hb, hkp⟩; refine ⟨_, rfl, ?_⟩; replace HO_367000 := aS (Kd.R_mono (ok' := fun k_ => some k_ ≠ (.slice Ao54 t370.length co54 : Value).ownBlock ∧ some k_ ≠ (.slice Ao64 t377.length co64 : Value).ownBlock ∧ some k_ ≠ (.slice Ao75 t384.length co75 : Value).ownBlock ∧ some k_ ≠ (.slice Ao122 t397.length co122 : Value).ownBlock ∧ some k_ ≠ (.slice Ao131 t404.length co131 : Value).ownBlock) (Kd.R_keptB ((Kd.R_apart' HO_367000.out (Kd.R_typed HO_12.out) (by decide))) hkp (fun k_ hk_ hs_ => (hk_.2) hs_)) (fun k_ hk_ => ⟨hk_.1.1.1.1.1, hk_.1.1.1.1.2.1, hk_.1.1.1.1.2.2, hk_.1.1.1.2, hk_.1.1.2⟩)); replace HO_367001 := aS (Kd.R_mono (ok' := fun k_ => some k_ ≠ (.slice Ao59 t373.length co59 : Value).ownBlock ∧ some k_ ≠ (.slice Ao70 t380.length co70 : Value).ownBlock ∧ some k_ ≠ (.slice Ao82 t387.length co82 : Value).ownBlock ∧ some k_ ≠ (.slice Ao123 t400.length co123 : Value).ownBlock ∧ some k_ ≠ (.slice Ao132 t407.length co132 : Value).ownBlock) (Kd.R_keptB ((Kd.R_apart' HO_367001.out (Kd.R_typed HO_12.out) (by decide))) hkp (fun k_ hk_ hs_ => (hk_.2) hs_)) (fun k_ hk_ => ⟨hk_.1.1.1.1.1, hk_.1.1.1.1.2.1, hk_.1.1.1.1.2.2, hk_.1.1.1.2, hk_.1.1.2⟩)); replace HO_377000 := aS (Kd.R_mono (ok' := fun k_ => some k_ ≠ (.slice Ao44 t359.length co44 : Value).ownBlock ∧ some k_ ≠ (.slice Ao64 t377.length co64 : Value).ownBlock ∧ some k_ ≠ (.slice Ao75 t384.length co75 : Value).ownBlock ∧ some k_ ≠ (.slice Ao122 t397.length co122 : Value).ownBlock ∧ some k_ ≠ (.slice Ao131 t404.length co131 : Value).ownBlock) (Kd.R_keptB ((Kd.R_apart' HO_377000.out (Kd.R_typed HO_12.out) (by decide))) hkp (fun k_ hk_ hs_ => (hk_.2) hs_)) (fun k_ hk_ => ⟨hk_.1.1.1.1.1, hk_.1.1.1.1.2.1, hk_.1.1.1.1.2.2, hk_.1.1.1.2, hk_.1.1.2⟩)); replace HO_377001 := aS (Kd.R_mono (ok' := fun k_ => some k_ ≠ (.slice Ao46 t362.length co46 : Value).ownBlock ∧ some k_ ≠ (.slice Ao70 t380.length co70 : Value).ownBlock ∧ some k_ ≠ (.slice Ao82 t387.length co82 : Value).ownBlock ∧ some k_ ≠ (.slice Ao123 t400.length co123 : Value).ownBlock ∧ some k_ ≠ (.slice Ao132 t407.length co132 : Value).ownBlock) (Kd.R_keptB ((Kd.R_apart' HO_377001.out (Kd.R_typed HO_12.out) (by decide))) hkp (fun k_ hk_ hs_ => (hk_.2) hs_)) (fun k_ hk_ => ⟨hk_.1.1.1.1.1, hk_.1.1.1.1.2.1, hk_.1.1.1.1.2.2, hk_.1.1.1.2, hk_.1.1.2⟩)); replace HO_384000 := aS (Kd.R_mono (ok' := fun k_ => some k_ ≠ (.slice Ao44 t359.length co44 : Value).ownBlock ∧ some k_ ≠ (.slice Ao54 t370.length co54 : Value).ownBlock ∧ some k_ ≠ (.slice Ao75 t384.length co75 : Value).ownBlock ∧ some k_ ≠ (.slice Ao122 t397.length co122 : Value).ownBlock ∧ some k_ ≠ (.slice Ao131 t404.length co131 : Value).ownBlock) (Kd.R_keptB ((Kd.R_apart' HO_384000.out (Kd.R_typed HO_12.out) (by decide))) hkp (fun k_ hk_ hs_ => (hk_.2) hs_)) (fun k_ hk_ => ⟨hk_.1.1.1.1.1, hk_.1.1.1.1.2.1, hk_.1.1.1.1.2.2, hk_.1.1.1.2, hk_.1.1.2⟩)); replace HO_384001 := aS (Kd.R_mono (ok' := fun k_ => some k_ ≠ (.slice Ao46 t362.length co46 : Value).ownBlock ∧ some k_ ≠ (.slice Ao59 t373.length co59 : Value).ownBlock ∧ some k_ ≠ (.slice Ao82 t387.length co82 : Value).ownBlock ∧ some k_ ≠ (.slice Ao123 t400.length co123 : Value).ownBlock ∧ some k_ ≠ (.slice Ao132 t407.length co132 : Value).ownBlock) (Kd.R_keptB ((Kd.R_apart' HO_384001.out (Kd.R_typed HO_12.out) (by decide))) hkp (fun k_ hk_ hs_ => (hk_.2) hs_)) (fun k_ hk_ => ⟨hk_.1.1.1.1.1, hk_.1.1.1.1.2.1, hk_.1.1.1.1.2.2, hk_.1.1.1.2, hk_.1.1.2⟩)); replace HO_392000 := aS (Kd.R_mono (ok' := fun k_ => some k_ ≠ (.slice Ao44 t359.length co44 : Value).ownBlock ∧ some k_ ≠ (.slice Ao54 t370.length co54 : Value).ownBlock ∧ some k_ ≠ (.slice Ao64 t377.length co64 : Value).ownBlock ∧ some k_ ≠ (.slice Ao122 t397.length co122 : Value).ownBlock ∧ some k_ ≠ (.slice Ao131 t404.length co131 : Value).ownBlock) (Kd.R_keptB ((Kd.R_apart' HO_392000.out (Kd.R_typed HO_12.out) (by decide))) hkp (fun k_ hk_ hs_ => (hk_.2) hs_)) (fun k_ hk_ => ⟨hk_.1.1.1.1.1, hk_.1.1.1.1.2.1, hk_.1.1.1.1.2.2, hk_.1.1.1.2, hk_.1.1.2⟩)); replace HO_392001 := aS (Kd.R_mono (ok' := fun k_ => some k_ ≠ (.slice Ao46 t362.length co46 : Value).ownBlock ∧ some k_ ≠ (.slice Ao59 t373.length co59 : Value).ownBlock ∧ some k_ ≠ (.slice Ao70 t380.length co70 : Value).ownBlock ∧ some k_ ≠ (.slice Ao123 t400.length co123 : Value).ownBlock ∧ some k_ ≠ (.slice Ao132 t407.length co132 : Value).ownBlock) (Kd.R_keptB ((Kd.R_apart' HO_392001.out (Kd.R_typed HO_12.out) (by decide))) hkp (fun k_ hk_ hs_ => (hk_.2) hs_)) (fun k_ hk_ => ⟨hk_.1.1.1.1.1, hk_.1.1.1.1.2.1, hk_.1.1.1.1.2.2, hk_.1.1.1.2, hk_.1.1.2⟩)); replace BK339 := aS (blk_kept (sB BK339.out) hkp (fun hs_ => (fun e_ => (Kd.R_ne HO_12.out BK339.out (by decide)) e_) hs_)); replace BK340 := aS (blk_kept (sB BK340.out) hkp (fun hs_ => (fun e_ => (Kd.R_ne HO_12.out BK340.out (by decide)) e_) hs_)); replace BK366 := aS (blk_kept (sB BK366.out) hkp (fun hs_ => (fun e_ => (Kd.R_ne HO_12.out BK366.out (by decide)) e_) hs_)); replace BK376 := aS (blk_kept (sB BK376.out) hkp (fun hs_ => (fun e_ => (Kd.R_ne HO_12.out BK376.out (by decide)) e_) hs_)); replace BK383 := aS (blk_kept (sB BK383.out) hkp (fun hs_ => (fun e_ => (Kd.R_ne HO_12.out BK383.out (by decide)) e_) hs_)); replace BK391 := aS (blk_kept (sB BK391.out) hkp (fun hs_ => (fun e_ => (Kd.R_ne HO_12.out BK391.out (by decide)) e_) hs_)); replace HO395 := aS (Kd.R_mono (ok' := fun k_ => some k_ ≠ (.slice Ao72 t367.length co72 : Value).ownBlock) (Kd.R_keptB (HO395.out) hkp (fun k_ hk_ hs_ => (hk_.2) hs_)) (fun k_ hk_ => hk_.1.2)); replace HO399 := aS (Kd.R_mono (ok' := fun k_ => some k_ ≠ (.slice Ao44 t359.length co44 : Value).ownBlock ∧ some k_ ≠ (.slice Ao54 t370.length co54 : Value).ownBlock ∧ some k_ ≠ (.slice Ao64 t377.length co64 : Value).ownBlock ∧ some k_ ≠ (.slice Ao75 t384.length co75 : Value).ownBlock ∧ some k_ ≠ (.slice Ao131 t404.length co131 : Value).ownBlock) (Kd.R_keptB ((Kd.R_apart' HO399.out (Kd.R_typed HO_12.out) (by decide))) hkp (fun k_ hk_ hs_ => (hk_.2) hs_)) (fun k_ hk_ => ⟨hk_.1.1.1.1.1.1.2, hk_.1.1.1.1.1.2, hk_.1.1.1.1.2, hk_.1.1.1.2, hk_.1.1.2⟩)); replace HO402 := aS (Kd.R_mono (ok' := fun k_ => some k_ ≠ (.slice Ao46 t362.length co46 : Value).ownBlock ∧ some k_ ≠ (.slice Ao59 t373.length co59 : Value).ownBlock ∧ some k_ ≠ (.slice Ao70 t380.length co70 : Value).ownBlock ∧ some k_ ≠ (.slice Ao82 t387.length co82 : Value).ownBlock ∧ some k_ ≠ (.slice Ao132 t407.length co132 : Value).ownBlock) (Kd.R_keptB ((Kd.R_apart' HO402.out (Kd.R_typed HO_12.out) (by decide))) hkp (fun k_ hk_ hs_ => (hk_.2) hs_)) (fun k_ hk_ => ⟨hk_.1.1.1.1.1.1.2, hk_.1.1.1.1.1.2, hk_.1.1.1.1.2, hk_.1.1.1.2, hk_.1.1.2⟩)); replace HO406 := aS (Kd.R_mono (ok' := fun k_ => some k_ ≠ (.slice Ao44 t359.length co44 : Value).ownBlock ∧ some k_ ≠ (.slice Ao54 t370.length co54 : Value).ownBlock ∧ some k_ ≠ (.slice Ao64 t377.length co64 : Value).ownBlock ∧ some k_ ≠ (.slice Ao75 t384.length co75 : Value).ownBlock ∧ some k_ ≠ (.slice Ao122 t397.length co122 : Value).ownBlock) (Kd.R_keptB ((Kd.R_apart' HO406.out (Kd.R_typed HO_12.out) (by decide))) hkp (fun k_ hk_ hs_ => (hk_.2) hs_)) (fun k_ hk_ => ⟨hk_.1.1.1.1.1.1.2, hk_.1.1.1.1.1.2, hk_.1.1.1.1.2, hk_.1.1.1.2, hk_.1.1.2⟩)); replace HO409 := aS (Kd.R_mono (ok' := fun k_ => some k_ ≠ (.slice Ao46 t362.length co46 : Value).ownBlock ∧ some k_ ≠ (.slice Ao59 t373.length co59 : Value).ownBlock ∧ some k_ ≠ (.slice Ao70 t380.length co70 : Value).ownBlock ∧ some k_ ≠ (.slice Ao82 t387.length co82 : Value).ownBlock ∧ some k_ ≠ (.slice Ao123 t400.length co123 : Value).ownBlock) (Kd.R_keptB ((Kd.R_apart' HO409.out (Kd.R_typed HO_12.out) (by decide))) hkp (fun k_ hk_ hs_ => (hk_.2) hs_)) (fun k_ hk_ => ⟨hk_.1.1.1.1.1.1.2, hk_.1.1.1.1.1.2, hk_.1.1.1.1.2, hk_.1.1.1.2, hk_.1.1.2⟩)); replace HO_12 := aS (Kd.R_reok rfl hy0 (fun k_ e_ => HO_12.out.1 k_ e_)); replace HB := aS (hb); (try clear hb); (try clear hkp); (try clear hy0); have hnb140 := NB376_339.out; have hnc140 := NB339_376.out; have hnb141 := NB376_340.out; have hnc141 := NB340_376.out; have hnb142 := NB376_366.out; have hnc142 := NB366_376.out; have hnb143 := NB376_383.out; have hnc143 := NB383_376.out; have hnb144 := NB376_391.out; have hnc144 := NB391_376.out; have hcz145_0 : w139.cell? ⟨gb376, 0, none⟩ = some (.slice Ao54 t370.length co54) := (blk_cell BK376.out 0).trans rfl; have hcz145_1 : w139.cell? ⟨gb376, 1, none⟩ = some (.slice Ao59 t373.length co59) := (blk_cell BK376.out 1).trans rfl; have hfz145_0 := blk_frozen BK376.out 0; have hfz145_1 := blk_frozen BK376.out 1) | ((with_reducible refine gate_callee (f := 21) rfl ?_); refine goesL_ (some 91) rfl rfl Try.func21 (by kernel_rfl) rfl #[.agg #[.slice Ao54 t370.length co54, .slice Ao59 t373.length co59], .int .i64 t411] rfl sG ?_; (with_reducible refine (laws_markLine.calls kj30 (fun k_ => some k_ = (.slice Ao54 t370.length co54 : Value).ownBlock) (.slice Ao54 t370.length co54) t370 (fun k_ => some k_ = (.slice Ao59 t373.length co59 : Value).ownBlock) (.slice Ao59 t373.length co59) t373 t411 t413 t414 t415 w _ ?side1 ?side2 ?side3 A136.out).mono ?_); (case side1 => repeat (first | (with_reducible first | exact HB.out | apply below_alloc | apply pw_below_drewN | apply below_drew1 | refine below_set ?_ GE339.out | refine below_set ?_ GE340.out | refine below_set ?_ GE366.out | refine below_set ?_ GE376.out | refine below_set ?_ GE383.out | refine below_set ?_ GE391.out) | exact HB.out)); (case side2 => exact Kd.R_tight rfl HO_377000.out); (case side3 => exact Kd.R_tight rfl HO_377001.out); rintro e w146 ⟨rfl, hy0, hy1, hb, hkp⟩; refine ⟨_, rfl, ?_⟩; replace HO_12 := aS (Kd.R_mono (ok' := fun k_ => some k_ ≠ (.slice Ao114 t393.length co114 : Value).ownBlock) (Kd.R_keptB ((Kd.R_apart' (Kd.R_apart' HO_12.out (Kd.R_typed HO_377000.out) (by decide)) (Kd.R_typed HO_377001.out) (by decide))) hkp (fun k_ hk_ hs_ => Or.elim hs_ (fun e_ => (hk_.1.2) e_) (fun e_ => (hk_.2) e_))) (fun k_ hk_ => hk_.1.1.1.2)); replace HO_367000 := aS (Kd.R_mono (ok' := fun k_ => some k_ ≠ (.slice Ao54 t370.length co54 : Value).ownBlock ∧ some k_ ≠ (.slice Ao64 t377.length co64 : Value).ownBlock ∧ some k_ ≠ (.slice Ao75 t384.length co75 : Value).ownBlock ∧ some k_ ≠ (.slice Ao122 t397.length co122 : Value).ownBlock ∧ some k_ ≠ (.slice Ao131 t404.length co131 : Value).ownBlock) (Kd.R_keptB ((Kd.R_apart' HO_367000.out (Kd.R_typed HO_377001.out) (by decide))) hkp (fun k_ hk_ hs_ => Or.elim hs_ (fun e_ => (hk_.1.1) e_) (fun e_ => (hk_.2) e_))) (fun k_ hk_ => ⟨hk_.1.1.1, hk_.1.1.2.1, hk_.1.1.2.2.1, hk_.1.1.2.2.2.1, hk_.1.1.2.2.2.2⟩)); replace HO_367001 := aS (Kd.R_mono (ok' := fun k_ => some k_ ≠ (.slice Ao59 t373.length co59 : Value).ownBlock ∧ some k_ ≠ (.slice Ao70 t380.length co70 : Value).ownBlock ∧ some k_ ≠ (.slice Ao82 t387.length co82 : Value).ownBlock ∧ some k_ ≠ (.slice Ao123 t400.length co123 : Value).ownBlock ∧ some k_ ≠ (.slice Ao132 t407.length co132 : Value).ownBlock) (Kd.R_keptB ((Kd.R_apart' HO_367001.out (Kd.R_typed HO_377000.out) (by decide))) hkp (fun k_ hk_ hs_ => Or.elim hs_ (fun e_ => (hk_.2) e_) (fun e_ => (hk_.1.1) e_))) (fun k_ hk_ => ⟨hk_.1.1.1, hk_.1.1.2.1, hk_.1.1.2.2.1, hk_.1.1.2.2.2.1, hk_.1.1.2.2.2.2⟩)); replace HO_384000 := aS (Kd.R_mono (ok' := fun k_ => some k_ ≠ (.slice Ao44 t359.length co44 : Value).ownBlock ∧ some k_ ≠ (.slice Ao54 t370.length co54 : Value).ownBlock ∧ some k_ ≠ (.slice Ao75 t384.length co75 : Value).ownBlock ∧ some k_ ≠ (.slice Ao122 t397.length co122 : Value).ownBlock ∧ some k_ ≠ (.slice Ao131 t404.length co131 : Value).ownBlock) (Kd.R_keptB ((Kd.R_apart' HO_384000.out (Kd.R_typed HO_377001.out) (by decide))) hkp (fun k_ hk_ hs_ => Or.elim hs_ (fun e_ => (hk_.1.2.1) e_) (fun e_ => (hk_.2) e_))) (fun k_ hk_ => ⟨hk_.1.1.1, hk_.1.1.2.1, hk_.1.1.2.2.1, hk_.1.1.2.2.2.1, hk_.1.1.2.2.2.2⟩)); replace HO_384001 := aS (Kd.R_mono (ok' := fun k_ => some k_ ≠ (.slice Ao46 t362.length co46 : Value).ownBlock ∧ some k_ ≠ (.slice Ao59 t373.length co59 : Value).ownBlock ∧ some k_ ≠ (.slice Ao82 t387.length co82 : Value).ownBlock ∧ some k_ ≠ (.slice Ao123 t400.length co123 : Value).ownBlock ∧ some k_ ≠ (.slice Ao132 t407.length co132 : Value).ownBlock) (Kd.R_keptB ((Kd.R_apart' HO_384001.out (Kd.R_typed HO_377000.out) (by decide))) hkp (fun k_ hk_ hs_ => Or.elim hs_ (fun e_ => (hk_.2) e_) (fun e_ => (hk_.1.2.1) e_))) (fun k_ hk_ => ⟨hk_.1.1.1, hk_.1.1.2.1, hk_.1.1.2.2.1, hk_.1.1.2.2.2.1, hk_.1.1.2.2.2.2⟩)); replace HO_392000 := aS (Kd.R_mono (ok' := fun k_ => some k_ ≠ (.slice Ao44 t359.length co44 : Value).ownBlock ∧ some k_ ≠ (.slice Ao54 t370.length co54 : Value).ownBlock ∧ some k_ ≠ (.slice Ao64 t377.length co64 : Value).ownBlock ∧ some k_ ≠ (.slice Ao122 t397.length co122 : Value).ownBlock ∧ some k_ ≠ (.slice Ao131 t404.length co131 : Value).ownBlock) (Kd.R_keptB ((Kd.R_apart' HO_392000.out (Kd.R_typed HO_377001.out) (by decide))) hkp (fun k_ hk_ hs_ => Or.elim hs_ (fun e_ => (hk_.1.2.1) e_) (fun e_ => (hk_.2) e_))) (fun k_ hk_ => ⟨hk_.1.1.1, hk_.1.1.2.1, hk_.1.1.2.2.1, hk_.1.1.2.2.2.1, hk_.1.1.2.2.2.2⟩)); replace HO_392001 := aS (Kd.R_mono (ok' := fun k_ => some k_ ≠ (.slice Ao46 t362.length co46 : Value).ownBlock ∧ some k_ ≠ (.slice Ao59 t373.length co59 : Value).ownBlock ∧ some k_ ≠ (.slice Ao70 t380.length co70 : Value).ownBlock ∧ some k_ ≠ (.slice Ao123 t400.length co123 : Value).ownBlock ∧ some k_ ≠ (.slice Ao132 t407.length co132 : Value).ownBlock) (Kd.R_keptB ((Kd.R_apart' HO_392001.out (Kd.R_typed HO_377000.out) (by decide))) hkp (fun k_ hk_ hs_ => Or.elim hs_ (fun e_ => (hk_.2) e_) (fun e_ => (hk_.1.2.1) e_))) (fun k_ hk_ => ⟨hk_.1.1.1, hk_.1.1.2.1, hk_.1.1.2.2.1, hk_.1.1.2.2.2.1, hk_.1.1.2.2.2.2⟩)); replace BK339 := aS (blk_kept (sB BK339.out) hkp (fun hs_ => Or.elim hs_ (fun e_ => (fun e_ => (Kd.R_ne HO_377000.out BK339.out (by decide)) e_) e_) (fun e_ => (fun e_ => (Kd.R_ne HO_377001.out BK339.out (by decide)) e_) e_))); replace BK340 := aS (blk_kept (sB BK340.out) hkp (fun hs_ => Or.elim hs_ (fun e_ => (fun e_ => (Kd.R_ne HO_377000.out BK340.out (by decide)) e_) e_) (fun e_ => (fun e_ => (Kd.R_ne HO_377001.out BK340.out (by decide)) e_) e_))); replace BK366 := aS (blk_kept (sB BK366.out) hkp (fun hs_ => Or.elim hs_ (fun e_ => (fun e_ => (Kd.R_ne HO_377000.out BK366.out (by decide)) e_) e_) (fun e_ => (fun e_ => (Kd.R_ne HO_377001.out BK366.out (by decide)) e_) e_))); replace BK376 := aS (blk_kept (sB BK376.out) hkp (fun hs_ => Or.elim hs_ (fun e_ => (fun e_ => (Kd.R_ne HO_377000.out BK376.out (by decide)) e_) e_) (fun e_ => (fun e_ => (Kd.R_ne HO_377001.out BK376.out (by decide)) e_) e_))); replace BK383 := aS (blk_kept (sB BK383.out) hkp (fun hs_ => Or.elim hs_ (fun e_ => (fun e_ => (Kd.R_ne HO_377000.out BK383.out (by decide)) e_) e_) (fun e_ => (fun e_ => (Kd.R_ne HO_377001.out BK383.out (by decide)) e_) e_))); replace BK391 := aS (blk_kept (sB BK391.out) hkp (fun hs_ => Or.elim hs_ (fun e_ => (fun e_ => (Kd.R_ne HO_377000.out BK391.out (by decide)) e_) e_) (fun e_ => (fun e_ => (Kd.R_ne HO_377001.out BK391.out (by decide)) e_) e_))); replace HO395 := aS (Kd.R_mono (ok' := fun k_ => some k_ ≠ (.slice Ao72 t367.length co72 : Value).ownBlock) (Kd.R_keptB ((Kd.R_apart' (Kd.R_apart' HO395.out (Kd.R_typed HO_377000.out) (by decide)) (Kd.R_typed HO_377001.out) (by decide))) hkp (fun k_ hk_ hs_ => Or.elim hs_ (fun e_ => (hk_.1.2) e_) (fun e_ => (hk_.2) e_))) (fun k_ hk_ => hk_.1.1.1)); replace HO399 := aS (Kd.R_mono (ok' := fun k_ => some k_ ≠ (.slice Ao44 t359.length co44 : Value).ownBlock ∧ some k_ ≠ (.slice Ao54 t370.length co54 : Value).ownBlock ∧ some k_ ≠ (.slice Ao64 t377.length co64 : Value).ownBlock ∧ some k_ ≠ (.slice Ao75 t384.length co75 : Value).ownBlock ∧ some k_ ≠ (.slice Ao131 t404.length co131 : Value).ownBlock) (Kd.R_keptB ((Kd.R_apart' HO399.out (Kd.R_typed HO_377001.out) (by decide))) hkp (fun k_ hk_ hs_ => Or.elim hs_ (fun e_ => (hk_.1.2.1) e_) (fun e_ => (hk_.2) e_))) (fun k_ hk_ => ⟨hk_.1.1.1, hk_.1.1.2.1, hk_.1.1.2.2.1, hk_.1.1.2.2.2.1, hk_.1.1.2.2.2.2⟩)); replace HO402 := aS (Kd.R_mono (ok' := fun k_ => some k_ ≠ (.slice Ao46 t362.length co46 : Value).ownBlock ∧ some k_ ≠ (.slice Ao59 t373.length co59 : Value).ownBlock ∧ some k_ ≠ (.slice Ao70 t380.length co70 : Value).ownBlock ∧ some k_ ≠ (.slice Ao82 t387.length co82 : Value).ownBlock ∧ some k_ ≠ (.slice Ao132 t407.length co132 : Value).ownBlock) (Kd.R_keptB ((Kd.R_apart' HO402.out (Kd.R_typed HO_377000.out) (by decide))) hkp (fun k_ hk_ hs_ => Or.elim hs_ (fun e_ => (hk_.2) e_) (fun e_ => (hk_.1.2.1) e_))) (fun k_ hk_ => ⟨hk_.1.1.1, hk_.1.1.2.1, hk_.1.1.2.2.1, hk_.1.1.2.2.2.1, hk_.1.1.2.2.2.2⟩)); replace HO406 := aS (Kd.R_mono (ok' := fun k_ => some k_ ≠ (.slice Ao44 t359.length co44 : Value).ownBlock ∧ some k_ ≠ (.slice Ao54 t370.length co54 : Value).ownBlock ∧ some k_ ≠ (.slice Ao64 t377.length co64 : Value).ownBlock ∧ some k_ ≠ (.slice Ao75 t384.length co75 : Value).ownBlock ∧ some k_ ≠ (.slice Ao122 t397.length co122 : Value).ownBlock) (Kd.R_keptB ((Kd.R_apart' HO406.out (Kd.R_typed HO_377001.out) (by decide))) hkp (fun k_ hk_ hs_ => Or.elim hs_ (fun e_ => (hk_.1.2.1) e_) (fun e_ => (hk_.2) e_))) (fun k_ hk_ => ⟨hk_.1.1.1, hk_.1.1.2.1, hk_.1.1.2.2.1, hk_.1.1.2.2.2.1, hk_.1.1.2.2.2.2⟩)); replace HO_377001 := aS (Kd.R_reok rfl hy1 (fun k_ e_ => HO_377001.out.1 k_ e_)); replace HO409 := aS (Kd.R_mono (ok' := fun k_ => some k_ ≠ (.slice Ao46 t362.length co46 : Value).ownBlock ∧ some k_ ≠ (.slice Ao59 t373.length co59 : Value).ownBlock ∧ some k_ ≠ (.slice Ao70 t380.length co70 : Value).ownBlock ∧ some k_ ≠ (.slice Ao82 t387.length co82 : Value).ownBlock ∧ some k_ ≠ (.slice Ao123 t400.length co123 : Value).ownBlock) (Kd.R_keptB ((Kd.R_apart' HO409.out (Kd.R_typed HO_377000.out) (by decide))) hkp (fun k_ hk_ hs_ => Or.elim hs_ (fun e_ => (hk_.2) e_) (fun e_ => (hk_.1.2.1) e_))) (fun k_ hk_ => ⟨hk_.1.1.1, hk_.1.1.2.1, hk_.1.1.2.2.1, hk_.1.1.2.2.2.1, hk_.1.1.2.2.2.2⟩)); replace HO_377000 := aS (Kd.R_reok rfl hy0 (fun k_ e_ => HO_377000.out.1 k_ e_)); replace HB := aS (hb); (try clear hb); (try clear hkp); (try clear hy0); (try clear hy1); have hnb147 := NB383_339.out; have hnc147 := NB339_383.out; have hnb148 := NB383_340.out; have hnc148 := NB340_383.out; have hnb149 := NB383_366.out; have hnc149 := NB366_383.out; have hnb150 := NB383_391.out; have hnc150 := NB391_383.out; have hcz151_0 : w146.cell? ⟨gb383, 0, none⟩ = some (.slice Ao64 t377.length co64) := (blk_cell BK383.out 0).trans rfl; have hcz151_1 : w146.cell? ⟨gb383, 1, none⟩ = some (.slice Ao70 t380.length co70) := (blk_cell BK383.out 1).trans rfl; have hfz151_0 := blk_frozen BK383.out 0; have hfz151_1 := blk_frozen BK383.out 1) | ((with_reducible refine gate_callee (f := 21) rfl ?_); refine goesL_ (some 94) rfl rfl Try.func21 (by kernel_rfl) rfl #[.agg #[.slice Ao64 t377.length co64, .slice Ao70 t380.length co70], .int .i64 t413] rfl sG ?_; (with_reducible refine (laws_markLine.calls kj30 (fun k_ => some k_ = (.slice Ao64 t377.length co64 : Value).ownBlock) (.slice Ao64 t377.length co64) t377 (fun k_ => some k_ = (.slice Ao70 t380.length co70 : Value).ownBlock) (.slice Ao70 t380.length co70) t380 t413 t416 t417 t418 w _ ?side1 ?side2 ?side3 A137.out).mono ?_); (case side1 => repeat (first | (with_reducible first | exact HB.out | apply below_alloc | apply pw_below_drewN | apply below_drew1 | refine below_set ?_ GE339.out | refine below_set ?_ GE340.out | refine below_set ?_ GE366.out | refine below_set ?_ GE376.out | refine below_set ?_ GE383.out | refine below_set ?_ GE391.out) | exact HB.out)); (case side2 => exact Kd.R_tight rfl HO_384000.out); (case side3 => exact Kd.R_tight rfl HO_384001.out); rintro e w152 ⟨rfl, hy0, hy1, hb, hkp⟩; refine ⟨_, rfl, ?_⟩; replace HO_12 := aS (Kd.R_mono (ok' := fun k_ => some k_ ≠ (.slice Ao114 t393.length co114 : Value).ownBlock) (Kd.R_keptB ((Kd.R_apart' (Kd.R_apart' HO_12.out (Kd.R_typed HO_384000.out) (by decide)) (Kd.R_typed HO_384001.out) (by decide))) hkp (fun k_ hk_ hs_ => Or.elim hs_ (fun e_ => (hk_.1.2) e_) (fun e_ => (hk_.2) e_))) (fun k_ hk_ => hk_.1.1.1)); replace HO_367000 := aS (Kd.R_mono (ok' := fun k_ => some k_ ≠ (.slice Ao54 t370.length co54 : Value).ownBlock ∧ some k_ ≠ (.slice Ao64 t377.length co64 : Value).ownBlock ∧ some k_ ≠ (.slice Ao75 t384.length co75 : Value).ownBlock ∧ some k_ ≠ (.slice Ao122 t397.length co122 : Value).ownBlock ∧ some k_ ≠ (.slice Ao131 t404.length co131 : Value).ownBlock) (Kd.R_keptB ((Kd.R_apart' HO_367000.out (Kd.R_typed HO_384001.out) (by decide))) hkp (fun k_ hk_ hs_ => Or.elim hs_ (fun e_ => (hk_.1.2.1) e_) (fun e_ => (hk_.2) e_))) (fun k_ hk_ => ⟨hk_.1.1.1, hk_.1.1.2.1, hk_.1.1.2.2.1, hk_.1.1.2.2.2.1, hk_.1.1.2.2.2.2⟩)); replace HO_367001 := aS (Kd.R_mono (ok' := fun k_ => some k_ ≠ (.slice Ao59 t373.length co59 : Value).ownBlock ∧ some k_ ≠ (.slice Ao70 t380.length co70 : Value).ownBlock ∧ some k_ ≠ (.slice Ao82 t387.length co82 : Value).ownBlock ∧ some k_ ≠ (.slice Ao123 t400.length co123 : Value).ownBlock ∧ some k_ ≠ (.slice Ao132 t407.length co132 : Value).ownBlock) (Kd.R_keptB ((Kd.R_apart' HO_367001.out (Kd.R_typed HO_384000.out) (by decide))) hkp (fun k_ hk_ hs_ => Or.elim hs_ (fun e_ => (hk_.2) e_) (fun e_ => (hk_.1.2.1) e_))) (fun k_ hk_ => ⟨hk_.1.1.1, hk_.1.1.2.1, hk_.1.1.2.2.1, hk_.1.1.2.2.2.1, hk_.1.1.2.2.2.2⟩)); replace HO_377000 := aS (Kd.R_mono (ok' := fun k_ => some k_ ≠ (.slice Ao44 t359.length co44 : Value).ownBlock ∧ some k_ ≠ (.slice Ao64 t377.length co64 : Value).ownBlock ∧ some k_ ≠ (.slice Ao75 t384.length co75 : Value).ownBlock ∧ some k_ ≠ (.slice Ao122 t397.length co122 : Value).ownBlock ∧ some k_ ≠ (.slice Ao131 t404.length co131 : Value).ownBlock) (Kd.R_keptB ((Kd.R_apart' HO_377000.out (Kd.R_typed HO_384001.out) (by decide))) hkp (fun k_ hk_ hs_ => Or.elim hs_ (fun e_ => (hk_.1.2.1) e_) (fun e_ => (hk_.2) e_))) (fun k_ hk_ => ⟨hk_.1.1.1, hk_.1.1.2.1, hk_.1.1.2.2.1, hk_.1.1.2.2.2.1, hk_.1.1.2.2.2.2⟩)); replace HO_377001 := aS (Kd.R_mono (ok' := fun k_ => some k_ ≠ (.slice Ao46 t362.length co46 : Value).ownBlock ∧ some k_ ≠ (.slice Ao70 t380.length co70 : Value).ownBlock ∧ some k_ ≠ (.slice Ao82 t387.length co82 : Value).ownBlock ∧ some k_ ≠ (.slice Ao123 t400.length co123 : Value).ownBlock ∧ some k_ ≠ (.slice Ao132 t407.length co132 : Value).ownBlock) (Kd.R_keptB ((Kd.R_apart' HO_377001.out (Kd.R_typed HO_384000.out) (by decide))) hkp (fun k_ hk_ hs_ => Or.elim hs_ (fun e_ => (hk_.2) e_) (fun e_ => (hk_.1.2.1) e_))) (fun k_ hk_ => ⟨hk_.1.1.1, hk_.1.1.2.1, hk_.1.1.2.2.1, hk_.1.1.2.2.2.1, hk_.1.1.2.2.2.2⟩)); replace HO_392000 := aS (Kd.R_mono (ok' := fun k_ => some k_ ≠ (.slice Ao44 t359.length co44 : Value).ownBlock ∧ some k_ ≠ (.slice Ao54 t370.length co54 : Value).ownBlock ∧ some k_ ≠ (.slice Ao64 t377.length co64 : Value).ownBlock ∧ some k_ ≠ (.slice Ao122 t397.length co122 : Value).ownBlock ∧ some k_ ≠ (.slice Ao131 t404.length co131 : Value).ownBlock) (Kd.R_keptB ((Kd.R_apart' HO_392000.out (Kd.R_typed HO_384001.out) (by decide))) hkp (fun k_ hk_ hs_ => Or.elim hs_ (fun e_ => (hk_.1.2.2.1) e_) (fun e_ => (hk_.2) e_))) (fun k_ hk_ => ⟨hk_.1.1.1, hk_.1.1.2.1, hk_.1.1.2.2.1, hk_.1.1.2.2.2.1, hk_.1.1.2.2.2.2⟩)); replace HO_392001 := aS (Kd.R_mono (ok' := fun k_ => some k_ ≠ (.slice Ao46 t362.length co46 : Value).ownBlock ∧ some k_ ≠ (.slice Ao59 t373.length co59 : Value).ownBlock ∧ some k_ ≠ (.slice Ao70 t380.length co70 : Value).ownBlock ∧ some k_ ≠ (.slice Ao123 t400.length co123 : Value).ownBlock ∧ some k_ ≠ (.slice Ao132 t407.length co132 : Value).ownBlock) (Kd.R_keptB ((Kd.R_apart' HO_392001.out (Kd.R_typed HO_384000.out) (by decide))) hkp (fun k_ hk_ hs_ => Or.elim hs_ (fun e_ => (hk_.2) e_) (fun e_ => (hk_.1.2.2.1) e_))) (fun k_ hk_ => ⟨hk_.1.1.1, hk_.1.1.2.1, hk_.1.1.2.2.1, hk_.1.1.2.2.2.1, hk_.1.1.2.2.2.2⟩)); replace BK339 := aS (blk_kept (sB BK339.out) hkp (fun hs_ => Or.elim hs_ (fun e_ => (fun e_ => (Kd.R_ne HO_384000.out BK339.out (by decide)) e_) e_) (fun e_ => (fun e_ => (Kd.R_ne HO_384001.out BK339.out (by decide)) e_) e_))); replace BK340 := aS (blk_kept (sB BK340.out) hkp (fun hs_ => Or.elim hs_ (fun e_ => (fun e_ => (Kd.R_ne HO_384000.out BK340.out (by decide)) e_) e_) (fun e_ => (fun e_ => (Kd.R_ne HO_384001.out BK340.out (by decide)) e_) e_))); replace BK366 := aS (blk_kept (sB BK366.out) hkp (fun hs_ => Or.elim hs_ (fun e_ => (fun e_ => (Kd.R_ne HO_384000.out BK366.out (by decide)) e_) e_) (fun e_ => (fun e_ => (Kd.R_ne HO_384001.out BK366.out (by decide)) e_) e_))); replace BK376 := aS (blk_kept (sB BK376.out) hkp (fun hs_ => Or.elim hs_ (fun e_ => (fun e_ => (Kd.R_ne HO_384000.out BK376.out (by decide)) e_) e_) (fun e_ => (fun e_ => (Kd.R_ne HO_384001.out BK376.out (by decide)) e_) e_))); replace BK383 := aS (blk_kept (sB BK383.out) hkp (fun hs_ => Or.elim hs_ (fun e_ => (fun e_ => (Kd.R_ne HO_384000.out BK383.out (by decide)) e_) e_) (fun e_ => (fun e_ => (Kd.R_ne HO_384001.out BK383.out (by decide)) e_) e_))); replace BK391 := aS (blk_kept (sB BK391.out) hkp (fun hs_ => Or.elim hs_ (fun e_ => (fun e_ => (Kd.R_ne HO_384000.out BK391.out (by decide)) e_) e_) (fun e_ => (fun e_ => (Kd.R_ne HO_384001.out BK391.out (by decide)) e_) e_))); replace HO395 := aS (Kd.R_mono (ok' := fun k_ => some k_ ≠ (.slice Ao72 t367.length co72 : Value).ownBlock) (Kd.R_keptB ((Kd.R_apart' (Kd.R_apart' HO395.out (Kd.R_typed HO_384000.out) (by decide)) (Kd.R_typed HO_384001.out) (by decide))) hkp (fun k_ hk_ hs_ => Or.elim hs_ (fun e_ => (hk_.1.2) e_) (fun e_ => (hk_.2) e_))) (fun k_ hk_ => hk_.1.1.1)); replace HO399 := aS (Kd.R_mono (ok' := fun k_ => some k_ ≠ (.slice Ao44 t359.length co44 : Value).ownBlock ∧ some k_ ≠ (.slice Ao54 t370.length co54 : Value).ownBlock ∧ some k_ ≠ (.slice Ao64 t377.length co64 : Value).ownBlock ∧ some k_ ≠ (.slice Ao75 t384.length co75 : Value).ownBlock ∧ some k_ ≠ (.slice Ao131 t404.length co131 : Value).ownBlock) (Kd.R_keptB ((Kd.R_apart' HO399.out (Kd.R_typed HO_384001.out) (by decide))) hkp (fun k_ hk_ hs_ => Or.elim hs_ (fun e_ => (hk_.1.2.2.1) e_) (fun e_ => (hk_.2) e_))) (fun k_ hk_ => ⟨hk_.1.1.1, hk_.1.1.2.1, hk_.1.1.2.2.1, hk_.1.1.2.2.2.1, hk_.1.1.2.2.2.2⟩)); replace HO402 := aS (Kd.R_mono (ok' := fun k_ => some k_ ≠ (.slice Ao46 t362.length co46 : Value).ownBlock ∧ some k_ ≠ (.slice Ao59 t373.length co59 : Value).ownBlock ∧ some k_ ≠ (.slice Ao70 t380.length co70 : Value).ownBlock ∧ some k_ ≠ (.slice Ao82 t387.length co82 : Value).ownBlock ∧ some k_ ≠ (.slice Ao132 t407.length co132 : Value).ownBlock) (Kd.R_keptB ((Kd.R_apart' HO402.out (Kd.R_typed HO_384000.out) (by decide))) hkp (fun k_ hk_ hs_ => Or.elim hs_ (fun e_ => (hk_.2) e_) (fun e_ => (hk_.1.2.2.1) e_))) (fun k_ hk_ => ⟨hk_.1.1.1, hk_.1.1.2.1, hk_.1.1.2.2.1, hk_.1.1.2.2.2.1, hk_.1.1.2.2.2.2⟩)); replace HO406 := aS (Kd.R_mono (ok' := fun k_ => some k_ ≠ (.slice Ao44 t359.length co44 : Value).ownBlock ∧ some k_ ≠ (.slice Ao54 t370.length co54 : Value).ownBlock ∧ some k_ ≠ (.slice Ao64 t377.length co64 : Value).ownBlock ∧ some k_ ≠ (.slice Ao75 t384.length co75 : Value).ownBlock ∧ some k_ ≠ (.slice Ao122 t397.length co122 : Value).ownBlock) (Kd.R_keptB ((Kd.R_apart' HO406.out (Kd.R_typed HO_384001.out) (by decide))) hkp (fun k_ hk_ hs_ => Or.elim hs_ (fun e_ => (hk_.1.2.2.1) e_) (fun e_ => (hk_.2) e_))) (fun k_ hk_ => ⟨hk_.1.1.1, hk_.1.1.2.1, hk_.1.1.2.2.1, hk_.1.1.2.2.2.1, hk_.1.1.2.2.2.2⟩)); replace HO_384001 := aS (Kd.R_reok rfl hy1 (fun k_ e_ => HO_384001.out.1 k_ e_)); replace HO409 := aS (Kd.R_mono (ok' := fun k_ => some k_ ≠ (.slice Ao46 t362.length co46 : Value).ownBlock ∧ some k_ ≠ (.slice Ao59 t373.length co59 : Value).ownBlock ∧ some k_ ≠ (.slice Ao70 t380.length co70 : Value).ownBlock ∧ some k_ ≠ (.slice Ao82 t387.length co82 : Value).ownBlock ∧ some k_ ≠ (.slice Ao123 t400.length co123 : Value).ownBlock) (Kd.R_keptB ((Kd.R_apart' HO409.out (Kd.R_typed HO_384000.out) (by decide))) hkp (fun k_ hk_ hs_ => Or.elim hs_ (fun e_ => (hk_.2) e_) (fun e_ => (hk_.1.2.2.1) e_))) (fun k_ hk_ => ⟨hk_.1.1.1, hk_.1.1.2.1, hk_.1.1.2.2.1, hk_.1.1.2.2.2.1, hk_.1.1.2.2.2.2⟩)); replace HO_384000 := aS (Kd.R_reok rfl hy0 (fun k_ e_ => HO_384000.out.1 k_ e_)); replace HB := aS (hb); (try clear hb); (try clear hkp); (try clear hy0); (try clear hy1)))
          (try simp only [Act.put, List.setIfInBounds_toArray, List.set_cons_zero, List.set_cons_succ])
          go_cut [107] (fun v107 wc => ∃ (kq : Nat) (x107_137 : Bool), v107 = .bool x107_137 ∧ Aside0 (laws_FnExactJoinLines.j1 kq l0 a3 t365 x107_137 l1_0 l1_1 l2_0 l2_1 t359 t362 t384 t387 = some r) ∧ Aside0 (kq ≤ kj30) ∧ Aside0 (Kd.R k91 91 wc w.heap.size (fun k_ => some k_ ≠ ((.slice Ao75 t384.length co75) : Value).ownBlock) (.slice Ao44 t359.length co44) t359) ∧ Aside0 (Kd.R (Kd.int .i64) 2 wc w.heap.size (fun k_ => some k_ ≠ ((.slice Ao82 t387.length co82) : Value).ownBlock) (.slice Ao46 t362.length co46) t362) ∧ Aside0 (Kd.R k91 91 wc w.heap.size (fun k_ => some k_ ≠ ((.slice Ao44 t359.length co44) : Value).ownBlock) (.slice Ao75 t384.length co75) t384) ∧ Aside0 (Kd.R (Kd.int .i64) 2 wc w.heap.size (fun k_ => some k_ ≠ ((.slice Ao46 t362.length co46) : Value).ownBlock) (.slice Ao82 t387.length co82) t387) ∧ Aside0 (wc.heap[gb339]? = some (.cells #[(.slice A1_0 l1_0.length c1_0), (.slice A1_1 l1_1.length c1_1)] 40 (0, 0))) ∧ Aside0 (wc.heap[gb340]? = some (.cells #[(.slice A2_0 l2_0.length c2_0), (.slice A2_1 l2_1.length c2_1)] 40 (0, 0))) ∧ Aside0 (wc.heap[gb366]? = some (.cells #[(.slice Ao44 t359.length co44), (.slice Ao46 t362.length co46)] 45 (0, 0))) ∧ Aside0 (wc.heap[gb391]? = some (.cells #[(.slice Ao75 t384.length co75), (.slice Ao82 t387.length co82)] 45 (0, 0))) ∧ Aside0 (Below w.heap.size w wc))
          case first =>
           as_aux_lemma =>
            have H := HC138.out
            clear HC138
            by_cases c153 : t416 < 0
            ·
             rw [if_pos c153] at H
             have c153b0 : decide (t416 < 0) = true := decide_eq_true c153
             clear c153
             (first | rw [c153b0] | (simp only [i64_w, i32_w]; rw [c153b0]) | (rw [c153b2]; simp only [Bool.not_false, Bool.not_true]) | skip)
             have H' := aS H
             clear H
             go_wp2
             go_meet
             case rel => exact ⟨_, (true), (by first | rfl | (simp; done) | (simp [*]; done) | (simp only [i64_w]; done) | (simp [i64_w]; done)), H', ⟨by have := HJ30.out; first | omega | exact Nat.le_refl _⟩, (aS (sR (Kd.R_mono HO_367000.out (fun _ hk => hk.2.2.1)))), (aS (sR (Kd.R_mono HO_367001.out (fun _ hk => hk.2.2.1)))), (aS (sR (Kd.R_mono HO_392000.out (fun _ hk => hk.1)))), (aS (sR (Kd.R_mono HO_392001.out (fun _ hk => hk.1)))), (aS (sB BK339.out)), (aS (sB BK340.out)), (aS (sB BK366.out)), (aS (sB BK391.out)), (aS (sW HB.out))⟩
            rw [if_neg c153] at H
            have c153b0 : decide (t416 < 0) = false := decide_eq_false c153
            clear c153
            (first | rw [c153b0] | (simp only [i64_w, i32_w]; rw [c153b0]) | (rw [c153b2]; simp only [Bool.not_false, Bool.not_true]) | skip)
            replace H := Option.bind_eq_some_iff.mp H
            obtain ⟨t419, A1540, H⟩ := H
            try dsimp only at H
            have A154 := aS A1540
            clear A1540
            by_cases c155 : t419 = true
            ·
             subst c155
             rw [if_pos rfl] at H
             have H' := aS H
             clear H
             have hnb156 := NB391_339.out
             have hnc156 := NB339_391.out
             have hnb157 := NB391_340.out
             have hnc157 := NB340_391.out
             have hnb158 := NB391_366.out
             have hnc158 := NB366_391.out
             have hcz159_0 : w152.cell? ⟨gb391, 0, none⟩ = some (.slice Ao75 t384.length co75) := (blk_cell BK391.out 0).trans rfl
             have hcz159_1 : w152.cell? ⟨gb391, 1, none⟩ = some (.slice Ao82 t387.length co82) := (blk_cell BK391.out 1).trans rfl
             have hfz159_0 := blk_frozen BK391.out 0
             have hfz159_1 := blk_frozen BK391.out 1
             have hnb160 := NB366_339.out
             have hnc160 := NB339_366.out
             have hnb161 := NB366_340.out
             have hnc161 := NB340_366.out
             have hcz162_0 : w152.cell? ⟨gb366, 0, none⟩ = some (.slice Ao44 t359.length co44) := (blk_cell BK366.out 0).trans rfl
             have hcz162_1 : w152.cell? ⟨gb366, 1, none⟩ = some (.slice Ao46 t362.length co46) := (blk_cell BK366.out 1).trans rfl
             have hfz162_0 := blk_frozen BK366.out 0
             have hfz162_1 := blk_frozen BK366.out 1
             go_wp2_with (first | (go_at_call 18; (with_reducible refine (laws_eqLine.calls kj30 _ _ t384 _ _ t387 _ _ t359 _ _ t362 true _ ?side1 ?side2 ?side3 ?side4 ?side5 ?side6 ?side7 ?side8 A154.out).mono ?_); (case side1 => exact sC (Kd.R_reads' HO_392000.out).2.2); (case side2 => exact (Kd.R_reads' HO_392000.out).2.1); (case side3 => exact sC (Kd.R_reads' HO_392001.out).2.2); (case side4 => exact (Kd.R_reads' HO_392001.out).2.1); (case side5 => exact sC (Kd.R_reads' HO_367000.out).2.2); (case side6 => exact (Kd.R_reads' HO_367000.out).2.1); (case side7 => exact sC (Kd.R_reads' HO_367001.out).2.2); (case side8 => exact (Kd.R_reads' HO_367001.out).2.1); rintro e w163 ⟨rfl, hb⟩; replace HO_12 := aS (Kd.R_below (sR HO_12.out) hb); replace HO_367000 := aS (Kd.R_below (sR HO_367000.out) hb); replace HO_367001 := aS (Kd.R_below (sR HO_367001.out) hb); replace HO_377000 := aS (Kd.R_below (sR HO_377000.out) hb); replace HO_377001 := aS (Kd.R_below (sR HO_377001.out) hb); replace HO_384000 := aS (Kd.R_below (sR HO_384000.out) hb); replace HO_384001 := aS (Kd.R_below (sR HO_384001.out) hb); replace HO_392000 := aS (Kd.R_below (sR HO_392000.out) hb); replace HO_392001 := aS (Kd.R_below (sR HO_392001.out) hb); replace HO395 := aS (Kd.R_below (sR HO395.out) hb); replace HO399 := aS (Kd.R_below (sR HO399.out) hb); replace HO402 := aS (Kd.R_below (sR HO402.out) hb); replace HO406 := aS (Kd.R_below (sR HO406.out) hb); replace HO409 := aS (Kd.R_below (sR HO409.out) hb); replace BK339 := aS (blk_below (sB BK339.out) hb); replace BK340 := aS (blk_below (sB BK340.out) hb); replace BK366 := aS (blk_below (sB BK366.out) hb); replace BK391 := aS (blk_below (sB BK391.out) hb); replace HB := aS (below_step (sW HB.out) hb); (try clear hb); (try clear hb2); (try clear hk); (try clear hi)))
             go_meet
             case rel => exact ⟨_, ((t390 != t365)), (by first | rfl | (simp; done) | (simp [*]; done) | (simp only [i64_w]; done) | (simp [i64_w]; done)), H', ⟨by have := HJ30.out; first | omega | exact Nat.le_refl _⟩, (aS (sR (Kd.R_mono HO_367000.out (fun _ hk => hk.2.2.1)))), (aS (sR (Kd.R_mono HO_367001.out (fun _ hk => hk.2.2.1)))), (aS (sR (Kd.R_mono HO_392000.out (fun _ hk => hk.1)))), (aS (sR (Kd.R_mono HO_392001.out (fun _ hk => hk.1)))), (aS (sB BK339.out)), (aS (sB BK340.out)), (aS (sB BK366.out)), (aS (sB BK391.out)), (aS (sW HB.out))⟩
            replace c155 := Bool.eq_false_iff.mpr c155
            subst c155
            rw [if_neg (show ¬ (false = true) by decide)] at H
            have H' := aS H
            clear H
            have hnb164 := NB391_339.out
            have hnc164 := NB339_391.out
            have hnb165 := NB391_340.out
            have hnc165 := NB340_391.out
            have hnb166 := NB391_366.out
            have hnc166 := NB366_391.out
            have hcz167_0 : w152.cell? ⟨gb391, 0, none⟩ = some (.slice Ao75 t384.length co75) := (blk_cell BK391.out 0).trans rfl
            have hcz167_1 : w152.cell? ⟨gb391, 1, none⟩ = some (.slice Ao82 t387.length co82) := (blk_cell BK391.out 1).trans rfl
            have hfz167_0 := blk_frozen BK391.out 0
            have hfz167_1 := blk_frozen BK391.out 1
            have hnb168 := NB366_339.out
            have hnc168 := NB339_366.out
            have hnb169 := NB366_340.out
            have hnc169 := NB340_366.out
            have hcz170_0 : w152.cell? ⟨gb366, 0, none⟩ = some (.slice Ao44 t359.length co44) := (blk_cell BK366.out 0).trans rfl
            have hcz170_1 : w152.cell? ⟨gb366, 1, none⟩ = some (.slice Ao46 t362.length co46) := (blk_cell BK366.out 1).trans rfl
            have hfz170_0 := blk_frozen BK366.out 0
            have hfz170_1 := blk_frozen BK366.out 1
            go_wp2_with (first | (go_at_call 18; (with_reducible refine (laws_eqLine.calls kj30 _ _ t384 _ _ t387 _ _ t359 _ _ t362 false _ ?side1 ?side2 ?side3 ?side4 ?side5 ?side6 ?side7 ?side8 A154.out).mono ?_); (case side1 => exact sC (Kd.R_reads' HO_392000.out).2.2); (case side2 => exact (Kd.R_reads' HO_392000.out).2.1); (case side3 => exact sC (Kd.R_reads' HO_392001.out).2.2); (case side4 => exact (Kd.R_reads' HO_392001.out).2.1); (case side5 => exact sC (Kd.R_reads' HO_367000.out).2.2); (case side6 => exact (Kd.R_reads' HO_367000.out).2.1); (case side7 => exact sC (Kd.R_reads' HO_367001.out).2.2); (case side8 => exact (Kd.R_reads' HO_367001.out).2.1); rintro e w171 ⟨rfl, hb⟩; replace HO_12 := aS (Kd.R_below (sR HO_12.out) hb); replace HO_367000 := aS (Kd.R_below (sR HO_367000.out) hb); replace HO_367001 := aS (Kd.R_below (sR HO_367001.out) hb); replace HO_377000 := aS (Kd.R_below (sR HO_377000.out) hb); replace HO_377001 := aS (Kd.R_below (sR HO_377001.out) hb); replace HO_384000 := aS (Kd.R_below (sR HO_384000.out) hb); replace HO_384001 := aS (Kd.R_below (sR HO_384001.out) hb); replace HO_392000 := aS (Kd.R_below (sR HO_392000.out) hb); replace HO_392001 := aS (Kd.R_below (sR HO_392001.out) hb); replace HO395 := aS (Kd.R_below (sR HO395.out) hb); replace HO399 := aS (Kd.R_below (sR HO399.out) hb); replace HO402 := aS (Kd.R_below (sR HO402.out) hb); replace HO406 := aS (Kd.R_below (sR HO406.out) hb); replace HO409 := aS (Kd.R_below (sR HO409.out) hb); replace BK339 := aS (blk_below (sB BK339.out) hb); replace BK340 := aS (blk_below (sB BK340.out) hb); replace BK366 := aS (blk_below (sB BK366.out) hb); replace BK391 := aS (blk_below (sB BK391.out) hb); replace HB := aS (below_step (sW HB.out) hb); (try clear hb); (try clear hb2); (try clear hk); (try clear hi)))
            go_meet
            case rel => exact ⟨_, (true), (by first | rfl | (simp; done) | (simp [*]; done) | (simp only [i64_w]; done) | (simp [i64_w]; done)), H', ⟨by have := HJ30.out; first | omega | exact Nat.le_refl _⟩, (aS (sR (Kd.R_mono HO_367000.out (fun _ hk => hk.2.2.1)))), (aS (sR (Kd.R_mono HO_367001.out (fun _ hk => hk.2.2.1)))), (aS (sR (Kd.R_mono HO_392000.out (fun _ hk => hk.1)))), (aS (sR (Kd.R_mono HO_392001.out (fun _ hk => hk.1)))), (aS (sB BK339.out)), (aS (sB BK340.out)), (aS (sB BK366.out)), (aS (sB BK391.out)), (aS (sW HB.out))⟩
          case rest =>
           as_aux_lemma =>
            clear HC138
            (try clear c1); (try clear c2); (try clear p2); (try clear c12); (try clear c13); (try clear c14); (try clear c15); (try clear c16); (try clear c18); (try clear c20); (try clear c21); (try clear c125); (try clear c134); (try clear c140); (try clear c141); (try clear c142); (try clear c143); (try clear c144); (try clear c147); (try clear c148); (try clear c149); (try clear c150); (try clear c153); (try clear c153b0); (try clear c153b2); (try clear c155); (try clear c156); (try clear c157); (try clear c158); (try clear c160); (try clear c161); (try clear c164); (try clear c165); (try clear c166); (try clear c168); (try clear c169); (try clear hcz145_0); (try clear hcz145_1); (try clear hcz151_0); (try clear hcz151_1); (try clear hcz159_0); (try clear hcz159_1); (try clear hcz162_0); (try clear hcz162_1); (try clear hcz167_0); (try clear hcz167_1); (try clear hcz170_0); (try clear hcz170_1); (try clear hfz145_0); (try clear hfz145_1); (try clear hfz151_0); (try clear hfz151_1); (try clear hfz159_0); (try clear hfz159_1); (try clear hfz162_0); (try clear hfz162_1); (try clear hfz167_0); (try clear hfz167_1); (try clear hfz170_0); (try clear hfz170_1)
            obtain ⟨kq, x107_137, rfl, HA, HJ137, HO_367000, HO_367001, HO_392000, HO_392001, BK339, BK340, BK366, BK391, HB⟩ := hcut
            cases kq with
            | zero => exact absurd HA.out (by simp [laws_FnExactJoinLines.j1])
            | succ kj137 =>
             have H := HA.out
             clear HA
             simp only [laws_FnExactJoinLines.j1] at H
             by_cases c172 : x107_137 = true
             ·
              subst c172
              rw [if_pos rfl] at H
              obtain rfl := Option.some.inj H
              go_wp2
              go_ret
              exact ⟨by first | rfl | (simp [errW_none, errW_some, i64_w]; done) | (simp [errW_none, errW_some] <;> rfl) | (simp [*, errW_none, errW_some] <;> rfl), by repeat (first | (with_reducible first | exact HB.out | apply below_alloc | apply pw_below_drewN | apply below_drew1) | exact HB.out)⟩
             replace c172 := Bool.eq_false_iff.mpr c172
             subst c172
             rw [if_neg (show ¬ (false = true) by decide)] at H
             replace H := Option.bind_eq_some_iff.mp H
             obtain ⟨⟨t420, t421, t422⟩, A1730, H⟩ := H
             try dsimp only at H
             have A173 := aS A1730
             clear A1730
             replace H := Option.bind_eq_some_iff.mp H
             obtain ⟨t423, A1740, H⟩ := H
             try dsimp only at H
             have A174 := aS A1740
             clear A1740
             have HC175 := aS H
             clear H
             have hnb176 := NB391_339.out
             have hnc176 := NB339_391.out
             have hnb177 := NB391_340.out
             have hnc177 := NB340_391.out
             have hnb178 := NB391_366.out
             have hnc178 := NB366_391.out
             have hcz179_0 : wc.cell? ⟨gb391, 0, none⟩ = some (.slice Ao75 t384.length co75) := (blk_cell BK391.out 0).trans rfl
             have hcz179_1 : wc.cell? ⟨gb391, 1, none⟩ = some (.slice Ao82 t387.length co82) := (blk_cell BK391.out 1).trans rfl
             have hfz179_0 := blk_frozen BK391.out 0
             have hfz179_1 := blk_frozen BK391.out 1
             go_upto_if 115 with (first | ((with_reducible refine gate_callee (f := 21) rfl ?_); refine goesL_ (some 110) rfl rfl Try.func21 (by kernel_rfl) rfl #[.agg #[.slice Ao75 t384.length co75, .slice Ao82 t387.length co82], .int .i64 1] rfl sG ?_; (with_reducible refine (laws_markLine.calls kj137 (fun k_ => some k_ = (.slice Ao75 t384.length co75 : Value).ownBlock) (.slice Ao75 t384.length co75) t384 (fun k_ => some k_ = (.slice Ao82 t387.length co82 : Value).ownBlock) (.slice Ao82 t387.length co82) t387 1 t420 t421 t422 w _ ?side1 ?side2 ?side3 A173.out).mono ?_); (case side1 => repeat (first | (with_reducible first | exact HB.out | apply below_alloc | apply pw_below_drewN | apply below_drew1 | refine below_set ?_ GE339.out | refine below_set ?_ GE340.out | refine below_set ?_ GE366.out | refine below_set ?_ GE391.out) | exact HB.out)); (case side2 => exact Kd.R_tight rfl HO_392000.out); (case side3 => exact Kd.R_tight rfl HO_392001.out); rintro e w180 ⟨rfl, hy0, hy1, hb, hkp⟩; refine ⟨_, rfl, ?_⟩; replace HO_367000 := aS (Kd.R_mono (ok' := fun k_ => some k_ ≠ (.slice Ao75 t384.length co75 : Value).ownBlock) (Kd.R_keptB ((Kd.R_apart' HO_367000.out (Kd.R_typed HO_392001.out) (by decide))) hkp (fun k_ hk_ hs_ => Or.elim hs_ (fun e_ => (hk_.1) e_) (fun e_ => (hk_.2) e_))) (fun k_ hk_ => hk_.1.1)); replace HO_367001 := aS (Kd.R_mono (ok' := fun k_ => some k_ ≠ (.slice Ao82 t387.length co82 : Value).ownBlock) (Kd.R_keptB ((Kd.R_apart' HO_367001.out (Kd.R_typed HO_392000.out) (by decide))) hkp (fun k_ hk_ hs_ => Or.elim hs_ (fun e_ => (hk_.2) e_) (fun e_ => (hk_.1) e_))) (fun k_ hk_ => hk_.1.1)); replace BK339 := aS (blk_kept (sB BK339.out) hkp (fun hs_ => Or.elim hs_ (fun e_ => (fun e_ => (Kd.R_ne HO_392000.out BK339.out (by decide)) e_) e_) (fun e_ => (fun e_ => (Kd.R_ne HO_392001.out BK339.out (by decide)) e_) e_))); replace BK340 := aS (blk_kept (sB BK340.out) hkp (fun hs_ => Or.elim hs_ (fun e_ => (fun e_ => (Kd.R_ne HO_392000.out BK340.out (by decide)) e_) e_) (fun e_ => (fun e_ => (Kd.R_ne HO_392001.out BK340.out (by decide)) e_) e_))); replace BK366 := aS (blk_kept (sB BK366.out) hkp (fun hs_ => Or.elim hs_ (fun e_ => (fun e_ => (Kd.R_ne HO_392000.out BK366.out (by decide)) e_) e_) (fun e_ => (fun e_ => (Kd.R_ne HO_392001.out BK366.out (by decide)) e_) e_))); replace BK391 := aS (blk_kept (sB BK391.out) hkp (fun hs_ => Or.elim hs_ (fun e_ => (fun e_ => (Kd.R_ne HO_392000.out BK391.out (by decide)) e_) e_) (fun e_ => (fun e_ => (Kd.R_ne HO_392001.out BK391.out (by decide)) e_) e_))); replace HO_392000 := aS (Kd.R_reok rfl hy0 (fun k_ e_ => HO_392000.out.1 k_ e_)); replace HO_392001 := aS (Kd.R_reok rfl hy1 (fun k_ e_ => HO_392001.out.1 k_ e_)); replace HB := aS (hb); (try clear hb); (try clear hkp); (try clear hy0); (try clear hy1); have hcz181_0 : w180.cell? ⟨gb391, 0, none⟩ = some (.slice Ao75 t384.length co75) := (blk_cell BK391.out 0).trans rfl; have hcz181_1 : w180.cell? ⟨gb391, 1, none⟩ = some (.slice Ao82 t387.length co82) := (blk_cell BK391.out 1).trans rfl; have hfz181_0 := blk_frozen BK391.out 0; have hfz181_1 := blk_frozen BK391.out 1) | ((with_reducible refine gate_callee (f := 22) rfl ?_); refine goesL_ (some 113) rfl rfl Try.func22 (by kernel_rfl) rfl #[.agg #[.slice Ao75 t421.length co75, .slice Ao82 t422.length co82], .int .i64 1] rfl (by (try simp only [List.map_toArray, List.map_cons, List.map_nil]); first | done | (rw [show t421.length = t384.length from (Kd.R_reads' HO_392000.out).1.symm, show t422.length = t387.length from (Kd.R_reads' HO_392001.out).1.symm] <;> rfl) | rfl | (simp only [List.length_drop, List.length_take]; rfl)) ?_; (with_reducible refine (laws_heldLine.calls kj137 _ _ t421 _ _ t422 1 t423 _ ?side1 ?side2 ?side3 ?side4 A174.out).mono ?_); (case side1 => exact sC (Kd.R_reads' HO_392000.out).2.2); (case side2 => rw [show t421.length = t384.length from (Kd.R_reads' HO_392000.out).1.symm]; exact (Kd.R_reads' HO_392000.out).2.1); (case side3 => exact sC (Kd.R_reads' HO_392001.out).2.2); (case side4 => rw [show t422.length = t387.length from (Kd.R_reads' HO_392001.out).1.symm]; exact (Kd.R_reads' HO_392001.out).2.1); rintro e w182 ⟨rfl, hb⟩; refine ⟨_, rfl, ?_⟩; replace HO_367000 := aS (Kd.R_below (sR HO_367000.out) hb); replace HO_367001 := aS (Kd.R_below (sR HO_367001.out) hb); replace HO_392000 := aS (Kd.R_below (sR HO_392000.out) hb); replace HO_392001 := aS (Kd.R_below (sR HO_392001.out) hb); replace BK339 := aS (blk_below (sB BK339.out) hb); replace BK340 := aS (blk_below (sB BK340.out) hb); replace BK366 := aS (blk_below (sB BK366.out) hb); replace BK391 := aS (blk_below (sB BK391.out) hb); replace HB := aS (below_step (sW HB.out) hb); (try clear hb); (try clear hb2); (try clear hk); (try clear hi)))
             (try simp only [Act.put, List.setIfInBounds_toArray, List.set_cons_zero, List.set_cons_succ])
             have H := HC175.out
             clear HC175
             by_cases c183 : t423 < 0
             ·
              rw [if_pos c183] at H
              have c183b0 : decide (t423 < 0) = true := decide_eq_true c183
              clear c183
              (first | rw [c183b0] | (simp only [i64_w, i32_w]; rw [c183b0]) | (rw [c183b2]; simp only [Bool.not_false, Bool.not_true]) | skip)
              obtain rfl := Option.some.inj H
              go_wp2
              go_ret
              exact ⟨by first | rfl | (simp [errW_none, errW_some, i64_w]; done) | (simp [errW_none, errW_some] <;> rfl) | (simp [*, errW_none, errW_some] <;> rfl), by repeat (first | (with_reducible first | exact HB.out | apply below_alloc | apply pw_below_drewN | apply below_drew1) | exact HB.out)⟩
             rw [if_neg c183] at H
             have c183b0 : decide (t423 < 0) = false := decide_eq_false c183
             clear c183
             (first | rw [c183b0] | (simp only [i64_w, i32_w]; rw [c183b0]) | (rw [c183b2]; simp only [Bool.not_false, Bool.not_true]) | skip)
             by_cases c184 : t423 = t420
             rotate_left
             ·
              rw [if_neg c184] at H
              have c184b0 : (t423 == t420) = false := beq_eq_false_iff_ne.mpr c184
              have c184b1 : (t423 != t420) = true := bne_iff_ne.mpr c184
              obtain rfl := Option.some.inj H
              go_wp2
              go_ret
              exact ⟨by first | rfl | (simp [errW_none, errW_some, i64_w]; done) | (simp [errW_none, errW_some] <;> rfl) | (simp [*, errW_none, errW_some] <;> rfl), by repeat (first | (with_reducible first | exact HB.out | apply below_alloc | apply pw_below_drewN | apply below_drew1) | exact HB.out)⟩
             rw [if_pos c184] at H
             have c184b0 : (t423 == t420) = true := beq_iff_eq.mpr c184
             have c184b1 : (t423 != t420) = false := bne_eq_false_iff_eq.mpr c184
             clear c184
             replace H := Option.bind_eq_some_iff.mp H
             obtain ⟨t424, A1850, H⟩ := H
             try dsimp only at H
             have A185 := aS A1850
             clear A1850
             replace H := Option.bind_eq_some_iff.mp H
             obtain ⟨⟨t427, t430⟩, A1860, H⟩ := H
             try dsimp only at H
             have A186 := aS A1860
             clear A1860
             replace H := Option.bind_eq_some_iff.mp H
             obtain ⟨⟨t433, t436⟩, A1870, H⟩ := H
             try dsimp only at H
             have A187 := aS A1870
             clear A1870
             replace H := Option.bind_eq_some_iff.mp H
             obtain ⟨⟨t439, t442, t445⟩, A1880, H⟩ := H
             try dsimp only at H
             have A188 := aS A1880
             clear A1880
             have HC189 := aS H
             clear H
             try go_wp2
             replace HO_367000 := aS (Kd.R_drew HO_367000.out); replace HO_367001 := aS (Kd.R_drew HO_367001.out); replace HO_392000 := aS (Kd.R_drew HO_392000.out); replace HO_392001 := aS (Kd.R_drew HO_392001.out); replace BK339 := aS (blk_drew BK339.out); replace BK340 := aS (blk_drew BK340.out); replace BK366 := aS (blk_drew BK366.out); replace BK391 := aS (blk_drew BK391.out); replace HB := aS (below_drew1 HB.out)
             refine start_ (n := 14) (S := fun w' => w'.cell? ⟨gb339, 0, none⟩ = some (.slice A1_0 l1_0.length c1_0) ∧ w'.cell? ⟨gb339, 1, none⟩ = some (.slice A1_1 l1_1.length c1_1) ∧ w'.cell? ⟨gb340, 0, none⟩ = some (.slice A2_0 l2_0.length c2_0) ∧ w'.cell? ⟨gb340, 1, none⟩ = some (.slice A2_1 l2_1.length c2_1)) (ds := []) #[false, false, false, false, false, false, false, false, false, false, false, false, false, false] (by kernel_rfl) rfl rfl ⟨(blk_cell BK339.out 0).trans rfl, (blk_cell BK339.out 1).trans rfl, (blk_cell BK340.out 0).trans rfl, (blk_cell BK340.out 1).trans rfl⟩ (fun hHeld => ?_); refine with_tabW laws_FnExactJoinLines.tab38 laws_FnExactJoinLines.bits38 (fun HT_ HW_ => ?_)
             generalize w182.drew = w190 at HO_367000 HO_367001 HO_392000 HO_392001 BK339 BK340 BK366 BK391 HB hHeld ⊢
             refine pure_ (i := 0) (N := some 120) (v := ?_) (a' := ?_) (laws_FnExactJoinLines.bF 14 1) rfl rfl (any_of HT_.out (by kernel_rfl)) (fun _ _ _ h => h) (Or.inl ⟨by rfl, ?_⟩) ?_ ?_
             rotate_left
             ·
              intro w'
              go_simp
              with_reducible rfl
             rotate_left
             ·
              exact sP
             refine pure_ (i := 6) (N := some 126) (v := ?_) (a' := ?_) (laws_FnExactJoinLines.bF 14 65) rfl rfl (any_of HT_.out (by kernel_rfl)) (fun _ _ _ h => h) (Or.inl ⟨by rfl, ?_⟩) ?_ ?_
             rotate_left
             ·
              intro w'
              go_simp
              with_reducible rfl
             rotate_left
             ·
              exact sP
             refine take_ (i := 2) (N := some 122) (v := ?_) (a' := ?_) (laws_FnExactJoinLines.bF 14 69) rfl rfl (take_ofW HT_.out HW_.out (by kernel_rfl)) (fun _ _ _ h => h) (Or.inl ⟨by rfl, ?_⟩) hHeld ?_ ?_
             rotate_left
             ·
              rintro w' ⟨s0, s1, s2, s3⟩
              go_simp
              with_reducible rfl
             rotate_left
             ·
              exact sP
             refine take_ (i := 4) (N := some 124) (v := ?_) (a' := ?_) (laws_FnExactJoinLines.bF 14 85) rfl rfl (take_ofW HT_.out HW_.out (by kernel_rfl)) (fun _ _ _ h => h) (Or.inl ⟨by rfl, ?_⟩) hHeld ?_ ?_
             rotate_left
             ·
              rintro w' ⟨s0, s1, s2, s3⟩
              go_simp
              with_reducible rfl
             rotate_left
             ·
              exact sP
             refine join_ (σ := Value × Value × Value × Value × Value × Value × Value × Nat) 2 #[true, true, true, true, true, true, true, true, true, true, true, true, false, false] (fun s_ => [(121, s_.1), (123, .agg #[s_.2.1, s_.2.2.1]), (125, .agg #[s_.2.2.2.1, s_.2.2.2.2.1]), (127, .tuple #[.agg #[s_.2.2.2.2.2.1, s_.2.2.2.2.2.2.1], .int .i64 t445]), (20, .pointer (some ⟨s_.2.2.2.2.2.2.2, 0, none⟩)), (119, .tuple #[.agg #[s_.2.2.2.2.2.1, s_.2.2.2.2.2.2.1], .int .i64 t445]), (128, .agg #[s_.2.2.2.2.2.1, s_.2.2.2.2.2.2.1]), (129, .int .i64 t445)]) (fun s_ w' => (w'.cell? ⟨gb339, 0, none⟩ = some (.slice A1_0 l1_0.length c1_0) ∧ w'.cell? ⟨gb339, 1, none⟩ = some (.slice A1_1 l1_1.length c1_1) ∧ w'.cell? ⟨gb340, 0, none⟩ = some (.slice A2_0 l2_0.length c2_0) ∧ w'.cell? ⟨gb340, 1, none⟩ = some (.slice A2_1 l2_1.length c2_1)) ∧ (Kd.R k74 74 w' w.heap.size (fun _ => True) s_.1 t424) ∧ (Kd.R k91 91 w' w.heap.size (fun k_ => some k_ ≠ (s_.2.2.2.1 : Value).ownBlock ∧ some k_ ≠ (s_.2.2.2.2.2.1 : Value).ownBlock ∧ some k_ ≠ (.slice Ao44 t359.length co44 : Value).ownBlock ∧ some k_ ≠ (.slice Ao75 t384.length co75 : Value).ownBlock) s_.2.1 t427) ∧ (Kd.R (Kd.int .i64) 2 w' w.heap.size (fun k_ => some k_ ≠ (s_.2.2.2.2.1 : Value).ownBlock ∧ some k_ ≠ (s_.2.2.2.2.2.2.1 : Value).ownBlock ∧ some k_ ≠ (.slice Ao46 t362.length co46 : Value).ownBlock ∧ some k_ ≠ (.slice Ao82 t387.length co82 : Value).ownBlock) s_.2.2.1 t430) ∧ (Kd.R k91 91 w' w.heap.size (fun k_ => some k_ ≠ (s_.2.1 : Value).ownBlock ∧ some k_ ≠ (s_.2.2.2.2.2.1 : Value).ownBlock ∧ some k_ ≠ (.slice Ao44 t359.length co44 : Value).ownBlock ∧ some k_ ≠ (.slice Ao75 t384.length co75 : Value).ownBlock) s_.2.2.2.1 t433) ∧ (Kd.R (Kd.int .i64) 2 w' w.heap.size (fun k_ => some k_ ≠ (s_.2.2.1 : Value).ownBlock ∧ some k_ ≠ (s_.2.2.2.2.2.2.1 : Value).ownBlock ∧ some k_ ≠ (.slice Ao46 t362.length co46 : Value).ownBlock ∧ some k_ ≠ (.slice Ao82 t387.length co82 : Value).ownBlock) s_.2.2.2.2.1 t436) ∧ (Kd.R k91 91 w' w.heap.size (fun k_ => some k_ ≠ (s_.2.1 : Value).ownBlock ∧ some k_ ≠ (s_.2.2.2.1 : Value).ownBlock ∧ some k_ ≠ (.slice Ao44 t359.length co44 : Value).ownBlock ∧ some k_ ≠ (.slice Ao75 t384.length co75 : Value).ownBlock) s_.2.2.2.2.2.1 t439) ∧ (Kd.R (Kd.int .i64) 2 w' w.heap.size (fun k_ => some k_ ≠ (s_.2.2.1 : Value).ownBlock ∧ some k_ ≠ (s_.2.2.2.2.1 : Value).ownBlock ∧ some k_ ≠ (.slice Ao46 t362.length co46 : Value).ownBlock ∧ some k_ ≠ (.slice Ao82 t387.length co82 : Value).ownBlock) s_.2.2.2.2.2.2.1 t442) ∧ (Kd.R k91 91 w' w.heap.size (fun k_ => some k_ ≠ (s_.2.1 : Value).ownBlock ∧ some k_ ≠ (s_.2.2.2.1 : Value).ownBlock ∧ some k_ ≠ (s_.2.2.2.2.2.1 : Value).ownBlock ∧ some k_ ≠ (.slice Ao75 t384.length co75 : Value).ownBlock) (.slice Ao44 t359.length co44) t359) ∧ (Kd.R (Kd.int .i64) 2 w' w.heap.size (fun k_ => some k_ ≠ (s_.2.2.1 : Value).ownBlock ∧ some k_ ≠ (s_.2.2.2.2.1 : Value).ownBlock ∧ some k_ ≠ (s_.2.2.2.2.2.2.1 : Value).ownBlock ∧ some k_ ≠ (.slice Ao82 t387.length co82 : Value).ownBlock) (.slice Ao46 t362.length co46) t362) ∧ (Kd.R k91 91 w' w.heap.size (fun k_ => some k_ ≠ (s_.2.1 : Value).ownBlock ∧ some k_ ≠ (s_.2.2.2.1 : Value).ownBlock ∧ some k_ ≠ (s_.2.2.2.2.2.1 : Value).ownBlock ∧ some k_ ≠ (.slice Ao44 t359.length co44 : Value).ownBlock) (.slice Ao75 t384.length co75) t421) ∧ (Kd.R (Kd.int .i64) 2 w' w.heap.size (fun k_ => some k_ ≠ (s_.2.2.1 : Value).ownBlock ∧ some k_ ≠ (s_.2.2.2.2.1 : Value).ownBlock ∧ some k_ ≠ (s_.2.2.2.2.2.2.1 : Value).ownBlock ∧ some k_ ≠ (.slice Ao46 t362.length co46 : Value).ownBlock) (.slice Ao82 t387.length co82) t422) ∧ (w'.heap[gb339]? = some (.cells #[.slice A1_0 l1_0.length c1_0, .slice A1_1 l1_1.length c1_1] 40 (0, 0))) ∧ (w'.heap[gb340]? = some (.cells #[.slice A2_0 l2_0.length c2_0, .slice A2_1 l2_1.length c2_1] 40 (0, 0))) ∧ (w'.heap[gb366]? = some (.cells #[.slice Ao44 t359.length co44, .slice Ao46 t362.length co46] 45 (0, 0))) ∧ (w'.heap[gb391]? = some (.cells #[.slice Ao75 t384.length co75, .slice Ao82 t387.length co82] 45 (0, 0))) ∧ (w'.heap[s_.2.2.2.2.2.2.2]? = some (.cells #[.slice none 0 0, .slice none 0 0] 45 (0, 0))) ∧ (w.heap.size ≤ s_.2.2.2.2.2.2.2) ∧ (w.heap.size ≤ s_.2.2.2.2.2.2.2) ∧ (gb339 ≠ s_.2.2.2.2.2.2.2) ∧ (s_.2.2.2.2.2.2.2 ≠ gb339) ∧ (gb340 ≠ s_.2.2.2.2.2.2.2) ∧ (s_.2.2.2.2.2.2.2 ≠ gb340) ∧ (gb366 ≠ s_.2.2.2.2.2.2.2) ∧ (s_.2.2.2.2.2.2.2 ≠ gb366) ∧ (gb391 ≠ s_.2.2.2.2.2.2.2) ∧ (s_.2.2.2.2.2.2.2 ≠ gb391) ∧ (Below w.heap.size w w')) ?_ ?_
             ·
              clear HO_367000 HO_367001 HO_392000 HO_392001 BK339 BK340 BK366 BK391 HB
              rintro ⟨v425, v428, v431, v434, v437, v440, v443, gb446⟩ w201 ⟨hHeld, h0_, h1_, h2_, h3_, h4_, h5_, h6_, h7_, h8_, h9_, h10_, h11_, h12_, h13_, h14_, h15_, h16_, h17_, h18_, h19_, h20_, h21_, h22_, h23_, h24_, h25_, h26_⟩
              try dsimp only at hHeld h0_ h1_ h2_ h3_ h4_ h5_ h6_ h7_ h8_ h9_ h10_ h11_ h12_ h13_ h14_ h15_ h16_ h17_ h18_ h19_ h20_ h21_ h22_ h23_ h24_ h25_ h26_
              have HO426 := aS h0_; have HO429 := aS h1_; have HO432 := aS h2_; have HO435 := aS h3_; have HO438 := aS h4_; have HO441 := aS h5_; have HO444 := aS h6_; have HO_367000 := aS h7_; have HO_367001 := aS h8_; have HO_392000 := aS h9_; have HO_392001 := aS h10_; have BK339 := aS h11_; have BK340 := aS h12_; have BK366 := aS h13_; have BK391 := aS h14_; have BK446 := aS h15_; have GW446 := aS h16_; have GE446 := aS h17_; have NB339_446 := aS h18_; have NB446_339 := aS h19_; have NB340_446 := aS h20_; have NB446_340 := aS h21_; have NB366_446 := aS h22_; have NB446_366 := aS h23_; have NB391_446 := aS h24_; have NB446_391 := aS h25_; have HB := aS h26_
              clear h0_ h1_ h2_ h3_ h4_ h5_ h6_ h7_ h8_ h9_ h10_ h11_ h12_ h13_ h14_ h15_ h16_ h17_ h18_ h19_ h20_ h21_ h22_ h23_ h24_ h25_ h26_
              obtain ⟨Ao202, co202, eo202⟩ := Kd.R_slice HO441.out
              (first | subst eo202 | (injection eo202 with f1_ f2_ f3_; have f4_ := f1_.symm; have f5_ := f3_.symm; clear f1_ f2_ f3_; subst f4_; subst f5_))
              obtain ⟨Ao204, co204, eo204⟩ := Kd.R_slice HO444.out
              (first | subst eo204 | (injection eo204 with f1_ f2_ f3_; have f4_ := f1_.symm; have f5_ := f3_.symm; clear f1_ f2_ f3_; subst f4_; subst f5_))
              refine norm_ (a' := ?_) ?_ ?_
              rotate_left
              ·
               exact sQ
              refine one_ (i := 12) (N := none) #[true, true, true, true, true, true, true, true, true, true, true, true, true, false] rfl rfl (one_of HT_.out (by kernel_rfl)) (by decide) (fun K hK => ?_)
              have hs203 : w201.cell? ⟨gb446, 0, none⟩ = some (.slice none 0 0) := (blk_cell BK446.out 0).trans rfl
              have hfs203 := blk_frozen BK446.out 0
              have hns203_0 := NB339_446.out
              have hns203_1 := NB340_446.out
              have hns203_2 := NB366_446.out
              have hns203_3 := NB391_446.out
              have hms203_0 := NB446_339.out
              have hms203_1 := NB446_340.out
              have hms203_2 := NB446_366.out
              have hms203_3 := NB446_391.out
              have hs205 : w201.cell? ⟨gb446, 1, none⟩ = some (.slice none 0 0) := (blk_cell BK446.out 1).trans rfl
              have hfs205 := blk_frozen BK446.out 1
              have hns205_0 := NB339_446.out
              have hns205_1 := NB340_446.out
              have hns205_2 := NB366_446.out
              have hns205_3 := NB391_446.out
              have hms205_0 := NB446_339.out
              have hms205_1 := NB446_340.out
              have hms205_2 := NB446_366.out
              have hms205_3 := NB446_391.out
              refine skip_ (w1 := ?_) (by rfl) rfl ?_ ?_
              rotate_left
              ·
               go_simp
               rfl
              refine hK.out _ _ ⟨((cell_far (p := ⟨gb446, _, none⟩) NB339_446.out _).trans (((cell_far (p := ⟨gb446, _, none⟩) NB339_446.out _).trans (hHeld.1)))), ((cell_far (p := ⟨gb446, _, none⟩) NB339_446.out _).trans (((cell_far (p := ⟨gb446, _, none⟩) NB339_446.out _).trans (hHeld.2.1)))), ((cell_far (p := ⟨gb446, _, none⟩) NB340_446.out _).trans (((cell_far (p := ⟨gb446, _, none⟩) NB340_446.out _).trans (hHeld.2.2.1)))), ((cell_far (p := ⟨gb446, _, none⟩) NB340_446.out _).trans (((cell_far (p := ⟨gb446, _, none⟩) NB340_446.out _).trans (hHeld.2.2.2))))⟩ (fun hHeld => ?_)
              clear hK K
              refine pure_ (i := 13) (N := some 21) (v := ?_) (a' := ?_) (laws_FnExactJoinLines.bF 14 16383) rfl rfl (any_of HT_.out (by kernel_rfl)) (fun _ _ _ h => h) (Or.inl ⟨by rfl, ?_⟩) ?_ ?_
              rotate_left
              ·
               intro w'
               go_simp
               with_reducible rfl
              rotate_left
              ·
               exact sP
              refine done_ (done_of HT_.out (by kernel_rfl)) ?_
              go_upto_region 39 with (fail)
              go_cut [138] (fun v138 wc => ∃ (kq : Nat) (x138_188 : Bool), v138 = .bool x138_188 ∧ Aside0 (laws_FnExactJoinLines.j2 kq t420 x138_188 t421 t422 = some r) ∧ Aside0 (kq ≤ kj137) ∧ Aside0 (Kd.R k91 91 wc w.heap.size (fun _ => True) (.slice Ao75 t384.length co75) t421) ∧ Aside0 (Kd.R (Kd.int .i64) 2 wc w.heap.size (fun _ => True) (.slice Ao82 t387.length co82) t422) ∧ Aside0 (wc.heap[gb391]? = some (.cells #[(.slice Ao75 t384.length co75), (.slice Ao82 t387.length co82)] 45 (0, 0))) ∧ Aside0 (Below w.heap.size w wc))
              case first =>
               as_aux_lemma =>
                have H := HC189.out
                clear HC189
                replace H := Option.bind_eq_some_iff.mp H
                obtain ⟨t447, A2060, H⟩ := H
                try dsimp only at H
                have A206 := aS A2060
                clear A2060
                by_cases c207 : t447 = true
                ·
                 subst c207
                 rw [if_pos rfl] at H
                 have H' := aS H
                 clear H
                 have hnb208 := NB446_339.out
                 have hnc208 := NB339_446.out
                 have hnb209 := NB446_340.out
                 have hnc209 := NB340_446.out
                 have hnb210 := NB446_366.out
                 have hnc210 := NB366_446.out
                 have hnb211 := NB446_391.out
                 have hnc211 := NB391_446.out
                 have hcz212_0 : w201.cell? ⟨gb446, 0, none⟩ = some (.slice none 0 0) := (blk_cell BK446.out 0).trans rfl
                 have hcz212_1 : w201.cell? ⟨gb446, 1, none⟩ = some (.slice none 0 0) := (blk_cell BK446.out 1).trans rfl
                 have hfz212_0 := blk_frozen BK446.out 0
                 have hfz212_1 := blk_frozen BK446.out 1
                 have hnb213 := NB366_339.out
                 have hnc213 := NB339_366.out
                 have hnb214 := NB366_340.out
                 have hnc214 := NB340_366.out
                 have hnb215 := NB366_391.out
                 have hnc215 := NB391_366.out
                 have hcz216_0 : w201.cell? ⟨gb366, 0, none⟩ = some (.slice Ao44 t359.length co44) := (blk_cell BK366.out 0).trans rfl
                 have hcz216_1 : w201.cell? ⟨gb366, 1, none⟩ = some (.slice Ao46 t362.length co46) := (blk_cell BK366.out 1).trans rfl
                 have hfz216_0 := blk_frozen BK366.out 0
                 have hfz216_1 := blk_frozen BK366.out 1
                 go_wp2_with (first | ((with_reducible refine gate_callee (f := 18) rfl ?_); refine goesL_ (some 132) rfl rfl Try.func18 (by kernel_rfl) rfl #[.agg #[.slice Ao202 t439.length co202, .slice Ao204 t442.length co204], .agg #[.slice Ao44 t359.length co44, .slice Ao46 t362.length co46]] rfl sG ?_; (with_reducible refine (laws_eqLine.calls kj137 _ _ t439 _ _ t442 _ _ t359 _ _ t362 true _ ?side1 ?side2 ?side3 ?side4 ?side5 ?side6 ?side7 ?side8 A206.out).mono ?_); (case side1 => exact sRC (rF HO441.out BK446.out)); (case side2 => exact (Kd.R_reads' HO441.out).2.1); (case side3 => exact sRC (rF HO444.out BK446.out)); (case side4 => exact (Kd.R_reads' HO444.out).2.1); (case side5 => exact sRC (rF HO_367000.out BK446.out)); (case side6 => exact (Kd.R_reads' HO_367000.out).2.1); (case side7 => exact sRC (rF HO_367001.out BK446.out)); (case side8 => exact (Kd.R_reads' HO_367001.out).2.1); rintro e w217 ⟨rfl, hb⟩; refine ⟨_, rfl, ?_⟩; replace HO_367000 := aS (Kd.R_below (sR (rF HO_367000.out BK446.out)) hb); replace HO_367001 := aS (Kd.R_below (sR (rF HO_367001.out BK446.out)) hb); replace HO_392000 := aS (Kd.R_below (sR (rF HO_392000.out BK446.out)) hb); replace HO_392001 := aS (Kd.R_below (sR (rF HO_392001.out BK446.out)) hb); replace HO426 := aS (Kd.R_below (sR (rF HO426.out BK446.out)) hb); replace HO429 := aS (Kd.R_below (sR (rF HO429.out BK446.out)) hb); replace HO432 := aS (Kd.R_below (sR (rF HO432.out BK446.out)) hb); replace HO435 := aS (Kd.R_below (sR (rF HO435.out BK446.out)) hb); replace HO438 := aS (Kd.R_below (sR (rF HO438.out BK446.out)) hb); replace HO441 := aS (Kd.R_below (sR (rF HO441.out BK446.out)) hb); replace HO444 := aS (Kd.R_below (sR (rF HO444.out BK446.out)) hb); replace BK339 := aS (blk_below (sF BK339.out NB339_446.out) hb); replace BK340 := aS (blk_below (sF BK340.out NB340_446.out) hb); replace BK366 := aS (blk_below (sF BK366.out NB366_446.out) hb); replace BK391 := aS (blk_below (sF BK391.out NB391_446.out) hb); replace BK446 := aS (blk_below (sB (put2 BK446.out)) hb); replace HB := aS (below_step (sW HB.out) hb); (try clear hb); (try clear hb2); (try clear hk); (try clear hi)))
                 go_meet
                 case rel => exact ⟨_, ((t445 != t365)), (by first | rfl | (simp; done) | (simp [*]; done) | (simp only [i64_w]; done) | (simp [i64_w]; done)), H', ⟨by have := HJ30.out; have := HJ137.out; first | omega | exact Nat.le_refl _⟩, (aS (sR (Kd.R_mono HO_392000.out (fun _ hk => trivial)))), (aS (sR (Kd.R_mono HO_392001.out (fun _ hk => trivial)))), (aS (sB BK391.out)), (aS (sW HB.out))⟩
                replace c207 := Bool.eq_false_iff.mpr c207
                subst c207
                rw [if_neg (show ¬ (false = true) by decide)] at H
                have H' := aS H
                clear H
                have hnb218 := NB446_339.out
                have hnc218 := NB339_446.out
                have hnb219 := NB446_340.out
                have hnc219 := NB340_446.out
                have hnb220 := NB446_366.out
                have hnc220 := NB366_446.out
                have hnb221 := NB446_391.out
                have hnc221 := NB391_446.out
                have hcz222_0 : w201.cell? ⟨gb446, 0, none⟩ = some (.slice none 0 0) := (blk_cell BK446.out 0).trans rfl
                have hcz222_1 : w201.cell? ⟨gb446, 1, none⟩ = some (.slice none 0 0) := (blk_cell BK446.out 1).trans rfl
                have hfz222_0 := blk_frozen BK446.out 0
                have hfz222_1 := blk_frozen BK446.out 1
                have hnb223 := NB366_339.out
                have hnc223 := NB339_366.out
                have hnb224 := NB366_340.out
                have hnc224 := NB340_366.out
                have hnb225 := NB366_391.out
                have hnc225 := NB391_366.out
                have hcz226_0 : w201.cell? ⟨gb366, 0, none⟩ = some (.slice Ao44 t359.length co44) := (blk_cell BK366.out 0).trans rfl
                have hcz226_1 : w201.cell? ⟨gb366, 1, none⟩ = some (.slice Ao46 t362.length co46) := (blk_cell BK366.out 1).trans rfl
                have hfz226_0 := blk_frozen BK366.out 0
                have hfz226_1 := blk_frozen BK366.out 1
                go_wp2_with (first | ((with_reducible refine gate_callee (f := 18) rfl ?_); refine goesL_ (some 132) rfl rfl Try.func18 (by kernel_rfl) rfl #[.agg #[.slice Ao202 t439.length co202, .slice Ao204 t442.length co204], .agg #[.slice Ao44 t359.length co44, .slice Ao46 t362.length co46]] rfl sG ?_; (with_reducible refine (laws_eqLine.calls kj137 _ _ t439 _ _ t442 _ _ t359 _ _ t362 false _ ?side1 ?side2 ?side3 ?side4 ?side5 ?side6 ?side7 ?side8 A206.out).mono ?_); (case side1 => exact sRC (rF HO441.out BK446.out)); (case side2 => exact (Kd.R_reads' HO441.out).2.1); (case side3 => exact sRC (rF HO444.out BK446.out)); (case side4 => exact (Kd.R_reads' HO444.out).2.1); (case side5 => exact sRC (rF HO_367000.out BK446.out)); (case side6 => exact (Kd.R_reads' HO_367000.out).2.1); (case side7 => exact sRC (rF HO_367001.out BK446.out)); (case side8 => exact (Kd.R_reads' HO_367001.out).2.1); rintro e w227 ⟨rfl, hb⟩; refine ⟨_, rfl, ?_⟩; replace HO_367000 := aS (Kd.R_below (sR (rF HO_367000.out BK446.out)) hb); replace HO_367001 := aS (Kd.R_below (sR (rF HO_367001.out BK446.out)) hb); replace HO_392000 := aS (Kd.R_below (sR (rF HO_392000.out BK446.out)) hb); replace HO_392001 := aS (Kd.R_below (sR (rF HO_392001.out BK446.out)) hb); replace HO426 := aS (Kd.R_below (sR (rF HO426.out BK446.out)) hb); replace HO429 := aS (Kd.R_below (sR (rF HO429.out BK446.out)) hb); replace HO432 := aS (Kd.R_below (sR (rF HO432.out BK446.out)) hb); replace HO435 := aS (Kd.R_below (sR (rF HO435.out BK446.out)) hb); replace HO438 := aS (Kd.R_below (sR (rF HO438.out BK446.out)) hb); replace HO441 := aS (Kd.R_below (sR (rF HO441.out BK446.out)) hb); replace HO444 := aS (Kd.R_below (sR (rF HO444.out BK446.out)) hb); replace BK339 := aS (blk_below (sF BK339.out NB339_446.out) hb); replace BK340 := aS (blk_below (sF BK340.out NB340_446.out) hb); replace BK366 := aS (blk_below (sF BK366.out NB366_446.out) hb); replace BK391 := aS (blk_below (sF BK391.out NB391_446.out) hb); replace BK446 := aS (blk_below (sB (put2 BK446.out)) hb); replace HB := aS (below_step (sW HB.out) hb); (try clear hb); (try clear hb2); (try clear hk); (try clear hi)))
                go_meet
                case rel => exact ⟨_, (true), (by first | rfl | (simp; done) | (simp [*]; done) | (simp only [i64_w]; done) | (simp [i64_w]; done)), H', ⟨by have := HJ30.out; have := HJ137.out; first | omega | exact Nat.le_refl _⟩, (aS (sR (Kd.R_mono HO_392000.out (fun _ hk => trivial)))), (aS (sR (Kd.R_mono HO_392001.out (fun _ hk => trivial)))), (aS (sB BK391.out)), (aS (sW HB.out))⟩
              case rest =>
               as_aux_lemma =>
                clear HC189
                (try clear c1); (try clear c2); (try clear p2); (try clear c17); (try clear c18); (try clear c20); (try clear c21); (try clear c22); (try clear c207); (try clear c208); (try clear c209); (try clear c210); (try clear c211); (try clear c213); (try clear c214); (try clear c215); (try clear c218); (try clear c219); (try clear c220); (try clear c221); (try clear c223); (try clear c224); (try clear c225); (try clear hcz212_0); (try clear hcz212_1); (try clear hcz216_0); (try clear hcz216_1); (try clear hcz222_0); (try clear hcz222_1); (try clear hcz226_0); (try clear hcz226_1); (try clear hfz212_0); (try clear hfz212_1); (try clear hfz216_0); (try clear hfz216_1); (try clear hfz222_0); (try clear hfz222_1); (try clear hfz226_0); (try clear hfz226_1)
                obtain ⟨kq, x138_188, rfl, HA, HJ188, HO_392000, HO_392001, BK391, HB⟩ := hcut
                have hl392000_188 := (Kd.R_reads' HO_392000.out).1
                rw [hl392000_188] at HO_392000
                (try simp only [hl392000_188])
                (try simp only [hl392000_188] at BK391)
                (try simp only [hl392000_188] at HO_392001)
                have hl392001_188 := (Kd.R_reads' HO_392001.out).1
                rw [hl392001_188] at HO_392001
                (try simp only [hl392001_188])
                (try simp only [hl392001_188] at BK391)
                (try simp only [hl392001_188] at HO_392000)
                cases kq with
                | zero => exact absurd HA.out (by simp [laws_FnExactJoinLines.j2])
                | succ kj188 =>
                 have H := HA.out
                 clear HA
                 simp only [laws_FnExactJoinLines.j2] at H
                 by_cases c228 : x138_188 = true
                 ·
                  subst c228
                  rw [if_pos rfl] at H
                  obtain rfl := Option.some.inj H
                  go_wp2
                  go_ret
                  exact ⟨by first | rfl | (simp [errW_none, errW_some, i64_w]; done) | (simp [errW_none, errW_some] <;> rfl) | (simp [*, errW_none, errW_some] <;> rfl), by repeat (first | (with_reducible first | exact HB.out | apply below_alloc | apply pw_below_drewN | apply below_drew1) | exact HB.out)⟩
                 replace c228 := Bool.eq_false_iff.mpr c228
                 subst c228
                 rw [if_neg (show ¬ (false = true) by decide)] at H
                 replace H := Option.bind_eq_some_iff.mp H
                 obtain ⟨t448, A2290, H⟩ := H
                 try dsimp only at H
                 have A229 := aS A2290
                 clear A2290
                 have HC230 := aS H
                 clear H
                 have hcz231_0 : wc.cell? ⟨gb391, 0, none⟩ = some (.slice Ao75 t421.length co75) := (blk_cell BK391.out 0).trans rfl
                 have hcz231_1 : wc.cell? ⟨gb391, 1, none⟩ = some (.slice Ao82 t422.length co82) := (blk_cell BK391.out 1).trans rfl
                 have hfz231_0 := blk_frozen BK391.out 0
                 have hfz231_1 := blk_frozen BK391.out 1
                 go_upto_if 143 with (first | ((with_reducible refine gate_callee (f := 22) rfl ?_); refine goesL_ (some 141) rfl rfl Try.func22 (by kernel_rfl) rfl #[.agg #[.slice Ao75 t421.length co75, .slice Ao82 t422.length co82], .int .i64 1] rfl sG ?_; (with_reducible refine (laws_heldLine.calls kj188 _ _ t421 _ _ t422 1 t448 _ ?side1 ?side2 ?side3 ?side4 A229.out).mono ?_); (case side1 => exact sC (Kd.R_reads' HO_392000.out).2.2); (case side2 => exact (Kd.R_reads' HO_392000.out).2.1); (case side3 => exact sC (Kd.R_reads' HO_392001.out).2.2); (case side4 => exact (Kd.R_reads' HO_392001.out).2.1); rintro e w232 ⟨rfl, hb⟩; refine ⟨_, rfl, ?_⟩; replace HO_392000 := aS (Kd.R_below (sR HO_392000.out) hb); replace HO_392001 := aS (Kd.R_below (sR HO_392001.out) hb); replace BK391 := aS (blk_below (sB BK391.out) hb); replace HB := aS (below_step (sW HB.out) hb); (try clear hb); (try clear hb2); (try clear hk); (try clear hi)))
                 (try simp only [Act.put, List.setIfInBounds_toArray, List.set_cons_zero, List.set_cons_succ])
                 have H := HC230.out
                 clear HC230
                 by_cases c233 : t448 < 0
                 ·
                  rw [if_pos c233] at H
                  have c233b0 : decide (t448 < 0) = true := decide_eq_true c233
                  clear c233
                  (first | rw [c233b0] | (simp only [i64_w, i32_w]; rw [c233b0]) | (rw [c233b2]; simp only [Bool.not_false, Bool.not_true]) | skip)
                  obtain rfl := Option.some.inj H
                  go_wp2
                  go_ret
                  exact ⟨by first | rfl | (simp [errW_none, errW_some, i64_w]; done) | (simp [errW_none, errW_some] <;> rfl) | (simp [*, errW_none, errW_some] <;> rfl), by repeat (first | (with_reducible first | exact HB.out | apply below_alloc | apply pw_below_drewN | apply below_drew1) | exact HB.out)⟩
                 rw [if_neg c233] at H
                 have c233b0 : decide (t448 < 0) = false := decide_eq_false c233
                 clear c233
                 (first | rw [c233b0] | (simp only [i64_w, i32_w]; rw [c233b0]) | (rw [c233b2]; simp only [Bool.not_false, Bool.not_true]) | skip)
                 by_cases c234 : t448 = t420
                 rotate_left
                 ·
                  rw [if_neg c234] at H
                  have c234b0 : (t448 == t420) = false := beq_eq_false_iff_ne.mpr c234
                  have c234b1 : (t448 != t420) = true := bne_iff_ne.mpr c234
                  obtain rfl := Option.some.inj H
                  go_wp2
                  go_ret
                  exact ⟨by first | rfl | (simp [errW_none, errW_some, i64_w]; done) | (simp [errW_none, errW_some] <;> rfl) | (simp [*, errW_none, errW_some] <;> rfl), by repeat (first | (with_reducible first | exact HB.out | apply below_alloc | apply pw_below_drewN | apply below_drew1) | exact HB.out)⟩
                 rw [if_pos c234] at H
                 have c234b0 : (t448 == t420) = true := beq_iff_eq.mpr c234
                 have c234b1 : (t448 != t420) = false := bne_eq_false_iff_eq.mpr c234
                 clear c234
                 obtain rfl := Option.some.inj H
                 go_wp2
                 go_ret
                 exact ⟨by first | rfl | (simp [errW_none, errW_some, i64_w]; done) | (simp [errW_none, errW_some] <;> rfl) | (simp [*, errW_none, errW_some] <;> rfl), by repeat (first | (with_reducible first | exact HB.out | apply below_alloc | apply pw_below_drewN | apply below_drew1) | exact HB.out)⟩
             intro hJ1_3_5_7_11
             refine join_ (σ := Value × Value × Value × Value × Value × Value × Value) 3 #[true, true, true, true, true, true, true, true, true, true, true, false, false, false] (fun s_ => [(121, s_.1), (123, .agg #[s_.2.1, s_.2.2.1]), (125, .agg #[s_.2.2.2.1, s_.2.2.2.2.1]), (127, .tuple #[.agg #[s_.2.2.2.2.2.1, s_.2.2.2.2.2.2], .int .i64 t445]), (119, .tuple #[.agg #[s_.2.2.2.2.2.1, s_.2.2.2.2.2.2], .int .i64 t445]), (128, .agg #[s_.2.2.2.2.2.1, s_.2.2.2.2.2.2]), (129, .int .i64 t445)]) (fun s_ w' => (w'.cell? ⟨gb339, 0, none⟩ = some (.slice A1_0 l1_0.length c1_0) ∧ w'.cell? ⟨gb339, 1, none⟩ = some (.slice A1_1 l1_1.length c1_1) ∧ w'.cell? ⟨gb340, 0, none⟩ = some (.slice A2_0 l2_0.length c2_0) ∧ w'.cell? ⟨gb340, 1, none⟩ = some (.slice A2_1 l2_1.length c2_1)) ∧ (Kd.R k74 74 w' w.heap.size (fun _ => True) s_.1 t424) ∧ (Kd.R k91 91 w' w.heap.size (fun k_ => some k_ ≠ (s_.2.2.2.1 : Value).ownBlock ∧ some k_ ≠ (s_.2.2.2.2.2.1 : Value).ownBlock ∧ some k_ ≠ (.slice Ao44 t359.length co44 : Value).ownBlock ∧ some k_ ≠ (.slice Ao75 t384.length co75 : Value).ownBlock) s_.2.1 t427) ∧ (Kd.R (Kd.int .i64) 2 w' w.heap.size (fun k_ => some k_ ≠ (s_.2.2.2.2.1 : Value).ownBlock ∧ some k_ ≠ (s_.2.2.2.2.2.2 : Value).ownBlock ∧ some k_ ≠ (.slice Ao46 t362.length co46 : Value).ownBlock ∧ some k_ ≠ (.slice Ao82 t387.length co82 : Value).ownBlock) s_.2.2.1 t430) ∧ (Kd.R k91 91 w' w.heap.size (fun k_ => some k_ ≠ (s_.2.1 : Value).ownBlock ∧ some k_ ≠ (s_.2.2.2.2.2.1 : Value).ownBlock ∧ some k_ ≠ (.slice Ao44 t359.length co44 : Value).ownBlock ∧ some k_ ≠ (.slice Ao75 t384.length co75 : Value).ownBlock) s_.2.2.2.1 t433) ∧ (Kd.R (Kd.int .i64) 2 w' w.heap.size (fun k_ => some k_ ≠ (s_.2.2.1 : Value).ownBlock ∧ some k_ ≠ (s_.2.2.2.2.2.2 : Value).ownBlock ∧ some k_ ≠ (.slice Ao46 t362.length co46 : Value).ownBlock ∧ some k_ ≠ (.slice Ao82 t387.length co82 : Value).ownBlock) s_.2.2.2.2.1 t436) ∧ (Kd.R k91 91 w' w.heap.size (fun k_ => some k_ ≠ (s_.2.1 : Value).ownBlock ∧ some k_ ≠ (s_.2.2.2.1 : Value).ownBlock ∧ some k_ ≠ (.slice Ao44 t359.length co44 : Value).ownBlock ∧ some k_ ≠ (.slice Ao75 t384.length co75 : Value).ownBlock) s_.2.2.2.2.2.1 t439) ∧ (Kd.R (Kd.int .i64) 2 w' w.heap.size (fun k_ => some k_ ≠ (s_.2.2.1 : Value).ownBlock ∧ some k_ ≠ (s_.2.2.2.2.1 : Value).ownBlock ∧ some k_ ≠ (.slice Ao46 t362.length co46 : Value).ownBlock ∧ some k_ ≠ (.slice Ao82 t387.length co82 : Value).ownBlock) s_.2.2.2.2.2.2 t442) ∧ (Kd.R k91 91 w' w.heap.size (fun k_ => some k_ ≠ (s_.2.1 : Value).ownBlock ∧ some k_ ≠ (s_.2.2.2.1 : Value).ownBlock ∧ some k_ ≠ (s_.2.2.2.2.2.1 : Value).ownBlock ∧ some k_ ≠ (.slice Ao75 t384.length co75 : Value).ownBlock) (.slice Ao44 t359.length co44) t359) ∧ (Kd.R (Kd.int .i64) 2 w' w.heap.size (fun k_ => some k_ ≠ (s_.2.2.1 : Value).ownBlock ∧ some k_ ≠ (s_.2.2.2.2.1 : Value).ownBlock ∧ some k_ ≠ (s_.2.2.2.2.2.2 : Value).ownBlock ∧ some k_ ≠ (.slice Ao82 t387.length co82 : Value).ownBlock) (.slice Ao46 t362.length co46) t362) ∧ (Kd.R k91 91 w' w.heap.size (fun k_ => some k_ ≠ (s_.2.1 : Value).ownBlock ∧ some k_ ≠ (s_.2.2.2.1 : Value).ownBlock ∧ some k_ ≠ (s_.2.2.2.2.2.1 : Value).ownBlock ∧ some k_ ≠ (.slice Ao44 t359.length co44 : Value).ownBlock) (.slice Ao75 t384.length co75) t421) ∧ (Kd.R (Kd.int .i64) 2 w' w.heap.size (fun k_ => some k_ ≠ (s_.2.2.1 : Value).ownBlock ∧ some k_ ≠ (s_.2.2.2.2.1 : Value).ownBlock ∧ some k_ ≠ (s_.2.2.2.2.2.2 : Value).ownBlock ∧ some k_ ≠ (.slice Ao46 t362.length co46 : Value).ownBlock) (.slice Ao82 t387.length co82) t422) ∧ (w'.heap[gb339]? = some (.cells #[.slice A1_0 l1_0.length c1_0, .slice A1_1 l1_1.length c1_1] 40 (0, 0))) ∧ (w'.heap[gb340]? = some (.cells #[.slice A2_0 l2_0.length c2_0, .slice A2_1 l2_1.length c2_1] 40 (0, 0))) ∧ (w'.heap[gb366]? = some (.cells #[.slice Ao44 t359.length co44, .slice Ao46 t362.length co46] 45 (0, 0))) ∧ (w'.heap[gb391]? = some (.cells #[.slice Ao75 t384.length co75, .slice Ao82 t387.length co82] 45 (0, 0))) ∧ (Below w.heap.size w w')) ?_ ?_
             ·
              skip
              clear HO_367000 HO_367001 HO_392000 HO_392001 BK339 BK340 BK366 BK391 HB
              rintro ⟨v425, v428, v431, v434, v437, v440, v443⟩ w200 ⟨hHeld, h0_, h1_, h2_, h3_, h4_, h5_, h6_, h7_, h8_, h9_, h10_, h11_, h12_, h13_, h14_, h15_⟩
              try dsimp only at hHeld h0_ h1_ h2_ h3_ h4_ h5_ h6_ h7_ h8_ h9_ h10_ h11_ h12_ h13_ h14_ h15_
              have HO426 := aS h0_; have HO429 := aS h1_; have HO432 := aS h2_; have HO435 := aS h3_; have HO438 := aS h4_; have HO441 := aS h5_; have HO444 := aS h6_; have HO_367000 := aS h7_; have HO_367001 := aS h8_; have HO_392000 := aS h9_; have HO_392001 := aS h10_; have BK339 := aS h11_; have BK340 := aS h12_; have BK366 := aS h13_; have BK391 := aS h14_; have HB := aS h15_
              clear h0_ h1_ h2_ h3_ h4_ h5_ h6_ h7_ h8_ h9_ h10_ h11_ h12_ h13_ h14_ h15_
              refine norm_ (a' := ?_) ?_ ?_
              rotate_left
              ·
               exact sQ
              refine one_ (i := 11) (N := some 20) #[true, true, true, true, true, true, true, true, true, true, true, true, false, false] rfl rfl (one_of HT_.out (by kernel_rfl)) (by decide) (fun K hK => ?_)
              refine box_step ?hg (N := 20) ?hd (cs := #[.slice none 0 0, .slice none 0 0]) (t := 45) ?hr ?_; (case hd => rfl); (case hg => rfl); (case hr => first | (go_simp; done) | (go_simp; rfl))
              intro gb446 hg w201 hbox hb
              replace HO_367000 := aS (Kd.R_below (sR HO_367000.out) hb); replace HO_367001 := aS (Kd.R_below (sR HO_367001.out) hb); replace HO_392000 := aS (Kd.R_below (sR HO_392000.out) hb); replace HO_392001 := aS (Kd.R_below (sR HO_392001.out) hb); replace HO426 := aS (Kd.R_below (sR HO426.out) hb); replace HO429 := aS (Kd.R_below (sR HO429.out) hb); replace HO432 := aS (Kd.R_below (sR HO432.out) hb); replace HO435 := aS (Kd.R_below (sR HO435.out) hb); replace HO438 := aS (Kd.R_below (sR HO438.out) hb); replace HO441 := aS (Kd.R_below (sR HO441.out) hb); replace HO444 := aS (Kd.R_below (sR HO444.out) hb); have BK446 := aS (hbox); have GW446 := aS (gW hg (sW HB.out)); have GE446 := aS (gW hg (sW HB.out)); replace HB := aS (below_step (sW HB.out) hb); have NB339_446 := aS (nL hg (sB BK339.out)); have NB446_339 := aS (nG hg (sB BK339.out)); replace BK339 := aS (blk_below (sB BK339.out) hb); have NB340_446 := aS (nL hg (sB BK340.out)); have NB446_340 := aS (nG hg (sB BK340.out)); replace BK340 := aS (blk_below (sB BK340.out) hb); have NB366_446 := aS (nL hg (sB BK366.out)); have NB446_366 := aS (nG hg (sB BK366.out)); replace BK366 := aS (blk_below (sB BK366.out) hb); have NB391_446 := aS (nL hg (sB BK391.out)); have NB446_391 := aS (nG hg (sB BK391.out)); replace BK391 := aS (blk_below (sB BK391.out) hb)
              clear hb hbox hg
              refine hK.out _ _ ⟨(blk_cell BK339.out 0).trans rfl, (blk_cell BK339.out 1).trans rfl, (blk_cell BK340.out 0).trans rfl, (blk_cell BK340.out 1).trans rfl⟩ (fun hHeld => ?_)
              clear hK K
              refine norm_ (a' := ?_) ?_ ?_
              rotate_left
              ·
               show Act.put _ (some 20) _ = _
               exact sP
              exact norm_ sQ (hJ1_3_5_7_11 (v425, v428, v431, v434, v437, v440, v443, gb446) _ ⟨hHeld, (sR HO426.out), (sR HO429.out), (sR HO432.out), (sR HO435.out), (sR HO438.out), (sR HO441.out), (sR HO444.out), (sR HO_367000.out), (sR HO_367001.out), (sR HO_392000.out), (sR HO_392001.out), (sB BK339.out), (sB BK340.out), (sB BK366.out), (sB BK391.out), (sB BK446.out), GW446.out, GE446.out, NB339_446.out, NB446_339.out, NB340_446.out, NB446_340.out, NB366_446.out, NB446_366.out, NB391_446.out, NB446_391.out, (sW HB.out)⟩)
             intro hJ1_3_5_7
             refine join_ (σ := Value × Value × Value × Value × Value × Nat) 6 #[true, true, true, true, true, true, true, false, false, false, false, true, false, false] (fun s_ => [(121, s_.1), (123, .agg #[s_.2.1, s_.2.2.1]), (125, .agg #[s_.2.2.2.1, s_.2.2.2.2.1]), (20, .pointer (some ⟨s_.2.2.2.2.2, 0, none⟩))]) (fun s_ w' => (w'.cell? ⟨gb339, 0, none⟩ = some (.slice A1_0 l1_0.length c1_0) ∧ w'.cell? ⟨gb339, 1, none⟩ = some (.slice A1_1 l1_1.length c1_1) ∧ w'.cell? ⟨gb340, 0, none⟩ = some (.slice A2_0 l2_0.length c2_0) ∧ w'.cell? ⟨gb340, 1, none⟩ = some (.slice A2_1 l2_1.length c2_1)) ∧ (Kd.R k74 74 w' w.heap.size (fun _ => True) s_.1 t424) ∧ (Kd.R k91 91 w' w.heap.size (fun k_ => some k_ ≠ (s_.2.2.2.1 : Value).ownBlock ∧ some k_ ≠ (.slice Ao44 t359.length co44 : Value).ownBlock ∧ some k_ ≠ (.slice Ao75 t384.length co75 : Value).ownBlock) s_.2.1 t427) ∧ (Kd.R (Kd.int .i64) 2 w' w.heap.size (fun k_ => some k_ ≠ (s_.2.2.2.2.1 : Value).ownBlock ∧ some k_ ≠ (.slice Ao46 t362.length co46 : Value).ownBlock ∧ some k_ ≠ (.slice Ao82 t387.length co82 : Value).ownBlock) s_.2.2.1 t430) ∧ (Kd.R k91 91 w' w.heap.size (fun k_ => some k_ ≠ (s_.2.1 : Value).ownBlock ∧ some k_ ≠ (.slice Ao44 t359.length co44 : Value).ownBlock ∧ some k_ ≠ (.slice Ao75 t384.length co75 : Value).ownBlock) s_.2.2.2.1 t433) ∧ (Kd.R (Kd.int .i64) 2 w' w.heap.size (fun k_ => some k_ ≠ (s_.2.2.1 : Value).ownBlock ∧ some k_ ≠ (.slice Ao46 t362.length co46 : Value).ownBlock ∧ some k_ ≠ (.slice Ao82 t387.length co82 : Value).ownBlock) s_.2.2.2.2.1 t436) ∧ (Kd.R k91 91 w' w.heap.size (fun k_ => some k_ ≠ (s_.2.1 : Value).ownBlock ∧ some k_ ≠ (s_.2.2.2.1 : Value).ownBlock ∧ some k_ ≠ (.slice Ao75 t384.length co75 : Value).ownBlock) (.slice Ao44 t359.length co44) t359) ∧ (Kd.R (Kd.int .i64) 2 w' w.heap.size (fun k_ => some k_ ≠ (s_.2.2.1 : Value).ownBlock ∧ some k_ ≠ (s_.2.2.2.2.1 : Value).ownBlock ∧ some k_ ≠ (.slice Ao82 t387.length co82 : Value).ownBlock) (.slice Ao46 t362.length co46) t362) ∧ (Kd.R k91 91 w' w.heap.size (fun k_ => some k_ ≠ (s_.2.1 : Value).ownBlock ∧ some k_ ≠ (s_.2.2.2.1 : Value).ownBlock ∧ some k_ ≠ (.slice Ao44 t359.length co44 : Value).ownBlock) (.slice Ao75 t384.length co75) t421) ∧ (Kd.R (Kd.int .i64) 2 w' w.heap.size (fun k_ => some k_ ≠ (s_.2.2.1 : Value).ownBlock ∧ some k_ ≠ (s_.2.2.2.2.1 : Value).ownBlock ∧ some k_ ≠ (.slice Ao46 t362.length co46 : Value).ownBlock) (.slice Ao82 t387.length co82) t422) ∧ (w'.heap[gb339]? = some (.cells #[.slice A1_0 l1_0.length c1_0, .slice A1_1 l1_1.length c1_1] 40 (0, 0))) ∧ (w'.heap[gb340]? = some (.cells #[.slice A2_0 l2_0.length c2_0, .slice A2_1 l2_1.length c2_1] 40 (0, 0))) ∧ (w'.heap[gb366]? = some (.cells #[.slice Ao44 t359.length co44, .slice Ao46 t362.length co46] 45 (0, 0))) ∧ (w'.heap[gb391]? = some (.cells #[.slice Ao75 t384.length co75, .slice Ao82 t387.length co82] 45 (0, 0))) ∧ (w'.heap[s_.2.2.2.2.2]? = some (.cells #[.slice none 0 0, .slice none 0 0] 45 (0, 0))) ∧ (w.heap.size ≤ s_.2.2.2.2.2) ∧ (w.heap.size ≤ s_.2.2.2.2.2) ∧ (gb339 ≠ s_.2.2.2.2.2) ∧ (s_.2.2.2.2.2 ≠ gb339) ∧ (gb340 ≠ s_.2.2.2.2.2) ∧ (s_.2.2.2.2.2 ≠ gb340) ∧ (gb366 ≠ s_.2.2.2.2.2) ∧ (s_.2.2.2.2.2 ≠ gb366) ∧ (gb391 ≠ s_.2.2.2.2.2) ∧ (s_.2.2.2.2.2 ≠ gb391) ∧ (Below w.heap.size w w')) ?_ ?_
             ·
              skip
              clear HO_367000 HO_367001 HO_392000 HO_392001 BK339 BK340 BK366 BK391 HB
              rintro ⟨v425, v428, v431, v434, v437, gb446⟩ w195 ⟨hHeld, h0_, h1_, h2_, h3_, h4_, h5_, h6_, h7_, h8_, h9_, h10_, h11_, h12_, h13_, h14_, h15_, h16_, h17_, h18_, h19_, h20_, h21_, h22_, h23_, h24_⟩
              try dsimp only at hHeld h0_ h1_ h2_ h3_ h4_ h5_ h6_ h7_ h8_ h9_ h10_ h11_ h12_ h13_ h14_ h15_ h16_ h17_ h18_ h19_ h20_ h21_ h22_ h23_ h24_
              have HO426 := aS h0_; have HO429 := aS h1_; have HO432 := aS h2_; have HO435 := aS h3_; have HO438 := aS h4_; have HO_367000 := aS h5_; have HO_367001 := aS h6_; have HO_392000 := aS h7_; have HO_392001 := aS h8_; have BK339 := aS h9_; have BK340 := aS h10_; have BK366 := aS h11_; have BK391 := aS h12_; have BK446 := aS h13_; have GW446 := aS h14_; have GE446 := aS h15_; have NB339_446 := aS h16_; have NB446_339 := aS h17_; have NB340_446 := aS h18_; have NB446_340 := aS h19_; have NB366_446 := aS h20_; have NB446_366 := aS h21_; have NB391_446 := aS h22_; have NB446_391 := aS h23_; have HB := aS h24_
              clear h0_ h1_ h2_ h3_ h4_ h5_ h6_ h7_ h8_ h9_ h10_ h11_ h12_ h13_ h14_ h15_ h16_ h17_ h18_ h19_ h20_ h21_ h22_ h23_ h24_
              obtain ⟨Ao196, co196, eo196⟩ := Kd.R_slice HO426.out
              (first | subst eo196 | (injection eo196 with f1_ f2_ f3_; have f4_ := f1_.symm; have f5_ := f3_.symm; clear f1_ f2_ f3_; subst f4_; subst f5_))
              obtain ⟨Ao197, co197, eo197⟩ := Kd.R_slice HO429.out
              (first | subst eo197 | (injection eo197 with f1_ f2_ f3_; have f4_ := f1_.symm; have f5_ := f3_.symm; clear f1_ f2_ f3_; subst f4_; subst f5_))
              obtain ⟨Ao198, co198, eo198⟩ := Kd.R_slice HO432.out
              (first | subst eo198 | (injection eo198 with f1_ f2_ f3_; have f4_ := f1_.symm; have f5_ := f3_.symm; clear f1_ f2_ f3_; subst f4_; subst f5_))
              obtain ⟨Ao199, co199, eo199⟩ := Kd.R_slice HO435.out
              (first | subst eo199 | (injection eo199 with f1_ f2_ f3_; have f4_ := f1_.symm; have f5_ := f3_.symm; clear f1_ f2_ f3_; subst f4_; subst f5_))
              obtain ⟨Ao200, co200, eo200⟩ := Kd.R_slice HO438.out
              (first | subst eo200 | (injection eo200 with f1_ f2_ f3_; have f4_ := f1_.symm; have f5_ := f3_.symm; clear f1_ f2_ f3_; subst f4_; subst f5_))
              refine norm_ (a' := ?_) ?_ ?_
              rotate_left
              ·
               exact sQ
              refine one_ (i := 7) (N := some 127) #[true, true, true, true, true, true, true, true, false, false, false, true, false, false] rfl rfl (one_of HT_.out (by kernel_rfl)) (by decide) (fun K hK => ?_)
              refine goes_ Try.func17 (by kernel_rfl) rfl #[.slice Ao196 t424.length co196, .agg #[.slice Ao197 t427.length co197, .slice Ao198 t430.length co198], .agg #[.slice Ao199 t433.length co199, .slice Ao200 t436.length co200], .int .i64 a3] (by rfl) rfl rfl sG ?_
              with_reducible refine (impl_JoinLines.calls kj137 _ _ t424 _ _ t427 _ _ t430 _ _ t433 _ _ t436 a3 t439 t442 t445 _ ?side1 ?side2 ?side3 ?side4 ?side5 ?side6 ?side7 ?side8 ?side9 ?side10 A188.out).mono ?_
              (case side1 => exact sC (Kd.R_reads' HO426.out).2.2)
              (case side2 => exact (Kd.R_reads' HO426.out).2.1)
              (case side3 => exact sC (Kd.R_reads' HO429.out).2.2)
              (case side4 => exact (Kd.R_reads' HO429.out).2.1)
              (case side5 => exact sC (Kd.R_reads' HO432.out).2.2)
              (case side6 => exact (Kd.R_reads' HO432.out).2.1)
              (case side7 => exact sC (Kd.R_reads' HO435.out).2.2)
              (case side8 => exact (Kd.R_reads' HO435.out).2.1)
              (case side9 => exact sC (Kd.R_reads' HO438.out).2.2)
              (case side10 => exact (Kd.R_reads' HO438.out).2.1)
              rintro e w201 ⟨v440, v443, rfl, ho0, ho1, hb⟩
              refine ⟨_, rfl, ?_⟩
              replace HO426 := aS (Kd.R_below (sR HO426.out) hb); have HO441 := aS (Kd.R_lower (Kd.R_new' (Kd.R_new' (Kd.R_new' (Kd.R_new' ho0 (Kd.R_lt (sR HO_367000.out))) (Kd.R_lt (sR HO_392000.out))) (Kd.R_lt (sR HO429.out))) (Kd.R_lt (sR HO435.out))) (below_size (sW HB.out))); replace HO_367000 := aS (Kd.R_elder' (sR HO_367000.out) (Kd.R_base ho0) hb); replace HO_392000 := aS (Kd.R_elder' (sR HO_392000.out) (Kd.R_base ho0) hb); replace HO429 := aS (Kd.R_elder' (sR HO429.out) (Kd.R_base ho0) hb); replace HO435 := aS (Kd.R_elder' (sR HO435.out) (Kd.R_base ho0) hb); have HO444 := aS (Kd.R_lower (Kd.R_new' (Kd.R_new' (Kd.R_new' (Kd.R_new' ho1 (Kd.R_lt (sR HO_367001.out))) (Kd.R_lt (sR HO_392001.out))) (Kd.R_lt (sR HO432.out))) (Kd.R_lt (sR HO438.out))) (below_size (sW HB.out))); replace HO_367001 := aS (Kd.R_elder' (sR HO_367001.out) (Kd.R_base ho1) hb); replace HO_392001 := aS (Kd.R_elder' (sR HO_392001.out) (Kd.R_base ho1) hb); replace HO432 := aS (Kd.R_elder' (sR HO432.out) (Kd.R_base ho1) hb); replace HO438 := aS (Kd.R_elder' (sR HO438.out) (Kd.R_base ho1) hb); replace BK339 := aS (blk_below (sB BK339.out) hb); replace BK340 := aS (blk_below (sB BK340.out) hb); replace BK366 := aS (blk_below (sB BK366.out) hb); replace BK391 := aS (blk_below (sB BK391.out) hb); replace BK446 := aS (blk_below (sB BK446.out) hb); replace HB := aS (below_step (sW HB.out) hb)
              (try clear hb); (try clear hb2); (try clear hk); (try clear hi); (try clear ho0); (try clear ho1)
              refine hK.out _ _ ⟨(blk_cell BK339.out 0).trans rfl, (blk_cell BK339.out 1).trans rfl, (blk_cell BK340.out 0).trans rfl, (blk_cell BK340.out 1).trans rfl⟩ (fun hHeld => ?_)
              clear hK K
              refine norm_ (a' := ?_) ?_ ?_
              rotate_left
              ·
               show Act.put _ (some 127) _ = _
               exact sP
              refine pure_ (i := 8) (N := some 119) (v := ?_) (a' := ?_) (laws_FnExactJoinLines.bF 14 2559) rfl rfl (any_of HT_.out (by kernel_rfl)) (fun _ _ _ h => h) (Or.inl ⟨by rfl, ?_⟩) ?_ ?_
              rotate_left
              ·
               intro w'
               go_simp
               with_reducible rfl
              rotate_left
              ·
               exact sP
              refine pure_ (i := 9) (N := some 128) (v := ?_) (a' := ?_) (laws_FnExactJoinLines.bF 14 3071) rfl rfl (any_of HT_.out (by kernel_rfl)) (fun _ _ _ h => h) (Or.inl ⟨by rfl, ?_⟩) ?_ ?_
              rotate_left
              ·
               intro w'
               go_simp
               with_reducible rfl
              rotate_left
              ·
               exact sP
              refine pure_ (i := 10) (N := some 129) (v := ?_) (a' := ?_) (laws_FnExactJoinLines.bF 14 4095) rfl rfl (any_of HT_.out (by kernel_rfl)) (fun _ _ _ h => h) (Or.inl ⟨by rfl, ?_⟩) ?_ ?_
              rotate_left
              ·
               intro w'
               go_simp
               with_reducible rfl
              rotate_left
              ·
               exact sP
              exact norm_ sQ (hJ1_3_5_7_11 (.slice Ao196 t424.length co196, .slice Ao197 t427.length co197, .slice Ao198 t430.length co198, .slice Ao199 t433.length co199, .slice Ao200 t436.length co200, v440, v443, gb446) _ ⟨hHeld, (sR HO426.out), (sR (Kd.R_mono HO429.out (fun _ hk => ⟨hk.1.1, ⟨hk.2, ⟨hk.1.2.1, hk.1.2.2⟩⟩⟩))), (sR (Kd.R_mono HO432.out (fun _ hk => ⟨hk.1.1, ⟨hk.2, ⟨hk.1.2.1, hk.1.2.2⟩⟩⟩))), (sR (Kd.R_mono HO435.out (fun _ hk => ⟨hk.1.1, ⟨hk.2, ⟨hk.1.2.1, hk.1.2.2⟩⟩⟩))), (sR (Kd.R_mono HO438.out (fun _ hk => ⟨hk.1.1, ⟨hk.2, ⟨hk.1.2.1, hk.1.2.2⟩⟩⟩))), (sR (Kd.R_mono HO441.out (fun _ hk => ⟨hk.1.2, ⟨hk.2, ⟨hk.1.1.1.2, hk.1.1.2⟩⟩⟩))), (sR (Kd.R_mono HO444.out (fun _ hk => ⟨hk.1.2, ⟨hk.2, ⟨hk.1.1.1.2, hk.1.1.2⟩⟩⟩))), (sR (Kd.R_mono HO_367000.out (fun _ hk => ⟨hk.1.1, ⟨hk.1.2.1, ⟨hk.2, hk.1.2.2⟩⟩⟩))), (sR (Kd.R_mono HO_367001.out (fun _ hk => ⟨hk.1.1, ⟨hk.1.2.1, ⟨hk.2, hk.1.2.2⟩⟩⟩))), (sR (Kd.R_mono HO_392000.out (fun _ hk => ⟨hk.1.1, ⟨hk.1.2.1, ⟨hk.2, hk.1.2.2⟩⟩⟩))), (sR (Kd.R_mono HO_392001.out (fun _ hk => ⟨hk.1.1, ⟨hk.1.2.1, ⟨hk.2, hk.1.2.2⟩⟩⟩))), (sB BK339.out), (sB BK340.out), (sB BK366.out), (sB BK391.out), (sB BK446.out), GW446.out, GE446.out, NB339_446.out, NB446_339.out, NB340_446.out, NB446_340.out, NB366_446.out, NB446_366.out, NB391_446.out, NB446_391.out, (sW HB.out)⟩)
             intro hJ1_3_5_11
             refine join_ (σ := Value × Value × Value × Value × Value) 7 #[true, true, true, true, true, true, true, false, false, false, false, false, false, false] (fun s_ => [(121, s_.1), (123, .agg #[s_.2.1, s_.2.2.1]), (125, .agg #[s_.2.2.2.1, s_.2.2.2.2])]) (fun s_ w' => (w'.cell? ⟨gb339, 0, none⟩ = some (.slice A1_0 l1_0.length c1_0) ∧ w'.cell? ⟨gb339, 1, none⟩ = some (.slice A1_1 l1_1.length c1_1) ∧ w'.cell? ⟨gb340, 0, none⟩ = some (.slice A2_0 l2_0.length c2_0) ∧ w'.cell? ⟨gb340, 1, none⟩ = some (.slice A2_1 l2_1.length c2_1)) ∧ (Kd.R k74 74 w' w.heap.size (fun _ => True) s_.1 t424) ∧ (Kd.R k91 91 w' w.heap.size (fun k_ => some k_ ≠ (s_.2.2.2.1 : Value).ownBlock ∧ some k_ ≠ (.slice Ao44 t359.length co44 : Value).ownBlock ∧ some k_ ≠ (.slice Ao75 t384.length co75 : Value).ownBlock) s_.2.1 t427) ∧ (Kd.R (Kd.int .i64) 2 w' w.heap.size (fun k_ => some k_ ≠ (s_.2.2.2.2 : Value).ownBlock ∧ some k_ ≠ (.slice Ao46 t362.length co46 : Value).ownBlock ∧ some k_ ≠ (.slice Ao82 t387.length co82 : Value).ownBlock) s_.2.2.1 t430) ∧ (Kd.R k91 91 w' w.heap.size (fun k_ => some k_ ≠ (s_.2.1 : Value).ownBlock ∧ some k_ ≠ (.slice Ao44 t359.length co44 : Value).ownBlock ∧ some k_ ≠ (.slice Ao75 t384.length co75 : Value).ownBlock) s_.2.2.2.1 t433) ∧ (Kd.R (Kd.int .i64) 2 w' w.heap.size (fun k_ => some k_ ≠ (s_.2.2.1 : Value).ownBlock ∧ some k_ ≠ (.slice Ao46 t362.length co46 : Value).ownBlock ∧ some k_ ≠ (.slice Ao82 t387.length co82 : Value).ownBlock) s_.2.2.2.2 t436) ∧ (Kd.R k91 91 w' w.heap.size (fun k_ => some k_ ≠ (s_.2.1 : Value).ownBlock ∧ some k_ ≠ (s_.2.2.2.1 : Value).ownBlock ∧ some k_ ≠ (.slice Ao75 t384.length co75 : Value).ownBlock) (.slice Ao44 t359.length co44) t359) ∧ (Kd.R (Kd.int .i64) 2 w' w.heap.size (fun k_ => some k_ ≠ (s_.2.2.1 : Value).ownBlock ∧ some k_ ≠ (s_.2.2.2.2 : Value).ownBlock ∧ some k_ ≠ (.slice Ao82 t387.length co82 : Value).ownBlock) (.slice Ao46 t362.length co46) t362) ∧ (Kd.R k91 91 w' w.heap.size (fun k_ => some k_ ≠ (s_.2.1 : Value).ownBlock ∧ some k_ ≠ (s_.2.2.2.1 : Value).ownBlock ∧ some k_ ≠ (.slice Ao44 t359.length co44 : Value).ownBlock) (.slice Ao75 t384.length co75) t421) ∧ (Kd.R (Kd.int .i64) 2 w' w.heap.size (fun k_ => some k_ ≠ (s_.2.2.1 : Value).ownBlock ∧ some k_ ≠ (s_.2.2.2.2 : Value).ownBlock ∧ some k_ ≠ (.slice Ao46 t362.length co46 : Value).ownBlock) (.slice Ao82 t387.length co82) t422) ∧ (w'.heap[gb339]? = some (.cells #[.slice A1_0 l1_0.length c1_0, .slice A1_1 l1_1.length c1_1] 40 (0, 0))) ∧ (w'.heap[gb340]? = some (.cells #[.slice A2_0 l2_0.length c2_0, .slice A2_1 l2_1.length c2_1] 40 (0, 0))) ∧ (w'.heap[gb366]? = some (.cells #[.slice Ao44 t359.length co44, .slice Ao46 t362.length co46] 45 (0, 0))) ∧ (w'.heap[gb391]? = some (.cells #[.slice Ao75 t384.length co75, .slice Ao82 t387.length co82] 45 (0, 0))) ∧ (Below w.heap.size w w')) ?_ ?_
             ·
              skip
              clear HO_367000 HO_367001 HO_392000 HO_392001 BK339 BK340 BK366 BK391 HB
              rintro ⟨v425, v428, v431, v434, v437⟩ w194 ⟨hHeld, h0_, h1_, h2_, h3_, h4_, h5_, h6_, h7_, h8_, h9_, h10_, h11_, h12_, h13_⟩
              try dsimp only at hHeld h0_ h1_ h2_ h3_ h4_ h5_ h6_ h7_ h8_ h9_ h10_ h11_ h12_ h13_
              have HO426 := aS h0_; have HO429 := aS h1_; have HO432 := aS h2_; have HO435 := aS h3_; have HO438 := aS h4_; have HO_367000 := aS h5_; have HO_367001 := aS h6_; have HO_392000 := aS h7_; have HO_392001 := aS h8_; have BK339 := aS h9_; have BK340 := aS h10_; have BK366 := aS h11_; have BK391 := aS h12_; have HB := aS h13_
              clear h0_ h1_ h2_ h3_ h4_ h5_ h6_ h7_ h8_ h9_ h10_ h11_ h12_ h13_
              obtain ⟨Ao195, co195, eo195⟩ := Kd.R_slice HO426.out
              (first | subst eo195 | (injection eo195 with f1_ f2_ f3_; have f4_ := f1_.symm; have f5_ := f3_.symm; clear f1_ f2_ f3_; subst f4_; subst f5_))
              obtain ⟨Ao196, co196, eo196⟩ := Kd.R_slice HO429.out
              (first | subst eo196 | (injection eo196 with f1_ f2_ f3_; have f4_ := f1_.symm; have f5_ := f3_.symm; clear f1_ f2_ f3_; subst f4_; subst f5_))
              obtain ⟨Ao197, co197, eo197⟩ := Kd.R_slice HO432.out
              (first | subst eo197 | (injection eo197 with f1_ f2_ f3_; have f4_ := f1_.symm; have f5_ := f3_.symm; clear f1_ f2_ f3_; subst f4_; subst f5_))
              obtain ⟨Ao198, co198, eo198⟩ := Kd.R_slice HO435.out
              (first | subst eo198 | (injection eo198 with f1_ f2_ f3_; have f4_ := f1_.symm; have f5_ := f3_.symm; clear f1_ f2_ f3_; subst f4_; subst f5_))
              obtain ⟨Ao199, co199, eo199⟩ := Kd.R_slice HO438.out
              (first | subst eo199 | (injection eo199 with f1_ f2_ f3_; have f4_ := f1_.symm; have f5_ := f3_.symm; clear f1_ f2_ f3_; subst f4_; subst f5_))
              refine norm_ (a' := ?_) ?_ ?_
              rotate_left
              ·
               exact sQ
              refine two_ (i := 7) (j := 11) (Ni := some 127) (Nj := some 20) #[true, true, true, true, true, true, true, true, false, false, false, false, false, false] #[true, true, true, true, true, true, true, false, false, false, false, true, false, false] rfl rfl rfl rfl (two_of HT_.out (by kernel_rfl)) (by decide) (by decide) (fun K hK => ?_) (fun K hK => ?_)
              ·
               skip
               refine goes_ Try.func17 (by kernel_rfl) rfl #[.slice Ao195 t424.length co195, .agg #[.slice Ao196 t427.length co196, .slice Ao197 t430.length co197], .agg #[.slice Ao198 t433.length co198, .slice Ao199 t436.length co199], .int .i64 a3] (by rfl) rfl rfl sG ?_
               with_reducible refine (impl_JoinLines.calls kj137 _ _ t424 _ _ t427 _ _ t430 _ _ t433 _ _ t436 a3 t439 t442 t445 _ ?side1 ?side2 ?side3 ?side4 ?side5 ?side6 ?side7 ?side8 ?side9 ?side10 A188.out).mono ?_
               (case side1 => exact sC (Kd.R_reads' HO426.out).2.2)
               (case side2 => exact (Kd.R_reads' HO426.out).2.1)
               (case side3 => exact sC (Kd.R_reads' HO429.out).2.2)
               (case side4 => exact (Kd.R_reads' HO429.out).2.1)
               (case side5 => exact sC (Kd.R_reads' HO432.out).2.2)
               (case side6 => exact (Kd.R_reads' HO432.out).2.1)
               (case side7 => exact sC (Kd.R_reads' HO435.out).2.2)
               (case side8 => exact (Kd.R_reads' HO435.out).2.1)
               (case side9 => exact sC (Kd.R_reads' HO438.out).2.2)
               (case side10 => exact (Kd.R_reads' HO438.out).2.1)
               rintro e w200 ⟨v440, v443, rfl, ho0, ho1, hb⟩
               refine ⟨_, rfl, ?_⟩
               replace HO426 := aS (Kd.R_below (sR HO426.out) hb); have HO441 := aS (Kd.R_lower (Kd.R_new' (Kd.R_new' (Kd.R_new' (Kd.R_new' ho0 (Kd.R_lt (sR HO_367000.out))) (Kd.R_lt (sR HO_392000.out))) (Kd.R_lt (sR HO429.out))) (Kd.R_lt (sR HO435.out))) (below_size (sW HB.out))); replace HO_367000 := aS (Kd.R_elder' (sR HO_367000.out) (Kd.R_base ho0) hb); replace HO_392000 := aS (Kd.R_elder' (sR HO_392000.out) (Kd.R_base ho0) hb); replace HO429 := aS (Kd.R_elder' (sR HO429.out) (Kd.R_base ho0) hb); replace HO435 := aS (Kd.R_elder' (sR HO435.out) (Kd.R_base ho0) hb); have HO444 := aS (Kd.R_lower (Kd.R_new' (Kd.R_new' (Kd.R_new' (Kd.R_new' ho1 (Kd.R_lt (sR HO_367001.out))) (Kd.R_lt (sR HO_392001.out))) (Kd.R_lt (sR HO432.out))) (Kd.R_lt (sR HO438.out))) (below_size (sW HB.out))); replace HO_367001 := aS (Kd.R_elder' (sR HO_367001.out) (Kd.R_base ho1) hb); replace HO_392001 := aS (Kd.R_elder' (sR HO_392001.out) (Kd.R_base ho1) hb); replace HO432 := aS (Kd.R_elder' (sR HO432.out) (Kd.R_base ho1) hb); replace HO438 := aS (Kd.R_elder' (sR HO438.out) (Kd.R_base ho1) hb); replace BK339 := aS (blk_below (sB BK339.out) hb); replace BK340 := aS (blk_below (sB BK340.out) hb); replace BK366 := aS (blk_below (sB BK366.out) hb); replace BK391 := aS (blk_below (sB BK391.out) hb); replace HB := aS (below_step (sW HB.out) hb)
               (try clear hb); (try clear hb2); (try clear hk); (try clear hi); (try clear ho0); (try clear ho1)
               refine hK.out _ _ ⟨(blk_cell BK339.out 0).trans rfl, (blk_cell BK339.out 1).trans rfl, (blk_cell BK340.out 0).trans rfl, (blk_cell BK340.out 1).trans rfl⟩ (fun hHeld => ?_)
               clear hK K
               refine norm_ (a' := ?_) ?_ ?_
               rotate_left
               ·
                show Act.put _ (some 127) _ = _
                exact sP
               refine pure_ (i := 8) (N := some 119) (v := ?_) (a' := ?_) (laws_FnExactJoinLines.bF 14 511) rfl rfl (any_of HT_.out (by kernel_rfl)) (fun _ _ _ h => h) (Or.inl ⟨by rfl, ?_⟩) ?_ ?_
               rotate_left
               ·
                intro w'
                go_simp
                with_reducible rfl
               rotate_left
               ·
                exact sP
               refine pure_ (i := 9) (N := some 128) (v := ?_) (a' := ?_) (laws_FnExactJoinLines.bF 14 1023) rfl rfl (any_of HT_.out (by kernel_rfl)) (fun _ _ _ h => h) (Or.inl ⟨by rfl, ?_⟩) ?_ ?_
               rotate_left
               ·
                intro w'
                go_simp
                with_reducible rfl
               rotate_left
               ·
                exact sP
               refine pure_ (i := 10) (N := some 129) (v := ?_) (a' := ?_) (laws_FnExactJoinLines.bF 14 2047) rfl rfl (any_of HT_.out (by kernel_rfl)) (fun _ _ _ h => h) (Or.inl ⟨by rfl, ?_⟩) ?_ ?_
               rotate_left
               ·
                intro w'
                go_simp
                with_reducible rfl
               rotate_left
               ·
                exact sP
               exact norm_ sQ (hJ1_3_5_7 (.slice Ao195 t424.length co195, .slice Ao196 t427.length co196, .slice Ao197 t430.length co197, .slice Ao198 t433.length co198, .slice Ao199 t436.length co199, v440, v443) _ ⟨hHeld, (sR HO426.out), (sR (Kd.R_mono HO429.out (fun _ hk => ⟨hk.1.1, ⟨hk.2, ⟨hk.1.2.1, hk.1.2.2⟩⟩⟩))), (sR (Kd.R_mono HO432.out (fun _ hk => ⟨hk.1.1, ⟨hk.2, ⟨hk.1.2.1, hk.1.2.2⟩⟩⟩))), (sR (Kd.R_mono HO435.out (fun _ hk => ⟨hk.1.1, ⟨hk.2, ⟨hk.1.2.1, hk.1.2.2⟩⟩⟩))), (sR (Kd.R_mono HO438.out (fun _ hk => ⟨hk.1.1, ⟨hk.2, ⟨hk.1.2.1, hk.1.2.2⟩⟩⟩))), (sR (Kd.R_mono HO441.out (fun _ hk => ⟨hk.1.2, ⟨hk.2, ⟨hk.1.1.1.2, hk.1.1.2⟩⟩⟩))), (sR (Kd.R_mono HO444.out (fun _ hk => ⟨hk.1.2, ⟨hk.2, ⟨hk.1.1.1.2, hk.1.1.2⟩⟩⟩))), (sR (Kd.R_mono HO_367000.out (fun _ hk => ⟨hk.1.1, ⟨hk.1.2.1, ⟨hk.2, hk.1.2.2⟩⟩⟩))), (sR (Kd.R_mono HO_367001.out (fun _ hk => ⟨hk.1.1, ⟨hk.1.2.1, ⟨hk.2, hk.1.2.2⟩⟩⟩))), (sR (Kd.R_mono HO_392000.out (fun _ hk => ⟨hk.1.1, ⟨hk.1.2.1, ⟨hk.2, hk.1.2.2⟩⟩⟩))), (sR (Kd.R_mono HO_392001.out (fun _ hk => ⟨hk.1.1, ⟨hk.1.2.1, ⟨hk.2, hk.1.2.2⟩⟩⟩))), (sB BK339.out), (sB BK340.out), (sB BK366.out), (sB BK391.out), (sW HB.out)⟩)
              skip
              refine box_step ?hg (N := 20) ?hd (cs := #[.slice none 0 0, .slice none 0 0]) (t := 45) ?hr ?_; (case hd => rfl); (case hg => rfl); (case hr => first | (go_simp; done) | (go_simp; rfl))
              intro gb446 hg w195 hbox hb
              replace HO_367000 := aS (Kd.R_below (sR HO_367000.out) hb); replace HO_367001 := aS (Kd.R_below (sR HO_367001.out) hb); replace HO_392000 := aS (Kd.R_below (sR HO_392000.out) hb); replace HO_392001 := aS (Kd.R_below (sR HO_392001.out) hb); replace HO426 := aS (Kd.R_below (sR HO426.out) hb); replace HO429 := aS (Kd.R_below (sR HO429.out) hb); replace HO432 := aS (Kd.R_below (sR HO432.out) hb); replace HO435 := aS (Kd.R_below (sR HO435.out) hb); replace HO438 := aS (Kd.R_below (sR HO438.out) hb); have BK446 := aS (hbox); have GW446 := aS (gW hg (sW HB.out)); have GE446 := aS (gW hg (sW HB.out)); replace HB := aS (below_step (sW HB.out) hb); have NB339_446 := aS (nL hg (sB BK339.out)); have NB446_339 := aS (nG hg (sB BK339.out)); replace BK339 := aS (blk_below (sB BK339.out) hb); have NB340_446 := aS (nL hg (sB BK340.out)); have NB446_340 := aS (nG hg (sB BK340.out)); replace BK340 := aS (blk_below (sB BK340.out) hb); have NB366_446 := aS (nL hg (sB BK366.out)); have NB446_366 := aS (nG hg (sB BK366.out)); replace BK366 := aS (blk_below (sB BK366.out) hb); have NB391_446 := aS (nL hg (sB BK391.out)); have NB446_391 := aS (nG hg (sB BK391.out)); replace BK391 := aS (blk_below (sB BK391.out) hb)
              clear hb hbox hg
              refine hK.out _ _ ⟨(blk_cell BK339.out 0).trans rfl, (blk_cell BK339.out 1).trans rfl, (blk_cell BK340.out 0).trans rfl, (blk_cell BK340.out 1).trans rfl⟩ (fun hHeld => ?_)
              clear hK K
              refine norm_ (a' := ?_) ?_ ?_
              rotate_left
              ·
               show Act.put _ (some 20) _ = _
               exact sP
              exact norm_ sQ (hJ1_3_5_11 (_, _, _, _, _, gb446) _ ⟨hHeld, (sR HO426.out), (sR HO429.out), (sR HO432.out), (sR HO435.out), (sR HO438.out), (sR HO_367000.out), (sR HO_367001.out), (sR HO_392000.out), (sR HO_392001.out), (sB BK339.out), (sB BK340.out), (sB BK366.out), (sB BK391.out), (sB BK446.out), GW446.out, GE446.out, NB339_446.out, NB446_339.out, NB340_446.out, NB446_340.out, NB366_446.out, NB446_366.out, NB391_446.out, NB446_391.out, (sW HB.out)⟩)
             intro hJ1_3_5
             refine join_ (σ := Value × Value × Value × Nat) 7 #[true, true, true, true, true, false, true, false, false, false, false, true, false, false] (fun s_ => [(121, s_.1), (123, .agg #[s_.2.1, s_.2.2.1]), (20, .pointer (some ⟨s_.2.2.2, 0, none⟩))]) (fun s_ w' => (w'.cell? ⟨gb339, 0, none⟩ = some (.slice A1_0 l1_0.length c1_0) ∧ w'.cell? ⟨gb339, 1, none⟩ = some (.slice A1_1 l1_1.length c1_1) ∧ w'.cell? ⟨gb340, 0, none⟩ = some (.slice A2_0 l2_0.length c2_0) ∧ w'.cell? ⟨gb340, 1, none⟩ = some (.slice A2_1 l2_1.length c2_1)) ∧ (Kd.R k74 74 w' w.heap.size (fun _ => True) s_.1 t424) ∧ (Kd.R k91 91 w' w.heap.size (fun k_ => some k_ ≠ (.slice Ao44 t359.length co44 : Value).ownBlock ∧ some k_ ≠ (.slice Ao75 t384.length co75 : Value).ownBlock) s_.2.1 t427) ∧ (Kd.R (Kd.int .i64) 2 w' w.heap.size (fun k_ => some k_ ≠ (.slice Ao46 t362.length co46 : Value).ownBlock ∧ some k_ ≠ (.slice Ao82 t387.length co82 : Value).ownBlock) s_.2.2.1 t430) ∧ (Kd.R k91 91 w' w.heap.size (fun k_ => some k_ ≠ (s_.2.1 : Value).ownBlock ∧ some k_ ≠ (.slice Ao75 t384.length co75 : Value).ownBlock) (.slice Ao44 t359.length co44) t359) ∧ (Kd.R (Kd.int .i64) 2 w' w.heap.size (fun k_ => some k_ ≠ (s_.2.2.1 : Value).ownBlock ∧ some k_ ≠ (.slice Ao82 t387.length co82 : Value).ownBlock) (.slice Ao46 t362.length co46) t362) ∧ (Kd.R k91 91 w' w.heap.size (fun k_ => some k_ ≠ (s_.2.1 : Value).ownBlock ∧ some k_ ≠ (.slice Ao44 t359.length co44 : Value).ownBlock) (.slice Ao75 t384.length co75) t421) ∧ (Kd.R (Kd.int .i64) 2 w' w.heap.size (fun k_ => some k_ ≠ (s_.2.2.1 : Value).ownBlock ∧ some k_ ≠ (.slice Ao46 t362.length co46 : Value).ownBlock) (.slice Ao82 t387.length co82) t422) ∧ (w'.heap[gb339]? = some (.cells #[.slice A1_0 l1_0.length c1_0, .slice A1_1 l1_1.length c1_1] 40 (0, 0))) ∧ (w'.heap[gb340]? = some (.cells #[.slice A2_0 l2_0.length c2_0, .slice A2_1 l2_1.length c2_1] 40 (0, 0))) ∧ (w'.heap[gb366]? = some (.cells #[.slice Ao44 t359.length co44, .slice Ao46 t362.length co46] 45 (0, 0))) ∧ (w'.heap[gb391]? = some (.cells #[.slice Ao75 t384.length co75, .slice Ao82 t387.length co82] 45 (0, 0))) ∧ (w'.heap[s_.2.2.2]? = some (.cells #[.slice none 0 0, .slice none 0 0] 45 (0, 0))) ∧ (w.heap.size ≤ s_.2.2.2) ∧ (w.heap.size ≤ s_.2.2.2) ∧ (gb339 ≠ s_.2.2.2) ∧ (s_.2.2.2 ≠ gb339) ∧ (gb340 ≠ s_.2.2.2) ∧ (s_.2.2.2 ≠ gb340) ∧ (gb366 ≠ s_.2.2.2) ∧ (s_.2.2.2 ≠ gb366) ∧ (gb391 ≠ s_.2.2.2) ∧ (s_.2.2.2 ≠ gb391) ∧ (Below w.heap.size w w')) ?_ ?_
             ·
              skip
              clear HO_367000 HO_367001 HO_392000 HO_392001 BK339 BK340 BK366 BK391 HB
              rintro ⟨v425, v428, v431, gb446⟩ w194 ⟨hHeld, h0_, h1_, h2_, h3_, h4_, h5_, h6_, h7_, h8_, h9_, h10_, h11_, h12_, h13_, h14_, h15_, h16_, h17_, h18_, h19_, h20_, h21_, h22_⟩
              try dsimp only at hHeld h0_ h1_ h2_ h3_ h4_ h5_ h6_ h7_ h8_ h9_ h10_ h11_ h12_ h13_ h14_ h15_ h16_ h17_ h18_ h19_ h20_ h21_ h22_
              have HO426 := aS h0_; have HO429 := aS h1_; have HO432 := aS h2_; have HO_367000 := aS h3_; have HO_367001 := aS h4_; have HO_392000 := aS h5_; have HO_392001 := aS h6_; have BK339 := aS h7_; have BK340 := aS h8_; have BK366 := aS h9_; have BK391 := aS h10_; have BK446 := aS h11_; have GW446 := aS h12_; have GE446 := aS h13_; have NB339_446 := aS h14_; have NB446_339 := aS h15_; have NB340_446 := aS h16_; have NB446_340 := aS h17_; have NB366_446 := aS h18_; have NB446_366 := aS h19_; have NB391_446 := aS h20_; have NB446_391 := aS h21_; have HB := aS h22_
              clear h0_ h1_ h2_ h3_ h4_ h5_ h6_ h7_ h8_ h9_ h10_ h11_ h12_ h13_ h14_ h15_ h16_ h17_ h18_ h19_ h20_ h21_ h22_
              refine norm_ (a' := ?_) ?_ ?_
              rotate_left
              ·
               exact sQ
              refine one_ (i := 5) (N := some 125) #[true, true, true, true, true, true, true, false, false, false, false, true, false, false] rfl rfl (one_of HT_.out (by kernel_rfl)) (by decide) (fun K hK => ?_)
              refine goes_ Try.func16 (by kernel_rfl) rfl #[.agg #[.slice A2_0 l2_0.length c2_0, .slice A2_1 l2_1.length c2_1]] (by rfl) rfl rfl sG ?_
              with_reducible refine (laws_toLine.calls kj137 _ _ l2_0 _ _ l2_1 t433 t436 _ ?side1 ?side2 ?side3 ?side4 A187.out).mono ?_
              (case side1 => exact sC (Kd.C_below HR2_0.out HB.out))
              (case side2 => exact HC2_0.out)
              (case side3 => exact sC (Kd.C_below HR2_1.out HB.out))
              (case side4 => exact HC2_1.out)
              rintro e w195 ⟨v434, v437, rfl, ho0, ho1, hb⟩
              refine ⟨_, rfl, ?_⟩
              replace HO426 := aS (Kd.R_below (sR HO426.out) hb); have HO435 := aS (Kd.R_lower (Kd.R_new' (Kd.R_new' (Kd.R_new' ho0 (Kd.R_lt (sR HO_367000.out))) (Kd.R_lt (sR HO_392000.out))) (Kd.R_lt (sR HO429.out))) (below_size (sW HB.out))); replace HO_367000 := aS (Kd.R_elder' (sR HO_367000.out) (Kd.R_base ho0) hb); replace HO_392000 := aS (Kd.R_elder' (sR HO_392000.out) (Kd.R_base ho0) hb); replace HO429 := aS (Kd.R_elder' (sR HO429.out) (Kd.R_base ho0) hb); have HO438 := aS (Kd.R_lower (Kd.R_new' (Kd.R_new' (Kd.R_new' ho1 (Kd.R_lt (sR HO_367001.out))) (Kd.R_lt (sR HO_392001.out))) (Kd.R_lt (sR HO432.out))) (below_size (sW HB.out))); replace HO_367001 := aS (Kd.R_elder' (sR HO_367001.out) (Kd.R_base ho1) hb); replace HO_392001 := aS (Kd.R_elder' (sR HO_392001.out) (Kd.R_base ho1) hb); replace HO432 := aS (Kd.R_elder' (sR HO432.out) (Kd.R_base ho1) hb); replace BK339 := aS (blk_below (sB BK339.out) hb); replace BK340 := aS (blk_below (sB BK340.out) hb); replace BK366 := aS (blk_below (sB BK366.out) hb); replace BK391 := aS (blk_below (sB BK391.out) hb); replace BK446 := aS (blk_below (sB BK446.out) hb); replace HB := aS (below_step (sW HB.out) hb)
              (try clear hb); (try clear hb2); (try clear hk); (try clear hi); (try clear ho0); (try clear ho1)
              refine hK.out _ _ ⟨(blk_cell BK339.out 0).trans rfl, (blk_cell BK339.out 1).trans rfl, (blk_cell BK340.out 0).trans rfl, (blk_cell BK340.out 1).trans rfl⟩ (fun hHeld => ?_)
              clear hK K
              refine norm_ (a' := ?_) ?_ ?_
              rotate_left
              ·
               show Act.put _ (some 125) _ = _
               exact sP
              exact norm_ sQ (hJ1_3_5_11 (v425, v428, v431, v434, v437, gb446) _ ⟨hHeld, (sR HO426.out), (sR (Kd.R_mono HO429.out (fun _ hk => ⟨hk.2, ⟨hk.1.1, hk.1.2⟩⟩))), (sR (Kd.R_mono HO432.out (fun _ hk => ⟨hk.2, ⟨hk.1.1, hk.1.2⟩⟩))), (sR (Kd.R_mono HO435.out (fun _ hk => ⟨hk.2, ⟨hk.1.1.2, hk.1.2⟩⟩))), (sR (Kd.R_mono HO438.out (fun _ hk => ⟨hk.2, ⟨hk.1.1.2, hk.1.2⟩⟩))), (sR (Kd.R_mono HO_367000.out (fun _ hk => ⟨hk.1.1, ⟨hk.2, hk.1.2⟩⟩))), (sR (Kd.R_mono HO_367001.out (fun _ hk => ⟨hk.1.1, ⟨hk.2, hk.1.2⟩⟩))), (sR (Kd.R_mono HO_392000.out (fun _ hk => ⟨hk.1.1, ⟨hk.2, hk.1.2⟩⟩))), (sR (Kd.R_mono HO_392001.out (fun _ hk => ⟨hk.1.1, ⟨hk.2, hk.1.2⟩⟩))), (sB BK339.out), (sB BK340.out), (sB BK366.out), (sB BK391.out), (sB BK446.out), GW446.out, GE446.out, NB339_446.out, NB446_339.out, NB340_446.out, NB446_340.out, NB366_446.out, NB446_366.out, NB391_446.out, NB446_391.out, (sW HB.out)⟩)
             intro hJ1_3_11
             refine join_ (σ := Value × Value × Value) 8 #[true, true, true, true, true, false, true, false, false, false, false, false, false, false] (fun s_ => [(121, s_.1), (123, .agg #[s_.2.1, s_.2.2])]) (fun s_ w' => (w'.cell? ⟨gb339, 0, none⟩ = some (.slice A1_0 l1_0.length c1_0) ∧ w'.cell? ⟨gb339, 1, none⟩ = some (.slice A1_1 l1_1.length c1_1) ∧ w'.cell? ⟨gb340, 0, none⟩ = some (.slice A2_0 l2_0.length c2_0) ∧ w'.cell? ⟨gb340, 1, none⟩ = some (.slice A2_1 l2_1.length c2_1)) ∧ (Kd.R k74 74 w' w.heap.size (fun _ => True) s_.1 t424) ∧ (Kd.R k91 91 w' w.heap.size (fun k_ => some k_ ≠ (.slice Ao44 t359.length co44 : Value).ownBlock ∧ some k_ ≠ (.slice Ao75 t384.length co75 : Value).ownBlock) s_.2.1 t427) ∧ (Kd.R (Kd.int .i64) 2 w' w.heap.size (fun k_ => some k_ ≠ (.slice Ao46 t362.length co46 : Value).ownBlock ∧ some k_ ≠ (.slice Ao82 t387.length co82 : Value).ownBlock) s_.2.2 t430) ∧ (Kd.R k91 91 w' w.heap.size (fun k_ => some k_ ≠ (s_.2.1 : Value).ownBlock ∧ some k_ ≠ (.slice Ao75 t384.length co75 : Value).ownBlock) (.slice Ao44 t359.length co44) t359) ∧ (Kd.R (Kd.int .i64) 2 w' w.heap.size (fun k_ => some k_ ≠ (s_.2.2 : Value).ownBlock ∧ some k_ ≠ (.slice Ao82 t387.length co82 : Value).ownBlock) (.slice Ao46 t362.length co46) t362) ∧ (Kd.R k91 91 w' w.heap.size (fun k_ => some k_ ≠ (s_.2.1 : Value).ownBlock ∧ some k_ ≠ (.slice Ao44 t359.length co44 : Value).ownBlock) (.slice Ao75 t384.length co75) t421) ∧ (Kd.R (Kd.int .i64) 2 w' w.heap.size (fun k_ => some k_ ≠ (s_.2.2 : Value).ownBlock ∧ some k_ ≠ (.slice Ao46 t362.length co46 : Value).ownBlock) (.slice Ao82 t387.length co82) t422) ∧ (w'.heap[gb339]? = some (.cells #[.slice A1_0 l1_0.length c1_0, .slice A1_1 l1_1.length c1_1] 40 (0, 0))) ∧ (w'.heap[gb340]? = some (.cells #[.slice A2_0 l2_0.length c2_0, .slice A2_1 l2_1.length c2_1] 40 (0, 0))) ∧ (w'.heap[gb366]? = some (.cells #[.slice Ao44 t359.length co44, .slice Ao46 t362.length co46] 45 (0, 0))) ∧ (w'.heap[gb391]? = some (.cells #[.slice Ao75 t384.length co75, .slice Ao82 t387.length co82] 45 (0, 0))) ∧ (Below w.heap.size w w')) ?_ ?_
             ·
              skip
              clear HO_367000 HO_367001 HO_392000 HO_392001 BK339 BK340 BK366 BK391 HB
              rintro ⟨v425, v428, v431⟩ w193 ⟨hHeld, h0_, h1_, h2_, h3_, h4_, h5_, h6_, h7_, h8_, h9_, h10_, h11_⟩
              try dsimp only at hHeld h0_ h1_ h2_ h3_ h4_ h5_ h6_ h7_ h8_ h9_ h10_ h11_
              have HO426 := aS h0_; have HO429 := aS h1_; have HO432 := aS h2_; have HO_367000 := aS h3_; have HO_367001 := aS h4_; have HO_392000 := aS h5_; have HO_392001 := aS h6_; have BK339 := aS h7_; have BK340 := aS h8_; have BK366 := aS h9_; have BK391 := aS h10_; have HB := aS h11_
              clear h0_ h1_ h2_ h3_ h4_ h5_ h6_ h7_ h8_ h9_ h10_ h11_
              refine norm_ (a' := ?_) ?_ ?_
              rotate_left
              ·
               exact sQ
              refine two_ (i := 5) (j := 11) (Ni := some 125) (Nj := some 20) #[true, true, true, true, true, true, true, false, false, false, false, false, false, false] #[true, true, true, true, true, false, true, false, false, false, false, true, false, false] rfl rfl rfl rfl (two_of HT_.out (by kernel_rfl)) (by decide) (by decide) (fun K hK => ?_) (fun K hK => ?_)
              ·
               skip
               refine goes_ Try.func16 (by kernel_rfl) rfl #[.agg #[.slice A2_0 l2_0.length c2_0, .slice A2_1 l2_1.length c2_1]] (by rfl) rfl rfl sG ?_
               with_reducible refine (laws_toLine.calls kj137 _ _ l2_0 _ _ l2_1 t433 t436 _ ?side1 ?side2 ?side3 ?side4 A187.out).mono ?_
               (case side1 => exact sC (Kd.C_below HR2_0.out HB.out))
               (case side2 => exact HC2_0.out)
               (case side3 => exact sC (Kd.C_below HR2_1.out HB.out))
               (case side4 => exact HC2_1.out)
               rintro e w194 ⟨v434, v437, rfl, ho0, ho1, hb⟩
               refine ⟨_, rfl, ?_⟩
               replace HO426 := aS (Kd.R_below (sR HO426.out) hb); have HO435 := aS (Kd.R_lower (Kd.R_new' (Kd.R_new' (Kd.R_new' ho0 (Kd.R_lt (sR HO_367000.out))) (Kd.R_lt (sR HO_392000.out))) (Kd.R_lt (sR HO429.out))) (below_size (sW HB.out))); replace HO_367000 := aS (Kd.R_elder' (sR HO_367000.out) (Kd.R_base ho0) hb); replace HO_392000 := aS (Kd.R_elder' (sR HO_392000.out) (Kd.R_base ho0) hb); replace HO429 := aS (Kd.R_elder' (sR HO429.out) (Kd.R_base ho0) hb); have HO438 := aS (Kd.R_lower (Kd.R_new' (Kd.R_new' (Kd.R_new' ho1 (Kd.R_lt (sR HO_367001.out))) (Kd.R_lt (sR HO_392001.out))) (Kd.R_lt (sR HO432.out))) (below_size (sW HB.out))); replace HO_367001 := aS (Kd.R_elder' (sR HO_367001.out) (Kd.R_base ho1) hb); replace HO_392001 := aS (Kd.R_elder' (sR HO_392001.out) (Kd.R_base ho1) hb); replace HO432 := aS (Kd.R_elder' (sR HO432.out) (Kd.R_base ho1) hb); replace BK339 := aS (blk_below (sB BK339.out) hb); replace BK340 := aS (blk_below (sB BK340.out) hb); replace BK366 := aS (blk_below (sB BK366.out) hb); replace BK391 := aS (blk_below (sB BK391.out) hb); replace HB := aS (below_step (sW HB.out) hb)
               (try clear hb); (try clear hb2); (try clear hk); (try clear hi); (try clear ho0); (try clear ho1)
               refine hK.out _ _ ⟨(blk_cell BK339.out 0).trans rfl, (blk_cell BK339.out 1).trans rfl, (blk_cell BK340.out 0).trans rfl, (blk_cell BK340.out 1).trans rfl⟩ (fun hHeld => ?_)
               clear hK K
               refine norm_ (a' := ?_) ?_ ?_
               rotate_left
               ·
                show Act.put _ (some 125) _ = _
                exact sP
               exact norm_ sQ (hJ1_3_5 (v425, v428, v431, v434, v437) _ ⟨hHeld, (sR HO426.out), (sR (Kd.R_mono HO429.out (fun _ hk => ⟨hk.2, ⟨hk.1.1, hk.1.2⟩⟩))), (sR (Kd.R_mono HO432.out (fun _ hk => ⟨hk.2, ⟨hk.1.1, hk.1.2⟩⟩))), (sR (Kd.R_mono HO435.out (fun _ hk => ⟨hk.2, ⟨hk.1.1.2, hk.1.2⟩⟩))), (sR (Kd.R_mono HO438.out (fun _ hk => ⟨hk.2, ⟨hk.1.1.2, hk.1.2⟩⟩))), (sR (Kd.R_mono HO_367000.out (fun _ hk => ⟨hk.1.1, ⟨hk.2, hk.1.2⟩⟩))), (sR (Kd.R_mono HO_367001.out (fun _ hk => ⟨hk.1.1, ⟨hk.2, hk.1.2⟩⟩))), (sR (Kd.R_mono HO_392000.out (fun _ hk => ⟨hk.1.1, ⟨hk.2, hk.1.2⟩⟩))), (sR (Kd.R_mono HO_392001.out (fun _ hk => ⟨hk.1.1, ⟨hk.2, hk.1.2⟩⟩))), (sB BK339.out), (sB BK340.out), (sB BK366.out), (sB BK391.out), (sW HB.out)⟩)
              skip
              refine box_step ?hg (N := 20) ?hd (cs := #[.slice none 0 0, .slice none 0 0]) (t := 45) ?hr ?_; (case hd => rfl); (case hg => rfl); (case hr => first | (go_simp; done) | (go_simp; rfl))
              intro gb446 hg w194 hbox hb
              replace HO_367000 := aS (Kd.R_below (sR HO_367000.out) hb); replace HO_367001 := aS (Kd.R_below (sR HO_367001.out) hb); replace HO_392000 := aS (Kd.R_below (sR HO_392000.out) hb); replace HO_392001 := aS (Kd.R_below (sR HO_392001.out) hb); replace HO426 := aS (Kd.R_below (sR HO426.out) hb); replace HO429 := aS (Kd.R_below (sR HO429.out) hb); replace HO432 := aS (Kd.R_below (sR HO432.out) hb); have BK446 := aS (hbox); have GW446 := aS (gW hg (sW HB.out)); have GE446 := aS (gW hg (sW HB.out)); replace HB := aS (below_step (sW HB.out) hb); have NB339_446 := aS (nL hg (sB BK339.out)); have NB446_339 := aS (nG hg (sB BK339.out)); replace BK339 := aS (blk_below (sB BK339.out) hb); have NB340_446 := aS (nL hg (sB BK340.out)); have NB446_340 := aS (nG hg (sB BK340.out)); replace BK340 := aS (blk_below (sB BK340.out) hb); have NB366_446 := aS (nL hg (sB BK366.out)); have NB446_366 := aS (nG hg (sB BK366.out)); replace BK366 := aS (blk_below (sB BK366.out) hb); have NB391_446 := aS (nL hg (sB BK391.out)); have NB446_391 := aS (nG hg (sB BK391.out)); replace BK391 := aS (blk_below (sB BK391.out) hb)
              clear hb hbox hg
              refine hK.out _ _ ⟨(blk_cell BK339.out 0).trans rfl, (blk_cell BK339.out 1).trans rfl, (blk_cell BK340.out 0).trans rfl, (blk_cell BK340.out 1).trans rfl⟩ (fun hHeld => ?_)
              clear hK K
              refine norm_ (a' := ?_) ?_ ?_
              rotate_left
              ·
               show Act.put _ (some 20) _ = _
               exact sP
              exact norm_ sQ (hJ1_3_11 (v425, v428, v431, gb446) _ ⟨hHeld, (sR HO426.out), (sR HO429.out), (sR HO432.out), (sR HO_367000.out), (sR HO_367001.out), (sR HO_392000.out), (sR HO_392001.out), (sB BK339.out), (sB BK340.out), (sB BK366.out), (sB BK391.out), (sB BK446.out), GW446.out, GE446.out, NB339_446.out, NB446_339.out, NB340_446.out, NB446_340.out, NB366_446.out, NB446_366.out, NB391_446.out, NB446_391.out, (sW HB.out)⟩)
             intro hJ1_3
             refine join_ (σ := Value × Nat) 8 #[true, true, true, false, true, false, true, false, false, false, false, true, false, false] (fun s_ => [(121, s_.1), (20, .pointer (some ⟨s_.2, 0, none⟩))]) (fun s_ w' => (w'.cell? ⟨gb339, 0, none⟩ = some (.slice A1_0 l1_0.length c1_0) ∧ w'.cell? ⟨gb339, 1, none⟩ = some (.slice A1_1 l1_1.length c1_1) ∧ w'.cell? ⟨gb340, 0, none⟩ = some (.slice A2_0 l2_0.length c2_0) ∧ w'.cell? ⟨gb340, 1, none⟩ = some (.slice A2_1 l2_1.length c2_1)) ∧ (Kd.R k74 74 w' w.heap.size (fun _ => True) s_.1 t424) ∧ (Kd.R k91 91 w' w.heap.size (fun k_ => some k_ ≠ (.slice Ao75 t384.length co75 : Value).ownBlock) (.slice Ao44 t359.length co44) t359) ∧ (Kd.R (Kd.int .i64) 2 w' w.heap.size (fun k_ => some k_ ≠ (.slice Ao82 t387.length co82 : Value).ownBlock) (.slice Ao46 t362.length co46) t362) ∧ (Kd.R k91 91 w' w.heap.size (fun k_ => some k_ ≠ (.slice Ao44 t359.length co44 : Value).ownBlock) (.slice Ao75 t384.length co75) t421) ∧ (Kd.R (Kd.int .i64) 2 w' w.heap.size (fun k_ => some k_ ≠ (.slice Ao46 t362.length co46 : Value).ownBlock) (.slice Ao82 t387.length co82) t422) ∧ (w'.heap[gb339]? = some (.cells #[.slice A1_0 l1_0.length c1_0, .slice A1_1 l1_1.length c1_1] 40 (0, 0))) ∧ (w'.heap[gb340]? = some (.cells #[.slice A2_0 l2_0.length c2_0, .slice A2_1 l2_1.length c2_1] 40 (0, 0))) ∧ (w'.heap[gb366]? = some (.cells #[.slice Ao44 t359.length co44, .slice Ao46 t362.length co46] 45 (0, 0))) ∧ (w'.heap[gb391]? = some (.cells #[.slice Ao75 t384.length co75, .slice Ao82 t387.length co82] 45 (0, 0))) ∧ (w'.heap[s_.2]? = some (.cells #[.slice none 0 0, .slice none 0 0] 45 (0, 0))) ∧ (w.heap.size ≤ s_.2) ∧ (w.heap.size ≤ s_.2) ∧ (gb339 ≠ s_.2) ∧ (s_.2 ≠ gb339) ∧ (gb340 ≠ s_.2) ∧ (s_.2 ≠ gb340) ∧ (gb366 ≠ s_.2) ∧ (s_.2 ≠ gb366) ∧ (gb391 ≠ s_.2) ∧ (s_.2 ≠ gb391) ∧ (Below w.heap.size w w')) ?_ ?_
             ·
              skip
              clear HO_367000 HO_367001 HO_392000 HO_392001 BK339 BK340 BK366 BK391 HB
              rintro ⟨v425, gb446⟩ w193 ⟨hHeld, h0_, h1_, h2_, h3_, h4_, h5_, h6_, h7_, h8_, h9_, h10_, h11_, h12_, h13_, h14_, h15_, h16_, h17_, h18_, h19_, h20_⟩
              try dsimp only at hHeld h0_ h1_ h2_ h3_ h4_ h5_ h6_ h7_ h8_ h9_ h10_ h11_ h12_ h13_ h14_ h15_ h16_ h17_ h18_ h19_ h20_
              have HO426 := aS h0_; have HO_367000 := aS h1_; have HO_367001 := aS h2_; have HO_392000 := aS h3_; have HO_392001 := aS h4_; have BK339 := aS h5_; have BK340 := aS h6_; have BK366 := aS h7_; have BK391 := aS h8_; have BK446 := aS h9_; have GW446 := aS h10_; have GE446 := aS h11_; have NB339_446 := aS h12_; have NB446_339 := aS h13_; have NB340_446 := aS h14_; have NB446_340 := aS h15_; have NB366_446 := aS h16_; have NB446_366 := aS h17_; have NB391_446 := aS h18_; have NB446_391 := aS h19_; have HB := aS h20_
              clear h0_ h1_ h2_ h3_ h4_ h5_ h6_ h7_ h8_ h9_ h10_ h11_ h12_ h13_ h14_ h15_ h16_ h17_ h18_ h19_ h20_
              refine norm_ (a' := ?_) ?_ ?_
              rotate_left
              ·
               exact sQ
              refine one_ (i := 3) (N := some 123) #[true, true, true, true, true, false, true, false, false, false, false, true, false, false] rfl rfl (one_of HT_.out (by kernel_rfl)) (by decide) (fun K hK => ?_)
              refine goes_ Try.func16 (by kernel_rfl) rfl #[.agg #[.slice A1_0 l1_0.length c1_0, .slice A1_1 l1_1.length c1_1]] (by rfl) rfl rfl sG ?_
              with_reducible refine (laws_toLine.calls kj137 _ _ l1_0 _ _ l1_1 t427 t430 _ ?side1 ?side2 ?side3 ?side4 A186.out).mono ?_
              (case side1 => exact sC (Kd.C_below HR1_0.out HB.out))
              (case side2 => exact HC1_0.out)
              (case side3 => exact sC (Kd.C_below HR1_1.out HB.out))
              (case side4 => exact HC1_1.out)
              rintro e w194 ⟨v428, v431, rfl, ho0, ho1, hb⟩
              refine ⟨_, rfl, ?_⟩
              replace HO426 := aS (Kd.R_below (sR HO426.out) hb); have HO429 := aS (Kd.R_lower (Kd.R_new' (Kd.R_new' ho0 (Kd.R_lt (sR HO_367000.out))) (Kd.R_lt (sR HO_392000.out))) (below_size (sW HB.out))); replace HO_367000 := aS (Kd.R_elder' (sR HO_367000.out) (Kd.R_base ho0) hb); replace HO_392000 := aS (Kd.R_elder' (sR HO_392000.out) (Kd.R_base ho0) hb); have HO432 := aS (Kd.R_lower (Kd.R_new' (Kd.R_new' ho1 (Kd.R_lt (sR HO_367001.out))) (Kd.R_lt (sR HO_392001.out))) (below_size (sW HB.out))); replace HO_367001 := aS (Kd.R_elder' (sR HO_367001.out) (Kd.R_base ho1) hb); replace HO_392001 := aS (Kd.R_elder' (sR HO_392001.out) (Kd.R_base ho1) hb); replace BK339 := aS (blk_below (sB BK339.out) hb); replace BK340 := aS (blk_below (sB BK340.out) hb); replace BK366 := aS (blk_below (sB BK366.out) hb); replace BK391 := aS (blk_below (sB BK391.out) hb); replace BK446 := aS (blk_below (sB BK446.out) hb); replace HB := aS (below_step (sW HB.out) hb)
              (try clear hb); (try clear hb2); (try clear hk); (try clear hi); (try clear ho0); (try clear ho1)
              refine hK.out _ _ ⟨(blk_cell BK339.out 0).trans rfl, (blk_cell BK339.out 1).trans rfl, (blk_cell BK340.out 0).trans rfl, (blk_cell BK340.out 1).trans rfl⟩ (fun hHeld => ?_)
              clear hK K
              refine norm_ (a' := ?_) ?_ ?_
              rotate_left
              ·
               show Act.put _ (some 123) _ = _
               exact sP
              exact norm_ sQ (hJ1_3_11 (v425, v428, v431, gb446) _ ⟨hHeld, (sR HO426.out), (sR (Kd.R_mono HO429.out (fun _ hk => ⟨hk.1.2, hk.2⟩))), (sR (Kd.R_mono HO432.out (fun _ hk => ⟨hk.1.2, hk.2⟩))), (sR (Kd.R_mono HO_367000.out (fun _ hk => ⟨hk.2, hk.1⟩))), (sR (Kd.R_mono HO_367001.out (fun _ hk => ⟨hk.2, hk.1⟩))), (sR (Kd.R_mono HO_392000.out (fun _ hk => ⟨hk.2, hk.1⟩))), (sR (Kd.R_mono HO_392001.out (fun _ hk => ⟨hk.2, hk.1⟩))), (sB BK339.out), (sB BK340.out), (sB BK366.out), (sB BK391.out), (sB BK446.out), GW446.out, GE446.out, NB339_446.out, NB446_339.out, NB340_446.out, NB446_340.out, NB366_446.out, NB446_366.out, NB391_446.out, NB446_391.out, (sW HB.out)⟩)
             intro hJ1_11
             refine join_ (σ := Value) 9 #[true, true, true, false, true, false, true, false, false, false, false, false, false, false] (fun s_ => [(121, s_)]) (fun s_ w' => (w'.cell? ⟨gb339, 0, none⟩ = some (.slice A1_0 l1_0.length c1_0) ∧ w'.cell? ⟨gb339, 1, none⟩ = some (.slice A1_1 l1_1.length c1_1) ∧ w'.cell? ⟨gb340, 0, none⟩ = some (.slice A2_0 l2_0.length c2_0) ∧ w'.cell? ⟨gb340, 1, none⟩ = some (.slice A2_1 l2_1.length c2_1)) ∧ (Kd.R k74 74 w' w.heap.size (fun _ => True) s_ t424) ∧ (Kd.R k91 91 w' w.heap.size (fun k_ => some k_ ≠ (.slice Ao75 t384.length co75 : Value).ownBlock) (.slice Ao44 t359.length co44) t359) ∧ (Kd.R (Kd.int .i64) 2 w' w.heap.size (fun k_ => some k_ ≠ (.slice Ao82 t387.length co82 : Value).ownBlock) (.slice Ao46 t362.length co46) t362) ∧ (Kd.R k91 91 w' w.heap.size (fun k_ => some k_ ≠ (.slice Ao44 t359.length co44 : Value).ownBlock) (.slice Ao75 t384.length co75) t421) ∧ (Kd.R (Kd.int .i64) 2 w' w.heap.size (fun k_ => some k_ ≠ (.slice Ao46 t362.length co46 : Value).ownBlock) (.slice Ao82 t387.length co82) t422) ∧ (w'.heap[gb339]? = some (.cells #[.slice A1_0 l1_0.length c1_0, .slice A1_1 l1_1.length c1_1] 40 (0, 0))) ∧ (w'.heap[gb340]? = some (.cells #[.slice A2_0 l2_0.length c2_0, .slice A2_1 l2_1.length c2_1] 40 (0, 0))) ∧ (w'.heap[gb366]? = some (.cells #[.slice Ao44 t359.length co44, .slice Ao46 t362.length co46] 45 (0, 0))) ∧ (w'.heap[gb391]? = some (.cells #[.slice Ao75 t384.length co75, .slice Ao82 t387.length co82] 45 (0, 0))) ∧ (Below w.heap.size w w')) ?_ ?_
             ·
              skip
              clear HO_367000 HO_367001 HO_392000 HO_392001 BK339 BK340 BK366 BK391 HB
              rintro v425 w192 ⟨hHeld, h0_, h1_, h2_, h3_, h4_, h5_, h6_, h7_, h8_, h9_⟩
              try dsimp only at hHeld h0_ h1_ h2_ h3_ h4_ h5_ h6_ h7_ h8_ h9_
              have HO426 := aS h0_; have HO_367000 := aS h1_; have HO_367001 := aS h2_; have HO_392000 := aS h3_; have HO_392001 := aS h4_; have BK339 := aS h5_; have BK340 := aS h6_; have BK366 := aS h7_; have BK391 := aS h8_; have HB := aS h9_
              clear h0_ h1_ h2_ h3_ h4_ h5_ h6_ h7_ h8_ h9_
              refine norm_ (a' := ?_) ?_ ?_
              rotate_left
              ·
               exact sQ
              refine two_ (i := 3) (j := 11) (Ni := some 123) (Nj := some 20) #[true, true, true, true, true, false, true, false, false, false, false, false, false, false] #[true, true, true, false, true, false, true, false, false, false, false, true, false, false] rfl rfl rfl rfl (two_of HT_.out (by kernel_rfl)) (by decide) (by decide) (fun K hK => ?_) (fun K hK => ?_)
              ·
               skip
               refine goes_ Try.func16 (by kernel_rfl) rfl #[.agg #[.slice A1_0 l1_0.length c1_0, .slice A1_1 l1_1.length c1_1]] (by rfl) rfl rfl sG ?_
               with_reducible refine (laws_toLine.calls kj137 _ _ l1_0 _ _ l1_1 t427 t430 _ ?side1 ?side2 ?side3 ?side4 A186.out).mono ?_
               (case side1 => exact sC (Kd.C_below HR1_0.out HB.out))
               (case side2 => exact HC1_0.out)
               (case side3 => exact sC (Kd.C_below HR1_1.out HB.out))
               (case side4 => exact HC1_1.out)
               rintro e w193 ⟨v428, v431, rfl, ho0, ho1, hb⟩
               refine ⟨_, rfl, ?_⟩
               replace HO426 := aS (Kd.R_below (sR HO426.out) hb); have HO429 := aS (Kd.R_lower (Kd.R_new' (Kd.R_new' ho0 (Kd.R_lt (sR HO_367000.out))) (Kd.R_lt (sR HO_392000.out))) (below_size (sW HB.out))); replace HO_367000 := aS (Kd.R_elder' (sR HO_367000.out) (Kd.R_base ho0) hb); replace HO_392000 := aS (Kd.R_elder' (sR HO_392000.out) (Kd.R_base ho0) hb); have HO432 := aS (Kd.R_lower (Kd.R_new' (Kd.R_new' ho1 (Kd.R_lt (sR HO_367001.out))) (Kd.R_lt (sR HO_392001.out))) (below_size (sW HB.out))); replace HO_367001 := aS (Kd.R_elder' (sR HO_367001.out) (Kd.R_base ho1) hb); replace HO_392001 := aS (Kd.R_elder' (sR HO_392001.out) (Kd.R_base ho1) hb); replace BK339 := aS (blk_below (sB BK339.out) hb); replace BK340 := aS (blk_below (sB BK340.out) hb); replace BK366 := aS (blk_below (sB BK366.out) hb); replace BK391 := aS (blk_below (sB BK391.out) hb); replace HB := aS (below_step (sW HB.out) hb)
               (try clear hb); (try clear hb2); (try clear hk); (try clear hi); (try clear ho0); (try clear ho1)
               refine hK.out _ _ ⟨(blk_cell BK339.out 0).trans rfl, (blk_cell BK339.out 1).trans rfl, (blk_cell BK340.out 0).trans rfl, (blk_cell BK340.out 1).trans rfl⟩ (fun hHeld => ?_)
               clear hK K
               refine norm_ (a' := ?_) ?_ ?_
               rotate_left
               ·
                show Act.put _ (some 123) _ = _
                exact sP
               exact norm_ sQ (hJ1_3 (v425, v428, v431) _ ⟨hHeld, (sR HO426.out), (sR (Kd.R_mono HO429.out (fun _ hk => ⟨hk.1.2, hk.2⟩))), (sR (Kd.R_mono HO432.out (fun _ hk => ⟨hk.1.2, hk.2⟩))), (sR (Kd.R_mono HO_367000.out (fun _ hk => ⟨hk.2, hk.1⟩))), (sR (Kd.R_mono HO_367001.out (fun _ hk => ⟨hk.2, hk.1⟩))), (sR (Kd.R_mono HO_392000.out (fun _ hk => ⟨hk.2, hk.1⟩))), (sR (Kd.R_mono HO_392001.out (fun _ hk => ⟨hk.2, hk.1⟩))), (sB BK339.out), (sB BK340.out), (sB BK366.out), (sB BK391.out), (sW HB.out)⟩)
              skip
              refine box_step ?hg (N := 20) ?hd (cs := #[.slice none 0 0, .slice none 0 0]) (t := 45) ?hr ?_; (case hd => rfl); (case hg => rfl); (case hr => first | (go_simp; done) | (go_simp; rfl))
              intro gb446 hg w193 hbox hb
              replace HO_367000 := aS (Kd.R_below (sR HO_367000.out) hb); replace HO_367001 := aS (Kd.R_below (sR HO_367001.out) hb); replace HO_392000 := aS (Kd.R_below (sR HO_392000.out) hb); replace HO_392001 := aS (Kd.R_below (sR HO_392001.out) hb); replace HO426 := aS (Kd.R_below (sR HO426.out) hb); have BK446 := aS (hbox); have GW446 := aS (gW hg (sW HB.out)); have GE446 := aS (gW hg (sW HB.out)); replace HB := aS (below_step (sW HB.out) hb); have NB339_446 := aS (nL hg (sB BK339.out)); have NB446_339 := aS (nG hg (sB BK339.out)); replace BK339 := aS (blk_below (sB BK339.out) hb); have NB340_446 := aS (nL hg (sB BK340.out)); have NB446_340 := aS (nG hg (sB BK340.out)); replace BK340 := aS (blk_below (sB BK340.out) hb); have NB366_446 := aS (nL hg (sB BK366.out)); have NB446_366 := aS (nG hg (sB BK366.out)); replace BK366 := aS (blk_below (sB BK366.out) hb); have NB391_446 := aS (nL hg (sB BK391.out)); have NB446_391 := aS (nG hg (sB BK391.out)); replace BK391 := aS (blk_below (sB BK391.out) hb)
              clear hb hbox hg
              refine hK.out _ _ ⟨(blk_cell BK339.out 0).trans rfl, (blk_cell BK339.out 1).trans rfl, (blk_cell BK340.out 0).trans rfl, (blk_cell BK340.out 1).trans rfl⟩ (fun hHeld => ?_)
              clear hK K
              refine norm_ (a' := ?_) ?_ ?_
              rotate_left
              ·
               show Act.put _ (some 20) _ = _
               exact sP
              exact norm_ sQ (hJ1_11 (v425, gb446) _ ⟨hHeld, (sR HO426.out), (sR HO_367000.out), (sR HO_367001.out), (sR HO_392000.out), (sR HO_392001.out), (sB BK339.out), (sB BK340.out), (sB BK366.out), (sB BK391.out), (sB BK446.out), GW446.out, GE446.out, NB339_446.out, NB446_339.out, NB340_446.out, NB446_340.out, NB366_446.out, NB446_366.out, NB391_446.out, NB446_391.out, (sW HB.out)⟩)
             intro hJ1
             refine join_ (σ := Nat) 9 #[true, false, true, false, true, false, true, false, false, false, false, true, false, false] (fun s_ => [(20, .pointer (some ⟨s_, 0, none⟩))]) (fun s_ w' => (w'.cell? ⟨gb339, 0, none⟩ = some (.slice A1_0 l1_0.length c1_0) ∧ w'.cell? ⟨gb339, 1, none⟩ = some (.slice A1_1 l1_1.length c1_1) ∧ w'.cell? ⟨gb340, 0, none⟩ = some (.slice A2_0 l2_0.length c2_0) ∧ w'.cell? ⟨gb340, 1, none⟩ = some (.slice A2_1 l2_1.length c2_1)) ∧ (Kd.R k91 91 w' w.heap.size (fun k_ => some k_ ≠ (.slice Ao75 t384.length co75 : Value).ownBlock) (.slice Ao44 t359.length co44) t359) ∧ (Kd.R (Kd.int .i64) 2 w' w.heap.size (fun k_ => some k_ ≠ (.slice Ao82 t387.length co82 : Value).ownBlock) (.slice Ao46 t362.length co46) t362) ∧ (Kd.R k91 91 w' w.heap.size (fun k_ => some k_ ≠ (.slice Ao44 t359.length co44 : Value).ownBlock) (.slice Ao75 t384.length co75) t421) ∧ (Kd.R (Kd.int .i64) 2 w' w.heap.size (fun k_ => some k_ ≠ (.slice Ao46 t362.length co46 : Value).ownBlock) (.slice Ao82 t387.length co82) t422) ∧ (w'.heap[gb339]? = some (.cells #[.slice A1_0 l1_0.length c1_0, .slice A1_1 l1_1.length c1_1] 40 (0, 0))) ∧ (w'.heap[gb340]? = some (.cells #[.slice A2_0 l2_0.length c2_0, .slice A2_1 l2_1.length c2_1] 40 (0, 0))) ∧ (w'.heap[gb366]? = some (.cells #[.slice Ao44 t359.length co44, .slice Ao46 t362.length co46] 45 (0, 0))) ∧ (w'.heap[gb391]? = some (.cells #[.slice Ao75 t384.length co75, .slice Ao82 t387.length co82] 45 (0, 0))) ∧ (w'.heap[s_]? = some (.cells #[.slice none 0 0, .slice none 0 0] 45 (0, 0))) ∧ (w.heap.size ≤ s_) ∧ (w.heap.size ≤ s_) ∧ (gb339 ≠ s_) ∧ (s_ ≠ gb339) ∧ (gb340 ≠ s_) ∧ (s_ ≠ gb340) ∧ (gb366 ≠ s_) ∧ (s_ ≠ gb366) ∧ (gb391 ≠ s_) ∧ (s_ ≠ gb391) ∧ (Below w.heap.size w w')) ?_ ?_
             ·
              skip
              clear HO_367000 HO_367001 HO_392000 HO_392001 BK339 BK340 BK366 BK391 HB
              rintro gb446 w192 ⟨hHeld, h0_, h1_, h2_, h3_, h4_, h5_, h6_, h7_, h8_, h9_, h10_, h11_, h12_, h13_, h14_, h15_, h16_, h17_, h18_, h19_⟩
              try dsimp only at hHeld h0_ h1_ h2_ h3_ h4_ h5_ h6_ h7_ h8_ h9_ h10_ h11_ h12_ h13_ h14_ h15_ h16_ h17_ h18_ h19_
              have HO_367000 := aS h0_; have HO_367001 := aS h1_; have HO_392000 := aS h2_; have HO_392001 := aS h3_; have BK339 := aS h4_; have BK340 := aS h5_; have BK366 := aS h6_; have BK391 := aS h7_; have BK446 := aS h8_; have GW446 := aS h9_; have GE446 := aS h10_; have NB339_446 := aS h11_; have NB446_339 := aS h12_; have NB340_446 := aS h13_; have NB446_340 := aS h14_; have NB366_446 := aS h15_; have NB446_366 := aS h16_; have NB391_446 := aS h17_; have NB446_391 := aS h18_; have HB := aS h19_
              clear h0_ h1_ h2_ h3_ h4_ h5_ h6_ h7_ h8_ h9_ h10_ h11_ h12_ h13_ h14_ h15_ h16_ h17_ h18_ h19_
              refine norm_ (a' := ?_) ?_ ?_
              rotate_left
              ·
               exact sQ
              refine one_ (i := 1) (N := some 121) #[true, true, true, false, true, false, true, false, false, false, false, true, false, false] rfl rfl (one_of HT_.out (by kernel_rfl)) (by decide) (fun K hK => ?_)
              refine goes_ Try.func15 (by kernel_rfl) rfl #[.slice A0 l0.length c0] (by rfl) rfl rfl sG ?_
              with_reducible refine (laws_toJoinS.calls kj137 _ _ l0 t424 _ ?side1 ?side2 A185.out).mono ?_
              (case side1 => exact sC (Kd.C_below HR0.out HB.out))
              (case side2 => exact HC0.out)
              rintro e w193 ⟨v425, rfl, ho0, hb⟩
              refine ⟨_, rfl, ?_⟩
              replace HO_367000 := aS (Kd.R_below (sR HO_367000.out) hb); replace HO_367001 := aS (Kd.R_below (sR HO_367001.out) hb); replace HO_392000 := aS (Kd.R_below (sR HO_392000.out) hb); replace HO_392001 := aS (Kd.R_below (sR HO_392001.out) hb); have HO426 := aS (Kd.R_lower ho0 (below_size (sW HB.out))); replace BK339 := aS (blk_below (sB BK339.out) hb); replace BK340 := aS (blk_below (sB BK340.out) hb); replace BK366 := aS (blk_below (sB BK366.out) hb); replace BK391 := aS (blk_below (sB BK391.out) hb); replace BK446 := aS (blk_below (sB BK446.out) hb); replace HB := aS (below_step (sW HB.out) hb)
              (try clear hb); (try clear hb2); (try clear hk); (try clear hi); (try clear ho0)
              refine hK.out _ _ ⟨(blk_cell BK339.out 0).trans rfl, (blk_cell BK339.out 1).trans rfl, (blk_cell BK340.out 0).trans rfl, (blk_cell BK340.out 1).trans rfl⟩ (fun hHeld => ?_)
              clear hK K
              refine norm_ (a' := ?_) ?_ ?_
              rotate_left
              ·
               show Act.put _ (some 121) _ = _
               exact sP
              exact norm_ sQ (hJ1_11 (v425, gb446) _ ⟨hHeld, (sR HO426.out), (sR HO_367000.out), (sR HO_367001.out), (sR HO_392000.out), (sR HO_392001.out), (sB BK339.out), (sB BK340.out), (sB BK366.out), (sB BK391.out), (sB BK446.out), GW446.out, GE446.out, NB339_446.out, NB446_339.out, NB340_446.out, NB446_340.out, NB366_446.out, NB446_366.out, NB391_446.out, NB446_391.out, (sW HB.out)⟩)
             intro hJ11
             refine two_ (i := 1) (j := 11) (Ni := some 121) (Nj := some 20) #[true, true, true, false, true, false, true, false, false, false, false, false, false, false] #[true, false, true, false, true, false, true, false, false, false, false, true, false, false] rfl rfl rfl rfl (two_of HT_.out (by kernel_rfl)) (by decide) (by decide) (fun K hK => ?_) (fun K hK => ?_)
             ·
              skip
              refine goes_ Try.func15 (by kernel_rfl) rfl #[.slice A0 l0.length c0] (by rfl) rfl rfl sG ?_
              with_reducible refine (laws_toJoinS.calls kj137 _ _ l0 t424 _ ?side1 ?side2 A185.out).mono ?_
              (case side1 => exact sC (Kd.C_below HR0.out HB.out))
              (case side2 => exact HC0.out)
              rintro e w191 ⟨v425, rfl, ho0, hb⟩
              refine ⟨_, rfl, ?_⟩
              replace HO_367000 := aS (Kd.R_below (sR HO_367000.out) hb); replace HO_367001 := aS (Kd.R_below (sR HO_367001.out) hb); replace HO_392000 := aS (Kd.R_below (sR HO_392000.out) hb); replace HO_392001 := aS (Kd.R_below (sR HO_392001.out) hb); have HO426 := aS (Kd.R_lower ho0 (below_size (sW HB.out))); replace BK339 := aS (blk_below (sB BK339.out) hb); replace BK340 := aS (blk_below (sB BK340.out) hb); replace BK366 := aS (blk_below (sB BK366.out) hb); replace BK391 := aS (blk_below (sB BK391.out) hb); replace HB := aS (below_step (sW HB.out) hb)
              (try clear hb); (try clear hb2); (try clear hk); (try clear hi); (try clear ho0)
              refine hK.out _ _ ⟨(blk_cell BK339.out 0).trans rfl, (blk_cell BK339.out 1).trans rfl, (blk_cell BK340.out 0).trans rfl, (blk_cell BK340.out 1).trans rfl⟩ (fun hHeld => ?_)
              clear hK K
              refine norm_ (a' := ?_) ?_ ?_
              rotate_left
              ·
               show Act.put _ (some 121) _ = _
               exact sP
              exact norm_ sQ (hJ1 (v425) _ ⟨hHeld, (sR HO426.out), (sR HO_367000.out), (sR HO_367001.out), (sR HO_392000.out), (sR HO_392001.out), (sB BK339.out), (sB BK340.out), (sB BK366.out), (sB BK391.out), (sW HB.out)⟩)
             skip
             refine box_step ?hg (N := 20) ?hd (cs := #[.slice none 0 0, .slice none 0 0]) (t := 45) ?hr ?_; (case hd => rfl); (case hg => rfl); (case hr => first | (go_simp; done) | (go_simp; rfl))
             intro gb446 hg w191 hbox hb
             replace HO_367000 := aS (Kd.R_below (sR HO_367000.out) hb); replace HO_367001 := aS (Kd.R_below (sR HO_367001.out) hb); replace HO_392000 := aS (Kd.R_below (sR HO_392000.out) hb); replace HO_392001 := aS (Kd.R_below (sR HO_392001.out) hb); have BK446 := aS (hbox); have GW446 := aS (gW hg (sW HB.out)); have GE446 := aS (gW hg (sW HB.out)); replace HB := aS (below_step (sW HB.out) hb); have NB339_446 := aS (nL hg (sB BK339.out)); have NB446_339 := aS (nG hg (sB BK339.out)); replace BK339 := aS (blk_below (sB BK339.out) hb); have NB340_446 := aS (nL hg (sB BK340.out)); have NB446_340 := aS (nG hg (sB BK340.out)); replace BK340 := aS (blk_below (sB BK340.out) hb); have NB366_446 := aS (nL hg (sB BK366.out)); have NB446_366 := aS (nG hg (sB BK366.out)); replace BK366 := aS (blk_below (sB BK366.out) hb); have NB391_446 := aS (nL hg (sB BK391.out)); have NB446_391 := aS (nG hg (sB BK391.out)); replace BK391 := aS (blk_below (sB BK391.out) hb)
             clear hb hbox hg
             refine hK.out _ _ ⟨(blk_cell BK339.out 0).trans rfl, (blk_cell BK339.out 1).trans rfl, (blk_cell BK340.out 0).trans rfl, (blk_cell BK340.out 1).trans rfl⟩ (fun hHeld => ?_)
             clear hK K
             refine norm_ (a' := ?_) ?_ ?_
             rotate_left
             ·
              show Act.put _ (some 20) _ = _
              exact sP
             exact norm_ sQ (hJ11 (gb446) _ ⟨hHeld, (sR HO_367000.out), (sR HO_367001.out), (sR HO_392000.out), (sR HO_392001.out), (sB BK339.out), (sB BK340.out), (sB BK366.out), (sB BK391.out), (sB BK446.out), GW446.out, GE446.out, NB339_446.out, NB446_339.out, NB340_446.out, NB446_340.out, NB366_446.out, NB446_366.out, NB391_446.out, NB446_391.out, (sW HB.out)⟩)
         ·
          replace c116 := Bool.eq_false_iff.mpr c116
          subst c116
          rw [if_neg (show ¬ (false = true) by decide)] at H
          obtain rfl := Option.some.inj H
          go_wp2
          go_ret
          exact ⟨by first | rfl | (simp [errW_none, errW_some, i64_w]; done) | (simp [errW_none, errW_some] <;> rfl) | (simp [*, errW_none, errW_some] <;> rfl), by repeat (first | (with_reducible first | exact HB.out | apply below_alloc | apply pw_below_drewN | apply below_drew1) | exact HB.out)⟩
    intro hJ1_3_5_7_11
    refine join_ (σ := Value × Value × Value × Value × Value × Value × Value) 3 #[true, true, true, true, true, true, true, true, true, true, true, false, false, false] (fun s_ => [(39, s_.1), (41, .agg #[s_.2.1, s_.2.2.1]), (43, .agg #[s_.2.2.2.1, s_.2.2.2.2.1]), (45, .tuple #[.agg #[s_.2.2.2.2.2.1, s_.2.2.2.2.2.2], .int .i64 t365]), (37, .tuple #[.agg #[s_.2.2.2.2.2.1, s_.2.2.2.2.2.2], .int .i64 t365]), (46, .agg #[s_.2.2.2.2.2.1, s_.2.2.2.2.2.2]), (47, .int .i64 t365)]) (fun s_ w' => (w'.cell? ⟨gb339, 0, none⟩ = some (.slice A1_0 l1_0.length c1_0) ∧ w'.cell? ⟨gb339, 1, none⟩ = some (.slice A1_1 l1_1.length c1_1) ∧ w'.cell? ⟨gb340, 0, none⟩ = some (.slice A2_0 l2_0.length c2_0) ∧ w'.cell? ⟨gb340, 1, none⟩ = some (.slice A2_1 l2_1.length c2_1)) ∧ (Kd.R k74 74 w' w.heap.size (fun _ => True) s_.1 t344) ∧ (Kd.R k91 91 w' w.heap.size (fun k_ => some k_ ≠ (s_.2.2.2.1 : Value).ownBlock ∧ some k_ ≠ (s_.2.2.2.2.2.1 : Value).ownBlock) s_.2.1 t347) ∧ (Kd.R (Kd.int .i64) 2 w' w.heap.size (fun k_ => some k_ ≠ (s_.2.2.2.2.1 : Value).ownBlock ∧ some k_ ≠ (s_.2.2.2.2.2.2 : Value).ownBlock) s_.2.2.1 t350) ∧ (Kd.R k91 91 w' w.heap.size (fun k_ => some k_ ≠ (s_.2.1 : Value).ownBlock ∧ some k_ ≠ (s_.2.2.2.2.2.1 : Value).ownBlock) s_.2.2.2.1 t353) ∧ (Kd.R (Kd.int .i64) 2 w' w.heap.size (fun k_ => some k_ ≠ (s_.2.2.1 : Value).ownBlock ∧ some k_ ≠ (s_.2.2.2.2.2.2 : Value).ownBlock) s_.2.2.2.2.1 t356) ∧ (Kd.R k91 91 w' w.heap.size (fun k_ => some k_ ≠ (s_.2.1 : Value).ownBlock ∧ some k_ ≠ (s_.2.2.2.1 : Value).ownBlock) s_.2.2.2.2.2.1 t359) ∧ (Kd.R (Kd.int .i64) 2 w' w.heap.size (fun k_ => some k_ ≠ (s_.2.2.1 : Value).ownBlock ∧ some k_ ≠ (s_.2.2.2.2.1 : Value).ownBlock) s_.2.2.2.2.2.2 t362) ∧ (w'.heap[gb339]? = some (.cells #[.slice A1_0 l1_0.length c1_0, .slice A1_1 l1_1.length c1_1] 40 (0, 0))) ∧ (w'.heap[gb340]? = some (.cells #[.slice A2_0 l2_0.length c2_0, .slice A2_1 l2_1.length c2_1] 40 (0, 0))) ∧ (Below w.heap.size w w')) ?_ ?_
    ·
     skip
     clear BK339 BK340 HB
     rintro ⟨v345, v348, v351, v354, v357, v360, v363⟩ w42 ⟨hHeld, h0_, h1_, h2_, h3_, h4_, h5_, h6_, h7_, h8_, h9_⟩
     try dsimp only at hHeld h0_ h1_ h2_ h3_ h4_ h5_ h6_ h7_ h8_ h9_
     have HO346 := aS h0_; have HO349 := aS h1_; have HO352 := aS h2_; have HO355 := aS h3_; have HO358 := aS h4_; have HO361 := aS h5_; have HO364 := aS h6_; have BK339 := aS h7_; have BK340 := aS h8_; have HB := aS h9_
     clear h0_ h1_ h2_ h3_ h4_ h5_ h6_ h7_ h8_ h9_
     refine norm_ (a' := ?_) ?_ ?_
     rotate_left
     ·
      exact sQ
     refine one_ (i := 11) (N := some 10) #[true, true, true, true, true, true, true, true, true, true, true, true, false, false] rfl rfl (one_of HT_.out (by kernel_rfl)) (by decide) (fun K hK => ?_)
     refine box_step ?hg (N := 10) ?hd (cs := #[.slice none 0 0, .slice none 0 0]) (t := 45) ?hr ?_; (case hd => rfl); (case hg => rfl); (case hr => first | (go_simp; done) | (go_simp; rfl))
     intro gb366 hg w43 hbox hb
     replace HO346 := aS (Kd.R_below (sR HO346.out) hb); replace HO349 := aS (Kd.R_below (sR HO349.out) hb); replace HO352 := aS (Kd.R_below (sR HO352.out) hb); replace HO355 := aS (Kd.R_below (sR HO355.out) hb); replace HO358 := aS (Kd.R_below (sR HO358.out) hb); replace HO361 := aS (Kd.R_below (sR HO361.out) hb); replace HO364 := aS (Kd.R_below (sR HO364.out) hb); have BK366 := aS (hbox); have GW366 := aS (gW hg (sW HB.out)); have GE366 := aS (gW hg (sW HB.out)); replace HB := aS (below_step (sW HB.out) hb); have NB339_366 := aS (nL hg (sB BK339.out)); have NB366_339 := aS (nG hg (sB BK339.out)); replace BK339 := aS (blk_below (sB BK339.out) hb); have NB340_366 := aS (nL hg (sB BK340.out)); have NB366_340 := aS (nG hg (sB BK340.out)); replace BK340 := aS (blk_below (sB BK340.out) hb)
     clear hb hbox hg
     refine hK.out _ _ ⟨(blk_cell BK339.out 0).trans rfl, (blk_cell BK339.out 1).trans rfl, (blk_cell BK340.out 0).trans rfl, (blk_cell BK340.out 1).trans rfl⟩ (fun hHeld => ?_)
     clear hK K
     refine norm_ (a' := ?_) ?_ ?_
     rotate_left
     ·
      show Act.put _ (some 10) _ = _
      exact sP
     exact norm_ sQ (hJ1_3_5_7_11 (v345, v348, v351, v354, v357, v360, v363, gb366) _ ⟨hHeld, (sR HO346.out), (sR HO349.out), (sR HO352.out), (sR HO355.out), (sR HO358.out), (sR HO361.out), (sR HO364.out), (sB BK339.out), (sB BK340.out), (sB BK366.out), GW366.out, GE366.out, NB339_366.out, NB366_339.out, NB340_366.out, NB366_340.out, (sW HB.out)⟩)
    intro hJ1_3_5_7
    refine join_ (σ := Value × Value × Value × Value × Value × Nat) 6 #[true, true, true, true, true, true, true, false, false, false, false, true, false, false] (fun s_ => [(39, s_.1), (41, .agg #[s_.2.1, s_.2.2.1]), (43, .agg #[s_.2.2.2.1, s_.2.2.2.2.1]), (10, .pointer (some ⟨s_.2.2.2.2.2, 0, none⟩))]) (fun s_ w' => (w'.cell? ⟨gb339, 0, none⟩ = some (.slice A1_0 l1_0.length c1_0) ∧ w'.cell? ⟨gb339, 1, none⟩ = some (.slice A1_1 l1_1.length c1_1) ∧ w'.cell? ⟨gb340, 0, none⟩ = some (.slice A2_0 l2_0.length c2_0) ∧ w'.cell? ⟨gb340, 1, none⟩ = some (.slice A2_1 l2_1.length c2_1)) ∧ (Kd.R k74 74 w' w.heap.size (fun _ => True) s_.1 t344) ∧ (Kd.R k91 91 w' w.heap.size (fun k_ => some k_ ≠ (s_.2.2.2.1 : Value).ownBlock) s_.2.1 t347) ∧ (Kd.R (Kd.int .i64) 2 w' w.heap.size (fun k_ => some k_ ≠ (s_.2.2.2.2.1 : Value).ownBlock) s_.2.2.1 t350) ∧ (Kd.R k91 91 w' w.heap.size (fun k_ => some k_ ≠ (s_.2.1 : Value).ownBlock) s_.2.2.2.1 t353) ∧ (Kd.R (Kd.int .i64) 2 w' w.heap.size (fun k_ => some k_ ≠ (s_.2.2.1 : Value).ownBlock) s_.2.2.2.2.1 t356) ∧ (w'.heap[gb339]? = some (.cells #[.slice A1_0 l1_0.length c1_0, .slice A1_1 l1_1.length c1_1] 40 (0, 0))) ∧ (w'.heap[gb340]? = some (.cells #[.slice A2_0 l2_0.length c2_0, .slice A2_1 l2_1.length c2_1] 40 (0, 0))) ∧ (w'.heap[s_.2.2.2.2.2]? = some (.cells #[.slice none 0 0, .slice none 0 0] 45 (0, 0))) ∧ (w.heap.size ≤ s_.2.2.2.2.2) ∧ (w.heap.size ≤ s_.2.2.2.2.2) ∧ (gb339 ≠ s_.2.2.2.2.2) ∧ (s_.2.2.2.2.2 ≠ gb339) ∧ (gb340 ≠ s_.2.2.2.2.2) ∧ (s_.2.2.2.2.2 ≠ gb340) ∧ (Below w.heap.size w w')) ?_ ?_
    ·
     skip
     clear BK339 BK340 HB
     rintro ⟨v345, v348, v351, v354, v357, gb366⟩ w37 ⟨hHeld, h0_, h1_, h2_, h3_, h4_, h5_, h6_, h7_, h8_, h9_, h10_, h11_, h12_, h13_, h14_⟩
     try dsimp only at hHeld h0_ h1_ h2_ h3_ h4_ h5_ h6_ h7_ h8_ h9_ h10_ h11_ h12_ h13_ h14_
     have HO346 := aS h0_; have HO349 := aS h1_; have HO352 := aS h2_; have HO355 := aS h3_; have HO358 := aS h4_; have BK339 := aS h5_; have BK340 := aS h6_; have BK366 := aS h7_; have GW366 := aS h8_; have GE366 := aS h9_; have NB339_366 := aS h10_; have NB366_339 := aS h11_; have NB340_366 := aS h12_; have NB366_340 := aS h13_; have HB := aS h14_
     clear h0_ h1_ h2_ h3_ h4_ h5_ h6_ h7_ h8_ h9_ h10_ h11_ h12_ h13_ h14_
     obtain ⟨Ao38, co38, eo38⟩ := Kd.R_slice HO346.out
     (first | subst eo38 | (injection eo38 with f1_ f2_ f3_; have f4_ := f1_.symm; have f5_ := f3_.symm; clear f1_ f2_ f3_; subst f4_; subst f5_))
     obtain ⟨Ao39, co39, eo39⟩ := Kd.R_slice HO349.out
     (first | subst eo39 | (injection eo39 with f1_ f2_ f3_; have f4_ := f1_.symm; have f5_ := f3_.symm; clear f1_ f2_ f3_; subst f4_; subst f5_))
     obtain ⟨Ao40, co40, eo40⟩ := Kd.R_slice HO352.out
     (first | subst eo40 | (injection eo40 with f1_ f2_ f3_; have f4_ := f1_.symm; have f5_ := f3_.symm; clear f1_ f2_ f3_; subst f4_; subst f5_))
     obtain ⟨Ao41, co41, eo41⟩ := Kd.R_slice HO355.out
     (first | subst eo41 | (injection eo41 with f1_ f2_ f3_; have f4_ := f1_.symm; have f5_ := f3_.symm; clear f1_ f2_ f3_; subst f4_; subst f5_))
     obtain ⟨Ao42, co42, eo42⟩ := Kd.R_slice HO358.out
     (first | subst eo42 | (injection eo42 with f1_ f2_ f3_; have f4_ := f1_.symm; have f5_ := f3_.symm; clear f1_ f2_ f3_; subst f4_; subst f5_))
     refine norm_ (a' := ?_) ?_ ?_
     rotate_left
     ·
      exact sQ
     refine one_ (i := 7) (N := some 45) #[true, true, true, true, true, true, true, true, false, false, false, true, false, false] rfl rfl (one_of HT_.out (by kernel_rfl)) (by decide) (fun K hK => ?_)
     refine goes_ Try.func14 (by kernel_rfl) rfl #[.slice Ao38 t344.length co38, .agg #[.slice Ao39 t347.length co39, .slice Ao40 t350.length co40], .agg #[.slice Ao41 t353.length co41, .slice Ao42 t356.length co42], .int .i64 a3] (by rfl) rfl rfl sG ?_
     with_reducible refine (spec_JoinLines.calls k _ _ t344 _ _ t347 _ _ t350 _ _ t353 _ _ t356 a3 t359 t362 t365 _ ?side1 ?side2 ?side3 ?side4 ?side5 ?side6 ?side7 ?side8 ?side9 ?side10 A26.out).mono ?_
     (case side1 => exact sC (Kd.R_reads' HO346.out).2.2)
     (case side2 => exact (Kd.R_reads' HO346.out).2.1)
     (case side3 => exact sC (Kd.R_reads' HO349.out).2.2)
     (case side4 => exact (Kd.R_reads' HO349.out).2.1)
     (case side5 => exact sC (Kd.R_reads' HO352.out).2.2)
     (case side6 => exact (Kd.R_reads' HO352.out).2.1)
     (case side7 => exact sC (Kd.R_reads' HO355.out).2.2)
     (case side8 => exact (Kd.R_reads' HO355.out).2.1)
     (case side9 => exact sC (Kd.R_reads' HO358.out).2.2)
     (case side10 => exact (Kd.R_reads' HO358.out).2.1)
     rintro e w43 ⟨v360, v363, rfl, ho0, ho1, hb⟩
     refine ⟨_, rfl, ?_⟩
     replace HO346 := aS (Kd.R_below (sR HO346.out) hb); have HO361 := aS (Kd.R_lower (Kd.R_new' (Kd.R_new' ho0 (Kd.R_lt (sR HO349.out))) (Kd.R_lt (sR HO355.out))) (below_size (sW HB.out))); replace HO349 := aS (Kd.R_elder' (sR HO349.out) (Kd.R_base ho0) hb); replace HO355 := aS (Kd.R_elder' (sR HO355.out) (Kd.R_base ho0) hb); have HO364 := aS (Kd.R_lower (Kd.R_new' (Kd.R_new' ho1 (Kd.R_lt (sR HO352.out))) (Kd.R_lt (sR HO358.out))) (below_size (sW HB.out))); replace HO352 := aS (Kd.R_elder' (sR HO352.out) (Kd.R_base ho1) hb); replace HO358 := aS (Kd.R_elder' (sR HO358.out) (Kd.R_base ho1) hb); replace BK339 := aS (blk_below (sB BK339.out) hb); replace BK340 := aS (blk_below (sB BK340.out) hb); replace BK366 := aS (blk_below (sB BK366.out) hb); replace HB := aS (below_step (sW HB.out) hb)
     (try clear hb); (try clear hb2); (try clear hk); (try clear hi); (try clear ho0); (try clear ho1)
     refine hK.out _ _ ⟨(blk_cell BK339.out 0).trans rfl, (blk_cell BK339.out 1).trans rfl, (blk_cell BK340.out 0).trans rfl, (blk_cell BK340.out 1).trans rfl⟩ (fun hHeld => ?_)
     clear hK K
     refine norm_ (a' := ?_) ?_ ?_
     rotate_left
     ·
      show Act.put _ (some 45) _ = _
      exact sP
     refine pure_ (i := 8) (N := some 37) (v := ?_) (a' := ?_) (laws_FnExactJoinLines.bF 14 2559) rfl rfl (any_of HT_.out (by kernel_rfl)) (fun _ _ _ h => h) (Or.inl ⟨by rfl, ?_⟩) ?_ ?_
     rotate_left
     ·
      intro w'
      go_simp
      with_reducible rfl
     rotate_left
     ·
      exact sP
     refine pure_ (i := 9) (N := some 46) (v := ?_) (a' := ?_) (laws_FnExactJoinLines.bF 14 3071) rfl rfl (any_of HT_.out (by kernel_rfl)) (fun _ _ _ h => h) (Or.inl ⟨by rfl, ?_⟩) ?_ ?_
     rotate_left
     ·
      intro w'
      go_simp
      with_reducible rfl
     rotate_left
     ·
      exact sP
     refine pure_ (i := 10) (N := some 47) (v := ?_) (a' := ?_) (laws_FnExactJoinLines.bF 14 4095) rfl rfl (any_of HT_.out (by kernel_rfl)) (fun _ _ _ h => h) (Or.inl ⟨by rfl, ?_⟩) ?_ ?_
     rotate_left
     ·
      intro w'
      go_simp
      with_reducible rfl
     rotate_left
     ·
      exact sP
     exact norm_ sQ (hJ1_3_5_7_11 (.slice Ao38 t344.length co38, .slice Ao39 t347.length co39, .slice Ao40 t350.length co40, .slice Ao41 t353.length co41, .slice Ao42 t356.length co42, v360, v363, gb366) _ ⟨hHeld, (sR HO346.out), (sR HO349.out), (sR HO352.out), (sR HO355.out), (sR HO358.out), (sR (Kd.R_mono HO361.out (fun _ hk => ⟨hk.1.2, hk.2⟩))), (sR (Kd.R_mono HO364.out (fun _ hk => ⟨hk.1.2, hk.2⟩))), (sB BK339.out), (sB BK340.out), (sB BK366.out), GW366.out, GE366.out, NB339_366.out, NB366_339.out, NB340_366.out, NB366_340.out, (sW HB.out)⟩)
    intro hJ1_3_5_11
    refine join_ (σ := Value × Value × Value × Value × Value) 7 #[true, true, true, true, true, true, true, false, false, false, false, false, false, false] (fun s_ => [(39, s_.1), (41, .agg #[s_.2.1, s_.2.2.1]), (43, .agg #[s_.2.2.2.1, s_.2.2.2.2])]) (fun s_ w' => (w'.cell? ⟨gb339, 0, none⟩ = some (.slice A1_0 l1_0.length c1_0) ∧ w'.cell? ⟨gb339, 1, none⟩ = some (.slice A1_1 l1_1.length c1_1) ∧ w'.cell? ⟨gb340, 0, none⟩ = some (.slice A2_0 l2_0.length c2_0) ∧ w'.cell? ⟨gb340, 1, none⟩ = some (.slice A2_1 l2_1.length c2_1)) ∧ (Kd.R k74 74 w' w.heap.size (fun _ => True) s_.1 t344) ∧ (Kd.R k91 91 w' w.heap.size (fun k_ => some k_ ≠ (s_.2.2.2.1 : Value).ownBlock) s_.2.1 t347) ∧ (Kd.R (Kd.int .i64) 2 w' w.heap.size (fun k_ => some k_ ≠ (s_.2.2.2.2 : Value).ownBlock) s_.2.2.1 t350) ∧ (Kd.R k91 91 w' w.heap.size (fun k_ => some k_ ≠ (s_.2.1 : Value).ownBlock) s_.2.2.2.1 t353) ∧ (Kd.R (Kd.int .i64) 2 w' w.heap.size (fun k_ => some k_ ≠ (s_.2.2.1 : Value).ownBlock) s_.2.2.2.2 t356) ∧ (w'.heap[gb339]? = some (.cells #[.slice A1_0 l1_0.length c1_0, .slice A1_1 l1_1.length c1_1] 40 (0, 0))) ∧ (w'.heap[gb340]? = some (.cells #[.slice A2_0 l2_0.length c2_0, .slice A2_1 l2_1.length c2_1] 40 (0, 0))) ∧ (Below w.heap.size w w')) ?_ ?_
    ·
     skip
     clear BK339 BK340 HB
     rintro ⟨v345, v348, v351, v354, v357⟩ w36 ⟨hHeld, h0_, h1_, h2_, h3_, h4_, h5_, h6_, h7_⟩
     try dsimp only at hHeld h0_ h1_ h2_ h3_ h4_ h5_ h6_ h7_
     have HO346 := aS h0_; have HO349 := aS h1_; have HO352 := aS h2_; have HO355 := aS h3_; have HO358 := aS h4_; have BK339 := aS h5_; have BK340 := aS h6_; have HB := aS h7_
     clear h0_ h1_ h2_ h3_ h4_ h5_ h6_ h7_
     obtain ⟨Ao37, co37, eo37⟩ := Kd.R_slice HO346.out
     (first | subst eo37 | (injection eo37 with f1_ f2_ f3_; have f4_ := f1_.symm; have f5_ := f3_.symm; clear f1_ f2_ f3_; subst f4_; subst f5_))
     obtain ⟨Ao38, co38, eo38⟩ := Kd.R_slice HO349.out
     (first | subst eo38 | (injection eo38 with f1_ f2_ f3_; have f4_ := f1_.symm; have f5_ := f3_.symm; clear f1_ f2_ f3_; subst f4_; subst f5_))
     obtain ⟨Ao39, co39, eo39⟩ := Kd.R_slice HO352.out
     (first | subst eo39 | (injection eo39 with f1_ f2_ f3_; have f4_ := f1_.symm; have f5_ := f3_.symm; clear f1_ f2_ f3_; subst f4_; subst f5_))
     obtain ⟨Ao40, co40, eo40⟩ := Kd.R_slice HO355.out
     (first | subst eo40 | (injection eo40 with f1_ f2_ f3_; have f4_ := f1_.symm; have f5_ := f3_.symm; clear f1_ f2_ f3_; subst f4_; subst f5_))
     obtain ⟨Ao41, co41, eo41⟩ := Kd.R_slice HO358.out
     (first | subst eo41 | (injection eo41 with f1_ f2_ f3_; have f4_ := f1_.symm; have f5_ := f3_.symm; clear f1_ f2_ f3_; subst f4_; subst f5_))
     refine norm_ (a' := ?_) ?_ ?_
     rotate_left
     ·
      exact sQ
     refine two_ (i := 7) (j := 11) (Ni := some 45) (Nj := some 10) #[true, true, true, true, true, true, true, true, false, false, false, false, false, false] #[true, true, true, true, true, true, true, false, false, false, false, true, false, false] rfl rfl rfl rfl (two_of HT_.out (by kernel_rfl)) (by decide) (by decide) (fun K hK => ?_) (fun K hK => ?_)
     ·
      skip
      refine goes_ Try.func14 (by kernel_rfl) rfl #[.slice Ao37 t344.length co37, .agg #[.slice Ao38 t347.length co38, .slice Ao39 t350.length co39], .agg #[.slice Ao40 t353.length co40, .slice Ao41 t356.length co41], .int .i64 a3] (by rfl) rfl rfl sG ?_
      with_reducible refine (spec_JoinLines.calls k _ _ t344 _ _ t347 _ _ t350 _ _ t353 _ _ t356 a3 t359 t362 t365 _ ?side1 ?side2 ?side3 ?side4 ?side5 ?side6 ?side7 ?side8 ?side9 ?side10 A26.out).mono ?_
      (case side1 => exact sC (Kd.R_reads' HO346.out).2.2)
      (case side2 => exact (Kd.R_reads' HO346.out).2.1)
      (case side3 => exact sC (Kd.R_reads' HO349.out).2.2)
      (case side4 => exact (Kd.R_reads' HO349.out).2.1)
      (case side5 => exact sC (Kd.R_reads' HO352.out).2.2)
      (case side6 => exact (Kd.R_reads' HO352.out).2.1)
      (case side7 => exact sC (Kd.R_reads' HO355.out).2.2)
      (case side8 => exact (Kd.R_reads' HO355.out).2.1)
      (case side9 => exact sC (Kd.R_reads' HO358.out).2.2)
      (case side10 => exact (Kd.R_reads' HO358.out).2.1)
      rintro e w42 ⟨v360, v363, rfl, ho0, ho1, hb⟩
      refine ⟨_, rfl, ?_⟩
      replace HO346 := aS (Kd.R_below (sR HO346.out) hb); have HO361 := aS (Kd.R_lower (Kd.R_new' (Kd.R_new' ho0 (Kd.R_lt (sR HO349.out))) (Kd.R_lt (sR HO355.out))) (below_size (sW HB.out))); replace HO349 := aS (Kd.R_elder' (sR HO349.out) (Kd.R_base ho0) hb); replace HO355 := aS (Kd.R_elder' (sR HO355.out) (Kd.R_base ho0) hb); have HO364 := aS (Kd.R_lower (Kd.R_new' (Kd.R_new' ho1 (Kd.R_lt (sR HO352.out))) (Kd.R_lt (sR HO358.out))) (below_size (sW HB.out))); replace HO352 := aS (Kd.R_elder' (sR HO352.out) (Kd.R_base ho1) hb); replace HO358 := aS (Kd.R_elder' (sR HO358.out) (Kd.R_base ho1) hb); replace BK339 := aS (blk_below (sB BK339.out) hb); replace BK340 := aS (blk_below (sB BK340.out) hb); replace HB := aS (below_step (sW HB.out) hb)
      (try clear hb); (try clear hb2); (try clear hk); (try clear hi); (try clear ho0); (try clear ho1)
      refine hK.out _ _ ⟨(blk_cell BK339.out 0).trans rfl, (blk_cell BK339.out 1).trans rfl, (blk_cell BK340.out 0).trans rfl, (blk_cell BK340.out 1).trans rfl⟩ (fun hHeld => ?_)
      clear hK K
      refine norm_ (a' := ?_) ?_ ?_
      rotate_left
      ·
       show Act.put _ (some 45) _ = _
       exact sP
      refine pure_ (i := 8) (N := some 37) (v := ?_) (a' := ?_) (laws_FnExactJoinLines.bF 14 511) rfl rfl (any_of HT_.out (by kernel_rfl)) (fun _ _ _ h => h) (Or.inl ⟨by rfl, ?_⟩) ?_ ?_
      rotate_left
      ·
       intro w'
       go_simp
       with_reducible rfl
      rotate_left
      ·
       exact sP
      refine pure_ (i := 9) (N := some 46) (v := ?_) (a' := ?_) (laws_FnExactJoinLines.bF 14 1023) rfl rfl (any_of HT_.out (by kernel_rfl)) (fun _ _ _ h => h) (Or.inl ⟨by rfl, ?_⟩) ?_ ?_
      rotate_left
      ·
       intro w'
       go_simp
       with_reducible rfl
      rotate_left
      ·
       exact sP
      refine pure_ (i := 10) (N := some 47) (v := ?_) (a' := ?_) (laws_FnExactJoinLines.bF 14 2047) rfl rfl (any_of HT_.out (by kernel_rfl)) (fun _ _ _ h => h) (Or.inl ⟨by rfl, ?_⟩) ?_ ?_
      rotate_left
      ·
       intro w'
       go_simp
       with_reducible rfl
      rotate_left
      ·
       exact sP
      exact norm_ sQ (hJ1_3_5_7 (.slice Ao37 t344.length co37, .slice Ao38 t347.length co38, .slice Ao39 t350.length co39, .slice Ao40 t353.length co40, .slice Ao41 t356.length co41, v360, v363) _ ⟨hHeld, (sR HO346.out), (sR HO349.out), (sR HO352.out), (sR HO355.out), (sR HO358.out), (sR (Kd.R_mono HO361.out (fun _ hk => ⟨hk.1.2, hk.2⟩))), (sR (Kd.R_mono HO364.out (fun _ hk => ⟨hk.1.2, hk.2⟩))), (sB BK339.out), (sB BK340.out), (sW HB.out)⟩)
     skip
     refine box_step ?hg (N := 10) ?hd (cs := #[.slice none 0 0, .slice none 0 0]) (t := 45) ?hr ?_; (case hd => rfl); (case hg => rfl); (case hr => first | (go_simp; done) | (go_simp; rfl))
     intro gb366 hg w37 hbox hb
     replace HO346 := aS (Kd.R_below (sR HO346.out) hb); replace HO349 := aS (Kd.R_below (sR HO349.out) hb); replace HO352 := aS (Kd.R_below (sR HO352.out) hb); replace HO355 := aS (Kd.R_below (sR HO355.out) hb); replace HO358 := aS (Kd.R_below (sR HO358.out) hb); have BK366 := aS (hbox); have GW366 := aS (gW hg (sW HB.out)); have GE366 := aS (gW hg (sW HB.out)); replace HB := aS (below_step (sW HB.out) hb); have NB339_366 := aS (nL hg (sB BK339.out)); have NB366_339 := aS (nG hg (sB BK339.out)); replace BK339 := aS (blk_below (sB BK339.out) hb); have NB340_366 := aS (nL hg (sB BK340.out)); have NB366_340 := aS (nG hg (sB BK340.out)); replace BK340 := aS (blk_below (sB BK340.out) hb)
     clear hb hbox hg
     refine hK.out _ _ ⟨(blk_cell BK339.out 0).trans rfl, (blk_cell BK339.out 1).trans rfl, (blk_cell BK340.out 0).trans rfl, (blk_cell BK340.out 1).trans rfl⟩ (fun hHeld => ?_)
     clear hK K
     refine norm_ (a' := ?_) ?_ ?_
     rotate_left
     ·
      show Act.put _ (some 10) _ = _
      exact sP
     exact norm_ sQ (hJ1_3_5_11 (_, _, _, _, _, gb366) _ ⟨hHeld, (sR HO346.out), (sR HO349.out), (sR HO352.out), (sR HO355.out), (sR HO358.out), (sB BK339.out), (sB BK340.out), (sB BK366.out), GW366.out, GE366.out, NB339_366.out, NB366_339.out, NB340_366.out, NB366_340.out, (sW HB.out)⟩)
    intro hJ1_3_5
    refine join_ (σ := Value × Value × Value × Nat) 7 #[true, true, true, true, true, false, true, false, false, false, false, true, false, false] (fun s_ => [(39, s_.1), (41, .agg #[s_.2.1, s_.2.2.1]), (10, .pointer (some ⟨s_.2.2.2, 0, none⟩))]) (fun s_ w' => (w'.cell? ⟨gb339, 0, none⟩ = some (.slice A1_0 l1_0.length c1_0) ∧ w'.cell? ⟨gb339, 1, none⟩ = some (.slice A1_1 l1_1.length c1_1) ∧ w'.cell? ⟨gb340, 0, none⟩ = some (.slice A2_0 l2_0.length c2_0) ∧ w'.cell? ⟨gb340, 1, none⟩ = some (.slice A2_1 l2_1.length c2_1)) ∧ (Kd.R k74 74 w' w.heap.size (fun _ => True) s_.1 t344) ∧ (Kd.R k91 91 w' w.heap.size (fun _ => True) s_.2.1 t347) ∧ (Kd.R (Kd.int .i64) 2 w' w.heap.size (fun _ => True) s_.2.2.1 t350) ∧ (w'.heap[gb339]? = some (.cells #[.slice A1_0 l1_0.length c1_0, .slice A1_1 l1_1.length c1_1] 40 (0, 0))) ∧ (w'.heap[gb340]? = some (.cells #[.slice A2_0 l2_0.length c2_0, .slice A2_1 l2_1.length c2_1] 40 (0, 0))) ∧ (w'.heap[s_.2.2.2]? = some (.cells #[.slice none 0 0, .slice none 0 0] 45 (0, 0))) ∧ (w.heap.size ≤ s_.2.2.2) ∧ (w.heap.size ≤ s_.2.2.2) ∧ (gb339 ≠ s_.2.2.2) ∧ (s_.2.2.2 ≠ gb339) ∧ (gb340 ≠ s_.2.2.2) ∧ (s_.2.2.2 ≠ gb340) ∧ (Below w.heap.size w w')) ?_ ?_
    ·
     skip
     clear BK339 BK340 HB
     rintro ⟨v345, v348, v351, gb366⟩ w36 ⟨hHeld, h0_, h1_, h2_, h3_, h4_, h5_, h6_, h7_, h8_, h9_, h10_, h11_, h12_⟩
     try dsimp only at hHeld h0_ h1_ h2_ h3_ h4_ h5_ h6_ h7_ h8_ h9_ h10_ h11_ h12_
     have HO346 := aS h0_; have HO349 := aS h1_; have HO352 := aS h2_; have BK339 := aS h3_; have BK340 := aS h4_; have BK366 := aS h5_; have GW366 := aS h6_; have GE366 := aS h7_; have NB339_366 := aS h8_; have NB366_339 := aS h9_; have NB340_366 := aS h10_; have NB366_340 := aS h11_; have HB := aS h12_
     clear h0_ h1_ h2_ h3_ h4_ h5_ h6_ h7_ h8_ h9_ h10_ h11_ h12_
     refine norm_ (a' := ?_) ?_ ?_
     rotate_left
     ·
      exact sQ
     refine one_ (i := 5) (N := some 43) #[true, true, true, true, true, true, true, false, false, false, false, true, false, false] rfl rfl (one_of HT_.out (by kernel_rfl)) (by decide) (fun K hK => ?_)
     refine goes_ Try.func16 (by kernel_rfl) rfl #[.agg #[.slice A2_0 l2_0.length c2_0, .slice A2_1 l2_1.length c2_1]] (by rfl) rfl rfl sG ?_
     with_reducible refine (laws_toLine.calls k _ _ l2_0 _ _ l2_1 t353 t356 _ ?side1 ?side2 ?side3 ?side4 A25.out).mono ?_
     (case side1 => exact sC (Kd.C_below HR2_0.out HB.out))
     (case side2 => exact HC2_0.out)
     (case side3 => exact sC (Kd.C_below HR2_1.out HB.out))
     (case side4 => exact HC2_1.out)
     rintro e w37 ⟨v354, v357, rfl, ho0, ho1, hb⟩
     refine ⟨_, rfl, ?_⟩
     replace HO346 := aS (Kd.R_below (sR HO346.out) hb); have HO355 := aS (Kd.R_lower (Kd.R_new' ho0 (Kd.R_lt (sR HO349.out))) (below_size (sW HB.out))); replace HO349 := aS (Kd.R_elder' (sR HO349.out) (Kd.R_base ho0) hb); have HO358 := aS (Kd.R_lower (Kd.R_new' ho1 (Kd.R_lt (sR HO352.out))) (below_size (sW HB.out))); replace HO352 := aS (Kd.R_elder' (sR HO352.out) (Kd.R_base ho1) hb); replace BK339 := aS (blk_below (sB BK339.out) hb); replace BK340 := aS (blk_below (sB BK340.out) hb); replace BK366 := aS (blk_below (sB BK366.out) hb); replace HB := aS (below_step (sW HB.out) hb)
     (try clear hb); (try clear hb2); (try clear hk); (try clear hi); (try clear ho0); (try clear ho1)
     refine hK.out _ _ ⟨(blk_cell BK339.out 0).trans rfl, (blk_cell BK339.out 1).trans rfl, (blk_cell BK340.out 0).trans rfl, (blk_cell BK340.out 1).trans rfl⟩ (fun hHeld => ?_)
     clear hK K
     refine norm_ (a' := ?_) ?_ ?_
     rotate_left
     ·
      show Act.put _ (some 43) _ = _
      exact sP
     exact norm_ sQ (hJ1_3_5_11 (v345, v348, v351, v354, v357, gb366) _ ⟨hHeld, (sR HO346.out), (sR (Kd.R_mono HO349.out (fun _ hk => hk.2))), (sR (Kd.R_mono HO352.out (fun _ hk => hk.2))), (sR (Kd.R_mono HO355.out (fun _ hk => hk.2))), (sR (Kd.R_mono HO358.out (fun _ hk => hk.2))), (sB BK339.out), (sB BK340.out), (sB BK366.out), GW366.out, GE366.out, NB339_366.out, NB366_339.out, NB340_366.out, NB366_340.out, (sW HB.out)⟩)
    intro hJ1_3_11
    refine join_ (σ := Value × Value × Value) 8 #[true, true, true, true, true, false, true, false, false, false, false, false, false, false] (fun s_ => [(39, s_.1), (41, .agg #[s_.2.1, s_.2.2])]) (fun s_ w' => (w'.cell? ⟨gb339, 0, none⟩ = some (.slice A1_0 l1_0.length c1_0) ∧ w'.cell? ⟨gb339, 1, none⟩ = some (.slice A1_1 l1_1.length c1_1) ∧ w'.cell? ⟨gb340, 0, none⟩ = some (.slice A2_0 l2_0.length c2_0) ∧ w'.cell? ⟨gb340, 1, none⟩ = some (.slice A2_1 l2_1.length c2_1)) ∧ (Kd.R k74 74 w' w.heap.size (fun _ => True) s_.1 t344) ∧ (Kd.R k91 91 w' w.heap.size (fun _ => True) s_.2.1 t347) ∧ (Kd.R (Kd.int .i64) 2 w' w.heap.size (fun _ => True) s_.2.2 t350) ∧ (w'.heap[gb339]? = some (.cells #[.slice A1_0 l1_0.length c1_0, .slice A1_1 l1_1.length c1_1] 40 (0, 0))) ∧ (w'.heap[gb340]? = some (.cells #[.slice A2_0 l2_0.length c2_0, .slice A2_1 l2_1.length c2_1] 40 (0, 0))) ∧ (Below w.heap.size w w')) ?_ ?_
    ·
     skip
     clear BK339 BK340 HB
     rintro ⟨v345, v348, v351⟩ w35 ⟨hHeld, h0_, h1_, h2_, h3_, h4_, h5_⟩
     try dsimp only at hHeld h0_ h1_ h2_ h3_ h4_ h5_
     have HO346 := aS h0_; have HO349 := aS h1_; have HO352 := aS h2_; have BK339 := aS h3_; have BK340 := aS h4_; have HB := aS h5_
     clear h0_ h1_ h2_ h3_ h4_ h5_
     refine norm_ (a' := ?_) ?_ ?_
     rotate_left
     ·
      exact sQ
     refine two_ (i := 5) (j := 11) (Ni := some 43) (Nj := some 10) #[true, true, true, true, true, true, true, false, false, false, false, false, false, false] #[true, true, true, true, true, false, true, false, false, false, false, true, false, false] rfl rfl rfl rfl (two_of HT_.out (by kernel_rfl)) (by decide) (by decide) (fun K hK => ?_) (fun K hK => ?_)
     ·
      skip
      refine goes_ Try.func16 (by kernel_rfl) rfl #[.agg #[.slice A2_0 l2_0.length c2_0, .slice A2_1 l2_1.length c2_1]] (by rfl) rfl rfl sG ?_
      with_reducible refine (laws_toLine.calls k _ _ l2_0 _ _ l2_1 t353 t356 _ ?side1 ?side2 ?side3 ?side4 A25.out).mono ?_
      (case side1 => exact sC (Kd.C_below HR2_0.out HB.out))
      (case side2 => exact HC2_0.out)
      (case side3 => exact sC (Kd.C_below HR2_1.out HB.out))
      (case side4 => exact HC2_1.out)
      rintro e w36 ⟨v354, v357, rfl, ho0, ho1, hb⟩
      refine ⟨_, rfl, ?_⟩
      replace HO346 := aS (Kd.R_below (sR HO346.out) hb); have HO355 := aS (Kd.R_lower (Kd.R_new' ho0 (Kd.R_lt (sR HO349.out))) (below_size (sW HB.out))); replace HO349 := aS (Kd.R_elder' (sR HO349.out) (Kd.R_base ho0) hb); have HO358 := aS (Kd.R_lower (Kd.R_new' ho1 (Kd.R_lt (sR HO352.out))) (below_size (sW HB.out))); replace HO352 := aS (Kd.R_elder' (sR HO352.out) (Kd.R_base ho1) hb); replace BK339 := aS (blk_below (sB BK339.out) hb); replace BK340 := aS (blk_below (sB BK340.out) hb); replace HB := aS (below_step (sW HB.out) hb)
      (try clear hb); (try clear hb2); (try clear hk); (try clear hi); (try clear ho0); (try clear ho1)
      refine hK.out _ _ ⟨(blk_cell BK339.out 0).trans rfl, (blk_cell BK339.out 1).trans rfl, (blk_cell BK340.out 0).trans rfl, (blk_cell BK340.out 1).trans rfl⟩ (fun hHeld => ?_)
      clear hK K
      refine norm_ (a' := ?_) ?_ ?_
      rotate_left
      ·
       show Act.put _ (some 43) _ = _
       exact sP
      exact norm_ sQ (hJ1_3_5 (v345, v348, v351, v354, v357) _ ⟨hHeld, (sR HO346.out), (sR (Kd.R_mono HO349.out (fun _ hk => hk.2))), (sR (Kd.R_mono HO352.out (fun _ hk => hk.2))), (sR (Kd.R_mono HO355.out (fun _ hk => hk.2))), (sR (Kd.R_mono HO358.out (fun _ hk => hk.2))), (sB BK339.out), (sB BK340.out), (sW HB.out)⟩)
     skip
     refine box_step ?hg (N := 10) ?hd (cs := #[.slice none 0 0, .slice none 0 0]) (t := 45) ?hr ?_; (case hd => rfl); (case hg => rfl); (case hr => first | (go_simp; done) | (go_simp; rfl))
     intro gb366 hg w36 hbox hb
     replace HO346 := aS (Kd.R_below (sR HO346.out) hb); replace HO349 := aS (Kd.R_below (sR HO349.out) hb); replace HO352 := aS (Kd.R_below (sR HO352.out) hb); have BK366 := aS (hbox); have GW366 := aS (gW hg (sW HB.out)); have GE366 := aS (gW hg (sW HB.out)); replace HB := aS (below_step (sW HB.out) hb); have NB339_366 := aS (nL hg (sB BK339.out)); have NB366_339 := aS (nG hg (sB BK339.out)); replace BK339 := aS (blk_below (sB BK339.out) hb); have NB340_366 := aS (nL hg (sB BK340.out)); have NB366_340 := aS (nG hg (sB BK340.out)); replace BK340 := aS (blk_below (sB BK340.out) hb)
     clear hb hbox hg
     refine hK.out _ _ ⟨(blk_cell BK339.out 0).trans rfl, (blk_cell BK339.out 1).trans rfl, (blk_cell BK340.out 0).trans rfl, (blk_cell BK340.out 1).trans rfl⟩ (fun hHeld => ?_)
     clear hK K
     refine norm_ (a' := ?_) ?_ ?_
     rotate_left
     ·
      show Act.put _ (some 10) _ = _
      exact sP
     exact norm_ sQ (hJ1_3_11 (v345, v348, v351, gb366) _ ⟨hHeld, (sR HO346.out), (sR HO349.out), (sR HO352.out), (sB BK339.out), (sB BK340.out), (sB BK366.out), GW366.out, GE366.out, NB339_366.out, NB366_339.out, NB340_366.out, NB366_340.out, (sW HB.out)⟩)
    intro hJ1_3
    refine join_ (σ := Value × Nat) 8 #[true, true, true, false, true, false, true, false, false, false, false, true, false, false] (fun s_ => [(39, s_.1), (10, .pointer (some ⟨s_.2, 0, none⟩))]) (fun s_ w' => (w'.cell? ⟨gb339, 0, none⟩ = some (.slice A1_0 l1_0.length c1_0) ∧ w'.cell? ⟨gb339, 1, none⟩ = some (.slice A1_1 l1_1.length c1_1) ∧ w'.cell? ⟨gb340, 0, none⟩ = some (.slice A2_0 l2_0.length c2_0) ∧ w'.cell? ⟨gb340, 1, none⟩ = some (.slice A2_1 l2_1.length c2_1)) ∧ (Kd.R k74 74 w' w.heap.size (fun _ => True) s_.1 t344) ∧ (w'.heap[gb339]? = some (.cells #[.slice A1_0 l1_0.length c1_0, .slice A1_1 l1_1.length c1_1] 40 (0, 0))) ∧ (w'.heap[gb340]? = some (.cells #[.slice A2_0 l2_0.length c2_0, .slice A2_1 l2_1.length c2_1] 40 (0, 0))) ∧ (w'.heap[s_.2]? = some (.cells #[.slice none 0 0, .slice none 0 0] 45 (0, 0))) ∧ (w.heap.size ≤ s_.2) ∧ (w.heap.size ≤ s_.2) ∧ (gb339 ≠ s_.2) ∧ (s_.2 ≠ gb339) ∧ (gb340 ≠ s_.2) ∧ (s_.2 ≠ gb340) ∧ (Below w.heap.size w w')) ?_ ?_
    ·
     skip
     clear BK339 BK340 HB
     rintro ⟨v345, gb366⟩ w35 ⟨hHeld, h0_, h1_, h2_, h3_, h4_, h5_, h6_, h7_, h8_, h9_, h10_⟩
     try dsimp only at hHeld h0_ h1_ h2_ h3_ h4_ h5_ h6_ h7_ h8_ h9_ h10_
     have HO346 := aS h0_; have BK339 := aS h1_; have BK340 := aS h2_; have BK366 := aS h3_; have GW366 := aS h4_; have GE366 := aS h5_; have NB339_366 := aS h6_; have NB366_339 := aS h7_; have NB340_366 := aS h8_; have NB366_340 := aS h9_; have HB := aS h10_
     clear h0_ h1_ h2_ h3_ h4_ h5_ h6_ h7_ h8_ h9_ h10_
     refine norm_ (a' := ?_) ?_ ?_
     rotate_left
     ·
      exact sQ
     refine one_ (i := 3) (N := some 41) #[true, true, true, true, true, false, true, false, false, false, false, true, false, false] rfl rfl (one_of HT_.out (by kernel_rfl)) (by decide) (fun K hK => ?_)
     refine goes_ Try.func16 (by kernel_rfl) rfl #[.agg #[.slice A1_0 l1_0.length c1_0, .slice A1_1 l1_1.length c1_1]] (by rfl) rfl rfl sG ?_
     with_reducible refine (laws_toLine.calls k _ _ l1_0 _ _ l1_1 t347 t350 _ ?side1 ?side2 ?side3 ?side4 A24.out).mono ?_
     (case side1 => exact sC (Kd.C_below HR1_0.out HB.out))
     (case side2 => exact HC1_0.out)
     (case side3 => exact sC (Kd.C_below HR1_1.out HB.out))
     (case side4 => exact HC1_1.out)
     rintro e w36 ⟨v348, v351, rfl, ho0, ho1, hb⟩
     refine ⟨_, rfl, ?_⟩
     replace HO346 := aS (Kd.R_below (sR HO346.out) hb); have HO349 := aS (Kd.R_lower ho0 (below_size (sW HB.out))); have HO352 := aS (Kd.R_lower ho1 (below_size (sW HB.out))); replace BK339 := aS (blk_below (sB BK339.out) hb); replace BK340 := aS (blk_below (sB BK340.out) hb); replace BK366 := aS (blk_below (sB BK366.out) hb); replace HB := aS (below_step (sW HB.out) hb)
     (try clear hb); (try clear hb2); (try clear hk); (try clear hi); (try clear ho0); (try clear ho1)
     refine hK.out _ _ ⟨(blk_cell BK339.out 0).trans rfl, (blk_cell BK339.out 1).trans rfl, (blk_cell BK340.out 0).trans rfl, (blk_cell BK340.out 1).trans rfl⟩ (fun hHeld => ?_)
     clear hK K
     refine norm_ (a' := ?_) ?_ ?_
     rotate_left
     ·
      show Act.put _ (some 41) _ = _
      exact sP
     exact norm_ sQ (hJ1_3_11 (v345, v348, v351, gb366) _ ⟨hHeld, (sR HO346.out), (sR HO349.out), (sR HO352.out), (sB BK339.out), (sB BK340.out), (sB BK366.out), GW366.out, GE366.out, NB339_366.out, NB366_339.out, NB340_366.out, NB366_340.out, (sW HB.out)⟩)
    intro hJ1_11
    refine join_ (σ := Value) 9 #[true, true, true, false, true, false, true, false, false, false, false, false, false, false] (fun s_ => [(39, s_)]) (fun s_ w' => (w'.cell? ⟨gb339, 0, none⟩ = some (.slice A1_0 l1_0.length c1_0) ∧ w'.cell? ⟨gb339, 1, none⟩ = some (.slice A1_1 l1_1.length c1_1) ∧ w'.cell? ⟨gb340, 0, none⟩ = some (.slice A2_0 l2_0.length c2_0) ∧ w'.cell? ⟨gb340, 1, none⟩ = some (.slice A2_1 l2_1.length c2_1)) ∧ (Kd.R k74 74 w' w.heap.size (fun _ => True) s_ t344) ∧ (w'.heap[gb339]? = some (.cells #[.slice A1_0 l1_0.length c1_0, .slice A1_1 l1_1.length c1_1] 40 (0, 0))) ∧ (w'.heap[gb340]? = some (.cells #[.slice A2_0 l2_0.length c2_0, .slice A2_1 l2_1.length c2_1] 40 (0, 0))) ∧ (Below w.heap.size w w')) ?_ ?_
    ·
     skip
     clear BK339 BK340 HB
     rintro v345 w34 ⟨hHeld, h0_, h1_, h2_, h3_⟩
     try dsimp only at hHeld h0_ h1_ h2_ h3_
     have HO346 := aS h0_; have BK339 := aS h1_; have BK340 := aS h2_; have HB := aS h3_
     clear h0_ h1_ h2_ h3_
     refine norm_ (a' := ?_) ?_ ?_
     rotate_left
     ·
      exact sQ
     refine two_ (i := 3) (j := 11) (Ni := some 41) (Nj := some 10) #[true, true, true, true, true, false, true, false, false, false, false, false, false, false] #[true, true, true, false, true, false, true, false, false, false, false, true, false, false] rfl rfl rfl rfl (two_of HT_.out (by kernel_rfl)) (by decide) (by decide) (fun K hK => ?_) (fun K hK => ?_)
     ·
      skip
      refine goes_ Try.func16 (by kernel_rfl) rfl #[.agg #[.slice A1_0 l1_0.length c1_0, .slice A1_1 l1_1.length c1_1]] (by rfl) rfl rfl sG ?_
      with_reducible refine (laws_toLine.calls k _ _ l1_0 _ _ l1_1 t347 t350 _ ?side1 ?side2 ?side3 ?side4 A24.out).mono ?_
      (case side1 => exact sC (Kd.C_below HR1_0.out HB.out))
      (case side2 => exact HC1_0.out)
      (case side3 => exact sC (Kd.C_below HR1_1.out HB.out))
      (case side4 => exact HC1_1.out)
      rintro e w35 ⟨v348, v351, rfl, ho0, ho1, hb⟩
      refine ⟨_, rfl, ?_⟩
      replace HO346 := aS (Kd.R_below (sR HO346.out) hb); have HO349 := aS (Kd.R_lower ho0 (below_size (sW HB.out))); have HO352 := aS (Kd.R_lower ho1 (below_size (sW HB.out))); replace BK339 := aS (blk_below (sB BK339.out) hb); replace BK340 := aS (blk_below (sB BK340.out) hb); replace HB := aS (below_step (sW HB.out) hb)
      (try clear hb); (try clear hb2); (try clear hk); (try clear hi); (try clear ho0); (try clear ho1)
      refine hK.out _ _ ⟨(blk_cell BK339.out 0).trans rfl, (blk_cell BK339.out 1).trans rfl, (blk_cell BK340.out 0).trans rfl, (blk_cell BK340.out 1).trans rfl⟩ (fun hHeld => ?_)
      clear hK K
      refine norm_ (a' := ?_) ?_ ?_
      rotate_left
      ·
       show Act.put _ (some 41) _ = _
       exact sP
      exact norm_ sQ (hJ1_3 (v345, v348, v351) _ ⟨hHeld, (sR HO346.out), (sR HO349.out), (sR HO352.out), (sB BK339.out), (sB BK340.out), (sW HB.out)⟩)
     skip
     refine box_step ?hg (N := 10) ?hd (cs := #[.slice none 0 0, .slice none 0 0]) (t := 45) ?hr ?_; (case hd => rfl); (case hg => rfl); (case hr => first | (go_simp; done) | (go_simp; rfl))
     intro gb366 hg w35 hbox hb
     replace HO346 := aS (Kd.R_below (sR HO346.out) hb); have BK366 := aS (hbox); have GW366 := aS (gW hg (sW HB.out)); have GE366 := aS (gW hg (sW HB.out)); replace HB := aS (below_step (sW HB.out) hb); have NB339_366 := aS (nL hg (sB BK339.out)); have NB366_339 := aS (nG hg (sB BK339.out)); replace BK339 := aS (blk_below (sB BK339.out) hb); have NB340_366 := aS (nL hg (sB BK340.out)); have NB366_340 := aS (nG hg (sB BK340.out)); replace BK340 := aS (blk_below (sB BK340.out) hb)
     clear hb hbox hg
     refine hK.out _ _ ⟨(blk_cell BK339.out 0).trans rfl, (blk_cell BK339.out 1).trans rfl, (blk_cell BK340.out 0).trans rfl, (blk_cell BK340.out 1).trans rfl⟩ (fun hHeld => ?_)
     clear hK K
     refine norm_ (a' := ?_) ?_ ?_
     rotate_left
     ·
      show Act.put _ (some 10) _ = _
      exact sP
     exact norm_ sQ (hJ1_11 (v345, gb366) _ ⟨hHeld, (sR HO346.out), (sB BK339.out), (sB BK340.out), (sB BK366.out), GW366.out, GE366.out, NB339_366.out, NB366_339.out, NB340_366.out, NB366_340.out, (sW HB.out)⟩)
    intro hJ1
    refine join_ (σ := Nat) 9 #[true, false, true, false, true, false, true, false, false, false, false, true, false, false] (fun s_ => [(10, .pointer (some ⟨s_, 0, none⟩))]) (fun s_ w' => (w'.cell? ⟨gb339, 0, none⟩ = some (.slice A1_0 l1_0.length c1_0) ∧ w'.cell? ⟨gb339, 1, none⟩ = some (.slice A1_1 l1_1.length c1_1) ∧ w'.cell? ⟨gb340, 0, none⟩ = some (.slice A2_0 l2_0.length c2_0) ∧ w'.cell? ⟨gb340, 1, none⟩ = some (.slice A2_1 l2_1.length c2_1)) ∧ (w'.heap[gb339]? = some (.cells #[.slice A1_0 l1_0.length c1_0, .slice A1_1 l1_1.length c1_1] 40 (0, 0))) ∧ (w'.heap[gb340]? = some (.cells #[.slice A2_0 l2_0.length c2_0, .slice A2_1 l2_1.length c2_1] 40 (0, 0))) ∧ (w'.heap[s_]? = some (.cells #[.slice none 0 0, .slice none 0 0] 45 (0, 0))) ∧ (w.heap.size ≤ s_) ∧ (w.heap.size ≤ s_) ∧ (gb339 ≠ s_) ∧ (s_ ≠ gb339) ∧ (gb340 ≠ s_) ∧ (s_ ≠ gb340) ∧ (Below w.heap.size w w')) ?_ ?_
    ·
     skip
     clear BK339 BK340 HB
     rintro gb366 w34 ⟨hHeld, h0_, h1_, h2_, h3_, h4_, h5_, h6_, h7_, h8_, h9_⟩
     try dsimp only at hHeld h0_ h1_ h2_ h3_ h4_ h5_ h6_ h7_ h8_ h9_
     have BK339 := aS h0_; have BK340 := aS h1_; have BK366 := aS h2_; have GW366 := aS h3_; have GE366 := aS h4_; have NB339_366 := aS h5_; have NB366_339 := aS h6_; have NB340_366 := aS h7_; have NB366_340 := aS h8_; have HB := aS h9_
     clear h0_ h1_ h2_ h3_ h4_ h5_ h6_ h7_ h8_ h9_
     refine norm_ (a' := ?_) ?_ ?_
     rotate_left
     ·
      exact sQ
     refine one_ (i := 1) (N := some 39) #[true, true, true, false, true, false, true, false, false, false, false, true, false, false] rfl rfl (one_of HT_.out (by kernel_rfl)) (by decide) (fun K hK => ?_)
     refine goes_ Try.func15 (by kernel_rfl) rfl #[.slice A0 l0.length c0] (by rfl) rfl rfl sG ?_
     with_reducible refine (laws_toJoinS.calls k _ _ l0 t344 _ ?side1 ?side2 A23.out).mono ?_
     (case side1 => exact sC (Kd.C_below HR0.out HB.out))
     (case side2 => exact HC0.out)
     rintro e w35 ⟨v345, rfl, ho0, hb⟩
     refine ⟨_, rfl, ?_⟩
     have HO346 := aS (Kd.R_lower ho0 (below_size (sW HB.out))); replace BK339 := aS (blk_below (sB BK339.out) hb); replace BK340 := aS (blk_below (sB BK340.out) hb); replace BK366 := aS (blk_below (sB BK366.out) hb); replace HB := aS (below_step (sW HB.out) hb)
     (try clear hb); (try clear hb2); (try clear hk); (try clear hi); (try clear ho0)
     refine hK.out _ _ ⟨(blk_cell BK339.out 0).trans rfl, (blk_cell BK339.out 1).trans rfl, (blk_cell BK340.out 0).trans rfl, (blk_cell BK340.out 1).trans rfl⟩ (fun hHeld => ?_)
     clear hK K
     refine norm_ (a' := ?_) ?_ ?_
     rotate_left
     ·
      show Act.put _ (some 39) _ = _
      exact sP
     exact norm_ sQ (hJ1_11 (v345, gb366) _ ⟨hHeld, (sR HO346.out), (sB BK339.out), (sB BK340.out), (sB BK366.out), GW366.out, GE366.out, NB339_366.out, NB366_339.out, NB340_366.out, NB366_340.out, (sW HB.out)⟩)
    intro hJ11
    refine two_ (i := 1) (j := 11) (Ni := some 39) (Nj := some 10) #[true, true, true, false, true, false, true, false, false, false, false, false, false, false] #[true, false, true, false, true, false, true, false, false, false, false, true, false, false] rfl rfl rfl rfl (two_of HT_.out (by kernel_rfl)) (by decide) (by decide) (fun K hK => ?_) (fun K hK => ?_)
    ·
     skip
     refine goes_ Try.func15 (by kernel_rfl) rfl #[.slice A0 l0.length c0] (by rfl) rfl rfl sG ?_
     with_reducible refine (laws_toJoinS.calls k _ _ l0 t344 _ ?side1 ?side2 A23.out).mono ?_
     (case side1 => exact sC (Kd.C_below HR0.out HB.out))
     (case side2 => exact HC0.out)
     rintro e w33 ⟨v345, rfl, ho0, hb⟩
     refine ⟨_, rfl, ?_⟩
     have HO346 := aS (Kd.R_lower ho0 (below_size (sW HB.out))); replace BK339 := aS (blk_below (sB BK339.out) hb); replace BK340 := aS (blk_below (sB BK340.out) hb); replace HB := aS (below_step (sW HB.out) hb)
     (try clear hb); (try clear hb2); (try clear hk); (try clear hi); (try clear ho0)
     refine hK.out _ _ ⟨(blk_cell BK339.out 0).trans rfl, (blk_cell BK339.out 1).trans rfl, (blk_cell BK340.out 0).trans rfl, (blk_cell BK340.out 1).trans rfl⟩ (fun hHeld => ?_)
     clear hK K
     refine norm_ (a' := ?_) ?_ ?_
     rotate_left
     ·
      show Act.put _ (some 39) _ = _
      exact sP
     exact norm_ sQ (hJ1 (v345) _ ⟨hHeld, (sR HO346.out), (sB BK339.out), (sB BK340.out), (sW HB.out)⟩)
    skip
    refine box_step ?hg (N := 10) ?hd (cs := #[.slice none 0 0, .slice none 0 0]) (t := 45) ?hr ?_; (case hd => rfl); (case hg => rfl); (case hr => first | (go_simp; done) | (go_simp; rfl))
    intro gb366 hg w33 hbox hb
    have BK366 := aS (hbox); have GW366 := aS (gW hg (sW HB.out)); have GE366 := aS (gW hg (sW HB.out)); replace HB := aS (below_step (sW HB.out) hb); have NB339_366 := aS (nL hg (sB BK339.out)); have NB366_339 := aS (nG hg (sB BK339.out)); replace BK339 := aS (blk_below (sB BK339.out) hb); have NB340_366 := aS (nL hg (sB BK340.out)); have NB366_340 := aS (nG hg (sB BK340.out)); replace BK340 := aS (blk_below (sB BK340.out) hb)
    clear hb hbox hg
    refine hK.out _ _ ⟨(blk_cell BK339.out 0).trans rfl, (blk_cell BK339.out 1).trans rfl, (blk_cell BK340.out 0).trans rfl, (blk_cell BK340.out 1).trans rfl⟩ (fun hHeld => ?_)
    clear hK K
    refine norm_ (a' := ?_) ?_ ?_
    rotate_left
    ·
     show Act.put _ (some 10) _ = _
     exact sP
    exact norm_ sQ (hJ11 (gb366) _ ⟨hHeld, (sB BK339.out), (sB BK340.out), (sB BK366.out), GW366.out, GE366.out, NB339_366.out, NB366_339.out, NB340_366.out, NB366_340.out, (sW HB.out)⟩)
 
/-- THE ONE PURE STATEMENT of laws_FnExactJoinLines. -/
def laws_FnExactJoinLines.Pure : Prop := ∀ (l0 : List (S68)) (l1_0 : List (S94)) (l1_1 : List Int) (l2_0 : List (S94)) (l2_1 : List Int) (a3 : Int), (l0.length * 32 ≤ 140737488351232 ∧ l0.length ≤ maxLen ∧ (∀ y0 ∈ l0, (y0.f0.size ≤ 140737488351232) ∧ ((Lit.int .i64 y0.f1).wf = true) ∧ ((Lit.int .i64 y0.f2).wf = true))) → (l1_0.length * 16 ≤ 140737488351232 ∧ l1_0.length ≤ maxLen ∧ (∀ y0 ∈ l1_0, ((Lit.int .i64 y0.f0).wf = true) ∧ ((Lit.int .i64 y0.f1).wf = true))) → (l1_1.length * 8 ≤ 140737488351232 ∧ l1_1.length ≤ maxLen ∧ (∀ y0 ∈ l1_1, (Lit.int .i64 y0).wf = true)) → (l2_0.length * 16 ≤ 140737488351232 ∧ l2_0.length ≤ maxLen ∧ (∀ y0 ∈ l2_0, ((Lit.int .i64 y0.f0).wf = true) ∧ ((Lit.int .i64 y0.f1).wf = true))) → (l2_1.length * 8 ≤ 140737488351232 ∧ l2_1.length ≤ maxLen ∧ (∀ y0 ∈ l2_1, (Lit.int .i64 y0).wf = true)) → ((Lit.int .i64 a3).wf = true) → ∃ k, laws_FnExactJoinLines.f k l0 l1_0 l1_1 l2_0 l2_1 a3 = some true
theorem laws_FnExactJoinLines.walk : True := trivial

end Go.Proofs.Ytjhlliacgkjhaaa.QFnExactJoinLines

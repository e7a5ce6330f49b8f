/- What the Go functions of this law compute, each as a Lean function, and that each call comes to that answer; written by a program of this session. No condition. -/
import Derived.Test.YtdgodlccejoibaaVQFnExactTurnLinex0
import Derived.Test.YtdgodlccejoibaaVQFnExactTurnLinex1
import Derived.Test.YtdgodlccejoibaaVQFnExactTurnLinex2
import Derived.Test.YtdgodlccejoibaaVQFnExactTurnLinex3
import Derived.Test.YtdgodlccejoibaaVQFnExactTurnLinex7
import Derived.Test.YtdgodlccejoibaaVQFnExactTurnLinex11
import Derived.Test.YtdgodlccejoibaaVQFnExactTurnLinex12
namespace Go.Proofs.Ytdgodlccejoibaa.QFnExactTurnLine
open Go.RowKit Go.Proofs.YtdgodlccejoibaaW.PrintWords Go.Proofs.YtdgodlccejoibaaW.PrintLast Go.Proofs.YtdgodlccejoibaaW.PrintMore
attribute [local go_sem] max2_int min2_int max_two min_two max_three min_three max_four min_four   -- for this text's walks alone
set_option linter.unusedVariables false
set_option linter.unusedSimpArgs false

/-! ### laws_FnExactTurnLine: function 9 -/
mutual
def laws_FnExactTurnLine.j0 : Nat → List (S67) → Int → List (S68) → Int → Bool → List (S41) → List Int → List (S44) → List Int → List (S44) → List Int → List (S44) → List Int → Option (Bool)
 | 0, _, _, _, _, _, _, _, _, _, _, _, _, _ => none
 | k + 1, x0, x7, x8, x11, x53, x307000, x307001, x326000, x326001, x336000, x336001, x344000, x344001 => if x53 = true then (some false) else ((laws_toJoinS.f k x0).bind fun t345 => ((laws_eqJoinS.f k x8 t345).bind fun t348 => (if t348 = true then ((laws_toLine.f k x307000 x307001).bind fun bt349 => ((laws_eqLine.f k x336000 x336001 bt349.1 bt349.2).bind fun t355 => (if t355 = true then ((laws_markJoinS.f k x8 1).bind fun bt356 => ((laws_markLine.f k x336000 x336001 bt356.1).bind fun bt358 => (if bt358.1 < 0 then (laws_FnExactTurnLine.j1 k x0 x7 true x307000 x307001 x326000 x326001 x344000 x344001) else ((laws_eqLine.f k x344000 x344001 x326000 x326001).bind fun t361 => (if t361 = true then (laws_FnExactTurnLine.j1 k x0 x7 (x11 != x7) x307000 x307001 x326000 x326001 x344000 x344001) else (laws_FnExactTurnLine.j1 k x0 x7 true x307000 x307001 x326000 x326001 x344000 x344001)))))) else (some false)))) else (some false))))
def laws_FnExactTurnLine.j1 : Nat → List (S67) → Int → Bool → List (S41) → List Int → List (S44) → List Int → List (S44) → List Int → Option (Bool)
 | 0, _, _, _, _, _, _, _, _, _ => none
 | k + 1, x0, x7, x82, x307000, x307001, x326000, x326001, x344000, x344001 => if x82 = true then (some false) else ((laws_markLine.f k x344000 x344001 1).bind fun bt362 => ((laws_heldLine.f k bt362.2.1 bt362.2.2 1).bind fun t365 => (if t365 < 0 then (some false) else (if t365 = bt362.1 then ((laws_toJoinS.f k x0).bind fun t366 => ((laws_toLine.f k x307000 x307001).bind fun bt369 => ((impl_TurnLine.f k t366 bt369.1 bt369.2).bind fun bt375 => ((laws_eqLine.f k bt375.1 bt375.2.1 x326000 x326001).bind fun t383 => (if t383 = true then (laws_FnExactTurnLine.j2 k bt362.1 (bt375.2.2 != x7) bt362.2.1 bt362.2.2) else (laws_FnExactTurnLine.j2 k bt362.1 true bt362.2.1 bt362.2.2)))))) else (some false)))))
def laws_FnExactTurnLine.j2 : Nat → Int → Bool → List (S44) → List Int → Option (Bool)
 | 0, _, _, _, _ => none
 | k + 1, x13, x110, x344000, x344001 => if x110 = true then (some false) else ((laws_heldLine.f k x344000 x344001 1).bind fun t384 => (if t384 < 0 then (some false) else (if t384 = x13 then (some true) else (some false))))
end
def laws_FnExactTurnLine.f (k : Nat) (l0 : List (S67)) (l1_0 : List (S41)) (l1_1 : List Int) : Option (Bool) := (laws_szJoinS.f k l0 1048576).bind fun t307 => (if t307 < 0 then (some true) else ((laws_szLine.f l1_0 l1_1 t307).bind fun t308 => (if t308 < 0 then (some true) else ((laws_toJoinS.f k l0).bind fun t309 => ((laws_toLine.f k l1_0 l1_1).bind fun bt312 => ((spec_TurnLine.f k t309 bt312.1 bt312.2).bind fun bt318 => ((laws_toJoinS.f k l0).bind fun t326 => ((laws_toLine.f k l1_0 l1_1).bind fun bt329 => ((impl_TurnLine.f k t326 bt329.1 bt329.2).bind fun bt336 => ((laws_eqLine.f k bt336.1 bt336.2.1 bt318.1 bt318.2.1).bind fun t344 => (if t344 = true then (laws_FnExactTurnLine.j0 k l0 bt318.2.2 t326 bt336.2.2 (bt336.2.2 != bt318.2.2) l1_0 l1_1 bt318.1 bt318.2.1 bt329.1 bt329.2 bt336.1 bt336.2.1) else (laws_FnExactTurnLine.j0 k l0 bt318.2.2 t326 bt336.2.2 true l1_0 l1_1 bt318.1 bt318.2.1 bt329.1 bt329.2 bt336.1 bt336.2.1))))))))))))
theorem laws_FnExactTurnLine.mono_l : ∀ k, (∀ y0 y1 y2 y3 y4 y5 y6 y7 y8 y9 y10 y11 y12, LeO (laws_FnExactTurnLine.j0 k y0 y1 y2 y3 y4 y5 y6 y7 y8 y9 y10 y11 y12) (laws_FnExactTurnLine.j0 (k + 1) y0 y1 y2 y3 y4 y5 y6 y7 y8 y9 y10 y11 y12)) ∧ (∀ y0 y1 y2 y3 y4 y5 y6 y7 y8, LeO (laws_FnExactTurnLine.j1 k y0 y1 y2 y3 y4 y5 y6 y7 y8) (laws_FnExactTurnLine.j1 (k + 1) y0 y1 y2 y3 y4 y5 y6 y7 y8)) ∧ (∀ y0 y1 y2 y3, LeO (laws_FnExactTurnLine.j2 k y0 y1 y2 y3) (laws_FnExactTurnLine.j2 (k + 1) y0 y1 y2 y3))
 | 0 => ⟨fun _ _ _ _ _ _ _ _ _ _ _ _ _ r h => by simp [laws_FnExactTurnLine.j0] at h, fun _ _ _ _ _ _ _ _ _ r h => by simp [laws_FnExactTurnLine.j1] at h, fun _ _ _ _ r h => by simp [laws_FnExactTurnLine.j2] at h⟩
 | k + 1 => by
  obtain ⟨ih0, ih1, ih2⟩ := laws_FnExactTurnLine.mono_l k
  refine ⟨?_, ?_, ?_⟩
  ·
   intro y0 y1 y2 y3 y4 y5 y6 y7 y8 y9 y10 y11 y12
   unfold laws_FnExactTurnLine.j0
   repeat' first
   | (with_reducible exact ih0 _ _ _ _ _ _ _ _ _ _ _ _ _)
   | (with_reducible exact ih1 _ _ _ _ _ _ _ _ _)
   | (with_reducible exact ih2 _ _ _ _)
   | (with_reducible exact impl_TurnLine.mono _ _ _ _)
   | (with_reducible exact laws_eqJoinS.mono _ _ _)
   | (with_reducible exact laws_eqLine.mono _ _ _ _ _)
   | (with_reducible exact laws_heldLine.mono _ _ _ _)
   | (with_reducible exact laws_markJoinS.mono _ _ _)
   | (with_reducible exact laws_markLine.mono _ _ _ _)
   | (with_reducible exact laws_szJoinS.mono _ _ _)
   | (with_reducible exact laws_toJoinS.mono _ _)
   | (with_reducible exact laws_toLine.mono _ _ _)
   | (with_reducible exact spec_TurnLine.mono _ _ _ _)
   | (with_reducible exact LeO.refl _)
   | (with_reducible exact LeO.none _)
   | (with_reducible refine LeO.ite ?_ ?_)
   | (with_reducible refine LeO.bind ?_ (fun _ => ?_))
   | exact ih0 _ _ _ _ _ _ _ _ _ _ _ _ _
   | exact ih1 _ _ _ _ _ _ _ _ _
   | exact ih2 _ _ _ _
   | exact impl_TurnLine.mono _ _ _ _
   | exact laws_eqJoinS.mono _ _ _
   | exact laws_eqLine.mono _ _ _ _ _
   | exact laws_heldLine.mono _ _ _ _
   | exact laws_markJoinS.mono _ _ _
   | exact laws_markLine.mono _ _ _ _
   | exact laws_szJoinS.mono _ _ _
   | exact laws_toJoinS.mono _ _
   | exact laws_toLine.mono _ _ _
   | exact spec_TurnLine.mono _ _ _ _
   | exact LeO.none _
   | refine LeO.ite ?_ ?_
   | refine LeO.bind ?_ (fun _ => ?_)
  ·
   intro y0 y1 y2 y3 y4 y5 y6 y7 y8
   unfold laws_FnExactTurnLine.j1
   repeat' first
   | (with_reducible exact ih0 _ _ _ _ _ _ _ _ _ _ _ _ _)
   | (with_reducible exact ih1 _ _ _ _ _ _ _ _ _)
   | (with_reducible exact ih2 _ _ _ _)
   | (with_reducible exact impl_TurnLine.mono _ _ _ _)
   | (with_reducible exact laws_eqJoinS.mono _ _ _)
   | (with_reducible exact laws_eqLine.mono _ _ _ _ _)
   | (with_reducible exact laws_heldLine.mono _ _ _ _)
   | (with_reducible exact laws_markJoinS.mono _ _ _)
   | (with_reducible exact laws_markLine.mono _ _ _ _)
   | (with_reducible exact laws_szJoinS.mono _ _ _)
   | (with_reducible exact laws_toJoinS.mono _ _)
   | (with_reducible exact laws_toLine.mono _ _ _)
   | (with_reducible exact spec_TurnLine.mono _ _ _ _)
   | (with_reducible exact LeO.refl _)
   | (with_reducible exact LeO.none _)
   | (with_reducible refine LeO.ite ?_ ?_)
   | (with_reducible refine LeO.bind ?_ (fun _ => ?_))
   | exact ih0 _ _ _ _ _ _ _ _ _ _ _ _ _
   | exact ih1 _ _ _ _ _ _ _ _ _
   | exact ih2 _ _ _ _
   | exact impl_TurnLine.mono _ _ _ _
   | exact laws_eqJoinS.mono _ _ _
   | exact laws_eqLine.mono _ _ _ _ _
   | exact laws_heldLine.mono _ _ _ _
   | exact laws_markJoinS.mono _ _ _
   | exact laws_markLine.mono _ _ _ _
   | exact laws_szJoinS.mono _ _ _
   | exact laws_toJoinS.mono _ _
   | exact laws_toLine.mono _ _ _
   | exact spec_TurnLine.mono _ _ _ _
   | exact LeO.none _
   | refine LeO.ite ?_ ?_
   | refine LeO.bind ?_ (fun _ => ?_)
  ·
   intro y0 y1 y2 y3
   unfold laws_FnExactTurnLine.j2
   repeat' first
   | (with_reducible exact ih0 _ _ _ _ _ _ _ _ _ _ _ _ _)
   | (with_reducible exact ih1 _ _ _ _ _ _ _ _ _)
   | (with_reducible exact ih2 _ _ _ _)
   | (with_reducible exact impl_TurnLine.mono _ _ _ _)
   | (with_reducible exact laws_eqJoinS.mono _ _ _)
   | (with_reducible exact laws_eqLine.mono _ _ _ _ _)
   | (with_reducible exact laws_heldLine.mono _ _ _ _)
   | (with_reducible exact laws_markJoinS.mono _ _ _)
   | (with_reducible exact laws_markLine.mono _ _ _ _)
   | (with_reducible exact laws_szJoinS.mono _ _ _)
   | (with_reducible exact laws_toJoinS.mono _ _)
   | (with_reducible exact laws_toLine.mono _ _ _)
   | (with_reducible exact spec_TurnLine.mono _ _ _ _)
   | (with_reducible exact LeO.refl _)
   | (with_reducible exact LeO.none _)
   | (with_reducible refine LeO.ite ?_ ?_)
   | (with_reducible refine LeO.bind ?_ (fun _ => ?_))
   | exact ih0 _ _ _ _ _ _ _ _ _ _ _ _ _
   | exact ih1 _ _ _ _ _ _ _ _ _
   | exact ih2 _ _ _ _
   | exact impl_TurnLine.mono _ _ _ _
   | exact laws_eqJoinS.mono _ _ _
   | exact laws_eqLine.mono _ _ _ _ _
   | exact laws_heldLine.mono _ _ _ _
   | exact laws_markJoinS.mono _ _ _
   | exact laws_markLine.mono _ _ _ _
   | exact laws_szJoinS.mono _ _ _
   | exact laws_toJoinS.mono _ _
   | exact laws_toLine.mono _ _ _
   | exact spec_TurnLine.mono _ _ _ _
   | exact LeO.none _
   | refine LeO.ite ?_ ?_
   | refine LeO.bind ?_ (fun _ => ?_)
theorem laws_FnExactTurnLine.mono : ∀ a0 a1 a2 k, LeO (laws_FnExactTurnLine.f k a0 a1 a2) (laws_FnExactTurnLine.f (k + 1) a0 a1 a2) := by
 intro a0 a1 a2 k
 obtain ⟨ih0, ih1, ih2⟩ := laws_FnExactTurnLine.mono_l k
 unfold laws_FnExactTurnLine.f
 repeat' first
   | (with_reducible exact ih0 _ _ _ _ _ _ _ _ _ _ _ _ _)
   | (with_reducible exact ih1 _ _ _ _ _ _ _ _ _)
   | (with_reducible exact ih2 _ _ _ _)
   | (with_reducible exact impl_TurnLine.mono _ _ _ _)
   | (with_reducible exact laws_eqJoinS.mono _ _ _)
   | (with_reducible exact laws_eqLine.mono _ _ _ _ _)
   | (with_reducible exact laws_heldLine.mono _ _ _ _)
   | (with_reducible exact laws_markJoinS.mono _ _ _)
   | (with_reducible exact laws_markLine.mono _ _ _ _)
   | (with_reducible exact laws_szJoinS.mono _ _ _)
   | (with_reducible exact laws_toJoinS.mono _ _)
   | (with_reducible exact laws_toLine.mono _ _ _)
   | (with_reducible exact spec_TurnLine.mono _ _ _ _)
   | (with_reducible exact LeO.refl _)
   | (with_reducible exact LeO.none _)
   | (with_reducible refine LeO.ite ?_ ?_)
   | (with_reducible refine LeO.bind ?_ (fun _ => ?_))
   | exact ih0 _ _ _ _ _ _ _ _ _ _ _ _ _
   | exact ih1 _ _ _ _ _ _ _ _ _
   | exact ih2 _ _ _ _
   | exact impl_TurnLine.mono _ _ _ _
   | exact laws_eqJoinS.mono _ _ _
   | exact laws_eqLine.mono _ _ _ _ _
   | exact laws_heldLine.mono _ _ _ _
   | exact laws_markJoinS.mono _ _ _
   | exact laws_markLine.mono _ _ _ _
   | exact laws_szJoinS.mono _ _ _
   | exact laws_toJoinS.mono _ _
   | exact laws_toLine.mono _ _ _
   | exact spec_TurnLine.mono _ _ _ _
   | exact LeO.none _
   | refine LeO.ite ?_ ?_
   | refine LeO.bind ?_ (fun _ => ?_)
def laws_FnExactTurnLine.T8 : Bool × List (List Nat × List Nat) := (true, [([], []), ([0], [0]), ([], []), ([2, 1], [2]), ([1, 3, 3], [1, 3]), ([4], [4]), ([5], [5]), ([5], [5]), ([], []), ([8, 6, 4, 0, 1, 2, 3, 4, 5, 6, 8], [6, 8]), ([7, 9, 0, 1, 2, 3, 4, 5, 6, 7, 8, 9], [7])])
def laws_FnExactTurnLine.B8 : List Nat := [0, 1, 0, 7, 15, 31, 63, 63, 0, 383, 1023]
theorem laws_FnExactTurnLine.tab8 : rtab .any (opsOf Try.f9 8) = laws_FnExactTurnLine.T8 := by kernel_rfl
theorem laws_FnExactTurnLine.bits8 : waitsOk laws_FnExactTurnLine.T8.2 laws_FnExactTurnLine.B8 = true := by kernel_rfl
def laws_FnExactTurnLine.T31 : Bool × List (List Nat × List Nat) := (true, [([], []), ([0], [0]), ([], []), ([2, 1], [2]), ([1, 3, 3], [1, 3]), ([4], [4]), ([5], [5]), ([5], [5]), ([], []), ([8, 6, 4, 0, 1, 2, 3, 4, 5, 6, 8], [6, 8]), ([7, 9, 0, 1, 2, 3, 4, 5, 6, 7, 8, 9], [7])])
def laws_FnExactTurnLine.B31 : List Nat := [0, 1, 0, 7, 15, 31, 63, 63, 0, 383, 1023]
theorem laws_FnExactTurnLine.tab31 : rtab .any (opsOf Try.f9 31) = laws_FnExactTurnLine.T31 := by kernel_rfl
theorem laws_FnExactTurnLine.bits31 : waitsOk laws_FnExactTurnLine.T31.2 laws_FnExactTurnLine.B31 = true := by kernel_rfl
set_option maxHeartbeats 8000000 in
set_option maxRecDepth 100000 in
theorem laws_FnExactTurnLine.calls (k : Nat) (A0 : Option Addr) (c0 : Nat) (l0 : List (S67)) (A1_0 : Option Addr) (c1_0 : Nat) (l1_0 : List (S41)) (A1_1 : Option Addr) (c1_1 : Nat) (l1_1 : List Int) (r : Bool) (w : World) (hr0 : Kd.C k67 w A0 l0.length l0) (hc0 : l0.length ≤ c0) (hr1_0 : Kd.C k41 w A1_0 l1_0.length l1_0) (hc1_0 : l1_0.length ≤ c1_0) (hr1_1 : Kd.C (Kd.int .i64) w A1_1 l1_1.length l1_1) (hc1_1 : l1_1.length ≤ c1_1) (h : laws_FnExactTurnLine.f k l0 l1_0 l1_1 = some r) :
  Calls Try.prog 9 #[.slice A0 l0.length c0, .agg #[.slice A1_0 l1_0.length c1_0, .slice A1_1 l1_1.length c1_1]] w fun e w' => e = .returned (.bool r) ∧ Below w.heap.size w w' := by
 have hu32 := Try.underlying32
 have hu37 := Try.underlying37
 have HR0 := aS hr0
 have HC0 := aS hc0
 clear hr0 hc0
 have HR1_0 := aS hr1_0
 have HC1_0 := aS hc1_0
 clear hr1_0 hc1_0
 have HR1_1 := aS hr1_1
 have HC1_1 := aS hc1_1
 clear hr1_1 hc1_1
 have HB := aS (Below.refl w.heap.size w)
 have H : ((laws_szJoinS.f k l0 1048576).bind fun t307 => (if t307 < 0 then (some true) else ((laws_szLine.f l1_0 l1_1 t307).bind fun t308 => (if t308 < 0 then (some true) else ((laws_toJoinS.f k l0).bind fun t309 => ((laws_toLine.f k l1_0 l1_1).bind fun bt312 => ((spec_TurnLine.f k t309 bt312.1 bt312.2).bind fun bt318 => ((laws_toJoinS.f k l0).bind fun t326 => ((laws_toLine.f k l1_0 l1_1).bind fun bt329 => ((impl_TurnLine.f k t326 bt329.1 bt329.2).bind fun bt336 => ((laws_eqLine.f k bt336.1 bt336.2.1 bt318.1 bt318.2.1).bind fun t344 => (if t344 = true then (laws_FnExactTurnLine.j0 k l0 bt318.2.2 t326 bt336.2.2 (bt336.2.2 != bt318.2.2) l1_0 l1_1 bt318.1 bt318.2.1 bt329.1 bt329.2 bt336.1 bt336.2.1) else (laws_FnExactTurnLine.j0 k l0 bt318.2.2 t326 bt336.2.2 true l1_0 l1_1 bt318.1 bt318.2.1 bt329.1 bt329.2 bt336.1 bt336.2.1))))))))))))) = some r := h
 clear h
 replace H := Option.bind_eq_some_iff.mp H
 obtain ⟨t307, A30, H⟩ := H
 replace H : (if t307 < 0 then (some true) else ((laws_szLine.f l1_0 l1_1 t307).bind fun t308 => (if t308 < 0 then (some true) else ((laws_toJoinS.f k l0).bind fun t309 => ((laws_toLine.f k l1_0 l1_1).bind fun bt312 => ((spec_TurnLine.f k t309 bt312.1 bt312.2).bind fun bt318 => ((laws_toJoinS.f k l0).bind fun t326 => ((laws_toLine.f k l1_0 l1_1).bind fun bt329 => ((impl_TurnLine.f k t326 bt329.1 bt329.2).bind fun bt336 => ((laws_eqLine.f k bt336.1 bt336.2.1 bt318.1 bt318.2.1).bind fun t344 => (if t344 = true then (laws_FnExactTurnLine.j0 k l0 bt318.2.2 t326 bt336.2.2 (bt336.2.2 != bt318.2.2) l1_0 l1_1 bt318.1 bt318.2.1 bt329.1 bt329.2 bt336.1 bt336.2.1) else (laws_FnExactTurnLine.j0 k l0 bt318.2.2 t326 bt336.2.2 true l1_0 l1_1 bt318.1 bt318.2.1 bt329.1 bt329.2 bt336.1 bt336.2.1)))))))))))) = some r := H
 have A3 := aS A30
 clear A30
 have HC4 := aS H
 clear H
 go_enter Try.func9, Try.ntmps9
 go_upto_if 21 with (first | ((with_reducible refine gate_dst (N := 3) rfl ?_); refine box_event ?hg (N := 3) ?hd (cs := #[.slice A1_0 l1_0.length c1_0, .slice A1_1 l1_1.length c1_1]) (t := 32) ?hr ?_; (case hd => rfl); (case hg => rfl); (case hr => first | (go_simp; done) | (go_simp; rfl)); intro gb306 hg w5 hbox hb; have n0_ := aS (below_step (sW HB.out) hb); have n1_ := aS (hbox); have n2_ := aS ((by rw [hg]; exact (below_size (sW HB.out)) : w.heap.size ≤ gb306)); have n3_ := aS ((by rw [hg]; exact (below_size (sW HB.out)) : w.heap.size ≤ gb306)); clear HB; have HB := n0_; have BK306 := n1_; have GW306 := n2_; have GE306 := n3_; clear n0_ n1_ n2_ n3_; clear hb hbox hg) | ((with_reducible refine gate_callee (f := 13) rfl ?_); refine goesL_ (some 19) rfl rfl Try.func13 (by kernel_rfl) rfl #[.slice A0 l0.length c0, .int .i64 1048576] rfl sG ?_; (with_reducible refine (laws_szJoinS.calls k _ _ l0 1048576 t307 _ ?side1 ?side2 A3.out).mono ?_); (case side1 => exact sC (Kd.C_below HR0.out HB.out)); (case side2 => exact HC0.out); rintro e w6 ⟨rfl, hb⟩; refine ⟨_, rfl, ?_⟩; have n0_ := aS (blk_below (g := gb306) (o := .cells #[.slice A1_0 l1_0.length c1_0, .slice A1_1 l1_1.length c1_1] 32 (0, 0)) (sB BK306.out) hb); have n1_ := aS (below_step (sW HB.out) hb); clear BK306 HB; have BK306 := n0_; have HB := n1_; clear n0_ n1_; (try clear hb); (try clear hb2); (try clear hk); (try clear hi)))
 (try simp only [Act.put, List.setIfInBounds_toArray, List.set_cons_zero, List.set_cons_succ])
 have H := HC4.out
 clear HC4
 by_cases c7 : t307 < 0
 ·
  rw [if_pos c7] at H
  have c7b0 : decide (t307 < 0) = true := decide_eq_true c7
  clear c7
  (first | rw [c7b0] | (simp only [i64_w, i32_w]; rw [c7b0]) | (rw [c7b2]; simp only [Bool.not_false, Bool.not_true]) | skip)
  obtain rfl := Option.some.inj H
  go_wp2
  go_ret
  exact ⟨by first | rfl | (simp [errW_none, errW_some, i64_w]; done) | (simp [errW_none, errW_some] <;> rfl) | (simp [*, errW_none, errW_some] <;> rfl), by repeat (first | (with_reducible first | exact HB.out | apply below_alloc | apply pw_below_drewN | apply below_drew1) | exact HB.out)⟩
 ·
  rw [if_neg c7] at H
  have c7b0 : decide (t307 < 0) = false := decide_eq_false c7
  clear c7
  (first | rw [c7b0] | (simp only [i64_w, i32_w]; rw [c7b0]) | (rw [c7b2]; simp only [Bool.not_false, Bool.not_true]) | skip)
  replace H := Option.bind_eq_some_iff.mp H
  obtain ⟨t308, A80, H⟩ := H
  replace H : (if t308 < 0 then (some true) else ((laws_toJoinS.f k l0).bind fun t309 => ((laws_toLine.f k l1_0 l1_1).bind fun bt312 => ((spec_TurnLine.f k t309 bt312.1 bt312.2).bind fun bt318 => ((laws_toJoinS.f k l0).bind fun t326 => ((laws_toLine.f k l1_0 l1_1).bind fun bt329 => ((impl_TurnLine.f k t326 bt329.1 bt329.2).bind fun bt336 => ((laws_eqLine.f k bt336.1 bt336.2.1 bt318.1 bt318.2.1).bind fun t344 => (if t344 = true then (laws_FnExactTurnLine.j0 k l0 bt318.2.2 t326 bt336.2.2 (bt336.2.2 != bt318.2.2) l1_0 l1_1 bt318.1 bt318.2.1 bt329.1 bt329.2 bt336.1 bt336.2.1) else (laws_FnExactTurnLine.j0 k l0 bt318.2.2 t326 bt336.2.2 true l1_0 l1_1 bt318.1 bt318.2.1 bt329.1 bt329.2 bt336.1 bt336.2.1)))))))))) = some r := H
  have A8 := aS A80
  clear A80
  have HC9 := aS H
  clear H
  have hcz10_0 : w6.cell? ⟨gb306, 0, none⟩ = some (.slice A1_0 l1_0.length c1_0) := (blk_cell BK306.out 0).trans rfl
  have hcz10_1 : w6.cell? ⟨gb306, 1, none⟩ = some (.slice A1_1 l1_1.length c1_1) := (blk_cell BK306.out 1).trans rfl
  have hfz10_0 := blk_frozen BK306.out 0
  have hfz10_1 := blk_frozen BK306.out 1
  go_upto_if 26 with (first | ((with_reducible refine gate_callee (f := 18) rfl ?_); refine goesL_ (some 24) rfl rfl Try.func18 (by kernel_rfl) rfl #[.agg #[.slice A1_0 l1_0.length c1_0, .slice A1_1 l1_1.length c1_1], .int .i64 t307] rfl sG ?_; (with_reducible refine (laws_szLine.calls _ _ l1_0 _ _ l1_1 t307 t308 _ ?side1 ?side2 ?side3 ?side4 A8.out).mono ?_); (case side1 => exact sC (Kd.C_below HR1_0.out HB.out)); (case side2 => exact HC1_0.out); (case side3 => exact sC (Kd.C_below HR1_1.out HB.out)); (case side4 => exact HC1_1.out); rintro e w11 ⟨rfl, hb⟩; refine ⟨_, rfl, ?_⟩; have n0_ := aS (blk_below (g := gb306) (o := .cells #[.slice A1_0 l1_0.length c1_0, .slice A1_1 l1_1.length c1_1] 32 (0, 0)) (sB BK306.out) hb); have n1_ := aS (below_step (sW HB.out) hb); clear BK306 HB; have BK306 := n0_; have HB := n1_; clear n0_ n1_; (try clear hb); (try clear hb2); (try clear hk); (try clear hi)))
  (try simp only [Act.put, List.setIfInBounds_toArray, List.set_cons_zero, List.set_cons_succ])
  have H := HC9.out
  clear HC9
  by_cases c12 : t308 < 0
  ·
   rw [if_pos c12] at H
   have c12b0 : decide (t308 < 0) = true := decide_eq_true c12
   clear c12
   (first | rw [c12b0] | (simp only [i64_w, i32_w]; rw [c12b0]) | (rw [c12b2]; simp only [Bool.not_false, Bool.not_true]) | skip)
   obtain rfl := Option.some.inj H
   go_wp2
   go_ret
   exact ⟨by first | rfl | (simp [errW_none, errW_some, i64_w]; done) | (simp [errW_none, errW_some] <;> rfl) | (simp [*, errW_none, errW_some] <;> rfl), by repeat (first | (with_reducible first | exact HB.out | apply below_alloc | apply pw_below_drewN | apply below_drew1) | exact HB.out)⟩
  ·
   rw [if_neg c12] at H
   have c12b0 : decide (t308 < 0) = false := decide_eq_false c12
   clear c12
   (first | rw [c12b0] | (simp only [i64_w, i32_w]; rw [c12b0]) | (rw [c12b2]; simp only [Bool.not_false, Bool.not_true]) | skip)
   replace H := Option.bind_eq_some_iff.mp H
   obtain ⟨t309, A130, H⟩ := H
   replace H : ((laws_toLine.f k l1_0 l1_1).bind fun bt312 => ((spec_TurnLine.f k t309 bt312.1 bt312.2).bind fun bt318 => ((laws_toJoinS.f k l0).bind fun t326 => ((laws_toLine.f k l1_0 l1_1).bind fun bt329 => ((impl_TurnLine.f k t326 bt329.1 bt329.2).bind fun bt336 => ((laws_eqLine.f k bt336.1 bt336.2.1 bt318.1 bt318.2.1).bind fun t344 => (if t344 = true then (laws_FnExactTurnLine.j0 k l0 bt318.2.2 t326 bt336.2.2 (bt336.2.2 != bt318.2.2) l1_0 l1_1 bt318.1 bt318.2.1 bt329.1 bt329.2 bt336.1 bt336.2.1) else (laws_FnExactTurnLine.j0 k l0 bt318.2.2 t326 bt336.2.2 true l1_0 l1_1 bt318.1 bt318.2.1 bt329.1 bt329.2 bt336.1 bt336.2.1)))))))) = some r := H
   have A13 := aS A130
   clear A130
   replace H := Option.bind_eq_some_iff.mp H
   obtain ⟨⟨t312, t315⟩, A140, H⟩ := H
   replace H : ((spec_TurnLine.f k t309 t312 t315).bind fun bt318 => ((laws_toJoinS.f k l0).bind fun t326 => ((laws_toLine.f k l1_0 l1_1).bind fun bt329 => ((impl_TurnLine.f k t326 bt329.1 bt329.2).bind fun bt336 => ((laws_eqLine.f k bt336.1 bt336.2.1 bt318.1 bt318.2.1).bind fun t344 => (if t344 = true then (laws_FnExactTurnLine.j0 k l0 bt318.2.2 t326 bt336.2.2 (bt336.2.2 != bt318.2.2) l1_0 l1_1 bt318.1 bt318.2.1 bt329.1 bt329.2 bt336.1 bt336.2.1) else (laws_FnExactTurnLine.j0 k l0 bt318.2.2 t326 bt336.2.2 true l1_0 l1_1 bt318.1 bt318.2.1 bt329.1 bt329.2 bt336.1 bt336.2.1))))))) = some r := H
   have A14 := aS A140
   clear A140
   replace H := Option.bind_eq_some_iff.mp H
   obtain ⟨⟨t318, t321, t324⟩, A150, H⟩ := H
   replace H : ((laws_toJoinS.f k l0).bind fun t326 => ((laws_toLine.f k l1_0 l1_1).bind fun bt329 => ((impl_TurnLine.f k t326 bt329.1 bt329.2).bind fun bt336 => ((laws_eqLine.f k bt336.1 bt336.2.1 t318 t321).bind fun t344 => (if t344 = true then (laws_FnExactTurnLine.j0 k l0 t324 t326 bt336.2.2 (bt336.2.2 != t324) l1_0 l1_1 t318 t321 bt329.1 bt329.2 bt336.1 bt336.2.1) else (laws_FnExactTurnLine.j0 k l0 t324 t326 bt336.2.2 true l1_0 l1_1 t318 t321 bt329.1 bt329.2 bt336.1 bt336.2.1)))))) = some r := H
   have A15 := aS A150
   clear A150
   replace H := Option.bind_eq_some_iff.mp H
   obtain ⟨t326, A160, H⟩ := H
   replace H : ((laws_toLine.f k l1_0 l1_1).bind fun bt329 => ((impl_TurnLine.f k t326 bt329.1 bt329.2).bind fun bt336 => ((laws_eqLine.f k bt336.1 bt336.2.1 t318 t321).bind fun t344 => (if t344 = true then (laws_FnExactTurnLine.j0 k l0 t324 t326 bt336.2.2 (bt336.2.2 != t324) l1_0 l1_1 t318 t321 bt329.1 bt329.2 bt336.1 bt336.2.1) else (laws_FnExactTurnLine.j0 k l0 t324 t326 bt336.2.2 true l1_0 l1_1 t318 t321 bt329.1 bt329.2 bt336.1 bt336.2.1))))) = some r := H
   have A16 := aS A160
   clear A160
   replace H := Option.bind_eq_some_iff.mp H
   obtain ⟨⟨t329, t332⟩, A170, H⟩ := H
   replace H : ((impl_TurnLine.f k t326 t329 t332).bind fun bt336 => ((laws_eqLine.f k bt336.1 bt336.2.1 t318 t321).bind fun t344 => (if t344 = true then (laws_FnExactTurnLine.j0 k l0 t324 t326 bt336.2.2 (bt336.2.2 != t324) l1_0 l1_1 t318 t321 t329 t332 bt336.1 bt336.2.1) else (laws_FnExactTurnLine.j0 k l0 t324 t326 bt336.2.2 true l1_0 l1_1 t318 t321 t329 t332 bt336.1 bt336.2.1)))) = some r := H
   have A17 := aS A170
   clear A170
   replace H := Option.bind_eq_some_iff.mp H
   obtain ⟨⟨t336, t339, t342⟩, A180, H⟩ := H
   replace H : ((laws_eqLine.f k t336 t339 t318 t321).bind fun t344 => (if t344 = true then (laws_FnExactTurnLine.j0 k l0 t324 t326 t342 (t342 != t324) l1_0 l1_1 t318 t321 t329 t332 t336 t339) else (laws_FnExactTurnLine.j0 k l0 t324 t326 t342 true l1_0 l1_1 t318 t321 t329 t332 t336 t339))) = some r := H
   have A18 := aS A180
   clear A180
   have HC19 := aS H
   clear H
   try go_wp2
   have n0_ := aS (blk_drew BK306.out)
   have n1_ := aS (below_drew1 HB.out)
   clear BK306 HB
   have BK306 := n0_; have HB := n1_
   clear n0_ n1_
   refine start_ (n := 11) (S := fun w' => w'.cell? ⟨gb306, 0, none⟩ = some (.slice A1_0 l1_0.length c1_0) ∧ w'.cell? ⟨gb306, 1, none⟩ = some (.slice A1_1 l1_1.length c1_1)) (ds := []) #[false, false, false, false, false, false, false, false, false, false, false] (by kernel_rfl) rfl rfl ⟨(blk_cell BK306.out 0).trans rfl, (blk_cell BK306.out 1).trans rfl⟩ (fun hHeld => ?_); refine with_tabW laws_FnExactTurnLine.tab8 laws_FnExactTurnLine.bits8 (fun HT_ HW_ => ?_)
   generalize w11.drew = w20 at BK306 HB hHeld ⊢
   refine pure_ (i := 0) (N := some 28) (v := ?_) (a' := ?_) #[true, false, false, false, false, false, false, false, false, false, false] rfl rfl (any_of HT_.out (by kernel_rfl)) (fun _ _ _ h => h) (Or.inl ⟨by rfl, ?_⟩) ?_ ?_
   rotate_left
   ·
    intro w'
    go_simp
    with_reducible rfl
   rotate_left
   ·
    simp only [Act.put, List.setIfInBounds_toArray, List.set_cons_zero, List.set_cons_succ, i64_w, i32_w]
    rfl
   refine take_ (i := 2) (N := some 30) (v := ?_) (a' := ?_) #[true, false, true, false, false, false, false, false, false, false, false] rfl rfl (take_ofW HT_.out HW_.out (by kernel_rfl)) (fun _ _ _ h => h) (Or.inl ⟨by rfl, ?_⟩) hHeld ?_ ?_
   rotate_left
   ·
    rintro w' ⟨s0, s1⟩
    go_simp
    with_reducible rfl
   rotate_left
   ·
    simp only [Act.put, List.setIfInBounds_toArray, List.set_cons_zero, List.set_cons_succ, i64_w, i32_w]
    rfl
   refine join_ (σ := Value × Value × Value × Value × Value × Nat) 2 #[true, true, true, true, true, true, true, true, true, false, false] (fun s_ => [(29, s_.1), (31, .agg #[s_.2.1, s_.2.2.1]), (32, .tuple #[.agg #[s_.2.2.2.1, s_.2.2.2.2.1], .int .i64 t324]), (6, .pointer (some ⟨s_.2.2.2.2.2, 0, none⟩)), (27, .tuple #[.agg #[s_.2.2.2.1, s_.2.2.2.2.1], .int .i64 t324]), (33, .agg #[s_.2.2.2.1, s_.2.2.2.2.1]), (34, .int .i64 t324)]) (fun s_ w' => (w'.cell? ⟨gb306, 0, none⟩ = some (.slice A1_0 l1_0.length c1_0) ∧ w'.cell? ⟨gb306, 1, none⟩ = some (.slice A1_1 l1_1.length c1_1)) ∧ (Kd.R k68 68 w' w.heap.size (fun _ => True) s_.1 t309) ∧ (Kd.R k44 44 w' w.heap.size (fun k_ => some k_ ≠ (s_.2.2.2.1 : Value).ownBlock) s_.2.1 t312) ∧ (Kd.R (Kd.int .i64) 2 w' w.heap.size (fun k_ => some k_ ≠ (s_.2.2.2.2.1 : Value).ownBlock) s_.2.2.1 t315) ∧ (Kd.R k44 44 w' w.heap.size (fun k_ => some k_ ≠ (s_.2.1 : Value).ownBlock) s_.2.2.2.1 t318) ∧ (Kd.R (Kd.int .i64) 2 w' w.heap.size (fun k_ => some k_ ≠ (s_.2.2.1 : Value).ownBlock) s_.2.2.2.2.1 t321) ∧ (w'.heap[gb306]? = some (.cells #[.slice A1_0 l1_0.length c1_0, .slice A1_1 l1_1.length c1_1] 32 (0, 0))) ∧ (w'.heap[s_.2.2.2.2.2]? = some (.cells #[.slice none 0 0, .slice none 0 0] 37 (0, 0))) ∧ (w.heap.size ≤ s_.2.2.2.2.2) ∧ (w.heap.size ≤ s_.2.2.2.2.2) ∧ (gb306 ≠ s_.2.2.2.2.2) ∧ (s_.2.2.2.2.2 ≠ gb306) ∧ (Below w.heap.size w w')) ?_ ?_
   rotate_left
   ·
    intro hCont
    refine two_ (i := 1) (j := 8) (Ni := some 29) (Nj := some 6) #[true, true, true, false, false, false, false, false, false, false, false] #[true, false, true, false, false, false, false, false, true, false, false] rfl rfl rfl rfl (two_of HT_.out (by kernel_rfl)) (by decide) (by decide) (fun K hK => ?_) (fun K hK => ?_)
    ·
     skip
     refine goes_ Try.func15 (by kernel_rfl) rfl #[.slice A0 l0.length c0] (by rfl) rfl rfl sG ?_
     with_reducible refine (laws_toJoinS.calls k _ _ l0 t309 _ ?side1 ?side2 A13.out).mono ?_
     (case side1 => exact sC (Kd.C_below HR0.out HB.out))
     (case side2 => exact HC0.out)
     rintro e w21 ⟨v310, rfl, ho0, hb⟩
     refine ⟨_, rfl, ?_⟩
     have n0_ := aS (Kd.R_lower ho0 (below_size (sW HB.out)))
     have n1_ := aS (blk_below (g := gb306) (o := .cells #[.slice A1_0 l1_0.length c1_0, .slice A1_1 l1_1.length c1_1] 32 (0, 0)) (sB BK306.out) hb)
     have n2_ := aS (below_step (sW HB.out) hb)
     clear BK306 HB
     have HO311 := n0_; have BK306 := n1_; have HB := n2_
     clear n0_ n1_ n2_
     (try clear hb); (try clear hb2); (try clear hk); (try clear hi); (try clear ho0)
     refine hK.out _ _ ⟨(blk_cell BK306.out 0).trans rfl, (blk_cell BK306.out 1).trans rfl⟩ (fun hHeld => ?_)
     clear hK K
     refine norm_ (a' := ?_) ?_ ?_
     rotate_left
     ·
      show Act.put _ (some 29) _ = _
      simp only [Act.put, List.setIfInBounds_toArray, List.set_cons_zero, List.set_cons_succ, i64_w, i32_w]
      rfl
     refine two_ (i := 3) (j := 8) (Ni := some 31) (Nj := some 6) #[true, true, true, true, false, false, false, false, false, false, false] #[true, true, true, false, false, false, false, false, true, false, false] rfl rfl rfl rfl (two_of HT_.out (by kernel_rfl)) (by decide) (by decide) (fun K hK => ?_) (fun K hK => ?_)
     ·
      skip
      refine goes_ Try.func20 (by kernel_rfl) rfl #[.agg #[.slice A1_0 l1_0.length c1_0, .slice A1_1 l1_1.length c1_1]] (by rfl) rfl rfl sG ?_
      with_reducible refine (laws_toLine.calls k _ _ l1_0 _ _ l1_1 t312 t315 _ ?side1 ?side2 ?side3 ?side4 A14.out).mono ?_
      (case side1 => exact sC (Kd.C_below HR1_0.out HB.out))
      (case side2 => exact HC1_0.out)
      (case side3 => exact sC (Kd.C_below HR1_1.out HB.out))
      (case side4 => exact HC1_1.out)
      rintro e w22 ⟨v313, v316, rfl, ho0, ho1, hb⟩
      refine ⟨_, rfl, ?_⟩
      have n0_ := aS (Kd.R_below (sR HO311.out) hb)
      have n1_ := aS (Kd.R_lower ho0 (below_size (sW HB.out)))
      have n2_ := aS (Kd.R_lower ho1 (below_size (sW HB.out)))
      have n3_ := aS (blk_below (g := gb306) (o := .cells #[.slice A1_0 l1_0.length c1_0, .slice A1_1 l1_1.length c1_1] 32 (0, 0)) (sB BK306.out) hb)
      have n4_ := aS (below_step (sW HB.out) hb)
      clear HO311 BK306 HB
      have HO311 := n0_; have HO314 := n1_; have HO317 := n2_; have BK306 := n3_; have HB := n4_
      clear n0_ n1_ n2_ n3_ n4_
      (try clear hb); (try clear hb2); (try clear hk); (try clear hi); (try clear ho0); (try clear ho1)
      obtain ⟨Ao23, co23, eo23⟩ := Kd.R_slice HO311.out
      (first | subst eo23 | (injection eo23 with f1_ f2_ f3_; have f4_ := f1_.symm; have f5_ := f3_.symm; clear f1_ f2_ f3_; subst f4_; subst f5_))
      obtain ⟨Ao24, co24, eo24⟩ := Kd.R_slice HO314.out
      (first | subst eo24 | (injection eo24 with f1_ f2_ f3_; have f4_ := f1_.symm; have f5_ := f3_.symm; clear f1_ f2_ f3_; subst f4_; subst f5_))
      obtain ⟨Ao25, co25, eo25⟩ := Kd.R_slice HO317.out
      (first | subst eo25 | (injection eo25 with f1_ f2_ f3_; have f4_ := f1_.symm; have f5_ := f3_.symm; clear f1_ f2_ f3_; subst f4_; subst f5_))
      refine hK.out _ _ ⟨(blk_cell BK306.out 0).trans rfl, (blk_cell BK306.out 1).trans rfl⟩ (fun hHeld => ?_)
      clear hK K
      refine norm_ (a' := ?_) ?_ ?_
      rotate_left
      ·
       show Act.put _ (some 31) _ = _
       simp only [Act.put, List.setIfInBounds_toArray, List.set_cons_zero, List.set_cons_succ, i64_w, i32_w]
       rfl
      refine two_ (i := 4) (j := 8) (Ni := some 32) (Nj := some 6) #[true, true, true, true, true, false, false, false, false, false, false] #[true, true, true, true, false, false, false, false, true, false, false] rfl rfl rfl rfl (two_of HT_.out (by kernel_rfl)) (by decide) (by decide) (fun K hK => ?_) (fun K hK => ?_)
      ·
       skip
       refine goes_ Try.func33 (by kernel_rfl) rfl #[.slice Ao23 t309.length co23, .agg #[.slice Ao24 t312.length co24, .slice Ao25 t315.length co25]] (by rfl) rfl rfl sG ?_
       with_reducible refine (spec_TurnLine.calls k _ _ t309 _ _ t312 _ _ t315 t318 t321 t324 _ ?side1 ?side2 ?side3 ?side4 ?side5 ?side6 A15.out).mono ?_
       (case side1 => exact sC (Kd.R_reads' HO311.out).2.2)
       (case side2 => exact (Kd.R_reads' HO311.out).2.1)
       (case side3 => exact sC (Kd.R_reads' HO314.out).2.2)
       (case side4 => exact (Kd.R_reads' HO314.out).2.1)
       (case side5 => exact sC (Kd.R_reads' HO317.out).2.2)
       (case side6 => exact (Kd.R_reads' HO317.out).2.1)
       rintro e w26 ⟨v319, v322, rfl, ho0, ho1, hb⟩
       refine ⟨_, rfl, ?_⟩
       have n0_ := aS (Kd.R_below (sR HO311.out) hb)
       have n1_ := aS (Kd.R_elder' (sR HO314.out) (Kd.R_base ho0) hb)
       have n2_ := aS (Kd.R_elder' (sR HO317.out) (Kd.R_base ho1) hb)
       have n3_ := aS (Kd.R_lower (Kd.R_new' ho0 (Kd.R_lt (sR HO314.out))) (below_size (sW HB.out)))
       have n4_ := aS (Kd.R_lower (Kd.R_new' ho1 (Kd.R_lt (sR HO317.out))) (below_size (sW HB.out)))
       have n5_ := aS (blk_below (g := gb306) (o := .cells #[.slice A1_0 l1_0.length c1_0, .slice A1_1 l1_1.length c1_1] 32 (0, 0)) (sB BK306.out) hb)
       have n6_ := aS (below_step (sW HB.out) hb)
       clear HO311 HO314 HO317 BK306 HB
       have HO311 := n0_; have HO314 := n1_; have HO317 := n2_; have HO320 := n3_; have HO323 := n4_; have BK306 := n5_; have HB := n6_
       clear n0_ n1_ n2_ n3_ n4_ n5_ n6_
       (try clear hb); (try clear hb2); (try clear hk); (try clear hi); (try clear ho0); (try clear ho1)
       refine hK.out _ _ ⟨(blk_cell BK306.out 0).trans rfl, (blk_cell BK306.out 1).trans rfl⟩ (fun hHeld => ?_)
       clear hK K
       refine norm_ (a' := ?_) ?_ ?_
       rotate_left
       ·
        show Act.put _ (some 32) _ = _
        simp only [Act.put, List.setIfInBounds_toArray, List.set_cons_zero, List.set_cons_succ, i64_w, i32_w]
        rfl
       refine pure_ (i := 5) (N := some 27) (v := ?_) (a' := ?_) #[true, true, true, true, true, true, false, false, false, false, false] rfl rfl (any_of HT_.out (by kernel_rfl)) (fun _ _ _ h => h) (Or.inl ⟨by rfl, ?_⟩) ?_ ?_
       rotate_left
       ·
        intro w'
        go_simp
        with_reducible rfl
       rotate_left
       ·
        simp only [Act.put, List.setIfInBounds_toArray, List.set_cons_zero, List.set_cons_succ, i64_w, i32_w]
        rfl
       refine pure_ (i := 6) (N := some 33) (v := ?_) (a' := ?_) #[true, true, true, true, true, true, true, false, false, false, false] rfl rfl (any_of HT_.out (by kernel_rfl)) (fun _ _ _ h => h) (Or.inl ⟨by rfl, ?_⟩) ?_ ?_
       rotate_left
       ·
        intro w'
        go_simp
        with_reducible rfl
       rotate_left
       ·
        simp only [Act.put, List.setIfInBounds_toArray, List.set_cons_zero, List.set_cons_succ, i64_w, i32_w]
        rfl
       refine pure_ (i := 7) (N := some 34) (v := ?_) (a' := ?_) #[true, true, true, true, true, true, true, true, false, false, false] rfl rfl (any_of HT_.out (by kernel_rfl)) (fun _ _ _ h => h) (Or.inl ⟨by rfl, ?_⟩) ?_ ?_
       rotate_left
       ·
        intro w'
        go_simp
        with_reducible rfl
       rotate_left
       ·
        simp only [Act.put, List.setIfInBounds_toArray, List.set_cons_zero, List.set_cons_succ, i64_w, i32_w]
        rfl
       refine one_ (i := 8) (N := some 6) #[true, true, true, true, true, true, true, true, true, false, false] rfl rfl (one_of HT_.out (by kernel_rfl)) (by decide) (fun K hK => ?_)
       refine box_step ?hg (N := 6) ?hd (cs := #[.slice none 0 0, .slice none 0 0]) (t := 37) ?hr ?_; (case hd => rfl); (case hg => rfl); (case hr => first | (go_simp; done) | (go_simp; rfl))
       intro gb325 hg w27 hbox hb
       have n0_ := aS (Kd.R_below (sR HO311.out) hb)
       have n1_ := aS (Kd.R_below (sR HO314.out) hb)
       have n2_ := aS (Kd.R_below (sR HO317.out) hb)
       have n3_ := aS (Kd.R_below (sR HO320.out) hb)
       have n4_ := aS (Kd.R_below (sR HO323.out) hb)
       have n5_ := aS (blk_below (g := gb306) (o := .cells #[.slice A1_0 l1_0.length c1_0, .slice A1_1 l1_1.length c1_1] 32 (0, 0)) (sB BK306.out) hb)
       have n6_ := aS (below_step (sW HB.out) hb)
       have n7_ := aS (hbox)
       have n8_ := aS ((by rw [hg]; exact (below_size (sW HB.out)) : w.heap.size ≤ gb325))
       have n9_ := aS ((by rw [hg]; exact (below_size (sW HB.out)) : w.heap.size ≤ gb325))
       have n10_ := aS ((by rw [hg]; exact Nat.ne_of_lt (blk_lt (g := gb306) (o := .cells #[.slice A1_0 l1_0.length c1_0, .slice A1_1 l1_1.length c1_1] 32 (0, 0)) (sB BK306.out)) : gb306 ≠ gb325))
       have n11_ := aS ((by rw [hg]; exact Nat.ne_of_gt (blk_lt (g := gb306) (o := .cells #[.slice A1_0 l1_0.length c1_0, .slice A1_1 l1_1.length c1_1] 32 (0, 0)) (sB BK306.out)) : gb325 ≠ gb306))
       clear HO311 HO314 HO317 HO320 HO323 BK306 HB
       have HO311 := n0_; have HO314 := n1_; have HO317 := n2_; have HO320 := n3_; have HO323 := n4_; have BK306 := n5_; have HB := n6_; have BK325 := n7_; have GW325 := n8_; have GE325 := n9_; have NB306_325 := n10_; have NB325_306 := n11_
       clear n0_ n1_ n2_ n3_ n4_ n5_ n6_ n7_ n8_ n9_ n10_ n11_
       clear hb hbox hg
       refine hK.out _ _ ⟨(blk_cell BK306.out 0).trans rfl, (blk_cell BK306.out 1).trans rfl⟩ (fun hHeld => ?_)
       clear hK K
       refine norm_ (a' := ?_) ?_ ?_
       rotate_left
       ·
        show Act.put _ (some 6) _ = _
        simp only [Act.put, List.setIfInBounds_toArray, List.set_cons_zero, List.set_cons_succ, i64_w, i32_w]
        rfl
       exact norm_ (by simp only [putAll, Act.put, List.setIfInBounds_toArray, List.set_cons_zero, List.set_cons_succ]) (hCont (.slice Ao23 t309.length co23, .slice Ao24 t312.length co24, .slice Ao25 t315.length co25, v319, v322, gb325) _ ⟨hHeld, (sR HO311.out), (sR (Kd.R_mono HO314.out (fun _ hk => hk.2))), (sR (Kd.R_mono HO317.out (fun _ hk => hk.2))), (sR (Kd.R_mono HO320.out (fun _ hk => hk.2))), (sR (Kd.R_mono HO323.out (fun _ hk => hk.2))), (sB BK306.out), (sB BK325.out), GW325.out, GE325.out, NB306_325.out, NB325_306.out, (sW HB.out)⟩)
      ·
       skip
       refine box_step ?hg (N := 6) ?hd (cs := #[.slice none 0 0, .slice none 0 0]) (t := 37) ?hr ?_; (case hd => rfl); (case hg => rfl); (case hr => first | (go_simp; done) | (go_simp; rfl))
       intro gb325 hg w23 hbox hb
       have n0_ := aS (Kd.R_below (sR HO311.out) hb)
       have n1_ := aS (Kd.R_below (sR HO314.out) hb)
       have n2_ := aS (Kd.R_below (sR HO317.out) hb)
       have n3_ := aS (blk_below (g := gb306) (o := .cells #[.slice A1_0 l1_0.length c1_0, .slice A1_1 l1_1.length c1_1] 32 (0, 0)) (sB BK306.out) hb)
       have n4_ := aS (below_step (sW HB.out) hb)
       have n5_ := aS (hbox)
       have n6_ := aS ((by rw [hg]; exact (below_size (sW HB.out)) : w.heap.size ≤ gb325))
       have n7_ := aS ((by rw [hg]; exact (below_size (sW HB.out)) : w.heap.size ≤ gb325))
       have n8_ := aS ((by rw [hg]; exact Nat.ne_of_lt (blk_lt (g := gb306) (o := .cells #[.slice A1_0 l1_0.length c1_0, .slice A1_1 l1_1.length c1_1] 32 (0, 0)) (sB BK306.out)) : gb306 ≠ gb325))
       have n9_ := aS ((by rw [hg]; exact Nat.ne_of_gt (blk_lt (g := gb306) (o := .cells #[.slice A1_0 l1_0.length c1_0, .slice A1_1 l1_1.length c1_1] 32 (0, 0)) (sB BK306.out)) : gb325 ≠ gb306))
       clear HO311 HO314 HO317 BK306 HB
       have HO311 := n0_; have HO314 := n1_; have HO317 := n2_; have BK306 := n3_; have HB := n4_; have BK325 := n5_; have GW325 := n6_; have GE325 := n7_; have NB306_325 := n8_; have NB325_306 := n9_
       clear n0_ n1_ n2_ n3_ n4_ n5_ n6_ n7_ n8_ n9_
       clear hb hbox hg
       obtain ⟨Ao24, co24, eo24⟩ := Kd.R_slice HO311.out
       (first | subst eo24 | (injection eo24 with f1_ f2_ f3_; have f4_ := f1_.symm; have f5_ := f3_.symm; clear f1_ f2_ f3_; subst f4_; subst f5_))
       obtain ⟨Ao25, co25, eo25⟩ := Kd.R_slice HO314.out
       (first | subst eo25 | (injection eo25 with f1_ f2_ f3_; have f4_ := f1_.symm; have f5_ := f3_.symm; clear f1_ f2_ f3_; subst f4_; subst f5_))
       obtain ⟨Ao26, co26, eo26⟩ := Kd.R_slice HO317.out
       (first | subst eo26 | (injection eo26 with f1_ f2_ f3_; have f4_ := f1_.symm; have f5_ := f3_.symm; clear f1_ f2_ f3_; subst f4_; subst f5_))
       refine hK.out _ _ ⟨(blk_cell BK306.out 0).trans rfl, (blk_cell BK306.out 1).trans rfl⟩ (fun hHeld => ?_)
       clear hK K
       refine norm_ (a' := ?_) ?_ ?_
       rotate_left
       ·
        show Act.put _ (some 6) _ = _
        simp only [Act.put, List.setIfInBounds_toArray, List.set_cons_zero, List.set_cons_succ, i64_w, i32_w]
        rfl
       refine one_ (i := 4) (N := some 32) #[true, true, true, true, true, false, false, false, true, false, false] rfl rfl (one_of HT_.out (by kernel_rfl)) (by decide) (fun K hK => ?_)
       refine goes_ Try.func33 (by kernel_rfl) rfl #[.slice Ao24 t309.length co24, .agg #[.slice Ao25 t312.length co25, .slice Ao26 t315.length co26]] (by rfl) rfl rfl sG ?_
       with_reducible refine (spec_TurnLine.calls k _ _ t309 _ _ t312 _ _ t315 t318 t321 t324 _ ?side1 ?side2 ?side3 ?side4 ?side5 ?side6 A15.out).mono ?_
       (case side1 => exact sC (Kd.R_reads' HO311.out).2.2)
       (case side2 => exact (Kd.R_reads' HO311.out).2.1)
       (case side3 => exact sC (Kd.R_reads' HO314.out).2.2)
       (case side4 => exact (Kd.R_reads' HO314.out).2.1)
       (case side5 => exact sC (Kd.R_reads' HO317.out).2.2)
       (case side6 => exact (Kd.R_reads' HO317.out).2.1)
       rintro e w27 ⟨v319, v322, rfl, ho0, ho1, hb⟩
       refine ⟨_, rfl, ?_⟩
       have n0_ := aS (Kd.R_below (sR HO311.out) hb)
       have n1_ := aS (Kd.R_elder' (sR HO314.out) (Kd.R_base ho0) hb)
       have n2_ := aS (Kd.R_elder' (sR HO317.out) (Kd.R_base ho1) hb)
       have n3_ := aS (Kd.R_lower (Kd.R_new' ho0 (Kd.R_lt (sR HO314.out))) (below_size (sW HB.out)))
       have n4_ := aS (Kd.R_lower (Kd.R_new' ho1 (Kd.R_lt (sR HO317.out))) (below_size (sW HB.out)))
       have n5_ := aS (blk_below (g := gb306) (o := .cells #[.slice A1_0 l1_0.length c1_0, .slice A1_1 l1_1.length c1_1] 32 (0, 0)) (sB BK306.out) hb)
       have n6_ := aS (blk_below (g := gb325) (o := .cells #[.slice none 0 0, .slice none 0 0] 37 (0, 0)) (sB BK325.out) hb)
       have n7_ := aS (below_step (sW HB.out) hb)
       clear HO311 HO314 HO317 BK306 BK325 HB
       have HO311 := n0_; have HO314 := n1_; have HO317 := n2_; have HO320 := n3_; have HO323 := n4_; have BK306 := n5_; have BK325 := n6_; have HB := n7_
       clear n0_ n1_ n2_ n3_ n4_ n5_ n6_ n7_
       (try clear hb); (try clear hb2); (try clear hk); (try clear hi); (try clear ho0); (try clear ho1)
       refine hK.out _ _ ⟨(blk_cell BK306.out 0).trans rfl, (blk_cell BK306.out 1).trans rfl⟩ (fun hHeld => ?_)
       clear hK K
       refine norm_ (a' := ?_) ?_ ?_
       rotate_left
       ·
        show Act.put _ (some 32) _ = _
        simp only [Act.put, List.setIfInBounds_toArray, List.set_cons_zero, List.set_cons_succ, i64_w, i32_w]
        rfl
       refine pure_ (i := 5) (N := some 27) (v := ?_) (a' := ?_) #[true, true, true, true, true, true, false, false, true, false, false] rfl rfl (any_of HT_.out (by kernel_rfl)) (fun _ _ _ h => h) (Or.inl ⟨by rfl, ?_⟩) ?_ ?_
       rotate_left
       ·
        intro w'
        go_simp
        with_reducible rfl
       rotate_left
       ·
        simp only [Act.put, List.setIfInBounds_toArray, List.set_cons_zero, List.set_cons_succ, i64_w, i32_w]
        rfl
       refine pure_ (i := 6) (N := some 33) (v := ?_) (a' := ?_) #[true, true, true, true, true, true, true, false, true, false, false] rfl rfl (any_of HT_.out (by kernel_rfl)) (fun _ _ _ h => h) (Or.inl ⟨by rfl, ?_⟩) ?_ ?_
       rotate_left
       ·
        intro w'
        go_simp
        with_reducible rfl
       rotate_left
       ·
        simp only [Act.put, List.setIfInBounds_toArray, List.set_cons_zero, List.set_cons_succ, i64_w, i32_w]
        rfl
       refine pure_ (i := 7) (N := some 34) (v := ?_) (a' := ?_) #[true, true, true, true, true, true, true, true, true, false, false] rfl rfl (any_of HT_.out (by kernel_rfl)) (fun _ _ _ h => h) (Or.inl ⟨by rfl, ?_⟩) ?_ ?_
       rotate_left
       ·
        intro w'
        go_simp
        with_reducible rfl
       rotate_left
       ·
        simp only [Act.put, List.setIfInBounds_toArray, List.set_cons_zero, List.set_cons_succ, i64_w, i32_w]
        rfl
       exact norm_ (by simp only [putAll, Act.put, List.setIfInBounds_toArray, List.set_cons_zero, List.set_cons_succ]) (hCont (.slice Ao24 t309.length co24, .slice Ao25 t312.length co25, .slice Ao26 t315.length co26, v319, v322, gb325) _ ⟨hHeld, (sR HO311.out), (sR (Kd.R_mono HO314.out (fun _ hk => hk.2))), (sR (Kd.R_mono HO317.out (fun _ hk => hk.2))), (sR (Kd.R_mono HO320.out (fun _ hk => hk.2))), (sR (Kd.R_mono HO323.out (fun _ hk => hk.2))), (sB BK306.out), (sB BK325.out), GW325.out, GE325.out, NB306_325.out, NB325_306.out, (sW HB.out)⟩)
     ·
      skip
      refine box_step ?hg (N := 6) ?hd (cs := #[.slice none 0 0, .slice none 0 0]) (t := 37) ?hr ?_; (case hd => rfl); (case hg => rfl); (case hr => first | (go_simp; done) | (go_simp; rfl))
      intro gb325 hg w22 hbox hb
      have n0_ := aS (Kd.R_below (sR HO311.out) hb)
      have n1_ := aS (blk_below (g := gb306) (o := .cells #[.slice A1_0 l1_0.length c1_0, .slice A1_1 l1_1.length c1_1] 32 (0, 0)) (sB BK306.out) hb)
      have n2_ := aS (below_step (sW HB.out) hb)
      have n3_ := aS (hbox)
      have n4_ := aS ((by rw [hg]; exact (below_size (sW HB.out)) : w.heap.size ≤ gb325))
      have n5_ := aS ((by rw [hg]; exact (below_size (sW HB.out)) : w.heap.size ≤ gb325))
      have n6_ := aS ((by rw [hg]; exact Nat.ne_of_lt (blk_lt (g := gb306) (o := .cells #[.slice A1_0 l1_0.length c1_0, .slice A1_1 l1_1.length c1_1] 32 (0, 0)) (sB BK306.out)) : gb306 ≠ gb325))
      have n7_ := aS ((by rw [hg]; exact Nat.ne_of_gt (blk_lt (g := gb306) (o := .cells #[.slice A1_0 l1_0.length c1_0, .slice A1_1 l1_1.length c1_1] 32 (0, 0)) (sB BK306.out)) : gb325 ≠ gb306))
      clear HO311 BK306 HB
      have HO311 := n0_; have BK306 := n1_; have HB := n2_; have BK325 := n3_; have GW325 := n4_; have GE325 := n5_; have NB306_325 := n6_; have NB325_306 := n7_
      clear n0_ n1_ n2_ n3_ n4_ n5_ n6_ n7_
      clear hb hbox hg
      refine hK.out _ _ ⟨(blk_cell BK306.out 0).trans rfl, (blk_cell BK306.out 1).trans rfl⟩ (fun hHeld => ?_)
      clear hK K
      refine norm_ (a' := ?_) ?_ ?_
      rotate_left
      ·
       show Act.put _ (some 6) _ = _
       simp only [Act.put, List.setIfInBounds_toArray, List.set_cons_zero, List.set_cons_succ, i64_w, i32_w]
       rfl
      refine one_ (i := 3) (N := some 31) #[true, true, true, true, false, false, false, false, true, false, false] rfl rfl (one_of HT_.out (by kernel_rfl)) (by decide) (fun K hK => ?_)
      refine goes_ Try.func20 (by kernel_rfl) rfl #[.agg #[.slice A1_0 l1_0.length c1_0, .slice A1_1 l1_1.length c1_1]] (by rfl) rfl rfl sG ?_
      with_reducible refine (laws_toLine.calls k _ _ l1_0 _ _ l1_1 t312 t315 _ ?side1 ?side2 ?side3 ?side4 A14.out).mono ?_
      (case side1 => exact sC (Kd.C_below HR1_0.out HB.out))
      (case side2 => exact HC1_0.out)
      (case side3 => exact sC (Kd.C_below HR1_1.out HB.out))
      (case side4 => exact HC1_1.out)
      rintro e w23 ⟨v313, v316, rfl, ho0, ho1, hb⟩
      refine ⟨_, rfl, ?_⟩
      have n0_ := aS (Kd.R_below (sR HO311.out) hb)
      have n1_ := aS (Kd.R_lower ho0 (below_size (sW HB.out)))
      have n2_ := aS (Kd.R_lower ho1 (below_size (sW HB.out)))
      have n3_ := aS (blk_below (g := gb306) (o := .cells #[.slice A1_0 l1_0.length c1_0, .slice A1_1 l1_1.length c1_1] 32 (0, 0)) (sB BK306.out) hb)
      have n4_ := aS (blk_below (g := gb325) (o := .cells #[.slice none 0 0, .slice none 0 0] 37 (0, 0)) (sB BK325.out) hb)
      have n5_ := aS (below_step (sW HB.out) hb)
      clear HO311 BK306 BK325 HB
      have HO311 := n0_; have HO314 := n1_; have HO317 := n2_; have BK306 := n3_; have BK325 := n4_; have HB := n5_
      clear n0_ n1_ n2_ n3_ n4_ n5_
      (try clear hb); (try clear hb2); (try clear hk); (try clear hi); (try clear ho0); (try clear ho1)
      obtain ⟨Ao24, co24, eo24⟩ := Kd.R_slice HO311.out
      (first | subst eo24 | (injection eo24 with f1_ f2_ f3_; have f4_ := f1_.symm; have f5_ := f3_.symm; clear f1_ f2_ f3_; subst f4_; subst f5_))
      obtain ⟨Ao25, co25, eo25⟩ := Kd.R_slice HO314.out
      (first | subst eo25 | (injection eo25 with f1_ f2_ f3_; have f4_ := f1_.symm; have f5_ := f3_.symm; clear f1_ f2_ f3_; subst f4_; subst f5_))
      obtain ⟨Ao26, co26, eo26⟩ := Kd.R_slice HO317.out
      (first | subst eo26 | (injection eo26 with f1_ f2_ f3_; have f4_ := f1_.symm; have f5_ := f3_.symm; clear f1_ f2_ f3_; subst f4_; subst f5_))
      refine hK.out _ _ ⟨(blk_cell BK306.out 0).trans rfl, (blk_cell BK306.out 1).trans rfl⟩ (fun hHeld => ?_)
      clear hK K
      refine norm_ (a' := ?_) ?_ ?_
      rotate_left
      ·
       show Act.put _ (some 31) _ = _
       simp only [Act.put, List.setIfInBounds_toArray, List.set_cons_zero, List.set_cons_succ, i64_w, i32_w]
       rfl
      refine one_ (i := 4) (N := some 32) #[true, true, true, true, true, false, false, false, true, false, false] rfl rfl (one_of HT_.out (by kernel_rfl)) (by decide) (fun K hK => ?_)
      refine goes_ Try.func33 (by kernel_rfl) rfl #[.slice Ao24 t309.length co24, .agg #[.slice Ao25 t312.length co25, .slice Ao26 t315.length co26]] (by rfl) rfl rfl sG ?_
      with_reducible refine (spec_TurnLine.calls k _ _ t309 _ _ t312 _ _ t315 t318 t321 t324 _ ?side1 ?side2 ?side3 ?side4 ?side5 ?side6 A15.out).mono ?_
      (case side1 => exact sC (Kd.R_reads' HO311.out).2.2)
      (case side2 => exact (Kd.R_reads' HO311.out).2.1)
      (case side3 => exact sC (Kd.R_reads' HO314.out).2.2)
      (case side4 => exact (Kd.R_reads' HO314.out).2.1)
      (case side5 => exact sC (Kd.R_reads' HO317.out).2.2)
      (case side6 => exact (Kd.R_reads' HO317.out).2.1)
      rintro e w27 ⟨v319, v322, rfl, ho0, ho1, hb⟩
      refine ⟨_, rfl, ?_⟩
      have n0_ := aS (Kd.R_below (sR HO311.out) hb)
      have n1_ := aS (Kd.R_elder' (sR HO314.out) (Kd.R_base ho0) hb)
      have n2_ := aS (Kd.R_elder' (sR HO317.out) (Kd.R_base ho1) hb)
      have n3_ := aS (Kd.R_lower (Kd.R_new' ho0 (Kd.R_lt (sR HO314.out))) (below_size (sW HB.out)))
      have n4_ := aS (Kd.R_lower (Kd.R_new' ho1 (Kd.R_lt (sR HO317.out))) (below_size (sW HB.out)))
      have n5_ := aS (blk_below (g := gb306) (o := .cells #[.slice A1_0 l1_0.length c1_0, .slice A1_1 l1_1.length c1_1] 32 (0, 0)) (sB BK306.out) hb)
      have n6_ := aS (blk_below (g := gb325) (o := .cells #[.slice none 0 0, .slice none 0 0] 37 (0, 0)) (sB BK325.out) hb)
      have n7_ := aS (below_step (sW HB.out) hb)
      clear HO311 HO314 HO317 BK306 BK325 HB
      have HO311 := n0_; have HO314 := n1_; have HO317 := n2_; have HO320 := n3_; have HO323 := n4_; have BK306 := n5_; have BK325 := n6_; have HB := n7_
      clear n0_ n1_ n2_ n3_ n4_ n5_ n6_ n7_
      (try clear hb); (try clear hb2); (try clear hk); (try clear hi); (try clear ho0); (try clear ho1)
      refine hK.out _ _ ⟨(blk_cell BK306.out 0).trans rfl, (blk_cell BK306.out 1).trans rfl⟩ (fun hHeld => ?_)
      clear hK K
      refine norm_ (a' := ?_) ?_ ?_
      rotate_left
      ·
       show Act.put _ (some 32) _ = _
       simp only [Act.put, List.setIfInBounds_toArray, List.set_cons_zero, List.set_cons_succ, i64_w, i32_w]
       rfl
      refine pure_ (i := 5) (N := some 27) (v := ?_) (a' := ?_) #[true, true, true, true, true, true, false, false, true, false, false] rfl rfl (any_of HT_.out (by kernel_rfl)) (fun _ _ _ h => h) (Or.inl ⟨by rfl, ?_⟩) ?_ ?_
      rotate_left
      ·
       intro w'
       go_simp
       with_reducible rfl
      rotate_left
      ·
       simp only [Act.put, List.setIfInBounds_toArray, List.set_cons_zero, List.set_cons_succ, i64_w, i32_w]
       rfl
      refine pure_ (i := 6) (N := some 33) (v := ?_) (a' := ?_) #[true, true, true, true, true, true, true, false, true, false, false] rfl rfl (any_of HT_.out (by kernel_rfl)) (fun _ _ _ h => h) (Or.inl ⟨by rfl, ?_⟩) ?_ ?_
      rotate_left
      ·
       intro w'
       go_simp
       with_reducible rfl
      rotate_left
      ·
       simp only [Act.put, List.setIfInBounds_toArray, List.set_cons_zero, List.set_cons_succ, i64_w, i32_w]
       rfl
      refine pure_ (i := 7) (N := some 34) (v := ?_) (a' := ?_) #[true, true, true, true, true, true, true, true, true, false, false] rfl rfl (any_of HT_.out (by kernel_rfl)) (fun _ _ _ h => h) (Or.inl ⟨by rfl, ?_⟩) ?_ ?_
      rotate_left
      ·
       intro w'
       go_simp
       with_reducible rfl
      rotate_left
      ·
       simp only [Act.put, List.setIfInBounds_toArray, List.set_cons_zero, List.set_cons_succ, i64_w, i32_w]
       rfl
      exact norm_ (by simp only [putAll, Act.put, List.setIfInBounds_toArray, List.set_cons_zero, List.set_cons_succ]) (hCont (.slice Ao24 t309.length co24, .slice Ao25 t312.length co25, .slice Ao26 t315.length co26, v319, v322, gb325) _ ⟨hHeld, (sR HO311.out), (sR (Kd.R_mono HO314.out (fun _ hk => hk.2))), (sR (Kd.R_mono HO317.out (fun _ hk => hk.2))), (sR (Kd.R_mono HO320.out (fun _ hk => hk.2))), (sR (Kd.R_mono HO323.out (fun _ hk => hk.2))), (sB BK306.out), (sB BK325.out), GW325.out, GE325.out, NB306_325.out, NB325_306.out, (sW HB.out)⟩)
    ·
     skip
     refine box_step ?hg (N := 6) ?hd (cs := #[.slice none 0 0, .slice none 0 0]) (t := 37) ?hr ?_; (case hd => rfl); (case hg => rfl); (case hr => first | (go_simp; done) | (go_simp; rfl))
     intro gb325 hg w21 hbox hb
     have n0_ := aS (blk_below (g := gb306) (o := .cells #[.slice A1_0 l1_0.length c1_0, .slice A1_1 l1_1.length c1_1] 32 (0, 0)) (sB BK306.out) hb)
     have n1_ := aS (below_step (sW HB.out) hb)
     have n2_ := aS (hbox)
     have n3_ := aS ((by rw [hg]; exact (below_size (sW HB.out)) : w.heap.size ≤ gb325))
     have n4_ := aS ((by rw [hg]; exact (below_size (sW HB.out)) : w.heap.size ≤ gb325))
     have n5_ := aS ((by rw [hg]; exact Nat.ne_of_lt (blk_lt (g := gb306) (o := .cells #[.slice A1_0 l1_0.length c1_0, .slice A1_1 l1_1.length c1_1] 32 (0, 0)) (sB BK306.out)) : gb306 ≠ gb325))
     have n6_ := aS ((by rw [hg]; exact Nat.ne_of_gt (blk_lt (g := gb306) (o := .cells #[.slice A1_0 l1_0.length c1_0, .slice A1_1 l1_1.length c1_1] 32 (0, 0)) (sB BK306.out)) : gb325 ≠ gb306))
     clear BK306 HB
     have BK306 := n0_; have HB := n1_; have BK325 := n2_; have GW325 := n3_; have GE325 := n4_; have NB306_325 := n5_; have NB325_306 := n6_
     clear n0_ n1_ n2_ n3_ n4_ n5_ n6_
     clear hb hbox hg
     refine hK.out _ _ ⟨(blk_cell BK306.out 0).trans rfl, (blk_cell BK306.out 1).trans rfl⟩ (fun hHeld => ?_)
     clear hK K
     refine norm_ (a' := ?_) ?_ ?_
     rotate_left
     ·
      show Act.put _ (some 6) _ = _
      simp only [Act.put, List.setIfInBounds_toArray, List.set_cons_zero, List.set_cons_succ, i64_w, i32_w]
      rfl
     refine one_ (i := 1) (N := some 29) #[true, true, true, false, false, false, false, false, true, false, false] rfl rfl (one_of HT_.out (by kernel_rfl)) (by decide) (fun K hK => ?_)
     refine goes_ Try.func15 (by kernel_rfl) rfl #[.slice A0 l0.length c0] (by rfl) rfl rfl sG ?_
     with_reducible refine (laws_toJoinS.calls k _ _ l0 t309 _ ?side1 ?side2 A13.out).mono ?_
     (case side1 => exact sC (Kd.C_below HR0.out HB.out))
     (case side2 => exact HC0.out)
     rintro e w22 ⟨v310, rfl, ho0, hb⟩
     refine ⟨_, rfl, ?_⟩
     have n0_ := aS (Kd.R_lower ho0 (below_size (sW HB.out)))
     have n1_ := aS (blk_below (g := gb306) (o := .cells #[.slice A1_0 l1_0.length c1_0, .slice A1_1 l1_1.length c1_1] 32 (0, 0)) (sB BK306.out) hb)
     have n2_ := aS (blk_below (g := gb325) (o := .cells #[.slice none 0 0, .slice none 0 0] 37 (0, 0)) (sB BK325.out) hb)
     have n3_ := aS (below_step (sW HB.out) hb)
     clear BK306 BK325 HB
     have HO311 := n0_; have BK306 := n1_; have BK325 := n2_; have HB := n3_
     clear n0_ n1_ n2_ n3_
     (try clear hb); (try clear hb2); (try clear hk); (try clear hi); (try clear ho0)
     refine hK.out _ _ ⟨(blk_cell BK306.out 0).trans rfl, (blk_cell BK306.out 1).trans rfl⟩ (fun hHeld => ?_)
     clear hK K
     refine norm_ (a' := ?_) ?_ ?_
     rotate_left
     ·
      show Act.put _ (some 29) _ = _
      simp only [Act.put, List.setIfInBounds_toArray, List.set_cons_zero, List.set_cons_succ, i64_w, i32_w]
      rfl
     refine one_ (i := 3) (N := some 31) #[true, true, true, true, false, false, false, false, true, false, false] rfl rfl (one_of HT_.out (by kernel_rfl)) (by decide) (fun K hK => ?_)
     refine goes_ Try.func20 (by kernel_rfl) rfl #[.agg #[.slice A1_0 l1_0.length c1_0, .slice A1_1 l1_1.length c1_1]] (by rfl) rfl rfl sG ?_
     with_reducible refine (laws_toLine.calls k _ _ l1_0 _ _ l1_1 t312 t315 _ ?side1 ?side2 ?side3 ?side4 A14.out).mono ?_
     (case side1 => exact sC (Kd.C_below HR1_0.out HB.out))
     (case side2 => exact HC1_0.out)
     (case side3 => exact sC (Kd.C_below HR1_1.out HB.out))
     (case side4 => exact HC1_1.out)
     rintro e w23 ⟨v313, v316, rfl, ho0, ho1, hb⟩
     refine ⟨_, rfl, ?_⟩
     have n0_ := aS (Kd.R_below (sR HO311.out) hb)
     have n1_ := aS (Kd.R_lower ho0 (below_size (sW HB.out)))
     have n2_ := aS (Kd.R_lower ho1 (below_size (sW HB.out)))
     have n3_ := aS (blk_below (g := gb306) (o := .cells #[.slice A1_0 l1_0.length c1_0, .slice A1_1 l1_1.length c1_1] 32 (0, 0)) (sB BK306.out) hb)
     have n4_ := aS (blk_below (g := gb325) (o := .cells #[.slice none 0 0, .slice none 0 0] 37 (0, 0)) (sB BK325.out) hb)
     have n5_ := aS (below_step (sW HB.out) hb)
     clear HO311 BK306 BK325 HB
     have HO311 := n0_; have HO314 := n1_; have HO317 := n2_; have BK306 := n3_; have BK325 := n4_; have HB := n5_
     clear n0_ n1_ n2_ n3_ n4_ n5_
     (try clear hb); (try clear hb2); (try clear hk); (try clear hi); (try clear ho0); (try clear ho1)
     obtain ⟨Ao24, co24, eo24⟩ := Kd.R_slice HO311.out
     (first | subst eo24 | (injection eo24 with f1_ f2_ f3_; have f4_ := f1_.symm; have f5_ := f3_.symm; clear f1_ f2_ f3_; subst f4_; subst f5_))
     obtain ⟨Ao25, co25, eo25⟩ := Kd.R_slice HO314.out
     (first | subst eo25 | (injection eo25 with f1_ f2_ f3_; have f4_ := f1_.symm; have f5_ := f3_.symm; clear f1_ f2_ f3_; subst f4_; subst f5_))
     obtain ⟨Ao26, co26, eo26⟩ := Kd.R_slice HO317.out
     (first | subst eo26 | (injection eo26 with f1_ f2_ f3_; have f4_ := f1_.symm; have f5_ := f3_.symm; clear f1_ f2_ f3_; subst f4_; subst f5_))
     refine hK.out _ _ ⟨(blk_cell BK306.out 0).trans rfl, (blk_cell BK306.out 1).trans rfl⟩ (fun hHeld => ?_)
     clear hK K
     refine norm_ (a' := ?_) ?_ ?_
     rotate_left
     ·
      show Act.put _ (some 31) _ = _
      simp only [Act.put, List.setIfInBounds_toArray, List.set_cons_zero, List.set_cons_succ, i64_w, i32_w]
      rfl
     refine one_ (i := 4) (N := some 32) #[true, true, true, true, true, false, false, false, true, false, false] rfl rfl (one_of HT_.out (by kernel_rfl)) (by decide) (fun K hK => ?_)
     refine goes_ Try.func33 (by kernel_rfl) rfl #[.slice Ao24 t309.length co24, .agg #[.slice Ao25 t312.length co25, .slice Ao26 t315.length co26]] (by rfl) rfl rfl sG ?_
     with_reducible refine (spec_TurnLine.calls k _ _ t309 _ _ t312 _ _ t315 t318 t321 t324 _ ?side1 ?side2 ?side3 ?side4 ?side5 ?side6 A15.out).mono ?_
     (case side1 => exact sC (Kd.R_reads' HO311.out).2.2)
     (case side2 => exact (Kd.R_reads' HO311.out).2.1)
     (case side3 => exact sC (Kd.R_reads' HO314.out).2.2)
     (case side4 => exact (Kd.R_reads' HO314.out).2.1)
     (case side5 => exact sC (Kd.R_reads' HO317.out).2.2)
     (case side6 => exact (Kd.R_reads' HO317.out).2.1)
     rintro e w27 ⟨v319, v322, rfl, ho0, ho1, hb⟩
     refine ⟨_, rfl, ?_⟩
     have n0_ := aS (Kd.R_below (sR HO311.out) hb)
     have n1_ := aS (Kd.R_elder' (sR HO314.out) (Kd.R_base ho0) hb)
     have n2_ := aS (Kd.R_elder' (sR HO317.out) (Kd.R_base ho1) hb)
     have n3_ := aS (Kd.R_lower (Kd.R_new' ho0 (Kd.R_lt (sR HO314.out))) (below_size (sW HB.out)))
     have n4_ := aS (Kd.R_lower (Kd.R_new' ho1 (Kd.R_lt (sR HO317.out))) (below_size (sW HB.out)))
     have n5_ := aS (blk_below (g := gb306) (o := .cells #[.slice A1_0 l1_0.length c1_0, .slice A1_1 l1_1.length c1_1] 32 (0, 0)) (sB BK306.out) hb)
     have n6_ := aS (blk_below (g := gb325) (o := .cells #[.slice none 0 0, .slice none 0 0] 37 (0, 0)) (sB BK325.out) hb)
     have n7_ := aS (below_step (sW HB.out) hb)
     clear HO311 HO314 HO317 BK306 BK325 HB
     have HO311 := n0_; have HO314 := n1_; have HO317 := n2_; have HO320 := n3_; have HO323 := n4_; have BK306 := n5_; have BK325 := n6_; have HB := n7_
     clear n0_ n1_ n2_ n3_ n4_ n5_ n6_ n7_
     (try clear hb); (try clear hb2); (try clear hk); (try clear hi); (try clear ho0); (try clear ho1)
     refine hK.out _ _ ⟨(blk_cell BK306.out 0).trans rfl, (blk_cell BK306.out 1).trans rfl⟩ (fun hHeld => ?_)
     clear hK K
     refine norm_ (a' := ?_) ?_ ?_
     rotate_left
     ·
      show Act.put _ (some 32) _ = _
      simp only [Act.put, List.setIfInBounds_toArray, List.set_cons_zero, List.set_cons_succ, i64_w, i32_w]
      rfl
     refine pure_ (i := 5) (N := some 27) (v := ?_) (a' := ?_) #[true, true, true, true, true, true, false, false, true, false, false] rfl rfl (any_of HT_.out (by kernel_rfl)) (fun _ _ _ h => h) (Or.inl ⟨by rfl, ?_⟩) ?_ ?_
     rotate_left
     ·
      intro w'
      go_simp
      with_reducible rfl
     rotate_left
     ·
      simp only [Act.put, List.setIfInBounds_toArray, List.set_cons_zero, List.set_cons_succ, i64_w, i32_w]
      rfl
     refine pure_ (i := 6) (N := some 33) (v := ?_) (a' := ?_) #[true, true, true, true, true, true, true, false, true, false, false] rfl rfl (any_of HT_.out (by kernel_rfl)) (fun _ _ _ h => h) (Or.inl ⟨by rfl, ?_⟩) ?_ ?_
     rotate_left
     ·
      intro w'
      go_simp
      with_reducible rfl
     rotate_left
     ·
      simp only [Act.put, List.setIfInBounds_toArray, List.set_cons_zero, List.set_cons_succ, i64_w, i32_w]
      rfl
     refine pure_ (i := 7) (N := some 34) (v := ?_) (a' := ?_) #[true, true, true, true, true, true, true, true, true, false, false] rfl rfl (any_of HT_.out (by kernel_rfl)) (fun _ _ _ h => h) (Or.inl ⟨by rfl, ?_⟩) ?_ ?_
     rotate_left
     ·
      intro w'
      go_simp
      with_reducible rfl
     rotate_left
     ·
      simp only [Act.put, List.setIfInBounds_toArray, List.set_cons_zero, List.set_cons_succ, i64_w, i32_w]
      rfl
     exact norm_ (by simp only [putAll, Act.put, List.setIfInBounds_toArray, List.set_cons_zero, List.set_cons_succ]) (hCont (.slice Ao24 t309.length co24, .slice Ao25 t312.length co25, .slice Ao26 t315.length co26, v319, v322, gb325) _ ⟨hHeld, (sR HO311.out), (sR (Kd.R_mono HO314.out (fun _ hk => hk.2))), (sR (Kd.R_mono HO317.out (fun _ hk => hk.2))), (sR (Kd.R_mono HO320.out (fun _ hk => hk.2))), (sR (Kd.R_mono HO323.out (fun _ hk => hk.2))), (sB BK306.out), (sB BK325.out), GW325.out, GE325.out, NB306_325.out, NB325_306.out, (sW HB.out)⟩)
   rintro ⟨v310, v313, v316, v319, v322, gb325⟩ w28 ⟨hS_, h0_, h1_, h2_, h3_, h4_, h5_, h6_, h7_, h8_, h9_, h10_, h11_⟩
   have n0_ : Aside0 (Kd.R k68 68 w28 w.heap.size (fun _ => True) v310 t309) := ⟨h0_⟩
   have n1_ : Aside0 (Kd.R k44 44 w28 w.heap.size (fun k_ => some k_ ≠ (v319 : Value).ownBlock) v313 t312) := ⟨h1_⟩
   have n2_ : Aside0 (Kd.R (Kd.int .i64) 2 w28 w.heap.size (fun k_ => some k_ ≠ (v322 : Value).ownBlock) v316 t315) := ⟨h2_⟩
   have n3_ : Aside0 (Kd.R k44 44 w28 w.heap.size (fun k_ => some k_ ≠ (v313 : Value).ownBlock) v319 t318) := ⟨h3_⟩
   have n4_ : Aside0 (Kd.R (Kd.int .i64) 2 w28 w.heap.size (fun k_ => some k_ ≠ (v316 : Value).ownBlock) v322 t321) := ⟨h4_⟩
   have n5_ : Aside0 (w28.heap[gb306]? = some (.cells #[.slice A1_0 l1_0.length c1_0, .slice A1_1 l1_1.length c1_1] 32 (0, 0))) := ⟨h5_⟩
   have n6_ : Aside0 (w28.heap[gb325]? = some (.cells #[.slice none 0 0, .slice none 0 0] 37 (0, 0))) := ⟨h6_⟩
   have n7_ : Aside0 (w.heap.size ≤ gb325) := ⟨h7_⟩
   have n8_ : Aside0 (w.heap.size ≤ gb325) := ⟨h8_⟩
   have n9_ : Aside0 (gb306 ≠ gb325) := ⟨h9_⟩
   have n10_ : Aside0 (gb325 ≠ gb306) := ⟨h10_⟩
   have n11_ : Aside0 (Below w.heap.size w w28) := ⟨h11_⟩
   clear BK306 HB
   clear h0_ h1_ h2_ h3_ h4_ h5_ h6_ h7_ h8_ h9_ h10_ h11_
   have HO311 := n0_; have HO314 := n1_; have HO317 := n2_; have HO320 := n3_; have HO323 := n4_; have BK306 := n5_; have BK325 := n6_; have GW325 := n7_; have GE325 := n8_; have NB306_325 := n9_; have NB325_306 := n10_; have HB := n11_
   clear n0_ n1_ n2_ n3_ n4_ n5_ n6_ n7_ n8_ n9_ n10_ n11_
   have hHeld : w28.cell? ⟨gb306, 0, none⟩ = some (.slice A1_0 l1_0.length c1_0) ∧ w28.cell? ⟨gb306, 1, none⟩ = some (.slice A1_1 l1_1.length c1_1) := hS_
   obtain ⟨Ao29, co29, eo29⟩ := Kd.R_slice HO320.out
   (first | subst eo29 | (injection eo29 with f1_ f2_ f3_; have f4_ := f1_.symm; have f5_ := f3_.symm; clear f1_ f2_ f3_; subst f4_; subst f5_))
   obtain ⟨Ao31, co31, eo31⟩ := Kd.R_slice HO323.out
   (first | subst eo31 | (injection eo31 with f1_ f2_ f3_; have f4_ := f1_.symm; have f5_ := f3_.symm; clear f1_ f2_ f3_; subst f4_; subst f5_))
   refine norm_ (a' := ?_) ?_ ?_
   rotate_left
   ·
    simp only [putAll, Act.put, List.setIfInBounds_toArray, List.set_cons_zero, List.set_cons_succ]
    rfl
   refine one_ (i := 9) (N := none) #[true, true, true, true, true, true, true, true, true, true, false] rfl rfl (one_of HT_.out (by kernel_rfl)) (by decide) (fun K hK => ?_)
   have hs30 : w28.cell? ⟨gb325, 0, none⟩ = some (.slice none 0 0) := (blk_cell BK325.out 0).trans rfl
   have hfs30 := blk_frozen BK325.out 0
   have hns30_0 := NB306_325.out
   have hms30_0 := NB325_306.out
   have hs32 : w28.cell? ⟨gb325, 1, none⟩ = some (.slice none 0 0) := (blk_cell BK325.out 1).trans rfl
   have hfs32 := blk_frozen BK325.out 1
   have hns32_0 := NB306_325.out
   have hms32_0 := NB325_306.out
   refine skip_ (w1 := ?_) (by rfl) rfl ?_ ?_
   rotate_left
   ·
    go_simp
    rfl
   refine hK.out _ _ ⟨((cell_far (p := ⟨gb325, _, none⟩) NB306_325.out _).trans (((cell_far (p := ⟨gb325, _, none⟩) NB306_325.out _).trans (hHeld.1)))), ((cell_far (p := ⟨gb325, _, none⟩) NB306_325.out _).trans (((cell_far (p := ⟨gb325, _, none⟩) NB306_325.out _).trans (hHeld.2))))⟩ (fun hHeld => ?_)
   clear hK K
   refine pure_ (i := 10) (N := some 7) (v := ?_) (a' := ?_) #[true, true, true, true, true, true, true, true, true, true, true] rfl rfl (any_of HT_.out (by kernel_rfl)) (fun _ _ _ h => h) (Or.inl ⟨by rfl, ?_⟩) ?_ ?_
   rotate_left
   ·
    intro w'
    go_simp
    with_reducible rfl
   rotate_left
   ·
    simp only [Act.put, List.setIfInBounds_toArray, List.set_cons_zero, List.set_cons_succ, i64_w, i32_w]
    rfl
   refine done_ (done_of HT_.out (by kernel_rfl)) ?_
   go_upto_region 12 with (first | ((with_reducible refine gate_callee (f := 15) rfl ?_); refine goesL_ (some 36) rfl rfl Try.func15 (by kernel_rfl) rfl #[.slice A0 l0.length c0] rfl sG ?_; (with_reducible refine (laws_toJoinS.calls k _ _ l0 t326 _ ?side1 ?side2 A16.out).mono ?_); (case side1 => exact Kd.C_below HR0.out (sW HB.out)); (case side2 => exact HC0.out); rintro e w33 ⟨v327, rfl, ho0, hb⟩; refine ⟨_, rfl, ?_⟩; have n0_ := aS (Kd.R_elder' (sR (Kd.R_mono (Kd.R_far (p := ⟨gb325, 1, none⟩) (Kd.R_far (p := ⟨gb325, 0, none⟩) (Kd.R_types HO311.out BK325.out (by decide)) (fun _ hk => hk.2) (.slice Ao29 t318.length co29)) (fun _ hk => hk.2) (.slice Ao31 t321.length co31)) (fun _ h_ => h_.1))) (Kd.R_base ho0) hb); have n1_ := aS (Kd.R_below (sR (Kd.R_mono (Kd.R_far (p := ⟨gb325, 1, none⟩) (Kd.R_far (p := ⟨gb325, 0, none⟩) (Kd.R_types HO314.out BK325.out (by decide)) (fun _ hk => hk.2) (.slice Ao29 t318.length co29)) (fun _ hk => hk.2) (.slice Ao31 t321.length co31)) (fun _ h_ => h_.1))) hb); have n2_ := aS (Kd.R_below (sR (Kd.R_mono (Kd.R_far (p := ⟨gb325, 1, none⟩) (Kd.R_far (p := ⟨gb325, 0, none⟩) (Kd.R_types HO317.out BK325.out (by decide)) (fun _ hk => hk.2) (.slice Ao29 t318.length co29)) (fun _ hk => hk.2) (.slice Ao31 t321.length co31)) (fun _ h_ => h_.1))) hb); have n3_ := aS (Kd.R_below (sR (Kd.R_mono (Kd.R_far (p := ⟨gb325, 1, none⟩) (Kd.R_far (p := ⟨gb325, 0, none⟩) (Kd.R_types HO320.out BK325.out (by decide)) (fun _ hk => hk.2) (.slice Ao29 t318.length co29)) (fun _ hk => hk.2) (.slice Ao31 t321.length co31)) (fun _ h_ => h_.1))) hb); have n4_ := aS (Kd.R_below (sR (Kd.R_mono (Kd.R_far (p := ⟨gb325, 1, none⟩) (Kd.R_far (p := ⟨gb325, 0, none⟩) (Kd.R_types HO323.out BK325.out (by decide)) (fun _ hk => hk.2) (.slice Ao29 t318.length co29)) (fun _ hk => hk.2) (.slice Ao31 t321.length co31)) (fun _ h_ => h_.1))) hb); have n5_ := aS (Kd.R_lower (Kd.R_new' ho0 (Kd.R_lt (sR (Kd.R_mono (Kd.R_far (p := ⟨gb325, 1, none⟩) (Kd.R_far (p := ⟨gb325, 0, none⟩) (Kd.R_types HO311.out BK325.out (by decide)) (fun _ hk => hk.2) (.slice Ao29 t318.length co29)) (fun _ hk => hk.2) (.slice Ao31 t321.length co31)) (fun _ h_ => h_.1))))) (below_size (sW HB.out))); have n6_ := aS (blk_below (g := gb306) (o := .cells #[.slice A1_0 l1_0.length c1_0, .slice A1_1 l1_1.length c1_1] 32 (0, 0)) (by (with_reducible repeat (first | refine blk_drewN ?_ _ | refine blk_drew ?_ | refine blk_alloc ?_ _)); refine blk_far ?_ NB306_325.out _; (with_reducible repeat (first | refine blk_drewN ?_ _ | refine blk_drew ?_ | refine blk_alloc ?_ _)); refine blk_far ?_ NB306_325.out _; (with_reducible repeat (first | refine blk_drewN ?_ _ | refine blk_drew ?_ | refine blk_alloc ?_ _)); exact BK306.out) hb); have n7_ := aS (blk_below (g := gb325) (o := .cells #[.slice Ao29 t318.length co29, .slice Ao31 t321.length co31] 37 (0, 0)) (by (with_reducible repeat (first | refine blk_drewN ?_ _ | refine blk_drew ?_ | refine blk_alloc ?_ _)); refine blk_put (cs := #[.slice Ao29 t318.length co29, .slice none 0 0]) ?_ 1 _ rfl; (with_reducible repeat (first | refine blk_drewN ?_ _ | refine blk_drew ?_ | refine blk_alloc ?_ _)); refine blk_put (cs := #[.slice none 0 0, .slice none 0 0]) ?_ 0 _ rfl; (with_reducible repeat (first | refine blk_drewN ?_ _ | refine blk_drew ?_ | refine blk_alloc ?_ _)); exact BK325.out) hb); have n8_ := aS (below_step (sW HB.out) hb); clear HO311 HO314 HO317 HO320 HO323 BK306 BK325 HB; have HO311 := n0_; have HO314 := n1_; have HO317 := n2_; have HO320 := n3_; have HO323 := n4_; have HO328 := n5_; have BK306 := n6_; have BK325 := n7_; have HB := n8_; clear n0_ n1_ n2_ n3_ n4_ n5_ n6_ n7_ n8_; (try clear hb); (try clear hb2); (try clear hk); (try clear hi); (try clear ho0); have hnb34 := NB306_325.out; have hnc34 := NB325_306.out; have hcz35_0 : w33.cell? ⟨gb306, 0, none⟩ = some (.slice A1_0 l1_0.length c1_0) := (blk_cell BK306.out 0).trans rfl; have hcz35_1 : w33.cell? ⟨gb306, 1, none⟩ = some (.slice A1_1 l1_1.length c1_1) := (blk_cell BK306.out 1).trans rfl; have hfz35_0 := blk_frozen BK306.out 0; have hfz35_1 := blk_frozen BK306.out 1) | ((with_reducible refine gate_callee (f := 20) rfl ?_); refine goesL_ (some 38) rfl rfl Try.func20 (by kernel_rfl) rfl #[.agg #[.slice A1_0 l1_0.length c1_0, .slice A1_1 l1_1.length c1_1]] rfl sG ?_; (with_reducible refine (laws_toLine.calls k _ _ l1_0 _ _ l1_1 t329 t332 _ ?side1 ?side2 ?side3 ?side4 A17.out).mono ?_); (case side1 => exact sC (Kd.C_below HR1_0.out HB.out)); (case side2 => exact HC1_0.out); (case side3 => exact sC (Kd.C_below HR1_1.out HB.out)); (case side4 => exact HC1_1.out); rintro e w36 ⟨v330, v333, rfl, ho0, ho1, hb⟩; refine ⟨_, rfl, ?_⟩; have n0_ := aS (Kd.R_below (sR HO311.out) hb); have n1_ := aS (Kd.R_elder' (sR HO314.out) (Kd.R_base ho0) hb); have n2_ := aS (Kd.R_elder' (sR HO317.out) (Kd.R_base ho1) hb); have n3_ := aS (Kd.R_elder' (sR HO320.out) (Kd.R_base ho0) hb); have n4_ := aS (Kd.R_elder' (sR HO323.out) (Kd.R_base ho1) hb); have n5_ := aS (Kd.R_below (sR HO328.out) hb); have n6_ := aS (Kd.R_lower (Kd.R_new' (Kd.R_new' ho0 (Kd.R_lt (sR HO314.out))) (Kd.R_lt (sR HO320.out))) (below_size (sW HB.out))); have n7_ := aS (Kd.R_lower (Kd.R_new' (Kd.R_new' ho1 (Kd.R_lt (sR HO317.out))) (Kd.R_lt (sR HO323.out))) (below_size (sW HB.out))); have n8_ := aS (blk_below (g := gb306) (o := .cells #[.slice A1_0 l1_0.length c1_0, .slice A1_1 l1_1.length c1_1] 32 (0, 0)) (sB BK306.out) hb); have n9_ := aS (blk_below (g := gb325) (o := .cells #[.slice Ao29 t318.length co29, .slice Ao31 t321.length co31] 37 (0, 0)) (sB BK325.out) hb); have n10_ := aS (below_step (sW HB.out) hb); clear HO311 HO314 HO317 HO320 HO323 HO328 BK306 BK325 HB; have HO311 := n0_; have HO314 := n1_; have HO317 := n2_; have HO320 := n3_; have HO323 := n4_; have HO328 := n5_; have HO331 := n6_; have HO334 := n7_; have BK306 := n8_; have BK325 := n9_; have HB := n10_; clear n0_ n1_ n2_ n3_ n4_ n5_ n6_ n7_ n8_ n9_ n10_; (try clear hb); (try clear hb2); (try clear hk); (try clear hi); (try clear ho0); (try clear ho1)) | ((with_reducible refine gate_dst (N := 9) rfl ?_); refine box_event ?hg (N := 9) ?hd (cs := #[.slice none 0 0, .slice none 0 0]) (t := 37) ?hr ?_; (case hd => rfl); (case hg => rfl); (case hr => first | (go_simp; done) | (go_simp; rfl)); intro gb335 hg w37 hbox hb; have n0_ := aS (Kd.R_below (sR HO311.out) hb); have n1_ := aS (Kd.R_below (sR HO314.out) hb); have n2_ := aS (Kd.R_below (sR HO317.out) hb); have n3_ := aS (Kd.R_below (sR HO320.out) hb); have n4_ := aS (Kd.R_below (sR HO323.out) hb); have n5_ := aS (Kd.R_below (sR HO328.out) hb); have n6_ := aS (Kd.R_below (sR HO331.out) hb); have n7_ := aS (Kd.R_below (sR HO334.out) hb); have n8_ := aS (blk_below (g := gb306) (o := .cells #[.slice A1_0 l1_0.length c1_0, .slice A1_1 l1_1.length c1_1] 32 (0, 0)) (sB BK306.out) hb); have n9_ := aS (blk_below (g := gb325) (o := .cells #[.slice Ao29 t318.length co29, .slice Ao31 t321.length co31] 37 (0, 0)) (sB BK325.out) hb); have n10_ := aS (below_step (sW HB.out) hb); have n11_ := aS (hbox); have n12_ := aS ((by rw [hg]; exact (below_size (sW HB.out)) : w.heap.size ≤ gb335)); have n13_ := aS ((by rw [hg]; exact (below_size (sW HB.out)) : w.heap.size ≤ gb335)); have n14_ := aS ((by rw [hg]; exact Nat.ne_of_lt (blk_lt (g := gb306) (o := .cells #[.slice A1_0 l1_0.length c1_0, .slice A1_1 l1_1.length c1_1] 32 (0, 0)) (sB BK306.out)) : gb306 ≠ gb335)); have n15_ := aS ((by rw [hg]; exact Nat.ne_of_gt (blk_lt (g := gb306) (o := .cells #[.slice A1_0 l1_0.length c1_0, .slice A1_1 l1_1.length c1_1] 32 (0, 0)) (sB BK306.out)) : gb335 ≠ gb306)); have n16_ := aS ((by rw [hg]; exact Nat.ne_of_lt (blk_lt (g := gb325) (o := .cells #[.slice Ao29 t318.length co29, .slice Ao31 t321.length co31] 37 (0, 0)) (sB BK325.out)) : gb325 ≠ gb335)); have n17_ := aS ((by rw [hg]; exact Nat.ne_of_gt (blk_lt (g := gb325) (o := .cells #[.slice Ao29 t318.length co29, .slice Ao31 t321.length co31] 37 (0, 0)) (sB BK325.out)) : gb335 ≠ gb325)); clear HO311 HO314 HO317 HO320 HO323 HO328 HO331 HO334 BK306 BK325 HB; have HO311 := n0_; have HO314 := n1_; have HO317 := n2_; have HO320 := n3_; have HO323 := n4_; have HO328 := n5_; have HO331 := n6_; have HO334 := n7_; have BK306 := n8_; have BK325 := n9_; have HB := n10_; have BK335 := n11_; have GW335 := n12_; have GE335 := n13_; have NB306_335 := n14_; have NB335_306 := n15_; have NB325_335 := n16_; have NB335_325 := n17_; clear n0_ n1_ n2_ n3_ n4_ n5_ n6_ n7_ n8_ n9_ n10_ n11_ n12_ n13_ n14_ n15_ n16_ n17_; clear hb hbox hg; obtain ⟨Ao38, co38, eo38⟩ := Kd.R_slice HO331.out; subst eo38; have hnb39 := NB335_306.out; have hnc39 := NB306_335.out; have hnb40 := NB335_325.out; have hnc40 := NB325_335.out; have hcz41_0 : w37.cell? ⟨gb335, 0, none⟩ = some (.slice none 0 0) := (blk_cell BK335.out 0).trans rfl; have hcz41_1 : w37.cell? ⟨gb335, 1, none⟩ = some (.slice none 0 0) := (blk_cell BK335.out 1).trans rfl; have hfz41_0 := blk_frozen BK335.out 0; have hfz41_1 := blk_frozen BK335.out 1; obtain ⟨Ao42, co42, eo42⟩ := Kd.R_slice HO334.out; subst eo42; obtain ⟨Ao43, co43, eo43⟩ := Kd.R_slice HO328.out; subst eo43) | ((with_reducible refine gate_callee (f := 34) rfl ?_); refine goesL_ (some 42) rfl rfl Try.func34 (by kernel_rfl) rfl #[.slice Ao43 t326.length co43, .agg #[.slice Ao38 t329.length co38, .slice Ao42 t332.length co42]] rfl sG ?_; (with_reducible refine (impl_TurnLine.calls k _ _ t326 _ _ t329 _ _ t332 t336 t339 t342 _ ?side1 ?side2 ?side3 ?side4 ?side5 ?side6 A18.out).mono ?_); (case side1 => refine (Kd.R_reads' (e := 68) (base := w.heap.size) (ok := fun k_ => (True ∧ some k_ ≠ (v310 : Value).ownBlock)) (n := t326.length) (c := co43) ?_).2.2; exact (sR (Kd.R_mono (Kd.R_far (p := ⟨gb335, 1, none⟩) (Kd.R_far (p := ⟨gb335, 0, none⟩) (Kd.R_types HO328.out BK335.out (by decide)) (fun _ hk => hk.2) (.slice Ao38 t329.length co38)) (fun _ hk => hk.2) (.slice Ao42 t332.length co42)) (fun _ h_ => h_.1)))); (case side2 => exact (Kd.R_reads' HO328.out).2.1); (case side3 => refine (Kd.R_reads' (e := 44) (base := w.heap.size) (ok := fun k_ => ((True ∧ some k_ ≠ (v313 : Value).ownBlock) ∧ some k_ ≠ (.slice Ao29 t318.length co29 : Value).ownBlock)) (n := t329.length) (c := co38) ?_).2.2; exact (sR (Kd.R_mono (Kd.R_far (p := ⟨gb335, 1, none⟩) (Kd.R_far (p := ⟨gb335, 0, none⟩) (Kd.R_types HO331.out BK335.out (by decide)) (fun _ hk => hk.2) (.slice Ao38 t329.length co38)) (fun _ hk => hk.2) (.slice Ao42 t332.length co42)) (fun _ h_ => h_.1)))); (case side4 => exact (Kd.R_reads' HO331.out).2.1); (case side5 => refine (Kd.R_reads' (e := 2) (base := w.heap.size) (ok := fun k_ => ((True ∧ some k_ ≠ (v316 : Value).ownBlock) ∧ some k_ ≠ (.slice Ao31 t321.length co31 : Value).ownBlock)) (n := t332.length) (c := co42) ?_).2.2; exact (sR (Kd.R_mono (Kd.R_far (p := ⟨gb335, 1, none⟩) (Kd.R_far (p := ⟨gb335, 0, none⟩) (Kd.R_types HO334.out BK335.out (by decide)) (fun _ hk => hk.2) (.slice Ao38 t329.length co38)) (fun _ hk => hk.2) (.slice Ao42 t332.length co42)) (fun _ h_ => h_.1)))); (case side6 => exact (Kd.R_reads' HO334.out).2.1); rintro e w44 ⟨v337, v340, rfl, ho0, ho1, hb⟩; refine ⟨_, rfl, ?_⟩; have n0_ := aS (Kd.R_below (sR (Kd.R_mono (Kd.R_far (p := ⟨gb335, 1, none⟩) (Kd.R_far (p := ⟨gb335, 0, none⟩) (Kd.R_types HO311.out BK335.out (by decide)) (fun _ hk => hk.2) (.slice Ao38 t329.length co38)) (fun _ hk => hk.2) (.slice Ao42 t332.length co42)) (fun _ h_ => h_.1))) hb); have n1_ := aS (Kd.R_elder' (sR (Kd.R_mono (Kd.R_far (p := ⟨gb335, 1, none⟩) (Kd.R_far (p := ⟨gb335, 0, none⟩) (Kd.R_types HO314.out BK335.out (by decide)) (fun _ hk => hk.2) (.slice Ao38 t329.length co38)) (fun _ hk => hk.2) (.slice Ao42 t332.length co42)) (fun _ h_ => h_.1))) (Kd.R_base ho0) hb); have n2_ := aS (Kd.R_elder' (sR (Kd.R_mono (Kd.R_far (p := ⟨gb335, 1, none⟩) (Kd.R_far (p := ⟨gb335, 0, none⟩) (Kd.R_types HO317.out BK335.out (by decide)) (fun _ hk => hk.2) (.slice Ao38 t329.length co38)) (fun _ hk => hk.2) (.slice Ao42 t332.length co42)) (fun _ h_ => h_.1))) (Kd.R_base ho1) hb); have n3_ := aS (Kd.R_elder' (sR (Kd.R_mono (Kd.R_far (p := ⟨gb335, 1, none⟩) (Kd.R_far (p := ⟨gb335, 0, none⟩) (Kd.R_types HO320.out BK335.out (by decide)) (fun _ hk => hk.2) (.slice Ao38 t329.length co38)) (fun _ hk => hk.2) (.slice Ao42 t332.length co42)) (fun _ h_ => h_.1))) (Kd.R_base ho0) hb); have n4_ := aS (Kd.R_elder' (sR (Kd.R_mono (Kd.R_far (p := ⟨gb335, 1, none⟩) (Kd.R_far (p := ⟨gb335, 0, none⟩) (Kd.R_types HO323.out BK335.out (by decide)) (fun _ hk => hk.2) (.slice Ao38 t329.length co38)) (fun _ hk => hk.2) (.slice Ao42 t332.length co42)) (fun _ h_ => h_.1))) (Kd.R_base ho1) hb); have n5_ := aS (Kd.R_below (sR (Kd.R_mono (Kd.R_far (p := ⟨gb335, 1, none⟩) (Kd.R_far (p := ⟨gb335, 0, none⟩) (Kd.R_types HO328.out BK335.out (by decide)) (fun _ hk => hk.2) (.slice Ao38 t329.length co38)) (fun _ hk => hk.2) (.slice Ao42 t332.length co42)) (fun _ h_ => h_.1))) hb); have n6_ := aS (Kd.R_elder' (sR (Kd.R_mono (Kd.R_far (p := ⟨gb335, 1, none⟩) (Kd.R_far (p := ⟨gb335, 0, none⟩) (Kd.R_types HO331.out BK335.out (by decide)) (fun _ hk => hk.2) (.slice Ao38 t329.length co38)) (fun _ hk => hk.2) (.slice Ao42 t332.length co42)) (fun _ h_ => h_.1))) (Kd.R_base ho0) hb); have n7_ := aS (Kd.R_elder' (sR (Kd.R_mono (Kd.R_far (p := ⟨gb335, 1, none⟩) (Kd.R_far (p := ⟨gb335, 0, none⟩) (Kd.R_types HO334.out BK335.out (by decide)) (fun _ hk => hk.2) (.slice Ao38 t329.length co38)) (fun _ hk => hk.2) (.slice Ao42 t332.length co42)) (fun _ h_ => h_.1))) (Kd.R_base ho1) hb); have n8_ := aS (Kd.R_lower (Kd.R_new' (Kd.R_new' (Kd.R_new' ho0 (Kd.R_lt (sR (Kd.R_mono (Kd.R_far (p := ⟨gb335, 1, none⟩) (Kd.R_far (p := ⟨gb335, 0, none⟩) (Kd.R_types HO314.out BK335.out (by decide)) (fun _ hk => hk.2) (.slice Ao38 t329.length co38)) (fun _ hk => hk.2) (.slice Ao42 t332.length co42)) (fun _ h_ => h_.1))))) (Kd.R_lt (sR (Kd.R_mono (Kd.R_far (p := ⟨gb335, 1, none⟩) (Kd.R_far (p := ⟨gb335, 0, none⟩) (Kd.R_types HO320.out BK335.out (by decide)) (fun _ hk => hk.2) (.slice Ao38 t329.length co38)) (fun _ hk => hk.2) (.slice Ao42 t332.length co42)) (fun _ h_ => h_.1))))) (Kd.R_lt (sR (Kd.R_mono (Kd.R_far (p := ⟨gb335, 1, none⟩) (Kd.R_far (p := ⟨gb335, 0, none⟩) (Kd.R_types HO331.out BK335.out (by decide)) (fun _ hk => hk.2) (.slice Ao38 t329.length co38)) (fun _ hk => hk.2) (.slice Ao42 t332.length co42)) (fun _ h_ => h_.1))))) (below_size (sW HB.out))); have n9_ := aS (Kd.R_lower (Kd.R_new' (Kd.R_new' (Kd.R_new' ho1 (Kd.R_lt (sR (Kd.R_mono (Kd.R_far (p := ⟨gb335, 1, none⟩) (Kd.R_far (p := ⟨gb335, 0, none⟩) (Kd.R_types HO317.out BK335.out (by decide)) (fun _ hk => hk.2) (.slice Ao38 t329.length co38)) (fun _ hk => hk.2) (.slice Ao42 t332.length co42)) (fun _ h_ => h_.1))))) (Kd.R_lt (sR (Kd.R_mono (Kd.R_far (p := ⟨gb335, 1, none⟩) (Kd.R_far (p := ⟨gb335, 0, none⟩) (Kd.R_types HO323.out BK335.out (by decide)) (fun _ hk => hk.2) (.slice Ao38 t329.length co38)) (fun _ hk => hk.2) (.slice Ao42 t332.length co42)) (fun _ h_ => h_.1))))) (Kd.R_lt (sR (Kd.R_mono (Kd.R_far (p := ⟨gb335, 1, none⟩) (Kd.R_far (p := ⟨gb335, 0, none⟩) (Kd.R_types HO334.out BK335.out (by decide)) (fun _ hk => hk.2) (.slice Ao38 t329.length co38)) (fun _ hk => hk.2) (.slice Ao42 t332.length co42)) (fun _ h_ => h_.1))))) (below_size (sW HB.out))); have n10_ := aS (blk_below (g := gb306) (o := .cells #[.slice A1_0 l1_0.length c1_0, .slice A1_1 l1_1.length c1_1] 32 (0, 0)) (by (with_reducible repeat (first | refine blk_drewN ?_ _ | refine blk_drew ?_ | refine blk_alloc ?_ _)); refine blk_far ?_ NB306_335.out _; (with_reducible repeat (first | refine blk_drewN ?_ _ | refine blk_drew ?_ | refine blk_alloc ?_ _)); refine blk_far ?_ NB306_335.out _; (with_reducible repeat (first | refine blk_drewN ?_ _ | refine blk_drew ?_ | refine blk_alloc ?_ _)); exact BK306.out) hb); have n11_ := aS (blk_below (g := gb325) (o := .cells #[.slice Ao29 t318.length co29, .slice Ao31 t321.length co31] 37 (0, 0)) (by (with_reducible repeat (first | refine blk_drewN ?_ _ | refine blk_drew ?_ | refine blk_alloc ?_ _)); refine blk_far ?_ NB325_335.out _; (with_reducible repeat (first | refine blk_drewN ?_ _ | refine blk_drew ?_ | refine blk_alloc ?_ _)); refine blk_far ?_ NB325_335.out _; (with_reducible repeat (first | refine blk_drewN ?_ _ | refine blk_drew ?_ | refine blk_alloc ?_ _)); exact BK325.out) hb); have n12_ := aS (blk_below (g := gb335) (o := .cells #[.slice Ao38 t329.length co38, .slice Ao42 t332.length co42] 37 (0, 0)) (by (with_reducible repeat (first | refine blk_drewN ?_ _ | refine blk_drew ?_ | refine blk_alloc ?_ _)); refine blk_put (cs := #[.slice Ao38 t329.length co38, .slice none 0 0]) ?_ 1 _ rfl; (with_reducible repeat (first | refine blk_drewN ?_ _ | refine blk_drew ?_ | refine blk_alloc ?_ _)); refine blk_put (cs := #[.slice none 0 0, .slice none 0 0]) ?_ 0 _ rfl; (with_reducible repeat (first | refine blk_drewN ?_ _ | refine blk_drew ?_ | refine blk_alloc ?_ _)); exact BK335.out) hb); have n13_ := aS (below_step (sW HB.out) hb); clear HO311 HO314 HO317 HO320 HO323 HO328 HO331 HO334 BK306 BK325 BK335 HB; have HO311 := n0_; have HO314 := n1_; have HO317 := n2_; have HO320 := n3_; have HO323 := n4_; have HO328 := n5_; have HO331 := n6_; have HO334 := n7_; have HO338 := n8_; have HO341 := n9_; have BK306 := n10_; have BK325 := n11_; have BK335 := n12_; have HB := n13_; clear n0_ n1_ n2_ n3_ n4_ n5_ n6_ n7_ n8_ n9_ n10_ n11_ n12_ n13_; (try clear hb); (try clear hb2); (try clear hk); (try clear hi); (try clear ho0); (try clear ho1)) | ((with_reducible refine gate_dst (N := 10) rfl ?_); refine box_event ?hg (N := 10) ?hd (cs := #[.slice none 0 0, .slice none 0 0]) (t := 37) ?hr ?_; (case hd => rfl); (case hg => rfl); (case hr => first | (go_simp; done) | (go_simp; rfl)); intro gb343 hg w45 hbox hb; have n0_ := aS (Kd.R_below (sR HO311.out) hb); have n1_ := aS (Kd.R_below (sR HO314.out) hb); have n2_ := aS (Kd.R_below (sR HO317.out) hb); have n3_ := aS (Kd.R_below (sR HO320.out) hb); have n4_ := aS (Kd.R_below (sR HO323.out) hb); have n5_ := aS (Kd.R_below (sR HO328.out) hb); have n6_ := aS (Kd.R_below (sR HO331.out) hb); have n7_ := aS (Kd.R_below (sR HO334.out) hb); have n8_ := aS (Kd.R_below (sR HO338.out) hb); have n9_ := aS (Kd.R_below (sR HO341.out) hb); have n10_ := aS (blk_below (g := gb306) (o := .cells #[.slice A1_0 l1_0.length c1_0, .slice A1_1 l1_1.length c1_1] 32 (0, 0)) (sB BK306.out) hb); have n11_ := aS (blk_below (g := gb325) (o := .cells #[.slice Ao29 t318.length co29, .slice Ao31 t321.length co31] 37 (0, 0)) (sB BK325.out) hb); have n12_ := aS (blk_below (g := gb335) (o := .cells #[.slice Ao38 t329.length co38, .slice Ao42 t332.length co42] 37 (0, 0)) (sB BK335.out) hb); have n13_ := aS (below_step (sW HB.out) hb); have n14_ := aS (hbox); have n15_ := aS ((by rw [hg]; exact (below_size (sW HB.out)) : w.heap.size ≤ gb343)); have n16_ := aS ((by rw [hg]; exact (below_size (sW HB.out)) : w.heap.size ≤ gb343)); have n17_ := aS ((by rw [hg]; exact Nat.ne_of_lt (blk_lt (g := gb306) (o := .cells #[.slice A1_0 l1_0.length c1_0, .slice A1_1 l1_1.length c1_1] 32 (0, 0)) (sB BK306.out)) : gb306 ≠ gb343)); have n18_ := aS ((by rw [hg]; exact Nat.ne_of_gt (blk_lt (g := gb306) (o := .cells #[.slice A1_0 l1_0.length c1_0, .slice A1_1 l1_1.length c1_1] 32 (0, 0)) (sB BK306.out)) : gb343 ≠ gb306)); have n19_ := aS ((by rw [hg]; exact Nat.ne_of_lt (blk_lt (g := gb325) (o := .cells #[.slice Ao29 t318.length co29, .slice Ao31 t321.length co31] 37 (0, 0)) (sB BK325.out)) : gb325 ≠ gb343)); have n20_ := aS ((by rw [hg]; exact Nat.ne_of_gt (blk_lt (g := gb325) (o := .cells #[.slice Ao29 t318.length co29, .slice Ao31 t321.length co31] 37 (0, 0)) (sB BK325.out)) : gb343 ≠ gb325)); have n21_ := aS ((by rw [hg]; exact Nat.ne_of_lt (blk_lt (g := gb335) (o := .cells #[.slice Ao38 t329.length co38, .slice Ao42 t332.length co42] 37 (0, 0)) (sB BK335.out)) : gb335 ≠ gb343)); have n22_ := aS ((by rw [hg]; exact Nat.ne_of_gt (blk_lt (g := gb335) (o := .cells #[.slice Ao38 t329.length co38, .slice Ao42 t332.length co42] 37 (0, 0)) (sB BK335.out)) : gb343 ≠ gb335)); clear HO311 HO314 HO317 HO320 HO323 HO328 HO331 HO334 HO338 HO341 BK306 BK325 BK335 HB; have HO311 := n0_; have HO314 := n1_; have HO317 := n2_; have HO320 := n3_; have HO323 := n4_; have HO328 := n5_; have HO331 := n6_; have HO334 := n7_; have HO338 := n8_; have HO341 := n9_; have BK306 := n10_; have BK325 := n11_; have BK335 := n12_; have HB := n13_; have BK343 := n14_; have GW343 := n15_; have GE343 := n16_; have NB306_343 := n17_; have NB343_306 := n18_; have NB325_343 := n19_; have NB343_325 := n20_; have NB335_343 := n21_; have NB343_335 := n22_; clear n0_ n1_ n2_ n3_ n4_ n5_ n6_ n7_ n8_ n9_ n10_ n11_ n12_ n13_ n14_ n15_ n16_ n17_ n18_ n19_ n20_ n21_ n22_; clear hb hbox hg; obtain ⟨Ao46, co46, eo46⟩ := Kd.R_slice HO338.out; subst eo46; have hnb47 := NB343_306.out; have hnc47 := NB306_343.out; have hnb48 := NB343_325.out; have hnc48 := NB325_343.out; have hnb49 := NB343_335.out; have hnc49 := NB335_343.out; have hcz50_0 : w45.cell? ⟨gb343, 0, none⟩ = some (.slice none 0 0) := (blk_cell BK343.out 0).trans rfl; have hcz50_1 : w45.cell? ⟨gb343, 1, none⟩ = some (.slice none 0 0) := (blk_cell BK343.out 1).trans rfl; have hfz50_0 := blk_frozen BK343.out 0; have hfz50_1 := blk_frozen BK343.out 1; obtain ⟨Ao51, co51, eo51⟩ := Kd.R_slice HO341.out; subst eo51))
   (try simp only [Act.put, List.setIfInBounds_toArray, List.set_cons_zero, List.set_cons_succ])
   go_cut [53] (fun v53 wc => ∃ (kq : Nat) (x53_18 : Bool), v53 = .bool x53_18 ∧ Aside0 (laws_FnExactTurnLine.j0 kq l0 t324 t326 t342 x53_18 l1_0 l1_1 t318 t321 t329 t332 t336 t339 = some r) ∧ Aside0 (kq ≤ k) ∧ Aside0 (Kd.R k68 68 wc w.heap.size (fun _ => True) (.slice Ao43 t326.length co43) t326) ∧ Aside0 (Kd.R k44 44 wc w.heap.size (fun k_ => some k_ ≠ ((.slice Ao38 t329.length co38) : Value).ownBlock ∧ some k_ ≠ ((.slice Ao46 t336.length co46) : Value).ownBlock) (.slice Ao29 t318.length co29) t318) ∧ Aside0 (Kd.R (Kd.int .i64) 2 wc w.heap.size (fun k_ => some k_ ≠ ((.slice Ao42 t332.length co42) : Value).ownBlock ∧ some k_ ≠ ((.slice Ao51 t339.length co51) : Value).ownBlock) (.slice Ao31 t321.length co31) t321) ∧ Aside0 (Kd.R k44 44 wc w.heap.size (fun k_ => some k_ ≠ ((.slice Ao29 t318.length co29) : Value).ownBlock ∧ some k_ ≠ ((.slice Ao46 t336.length co46) : Value).ownBlock) (.slice Ao38 t329.length co38) t329) ∧ Aside0 (Kd.R (Kd.int .i64) 2 wc w.heap.size (fun k_ => some k_ ≠ ((.slice Ao31 t321.length co31) : Value).ownBlock ∧ some k_ ≠ ((.slice Ao51 t339.length co51) : Value).ownBlock) (.slice Ao42 t332.length co42) t332) ∧ Aside0 (Kd.R k44 44 wc w.heap.size (fun k_ => some k_ ≠ ((.slice Ao29 t318.length co29) : Value).ownBlock ∧ some k_ ≠ ((.slice Ao38 t329.length co38) : Value).ownBlock) (.slice Ao46 t336.length co46) t336) ∧ Aside0 (Kd.R (Kd.int .i64) 2 wc w.heap.size (fun k_ => some k_ ≠ ((.slice Ao31 t321.length co31) : Value).ownBlock ∧ some k_ ≠ ((.slice Ao42 t332.length co42) : Value).ownBlock) (.slice Ao51 t339.length co51) t339) ∧ Aside0 (wc.heap[gb306]? = some (.cells #[(.slice A1_0 l1_0.length c1_0), (.slice A1_1 l1_1.length c1_1)] 32 (0, 0))) ∧ Aside0 (wc.heap[gb325]? = some (.cells #[(.slice Ao29 t318.length co29), (.slice Ao31 t321.length co31)] 37 (0, 0))) ∧ Aside0 (wc.heap[gb335]? = some (.cells #[(.slice Ao38 t329.length co38), (.slice Ao42 t332.length co42)] 37 (0, 0))) ∧ Aside0 (wc.heap[gb343]? = some (.cells #[(.slice Ao46 t336.length co46), (.slice Ao51 t339.length co51)] 37 (0, 0))) ∧ Aside0 (Below w.heap.size w wc))
   case first =>
    have H := HC19.out
    clear HC19
    replace H := Option.bind_eq_some_iff.mp H
    obtain ⟨t344, A520, H⟩ := H
    replace H : (if t344 = true then (laws_FnExactTurnLine.j0 k l0 t324 t326 t342 (t342 != t324) l1_0 l1_1 t318 t321 t329 t332 t336 t339) else (laws_FnExactTurnLine.j0 k l0 t324 t326 t342 true l1_0 l1_1 t318 t321 t329 t332 t336 t339)) = some r := H
    have A52 := aS A520
    clear A520
    by_cases c53 : t344 = true
    ·
     subst c53
     have H1 : (laws_FnExactTurnLine.j0 k l0 t324 t326 t342 (t342 != t324) l1_0 l1_1 t318 t321 t329 t332 t336 t339) = some r := by rw [if_pos rfl] at H; exact H
     clear H
     have H := H1
     clear H1
     have H' := aS H
     clear H
     have hnb54 := NB343_306.out
     have hnc54 := NB306_343.out
     have hnb55 := NB343_325.out
     have hnc55 := NB325_343.out
     have hnb56 := NB343_335.out
     have hnc56 := NB335_343.out
     have hcz57_0 : w45.cell? ⟨gb343, 0, none⟩ = some (.slice none 0 0) := (blk_cell BK343.out 0).trans rfl
     have hcz57_1 : w45.cell? ⟨gb343, 1, none⟩ = some (.slice none 0 0) := (blk_cell BK343.out 1).trans rfl
     have hfz57_0 := blk_frozen BK343.out 0
     have hfz57_1 := blk_frozen BK343.out 1
     have hnb58 := NB325_306.out
     have hnc58 := NB306_325.out
     have hnb59 := NB325_335.out
     have hnc59 := NB335_325.out
     have hcz60_0 : w45.cell? ⟨gb325, 0, none⟩ = some (.slice Ao29 t318.length co29) := (blk_cell BK325.out 0).trans rfl
     have hcz60_1 : w45.cell? ⟨gb325, 1, none⟩ = some (.slice Ao31 t321.length co31) := (blk_cell BK325.out 1).trans rfl
     have hfz60_0 := blk_frozen BK325.out 0
     have hfz60_1 := blk_frozen BK325.out 1
     go_wp2_with (first | ((with_reducible refine gate_callee (f := 22) rfl ?_); refine goesL_ (some 47) rfl rfl Try.func22 (by kernel_rfl) rfl #[.agg #[.slice Ao46 t336.length co46, .slice Ao51 t339.length co51], .agg #[.slice Ao29 t318.length co29, .slice Ao31 t321.length co31]] rfl sG ?_; (with_reducible refine (laws_eqLine.calls k _ _ t336 _ _ t339 _ _ t318 _ _ t321 true _ ?side1 ?side2 ?side3 ?side4 ?side5 ?side6 ?side7 ?side8 A52.out).mono ?_); (case side1 => refine (Kd.R_reads' (e := 44) (base := w.heap.size) (ok := fun k_ => (((True ∧ some k_ ≠ (v313 : Value).ownBlock) ∧ some k_ ≠ (.slice Ao29 t318.length co29 : Value).ownBlock) ∧ some k_ ≠ (.slice Ao38 t329.length co38 : Value).ownBlock)) (n := t336.length) (c := co46) ?_).2.2; exact (sR (Kd.R_mono (Kd.R_far (p := ⟨gb343, 1, none⟩) (Kd.R_far (p := ⟨gb343, 0, none⟩) (Kd.R_types HO338.out BK343.out (by decide)) (fun _ hk => hk.2) (.slice Ao46 t336.length co46)) (fun _ hk => hk.2) (.slice Ao51 t339.length co51)) (fun _ h_ => h_.1)))); (case side2 => exact (Kd.R_reads' HO338.out).2.1); (case side3 => refine (Kd.R_reads' (e := 2) (base := w.heap.size) (ok := fun k_ => (((True ∧ some k_ ≠ (v316 : Value).ownBlock) ∧ some k_ ≠ (.slice Ao31 t321.length co31 : Value).ownBlock) ∧ some k_ ≠ (.slice Ao42 t332.length co42 : Value).ownBlock)) (n := t339.length) (c := co51) ?_).2.2; exact (sR (Kd.R_mono (Kd.R_far (p := ⟨gb343, 1, none⟩) (Kd.R_far (p := ⟨gb343, 0, none⟩) (Kd.R_types HO341.out BK343.out (by decide)) (fun _ hk => hk.2) (.slice Ao46 t336.length co46)) (fun _ hk => hk.2) (.slice Ao51 t339.length co51)) (fun _ h_ => h_.1)))); (case side4 => exact (Kd.R_reads' HO341.out).2.1); (case side5 => refine (Kd.R_reads' (e := 44) (base := w.heap.size) (ok := fun k_ => ((some k_ ≠ (v313 : Value).ownBlock ∧ some k_ ≠ (.slice Ao38 t329.length co38 : Value).ownBlock) ∧ some k_ ≠ (.slice Ao46 t336.length co46 : Value).ownBlock)) (n := t318.length) (c := co29) ?_).2.2; exact (sR (Kd.R_mono (Kd.R_far (p := ⟨gb343, 1, none⟩) (Kd.R_far (p := ⟨gb343, 0, none⟩) (Kd.R_types HO320.out BK343.out (by decide)) (fun _ hk => hk.2) (.slice Ao46 t336.length co46)) (fun _ hk => hk.2) (.slice Ao51 t339.length co51)) (fun _ h_ => h_.1)))); (case side6 => exact (Kd.R_reads' HO320.out).2.1); (case side7 => refine (Kd.R_reads' (e := 2) (base := w.heap.size) (ok := fun k_ => ((some k_ ≠ (v316 : Value).ownBlock ∧ some k_ ≠ (.slice Ao42 t332.length co42 : Value).ownBlock) ∧ some k_ ≠ (.slice Ao51 t339.length co51 : Value).ownBlock)) (n := t321.length) (c := co31) ?_).2.2; exact (sR (Kd.R_mono (Kd.R_far (p := ⟨gb343, 1, none⟩) (Kd.R_far (p := ⟨gb343, 0, none⟩) (Kd.R_types HO323.out BK343.out (by decide)) (fun _ hk => hk.2) (.slice Ao46 t336.length co46)) (fun _ hk => hk.2) (.slice Ao51 t339.length co51)) (fun _ h_ => h_.1)))); (case side8 => exact (Kd.R_reads' HO323.out).2.1); rintro e w61 ⟨rfl, hb⟩; refine ⟨_, rfl, ?_⟩; have n0_ := aS (Kd.R_below (sR (Kd.R_mono (Kd.R_far (p := ⟨gb343, 1, none⟩) (Kd.R_far (p := ⟨gb343, 0, none⟩) (Kd.R_types HO311.out BK343.out (by decide)) (fun _ hk => hk.2) (.slice Ao46 t336.length co46)) (fun _ hk => hk.2) (.slice Ao51 t339.length co51)) (fun _ h_ => h_.1))) hb); have n1_ := aS (Kd.R_below (sR (Kd.R_mono (Kd.R_far (p := ⟨gb343, 1, none⟩) (Kd.R_far (p := ⟨gb343, 0, none⟩) (Kd.R_types HO314.out BK343.out (by decide)) (fun _ hk => hk.2) (.slice Ao46 t336.length co46)) (fun _ hk => hk.2) (.slice Ao51 t339.length co51)) (fun _ h_ => h_.1))) hb); have n2_ := aS (Kd.R_below (sR (Kd.R_mono (Kd.R_far (p := ⟨gb343, 1, none⟩) (Kd.R_far (p := ⟨gb343, 0, none⟩) (Kd.R_types HO317.out BK343.out (by decide)) (fun _ hk => hk.2) (.slice Ao46 t336.length co46)) (fun _ hk => hk.2) (.slice Ao51 t339.length co51)) (fun _ h_ => h_.1))) hb); have n3_ := aS (Kd.R_below (sR (Kd.R_mono (Kd.R_far (p := ⟨gb343, 1, none⟩) (Kd.R_far (p := ⟨gb343, 0, none⟩) (Kd.R_types HO320.out BK343.out (by decide)) (fun _ hk => hk.2) (.slice Ao46 t336.length co46)) (fun _ hk => hk.2) (.slice Ao51 t339.length co51)) (fun _ h_ => h_.1))) hb); have n4_ := aS (Kd.R_below (sR (Kd.R_mono (Kd.R_far (p := ⟨gb343, 1, none⟩) (Kd.R_far (p := ⟨gb343, 0, none⟩) (Kd.R_types HO323.out BK343.out (by decide)) (fun _ hk => hk.2) (.slice Ao46 t336.length co46)) (fun _ hk => hk.2) (.slice Ao51 t339.length co51)) (fun _ h_ => h_.1))) hb); have n5_ := aS (Kd.R_below (sR (Kd.R_mono (Kd.R_far (p := ⟨gb343, 1, none⟩) (Kd.R_far (p := ⟨gb343, 0, none⟩) (Kd.R_types HO328.out BK343.out (by decide)) (fun _ hk => hk.2) (.slice Ao46 t336.length co46)) (fun _ hk => hk.2) (.slice Ao51 t339.length co51)) (fun _ h_ => h_.1))) hb); have n6_ := aS (Kd.R_below (sR (Kd.R_mono (Kd.R_far (p := ⟨gb343, 1, none⟩) (Kd.R_far (p := ⟨gb343, 0, none⟩) (Kd.R_types HO331.out BK343.out (by decide)) (fun _ hk => hk.2) (.slice Ao46 t336.length co46)) (fun _ hk => hk.2) (.slice Ao51 t339.length co51)) (fun _ h_ => h_.1))) hb); have n7_ := aS (Kd.R_below (sR (Kd.R_mono (Kd.R_far (p := ⟨gb343, 1, none⟩) (Kd.R_far (p := ⟨gb343, 0, none⟩) (Kd.R_types HO334.out BK343.out (by decide)) (fun _ hk => hk.2) (.slice Ao46 t336.length co46)) (fun _ hk => hk.2) (.slice Ao51 t339.length co51)) (fun _ h_ => h_.1))) hb); have n8_ := aS (Kd.R_below (sR (Kd.R_mono (Kd.R_far (p := ⟨gb343, 1, none⟩) (Kd.R_far (p := ⟨gb343, 0, none⟩) (Kd.R_types HO338.out BK343.out (by decide)) (fun _ hk => hk.2) (.slice Ao46 t336.length co46)) (fun _ hk => hk.2) (.slice Ao51 t339.length co51)) (fun _ h_ => h_.1))) hb); have n9_ := aS (Kd.R_below (sR (Kd.R_mono (Kd.R_far (p := ⟨gb343, 1, none⟩) (Kd.R_far (p := ⟨gb343, 0, none⟩) (Kd.R_types HO341.out BK343.out (by decide)) (fun _ hk => hk.2) (.slice Ao46 t336.length co46)) (fun _ hk => hk.2) (.slice Ao51 t339.length co51)) (fun _ h_ => h_.1))) hb); have n10_ := aS (blk_below (g := gb306) (o := .cells #[.slice A1_0 l1_0.length c1_0, .slice A1_1 l1_1.length c1_1] 32 (0, 0)) (by (with_reducible repeat (first | refine blk_drewN ?_ _ | refine blk_drew ?_ | refine blk_alloc ?_ _)); refine blk_far ?_ NB306_343.out _; (with_reducible repeat (first | refine blk_drewN ?_ _ | refine blk_drew ?_ | refine blk_alloc ?_ _)); refine blk_far ?_ NB306_343.out _; (with_reducible repeat (first | refine blk_drewN ?_ _ | refine blk_drew ?_ | refine blk_alloc ?_ _)); exact BK306.out) hb); have n11_ := aS (blk_below (g := gb325) (o := .cells #[.slice Ao29 t318.length co29, .slice Ao31 t321.length co31] 37 (0, 0)) (by (with_reducible repeat (first | refine blk_drewN ?_ _ | refine blk_drew ?_ | refine blk_alloc ?_ _)); refine blk_far ?_ NB325_343.out _; (with_reducible repeat (first | refine blk_drewN ?_ _ | refine blk_drew ?_ | refine blk_alloc ?_ _)); refine blk_far ?_ NB325_343.out _; (with_reducible repeat (first | refine blk_drewN ?_ _ | refine blk_drew ?_ | refine blk_alloc ?_ _)); exact BK325.out) hb); have n12_ := aS (blk_below (g := gb335) (o := .cells #[.slice Ao38 t329.length co38, .slice Ao42 t332.length co42] 37 (0, 0)) (by (with_reducible repeat (first | refine blk_drewN ?_ _ | refine blk_drew ?_ | refine blk_alloc ?_ _)); refine blk_far ?_ NB335_343.out _; (with_reducible repeat (first | refine blk_drewN ?_ _ | refine blk_drew ?_ | refine blk_alloc ?_ _)); refine blk_far ?_ NB335_343.out _; (with_reducible repeat (first | refine blk_drewN ?_ _ | refine blk_drew ?_ | refine blk_alloc ?_ _)); exact BK335.out) hb); have n13_ := aS (blk_below (g := gb343) (o := .cells #[.slice Ao46 t336.length co46, .slice Ao51 t339.length co51] 37 (0, 0)) (by (with_reducible repeat (first | refine blk_drewN ?_ _ | refine blk_drew ?_ | refine blk_alloc ?_ _)); refine blk_put (cs := #[.slice Ao46 t336.length co46, .slice none 0 0]) ?_ 1 _ rfl; (with_reducible repeat (first | refine blk_drewN ?_ _ | refine blk_drew ?_ | refine blk_alloc ?_ _)); refine blk_put (cs := #[.slice none 0 0, .slice none 0 0]) ?_ 0 _ rfl; (with_reducible repeat (first | refine blk_drewN ?_ _ | refine blk_drew ?_ | refine blk_alloc ?_ _)); exact BK343.out) hb); have n14_ := aS (below_step (sW HB.out) hb); clear HO311 HO314 HO317 HO320 HO323 HO328 HO331 HO334 HO338 HO341 BK306 BK325 BK335 BK343 HB; have HO311 := n0_; have HO314 := n1_; have HO317 := n2_; have HO320 := n3_; have HO323 := n4_; have HO328 := n5_; have HO331 := n6_; have HO334 := n7_; have HO338 := n8_; have HO341 := n9_; have BK306 := n10_; have BK325 := n11_; have BK335 := n12_; have BK343 := n13_; have HB := n14_; clear n0_ n1_ n2_ n3_ n4_ n5_ n6_ n7_ n8_ n9_ n10_ n11_ n12_ n13_ n14_; (try clear hb); (try clear hb2); (try clear hk); (try clear hi)))
     go_meet
     case rel => exact ⟨_, ((t342 != t324)), (by first | rfl | (simp; done) | (simp [*]; done) | (simp only [i64_w]; done) | (simp [i64_w]; done)), H', ⟨by first | omega | exact Nat.le_refl _⟩, ⟨by (with_reducible repeat (first | apply Kd.R_alloc | apply Kd.R_drewN | apply Kd.R_drew)); exact Kd.R_mono HO328.out (fun _ hk => trivial)⟩, ⟨by (with_reducible repeat (first | apply Kd.R_alloc | apply Kd.R_drewN | apply Kd.R_drew)); exact Kd.R_mono HO320.out (fun _ hk => ⟨hk.1.2, hk.2⟩)⟩, ⟨by (with_reducible repeat (first | apply Kd.R_alloc | apply Kd.R_drewN | apply Kd.R_drew)); exact Kd.R_mono HO323.out (fun _ hk => ⟨hk.1.2, hk.2⟩)⟩, ⟨by (with_reducible repeat (first | apply Kd.R_alloc | apply Kd.R_drewN | apply Kd.R_drew)); exact Kd.R_mono HO331.out (fun _ hk => ⟨hk.1.2, hk.2⟩)⟩, ⟨by (with_reducible repeat (first | apply Kd.R_alloc | apply Kd.R_drewN | apply Kd.R_drew)); exact Kd.R_mono HO334.out (fun _ hk => ⟨hk.1.2, hk.2⟩)⟩, ⟨by (with_reducible repeat (first | apply Kd.R_alloc | apply Kd.R_drewN | apply Kd.R_drew)); exact Kd.R_mono HO338.out (fun _ hk => ⟨hk.1.2, hk.2⟩)⟩, ⟨by (with_reducible repeat (first | apply Kd.R_alloc | apply Kd.R_drewN | apply Kd.R_drew)); exact Kd.R_mono HO341.out (fun _ hk => ⟨hk.1.2, hk.2⟩)⟩, ⟨by (with_reducible repeat (first | refine blk_drewN ?_ _ | refine blk_drew ?_ | refine blk_alloc ?_ _)); exact BK306.out⟩, ⟨by (with_reducible repeat (first | refine blk_drewN ?_ _ | refine blk_drew ?_ | refine blk_alloc ?_ _)); exact BK325.out⟩, ⟨by (with_reducible repeat (first | refine blk_drewN ?_ _ | refine blk_drew ?_ | refine blk_alloc ?_ _)); exact BK335.out⟩, ⟨by (with_reducible repeat (first | refine blk_drewN ?_ _ | refine blk_drew ?_ | refine blk_alloc ?_ _)); exact BK343.out⟩, ⟨by repeat (first | (with_reducible first | exact HB.out | apply below_alloc | apply pw_below_drewN | apply below_drew1 | refine below_set ?_ GE306.out | refine below_set ?_ GE325.out | refine below_set ?_ GE335.out | refine below_set ?_ GE343.out) | exact HB.out)⟩⟩
    ·
     replace c53 := Bool.eq_false_iff.mpr c53
     subst c53
     have H1 : (laws_FnExactTurnLine.j0 k l0 t324 t326 t342 true l1_0 l1_1 t318 t321 t329 t332 t336 t339) = some r := by rw [if_neg (show ¬ (false = true) by decide)] at H; exact H
     clear H
     have H := H1
     clear H1
     have H' := aS H
     clear H
     have hnb62 := NB343_306.out
     have hnc62 := NB306_343.out
     have hnb63 := NB343_325.out
     have hnc63 := NB325_343.out
     have hnb64 := NB343_335.out
     have hnc64 := NB335_343.out
     have hcz65_0 : w45.cell? ⟨gb343, 0, none⟩ = some (.slice none 0 0) := (blk_cell BK343.out 0).trans rfl
     have hcz65_1 : w45.cell? ⟨gb343, 1, none⟩ = some (.slice none 0 0) := (blk_cell BK343.out 1).trans rfl
     have hfz65_0 := blk_frozen BK343.out 0
     have hfz65_1 := blk_frozen BK343.out 1
     have hnb66 := NB325_306.out
     have hnc66 := NB306_325.out
     have hnb67 := NB325_335.out
     have hnc67 := NB335_325.out
     have hcz68_0 : w45.cell? ⟨gb325, 0, none⟩ = some (.slice Ao29 t318.length co29) := (blk_cell BK325.out 0).trans rfl
     have hcz68_1 : w45.cell? ⟨gb325, 1, none⟩ = some (.slice Ao31 t321.length co31) := (blk_cell BK325.out 1).trans rfl
     have hfz68_0 := blk_frozen BK325.out 0
     have hfz68_1 := blk_frozen BK325.out 1
     go_wp2_with (first | ((with_reducible refine gate_callee (f := 22) rfl ?_); refine goesL_ (some 47) rfl rfl Try.func22 (by kernel_rfl) rfl #[.agg #[.slice Ao46 t336.length co46, .slice Ao51 t339.length co51], .agg #[.slice Ao29 t318.length co29, .slice Ao31 t321.length co31]] rfl sG ?_; (with_reducible refine (laws_eqLine.calls k _ _ t336 _ _ t339 _ _ t318 _ _ t321 false _ ?side1 ?side2 ?side3 ?side4 ?side5 ?side6 ?side7 ?side8 A52.out).mono ?_); (case side1 => refine (Kd.R_reads' (e := 44) (base := w.heap.size) (ok := fun k_ => (((True ∧ some k_ ≠ (v313 : Value).ownBlock) ∧ some k_ ≠ (.slice Ao29 t318.length co29 : Value).ownBlock) ∧ some k_ ≠ (.slice Ao38 t329.length co38 : Value).ownBlock)) (n := t336.length) (c := co46) ?_).2.2; exact (sR (Kd.R_mono (Kd.R_far (p := ⟨gb343, 1, none⟩) (Kd.R_far (p := ⟨gb343, 0, none⟩) (Kd.R_types HO338.out BK343.out (by decide)) (fun _ hk => hk.2) (.slice Ao46 t336.length co46)) (fun _ hk => hk.2) (.slice Ao51 t339.length co51)) (fun _ h_ => h_.1)))); (case side2 => exact (Kd.R_reads' HO338.out).2.1); (case side3 => refine (Kd.R_reads' (e := 2) (base := w.heap.size) (ok := fun k_ => (((True ∧ some k_ ≠ (v316 : Value).ownBlock) ∧ some k_ ≠ (.slice Ao31 t321.length co31 : Value).ownBlock) ∧ some k_ ≠ (.slice Ao42 t332.length co42 : Value).ownBlock)) (n := t339.length) (c := co51) ?_).2.2; exact (sR (Kd.R_mono (Kd.R_far (p := ⟨gb343, 1, none⟩) (Kd.R_far (p := ⟨gb343, 0, none⟩) (Kd.R_types HO341.out BK343.out (by decide)) (fun _ hk => hk.2) (.slice Ao46 t336.length co46)) (fun _ hk => hk.2) (.slice Ao51 t339.length co51)) (fun _ h_ => h_.1)))); (case side4 => exact (Kd.R_reads' HO341.out).2.1); (case side5 => refine (Kd.R_reads' (e := 44) (base := w.heap.size) (ok := fun k_ => ((some k_ ≠ (v313 : Value).ownBlock ∧ some k_ ≠ (.slice Ao38 t329.length co38 : Value).ownBlock) ∧ some k_ ≠ (.slice Ao46 t336.length co46 : Value).ownBlock)) (n := t318.length) (c := co29) ?_).2.2; exact (sR (Kd.R_mono (Kd.R_far (p := ⟨gb343, 1, none⟩) (Kd.R_far (p := ⟨gb343, 0, none⟩) (Kd.R_types HO320.out BK343.out (by decide)) (fun _ hk => hk.2) (.slice Ao46 t336.length co46)) (fun _ hk => hk.2) (.slice Ao51 t339.length co51)) (fun _ h_ => h_.1)))); (case side6 => exact (Kd.R_reads' HO320.out).2.1); (case side7 => refine (Kd.R_reads' (e := 2) (base := w.heap.size) (ok := fun k_ => ((some k_ ≠ (v316 : Value).ownBlock ∧ some k_ ≠ (.slice Ao42 t332.length co42 : Value).ownBlock) ∧ some k_ ≠ (.slice Ao51 t339.length co51 : Value).ownBlock)) (n := t321.length) (c := co31) ?_).2.2; exact (sR (Kd.R_mono (Kd.R_far (p := ⟨gb343, 1, none⟩) (Kd.R_far (p := ⟨gb343, 0, none⟩) (Kd.R_types HO323.out BK343.out (by decide)) (fun _ hk => hk.2) (.slice Ao46 t336.length co46)) (fun _ hk => hk.2) (.slice Ao51 t339.length co51)) (fun _ h_ => h_.1)))); (case side8 => exact (Kd.R_reads' HO323.out).2.1); rintro e w69 ⟨rfl, hb⟩; refine ⟨_, rfl, ?_⟩; have n0_ := aS (Kd.R_below (sR (Kd.R_mono (Kd.R_far (p := ⟨gb343, 1, none⟩) (Kd.R_far (p := ⟨gb343, 0, none⟩) (Kd.R_types HO311.out BK343.out (by decide)) (fun _ hk => hk.2) (.slice Ao46 t336.length co46)) (fun _ hk => hk.2) (.slice Ao51 t339.length co51)) (fun _ h_ => h_.1))) hb); have n1_ := aS (Kd.R_below (sR (Kd.R_mono (Kd.R_far (p := ⟨gb343, 1, none⟩) (Kd.R_far (p := ⟨gb343, 0, none⟩) (Kd.R_types HO314.out BK343.out (by decide)) (fun _ hk => hk.2) (.slice Ao46 t336.length co46)) (fun _ hk => hk.2) (.slice Ao51 t339.length co51)) (fun _ h_ => h_.1))) hb); have n2_ := aS (Kd.R_below (sR (Kd.R_mono (Kd.R_far (p := ⟨gb343, 1, none⟩) (Kd.R_far (p := ⟨gb343, 0, none⟩) (Kd.R_types HO317.out BK343.out (by decide)) (fun _ hk => hk.2) (.slice Ao46 t336.length co46)) (fun _ hk => hk.2) (.slice Ao51 t339.length co51)) (fun _ h_ => h_.1))) hb); have n3_ := aS (Kd.R_below (sR (Kd.R_mono (Kd.R_far (p := ⟨gb343, 1, none⟩) (Kd.R_far (p := ⟨gb343, 0, none⟩) (Kd.R_types HO320.out BK343.out (by decide)) (fun _ hk => hk.2) (.slice Ao46 t336.length co46)) (fun _ hk => hk.2) (.slice Ao51 t339.length co51)) (fun _ h_ => h_.1))) hb); have n4_ := aS (Kd.R_below (sR (Kd.R_mono (Kd.R_far (p := ⟨gb343, 1, none⟩) (Kd.R_far (p := ⟨gb343, 0, none⟩) (Kd.R_types HO323.out BK343.out (by decide)) (fun _ hk => hk.2) (.slice Ao46 t336.length co46)) (fun _ hk => hk.2) (.slice Ao51 t339.length co51)) (fun _ h_ => h_.1))) hb); have n5_ := aS (Kd.R_below (sR (Kd.R_mono (Kd.R_far (p := ⟨gb343, 1, none⟩) (Kd.R_far (p := ⟨gb343, 0, none⟩) (Kd.R_types HO328.out BK343.out (by decide)) (fun _ hk => hk.2) (.slice Ao46 t336.length co46)) (fun _ hk => hk.2) (.slice Ao51 t339.length co51)) (fun _ h_ => h_.1))) hb); have n6_ := aS (Kd.R_below (sR (Kd.R_mono (Kd.R_far (p := ⟨gb343, 1, none⟩) (Kd.R_far (p := ⟨gb343, 0, none⟩) (Kd.R_types HO331.out BK343.out (by decide)) (fun _ hk => hk.2) (.slice Ao46 t336.length co46)) (fun _ hk => hk.2) (.slice Ao51 t339.length co51)) (fun _ h_ => h_.1))) hb); have n7_ := aS (Kd.R_below (sR (Kd.R_mono (Kd.R_far (p := ⟨gb343, 1, none⟩) (Kd.R_far (p := ⟨gb343, 0, none⟩) (Kd.R_types HO334.out BK343.out (by decide)) (fun _ hk => hk.2) (.slice Ao46 t336.length co46)) (fun _ hk => hk.2) (.slice Ao51 t339.length co51)) (fun _ h_ => h_.1))) hb); have n8_ := aS (Kd.R_below (sR (Kd.R_mono (Kd.R_far (p := ⟨gb343, 1, none⟩) (Kd.R_far (p := ⟨gb343, 0, none⟩) (Kd.R_types HO338.out BK343.out (by decide)) (fun _ hk => hk.2) (.slice Ao46 t336.length co46)) (fun _ hk => hk.2) (.slice Ao51 t339.length co51)) (fun _ h_ => h_.1))) hb); have n9_ := aS (Kd.R_below (sR (Kd.R_mono (Kd.R_far (p := ⟨gb343, 1, none⟩) (Kd.R_far (p := ⟨gb343, 0, none⟩) (Kd.R_types HO341.out BK343.out (by decide)) (fun _ hk => hk.2) (.slice Ao46 t336.length co46)) (fun _ hk => hk.2) (.slice Ao51 t339.length co51)) (fun _ h_ => h_.1))) hb); have n10_ := aS (blk_below (g := gb306) (o := .cells #[.slice A1_0 l1_0.length c1_0, .slice A1_1 l1_1.length c1_1] 32 (0, 0)) (by (with_reducible repeat (first | refine blk_drewN ?_ _ | refine blk_drew ?_ | refine blk_alloc ?_ _)); refine blk_far ?_ NB306_343.out _; (with_reducible repeat (first | refine blk_drewN ?_ _ | refine blk_drew ?_ | refine blk_alloc ?_ _)); refine blk_far ?_ NB306_343.out _; (with_reducible repeat (first | refine blk_drewN ?_ _ | refine blk_drew ?_ | refine blk_alloc ?_ _)); exact BK306.out) hb); have n11_ := aS (blk_below (g := gb325) (o := .cells #[.slice Ao29 t318.length co29, .slice Ao31 t321.length co31] 37 (0, 0)) (by (with_reducible repeat (first | refine blk_drewN ?_ _ | refine blk_drew ?_ | refine blk_alloc ?_ _)); refine blk_far ?_ NB325_343.out _; (with_reducible repeat (first | refine blk_drewN ?_ _ | refine blk_drew ?_ | refine blk_alloc ?_ _)); refine blk_far ?_ NB325_343.out _; (with_reducible repeat (first | refine blk_drewN ?_ _ | refine blk_drew ?_ | refine blk_alloc ?_ _)); exact BK325.out) hb); have n12_ := aS (blk_below (g := gb335) (o := .cells #[.slice Ao38 t329.length co38, .slice Ao42 t332.length co42] 37 (0, 0)) (by (with_reducible repeat (first | refine blk_drewN ?_ _ | refine blk_drew ?_ | refine blk_alloc ?_ _)); refine blk_far ?_ NB335_343.out _; (with_reducible repeat (first | refine blk_drewN ?_ _ | refine blk_drew ?_ | refine blk_alloc ?_ _)); refine blk_far ?_ NB335_343.out _; (with_reducible repeat (first | refine blk_drewN ?_ _ | refine blk_drew ?_ | refine blk_alloc ?_ _)); exact BK335.out) hb); have n13_ := aS (blk_below (g := gb343) (o := .cells #[.slice Ao46 t336.length co46, .slice Ao51 t339.length co51] 37 (0, 0)) (by (with_reducible repeat (first | refine blk_drewN ?_ _ | refine blk_drew ?_ | refine blk_alloc ?_ _)); refine blk_put (cs := #[.slice Ao46 t336.length co46, .slice none 0 0]) ?_ 1 _ rfl; (with_reducible repeat (first | refine blk_drewN ?_ _ | refine blk_drew ?_ | refine blk_alloc ?_ _)); refine blk_put (cs := #[.slice none 0 0, .slice none 0 0]) ?_ 0 _ rfl; (with_reducible repeat (first | refine blk_drewN ?_ _ | refine blk_drew ?_ | refine blk_alloc ?_ _)); exact BK343.out) hb); have n14_ := aS (below_step (sW HB.out) hb); clear HO311 HO314 HO317 HO320 HO323 HO328 HO331 HO334 HO338 HO341 BK306 BK325 BK335 BK343 HB; have HO311 := n0_; have HO314 := n1_; have HO317 := n2_; have HO320 := n3_; have HO323 := n4_; have HO328 := n5_; have HO331 := n6_; have HO334 := n7_; have HO338 := n8_; have HO341 := n9_; have BK306 := n10_; have BK325 := n11_; have BK335 := n12_; have BK343 := n13_; have HB := n14_; clear n0_ n1_ n2_ n3_ n4_ n5_ n6_ n7_ n8_ n9_ n10_ n11_ n12_ n13_ n14_; (try clear hb); (try clear hb2); (try clear hk); (try clear hi)))
     go_meet
     case rel => exact ⟨_, (true), (by first | rfl | (simp; done) | (simp [*]; done) | (simp only [i64_w]; done) | (simp [i64_w]; done)), H', ⟨by first | omega | exact Nat.le_refl _⟩, ⟨by (with_reducible repeat (first | apply Kd.R_alloc | apply Kd.R_drewN | apply Kd.R_drew)); exact Kd.R_mono HO328.out (fun _ hk => trivial)⟩, ⟨by (with_reducible repeat (first | apply Kd.R_alloc | apply Kd.R_drewN | apply Kd.R_drew)); exact Kd.R_mono HO320.out (fun _ hk => ⟨hk.1.2, hk.2⟩)⟩, ⟨by (with_reducible repeat (first | apply Kd.R_alloc | apply Kd.R_drewN | apply Kd.R_drew)); exact Kd.R_mono HO323.out (fun _ hk => ⟨hk.1.2, hk.2⟩)⟩, ⟨by (with_reducible repeat (first | apply Kd.R_alloc | apply Kd.R_drewN | apply Kd.R_drew)); exact Kd.R_mono HO331.out (fun _ hk => ⟨hk.1.2, hk.2⟩)⟩, ⟨by (with_reducible repeat (first | apply Kd.R_alloc | apply Kd.R_drewN | apply Kd.R_drew)); exact Kd.R_mono HO334.out (fun _ hk => ⟨hk.1.2, hk.2⟩)⟩, ⟨by (with_reducible repeat (first | apply Kd.R_alloc | apply Kd.R_drewN | apply Kd.R_drew)); exact Kd.R_mono HO338.out (fun _ hk => ⟨hk.1.2, hk.2⟩)⟩, ⟨by (with_reducible repeat (first | apply Kd.R_alloc | apply Kd.R_drewN | apply Kd.R_drew)); exact Kd.R_mono HO341.out (fun _ hk => ⟨hk.1.2, hk.2⟩)⟩, ⟨by (with_reducible repeat (first | refine blk_drewN ?_ _ | refine blk_drew ?_ | refine blk_alloc ?_ _)); exact BK306.out⟩, ⟨by (with_reducible repeat (first | refine blk_drewN ?_ _ | refine blk_drew ?_ | refine blk_alloc ?_ _)); exact BK325.out⟩, ⟨by (with_reducible repeat (first | refine blk_drewN ?_ _ | refine blk_drew ?_ | refine blk_alloc ?_ _)); exact BK335.out⟩, ⟨by (with_reducible repeat (first | refine blk_drewN ?_ _ | refine blk_drew ?_ | refine blk_alloc ?_ _)); exact BK343.out⟩, ⟨by repeat (first | (with_reducible first | exact HB.out | apply below_alloc | apply pw_below_drewN | apply below_drew1 | refine below_set ?_ GE306.out | refine below_set ?_ GE325.out | refine below_set ?_ GE335.out | refine below_set ?_ GE343.out) | exact HB.out)⟩⟩
   case rest =>
    clear HC19
    (try clear c1); (try clear c2); (try clear p2); (try clear c3); (try clear c4); (try clear c5); (try clear c6); (try clear c15); (try clear c20); (try clear c22); (try clear c33); (try clear c34); (try clear c39); (try clear c40); (try clear c47); (try clear c48); (try clear c49); (try clear c53); (try clear c54); (try clear c55); (try clear c56); (try clear c58); (try clear c59); (try clear c62); (try clear c63); (try clear c64); (try clear c66); (try clear c67); (try clear hcz35_0); (try clear hcz35_1); (try clear hcz41_0); (try clear hcz41_1); (try clear hcz50_0); (try clear hcz50_1); (try clear hcz57_0); (try clear hcz57_1); (try clear hcz60_0); (try clear hcz60_1); (try clear hcz65_0); (try clear hcz65_1); (try clear hcz68_0); (try clear hcz68_1); (try clear hfz35_0); (try clear hfz35_1); (try clear hfz41_0); (try clear hfz41_1); (try clear hfz50_0); (try clear hfz50_1); (try clear hfz57_0); (try clear hfz57_1); (try clear hfz60_0); (try clear hfz60_1); (try clear hfz65_0); (try clear hfz65_1); (try clear hfz68_0); (try clear hfz68_1)
    obtain ⟨kq, x53_18, rfl, HA, HJ18, HO_8, HO_326000, HO_326001, HO_336000, HO_336001, HO_344000, HO_344001, BK306, BK325, BK335, BK343, HB⟩ := hcut
    cases kq with
    | zero => exact absurd HA.out (by simp [laws_FnExactTurnLine.j0])
    | succ kj18 =>
     have H := HA.out
     clear HA
     simp only [laws_FnExactTurnLine.j0] at H
     by_cases c70 : x53_18 = true
     ·
      subst c70
      have H1 : (some false) = some r := by rw [if_pos rfl] at H; exact H
      clear H
      have H := H1
      clear H1
      obtain rfl := Option.some.inj H
      go_wp2
      go_ret
      exact ⟨by first | rfl | (simp [errW_none, errW_some, i64_w]; done) | (simp [errW_none, errW_some] <;> rfl) | (simp [*, errW_none, errW_some] <;> rfl), by repeat (first | (with_reducible first | exact HB.out | apply below_alloc | apply pw_below_drewN | apply below_drew1) | exact HB.out)⟩
     ·
      replace c70 := Bool.eq_false_iff.mpr c70
      subst c70
      have H1 : ((laws_toJoinS.f kj18 l0).bind fun t345 => ((laws_eqJoinS.f kj18 t326 t345).bind fun t348 => (if t348 = true then ((laws_toLine.f kj18 l1_0 l1_1).bind fun bt349 => ((laws_eqLine.f kj18 t329 t332 bt349.1 bt349.2).bind fun t355 => (if t355 = true then ((laws_markJoinS.f kj18 t326 1).bind fun bt356 => ((laws_markLine.f kj18 t329 t332 bt356.1).bind fun bt358 => (if bt358.1 < 0 then (laws_FnExactTurnLine.j1 kj18 l0 t324 true l1_0 l1_1 t318 t321 t336 t339) else ((laws_eqLine.f kj18 t336 t339 t318 t321).bind fun t361 => (if t361 = true then (laws_FnExactTurnLine.j1 kj18 l0 t324 (t342 != t324) l1_0 l1_1 t318 t321 t336 t339) else (laws_FnExactTurnLine.j1 kj18 l0 t324 true l1_0 l1_1 t318 t321 t336 t339)))))) else (some false)))) else (some false)))) = some r := by rw [if_neg (show ¬ (false = true) by decide)] at H; exact H
      clear H
      have H := H1
      clear H1
      replace H := Option.bind_eq_some_iff.mp H
      obtain ⟨t345, A710, H⟩ := H
      replace H : ((laws_eqJoinS.f kj18 t326 t345).bind fun t348 => (if t348 = true then ((laws_toLine.f kj18 l1_0 l1_1).bind fun bt349 => ((laws_eqLine.f kj18 t329 t332 bt349.1 bt349.2).bind fun t355 => (if t355 = true then ((laws_markJoinS.f kj18 t326 1).bind fun bt356 => ((laws_markLine.f kj18 t329 t332 bt356.1).bind fun bt358 => (if bt358.1 < 0 then (laws_FnExactTurnLine.j1 kj18 l0 t324 true l1_0 l1_1 t318 t321 t336 t339) else ((laws_eqLine.f kj18 t336 t339 t318 t321).bind fun t361 => (if t361 = true then (laws_FnExactTurnLine.j1 kj18 l0 t324 (t342 != t324) l1_0 l1_1 t318 t321 t336 t339) else (laws_FnExactTurnLine.j1 kj18 l0 t324 true l1_0 l1_1 t318 t321 t336 t339)))))) else (some false)))) else (some false))) = some r := H
      have A71 := aS A710
      clear A710
      replace H := Option.bind_eq_some_iff.mp H
      obtain ⟨t348, A720, H⟩ := H
      replace H : (if t348 = true then ((laws_toLine.f kj18 l1_0 l1_1).bind fun bt349 => ((laws_eqLine.f kj18 t329 t332 bt349.1 bt349.2).bind fun t355 => (if t355 = true then ((laws_markJoinS.f kj18 t326 1).bind fun bt356 => ((laws_markLine.f kj18 t329 t332 bt356.1).bind fun bt358 => (if bt358.1 < 0 then (laws_FnExactTurnLine.j1 kj18 l0 t324 true l1_0 l1_1 t318 t321 t336 t339) else ((laws_eqLine.f kj18 t336 t339 t318 t321).bind fun t361 => (if t361 = true then (laws_FnExactTurnLine.j1 kj18 l0 t324 (t342 != t324) l1_0 l1_1 t318 t321 t336 t339) else (laws_FnExactTurnLine.j1 kj18 l0 t324 true l1_0 l1_1 t318 t321 t336 t339)))))) else (some false)))) else (some false)) = some r := H
      have A72 := aS A720
      clear A720
      have HC73 := aS H
      clear H
      go_upto_if 58 with (first | ((with_reducible refine gate_callee (f := 15) rfl ?_); refine goesL_ (some 56) rfl rfl Try.func15 (by kernel_rfl) rfl #[.slice A0 l0.length c0] rfl sG ?_; (with_reducible refine (laws_toJoinS.calls kj18 _ _ l0 t345 _ ?side1 ?side2 A71.out).mono ?_); (case side1 => exact sC (Kd.C_below HR0.out HB.out)); (case side2 => exact HC0.out); rintro e w74 ⟨v346, rfl, ho0, hb⟩; refine ⟨_, rfl, ?_⟩; have n0_ := aS (Kd.R_elder' (sR HO_8.out) (Kd.R_base ho0) hb); have n1_ := aS (Kd.R_below (sR HO_326000.out) hb); have n2_ := aS (Kd.R_below (sR HO_326001.out) hb); have n3_ := aS (Kd.R_below (sR HO_336000.out) hb); have n4_ := aS (Kd.R_below (sR HO_336001.out) hb); have n5_ := aS (Kd.R_below (sR HO_344000.out) hb); have n6_ := aS (Kd.R_below (sR HO_344001.out) hb); have n7_ := aS (Kd.R_lower (Kd.R_new' ho0 (Kd.R_lt (sR HO_8.out))) (below_size (sW HB.out))); have n8_ := aS (blk_below (g := gb306) (o := .cells #[.slice A1_0 l1_0.length c1_0, .slice A1_1 l1_1.length c1_1] 32 (0, 0)) (sB BK306.out) hb); have n9_ := aS (blk_below (g := gb325) (o := .cells #[.slice Ao29 t318.length co29, .slice Ao31 t321.length co31] 37 (0, 0)) (sB BK325.out) hb); have n10_ := aS (blk_below (g := gb335) (o := .cells #[.slice Ao38 t329.length co38, .slice Ao42 t332.length co42] 37 (0, 0)) (sB BK335.out) hb); have n11_ := aS (blk_below (g := gb343) (o := .cells #[.slice Ao46 t336.length co46, .slice Ao51 t339.length co51] 37 (0, 0)) (sB BK343.out) hb); have n12_ := aS (below_step (sW HB.out) hb); clear HO_8 HO_326000 HO_326001 HO_336000 HO_336001 HO_344000 HO_344001 BK306 BK325 BK335 BK343 HB; have HO_8 := n0_; have HO_326000 := n1_; have HO_326001 := n2_; have HO_336000 := n3_; have HO_336001 := n4_; have HO_344000 := n5_; have HO_344001 := n6_; have HO347 := n7_; have BK306 := n8_; have BK325 := n9_; have BK335 := n10_; have BK343 := n11_; have HB := n12_; clear n0_ n1_ n2_ n3_ n4_ n5_ n6_ n7_ n8_ n9_ n10_ n11_ n12_; (try clear hb); (try clear hb2); (try clear hk); (try clear hi); (try clear ho0); obtain ⟨Ao75, co75, eo75⟩ := Kd.R_slice HO347.out; subst eo75) | ((with_reducible refine gate_callee (f := 17) rfl ?_); refine goesL_ (some 57) rfl rfl Try.func17 (by kernel_rfl) rfl #[.slice Ao43 t326.length co43, .slice Ao75 t345.length co75] rfl sG ?_; (with_reducible refine (laws_eqJoinS.calls kj18 _ _ t326 _ _ t345 t348 _ ?side1 ?side2 ?side3 ?side4 A72.out).mono ?_); (case side1 => exact sC (Kd.R_reads' HO_8.out).2.2); (case side2 => exact (Kd.R_reads' HO_8.out).2.1); (case side3 => exact sC (Kd.R_reads' HO347.out).2.2); (case side4 => exact (Kd.R_reads' HO347.out).2.1); rintro e w76 ⟨rfl, hb⟩; refine ⟨_, rfl, ?_⟩; have n0_ := aS (Kd.R_below (sR HO_8.out) hb); have n1_ := aS (Kd.R_below (sR HO_326000.out) hb); have n2_ := aS (Kd.R_below (sR HO_326001.out) hb); have n3_ := aS (Kd.R_below (sR HO_336000.out) hb); have n4_ := aS (Kd.R_below (sR HO_336001.out) hb); have n5_ := aS (Kd.R_below (sR HO_344000.out) hb); have n6_ := aS (Kd.R_below (sR HO_344001.out) hb); have n7_ := aS (Kd.R_below (sR HO347.out) hb); have n8_ := aS (blk_below (g := gb306) (o := .cells #[.slice A1_0 l1_0.length c1_0, .slice A1_1 l1_1.length c1_1] 32 (0, 0)) (sB BK306.out) hb); have n9_ := aS (blk_below (g := gb325) (o := .cells #[.slice Ao29 t318.length co29, .slice Ao31 t321.length co31] 37 (0, 0)) (sB BK325.out) hb); have n10_ := aS (blk_below (g := gb335) (o := .cells #[.slice Ao38 t329.length co38, .slice Ao42 t332.length co42] 37 (0, 0)) (sB BK335.out) hb); have n11_ := aS (blk_below (g := gb343) (o := .cells #[.slice Ao46 t336.length co46, .slice Ao51 t339.length co51] 37 (0, 0)) (sB BK343.out) hb); have n12_ := aS (below_step (sW HB.out) hb); clear HO_8 HO_326000 HO_326001 HO_336000 HO_336001 HO_344000 HO_344001 HO347 BK306 BK325 BK335 BK343 HB; have HO_8 := n0_; have HO_326000 := n1_; have HO_326001 := n2_; have HO_336000 := n3_; have HO_336001 := n4_; have HO_344000 := n5_; have HO_344001 := n6_; have HO347 := n7_; have BK306 := n8_; have BK325 := n9_; have BK335 := n10_; have BK343 := n11_; have HB := n12_; clear n0_ n1_ n2_ n3_ n4_ n5_ n6_ n7_ n8_ n9_ n10_ n11_ n12_; (try clear hb); (try clear hb2); (try clear hk); (try clear hi)))
      (try simp only [Act.put, List.setIfInBounds_toArray, List.set_cons_zero, List.set_cons_succ])
      have H := HC73.out
      clear HC73
      by_cases c77 : t348 = true
      ·
       subst c77
       have H1 : ((laws_toLine.f kj18 l1_0 l1_1).bind fun bt349 => ((laws_eqLine.f kj18 t329 t332 bt349.1 bt349.2).bind fun t355 => (if t355 = true then ((laws_markJoinS.f kj18 t326 1).bind fun bt356 => ((laws_markLine.f kj18 t329 t332 bt356.1).bind fun bt358 => (if bt358.1 < 0 then (laws_FnExactTurnLine.j1 kj18 l0 t324 true l1_0 l1_1 t318 t321 t336 t339) else ((laws_eqLine.f kj18 t336 t339 t318 t321).bind fun t361 => (if t361 = true then (laws_FnExactTurnLine.j1 kj18 l0 t324 (t342 != t324) l1_0 l1_1 t318 t321 t336 t339) else (laws_FnExactTurnLine.j1 kj18 l0 t324 true l1_0 l1_1 t318 t321 t336 t339)))))) else (some false)))) = some r := by rw [if_pos rfl] at H; exact H
       clear H
       have H := H1
       clear H1
       replace H := Option.bind_eq_some_iff.mp H
       obtain ⟨⟨t349, t352⟩, A780, H⟩ := H
       replace H : ((laws_eqLine.f kj18 t329 t332 t349 t352).bind fun t355 => (if t355 = true then ((laws_markJoinS.f kj18 t326 1).bind fun bt356 => ((laws_markLine.f kj18 t329 t332 bt356.1).bind fun bt358 => (if bt358.1 < 0 then (laws_FnExactTurnLine.j1 kj18 l0 t324 true l1_0 l1_1 t318 t321 t336 t339) else ((laws_eqLine.f kj18 t336 t339 t318 t321).bind fun t361 => (if t361 = true then (laws_FnExactTurnLine.j1 kj18 l0 t324 (t342 != t324) l1_0 l1_1 t318 t321 t336 t339) else (laws_FnExactTurnLine.j1 kj18 l0 t324 true l1_0 l1_1 t318 t321 t336 t339)))))) else (some false))) = some r := H
       have A78 := aS A780
       clear A780
       replace H := Option.bind_eq_some_iff.mp H
       obtain ⟨t355, A790, H⟩ := H
       replace H : (if t355 = true then ((laws_markJoinS.f kj18 t326 1).bind fun bt356 => ((laws_markLine.f kj18 t329 t332 bt356.1).bind fun bt358 => (if bt358.1 < 0 then (laws_FnExactTurnLine.j1 kj18 l0 t324 true l1_0 l1_1 t318 t321 t336 t339) else ((laws_eqLine.f kj18 t336 t339 t318 t321).bind fun t361 => (if t361 = true then (laws_FnExactTurnLine.j1 kj18 l0 t324 (t342 != t324) l1_0 l1_1 t318 t321 t336 t339) else (laws_FnExactTurnLine.j1 kj18 l0 t324 true l1_0 l1_1 t318 t321 t336 t339)))))) else (some false)) = some r := H
       have A79 := aS A790
       clear A790
       have HC80 := aS H
       clear H
       try go_wp2
       have n0_ := aS (Kd.R_drew HO_8.out)
       have n1_ := aS (Kd.R_drew HO_326000.out)
       have n2_ := aS (Kd.R_drew HO_326001.out)
       have n3_ := aS (Kd.R_drew HO_336000.out)
       have n4_ := aS (Kd.R_drew HO_336001.out)
       have n5_ := aS (Kd.R_drew HO_344000.out)
       have n6_ := aS (Kd.R_drew HO_344001.out)
       have n7_ := aS (Kd.R_drew HO347.out)
       have n8_ := aS (blk_drew BK306.out)
       have n9_ := aS (blk_drew BK325.out)
       have n10_ := aS (blk_drew BK335.out)
       have n11_ := aS (blk_drew BK343.out)
       have n12_ := aS (below_drew1 HB.out)
       clear HO_8 HO_326000 HO_326001 HO_336000 HO_336001 HO_344000 HO_344001 HO347 BK306 BK325 BK335 BK343 HB
       have HO_8 := n0_; have HO_326000 := n1_; have HO_326001 := n2_; have HO_336000 := n3_; have HO_336001 := n4_; have HO_344000 := n5_; have HO_344001 := n6_; have HO347 := n7_; have BK306 := n8_; have BK325 := n9_; have BK335 := n10_; have BK343 := n11_; have HB := n12_
       clear n0_ n1_ n2_ n3_ n4_ n5_ n6_ n7_ n8_ n9_ n10_ n11_ n12_
       refine start_ (n := 5) (S := fun w' => w'.cell? ⟨gb335, 0, none⟩ = some (.slice Ao38 t329.length co38) ∧ w'.cell? ⟨gb335, 1, none⟩ = some (.slice Ao42 t332.length co42) ∧ w'.cell? ⟨gb306, 0, none⟩ = some (.slice A1_0 l1_0.length c1_0) ∧ w'.cell? ⟨gb306, 1, none⟩ = some (.slice A1_1 l1_1.length c1_1)) (ds := []) #[false, false, false, false, false] (by kernel_rfl) rfl rfl ⟨(blk_cell BK335.out 0).trans rfl, (blk_cell BK335.out 1).trans rfl, (blk_cell BK306.out 0).trans rfl, (blk_cell BK306.out 1).trans rfl⟩ (fun hHeld => ?_)
       generalize w76.drew = w81 at HO_8 HO_326000 HO_326001 HO_336000 HO_336001 HO_344000 HO_344001 HO347 BK306 BK325 BK335 BK343 HB hHeld ⊢
       refine take_ (i := 0) (N := some 59) (v := ?_) (a' := ?_) #[true, false, false, false, false] rfl rfl (by kernel_rfl) (fun _ _ _ h => h) (Or.inl ⟨by rfl, ?_⟩) hHeld ?_ ?_
       rotate_left
       ·
        rintro w' ⟨s0, s1, s2, s3⟩
        go_simp
        with_reducible rfl
       rotate_left
       ·
        simp only [Act.put, List.setIfInBounds_toArray, List.set_cons_zero, List.set_cons_succ, i64_w, i32_w]
        rfl
       refine take_ (i := 1) (N := some 60) (v := ?_) (a' := ?_) #[true, true, false, false, false] rfl rfl (by kernel_rfl) (fun _ _ _ h => h) (Or.inl ⟨by rfl, ?_⟩) hHeld ?_ ?_
       rotate_left
       ·
        rintro w' ⟨s0, s1, s2, s3⟩
        go_simp
        with_reducible rfl
       rotate_left
       ·
        simp only [Act.put, List.setIfInBounds_toArray, List.set_cons_zero, List.set_cons_succ, i64_w, i32_w]
        rfl
       refine one_ (i := 2) (N := some 61) #[true, true, true, false, false] rfl rfl (by kernel_rfl) (by decide) (fun K hK => ?_)
       refine goes_ Try.func20 (by kernel_rfl) rfl #[.agg #[.slice A1_0 l1_0.length c1_0, .slice A1_1 l1_1.length c1_1]] (by rfl) rfl rfl sG ?_
       with_reducible refine (laws_toLine.calls kj18 _ _ l1_0 _ _ l1_1 t349 t352 _ ?side1 ?side2 ?side3 ?side4 A78.out).mono ?_
       (case side1 => exact sC (Kd.C_below HR1_0.out HB.out))
       (case side2 => exact HC1_0.out)
       (case side3 => exact sC (Kd.C_below HR1_1.out HB.out))
       (case side4 => exact HC1_1.out)
       rintro e w82 ⟨v350, v353, rfl, ho0, ho1, hb⟩
       refine ⟨_, rfl, ?_⟩
       have n0_ := aS (Kd.R_below (sR HO_8.out) hb)
       have n1_ := aS (Kd.R_elder' (sR HO_326000.out) (Kd.R_base ho0) hb)
       have n2_ := aS (Kd.R_elder' (sR HO_326001.out) (Kd.R_base ho1) hb)
       have n3_ := aS (Kd.R_elder' (sR HO_336000.out) (Kd.R_base ho0) hb)
       have n4_ := aS (Kd.R_elder' (sR HO_336001.out) (Kd.R_base ho1) hb)
       have n5_ := aS (Kd.R_elder' (sR HO_344000.out) (Kd.R_base ho0) hb)
       have n6_ := aS (Kd.R_elder' (sR HO_344001.out) (Kd.R_base ho1) hb)
       have n7_ := aS (Kd.R_below (sR HO347.out) hb)
       have n8_ := aS (Kd.R_lower (Kd.R_new' (Kd.R_new' (Kd.R_new' ho0 (Kd.R_lt (sR HO_326000.out))) (Kd.R_lt (sR HO_336000.out))) (Kd.R_lt (sR HO_344000.out))) (below_size (sW HB.out)))
       have n9_ := aS (Kd.R_lower (Kd.R_new' (Kd.R_new' (Kd.R_new' ho1 (Kd.R_lt (sR HO_326001.out))) (Kd.R_lt (sR HO_336001.out))) (Kd.R_lt (sR HO_344001.out))) (below_size (sW HB.out)))
       have n10_ := aS (blk_below (g := gb306) (o := .cells #[.slice A1_0 l1_0.length c1_0, .slice A1_1 l1_1.length c1_1] 32 (0, 0)) (sB BK306.out) hb)
       have n11_ := aS (blk_below (g := gb325) (o := .cells #[.slice Ao29 t318.length co29, .slice Ao31 t321.length co31] 37 (0, 0)) (sB BK325.out) hb)
       have n12_ := aS (blk_below (g := gb335) (o := .cells #[.slice Ao38 t329.length co38, .slice Ao42 t332.length co42] 37 (0, 0)) (sB BK335.out) hb)
       have n13_ := aS (blk_below (g := gb343) (o := .cells #[.slice Ao46 t336.length co46, .slice Ao51 t339.length co51] 37 (0, 0)) (sB BK343.out) hb)
       have n14_ := aS (below_step (sW HB.out) hb)
       clear HO_8 HO_326000 HO_326001 HO_336000 HO_336001 HO_344000 HO_344001 HO347 BK306 BK325 BK335 BK343 HB
       have HO_8 := n0_; have HO_326000 := n1_; have HO_326001 := n2_; have HO_336000 := n3_; have HO_336001 := n4_; have HO_344000 := n5_; have HO_344001 := n6_; have HO347 := n7_; have HO351 := n8_; have HO354 := n9_; have BK306 := n10_; have BK325 := n11_; have BK335 := n12_; have BK343 := n13_; have HB := n14_
       clear n0_ n1_ n2_ n3_ n4_ n5_ n6_ n7_ n8_ n9_ n10_ n11_ n12_ n13_ n14_
       (try clear hb); (try clear hb2); (try clear hk); (try clear hi); (try clear ho0); (try clear ho1)
       obtain ⟨Ao83, co83, eo83⟩ := Kd.R_slice HO351.out
       (first | subst eo83 | (injection eo83 with f1_ f2_ f3_; have f4_ := f1_.symm; have f5_ := f3_.symm; clear f1_ f2_ f3_; subst f4_; subst f5_))
       obtain ⟨Ao84, co84, eo84⟩ := Kd.R_slice HO354.out
       (first | subst eo84 | (injection eo84 with f1_ f2_ f3_; have f4_ := f1_.symm; have f5_ := f3_.symm; clear f1_ f2_ f3_; subst f4_; subst f5_))
       refine hK.out _ _ ⟨(blk_cell BK335.out 0).trans rfl, (blk_cell BK335.out 1).trans rfl, (blk_cell BK306.out 0).trans rfl, (blk_cell BK306.out 1).trans rfl⟩ (fun hHeld => ?_)
       clear hK K
       refine norm_ (a' := ?_) ?_ ?_
       rotate_left
       ·
        show Act.put _ (some 61) _ = _
        simp only [Act.put, List.setIfInBounds_toArray, List.set_cons_zero, List.set_cons_succ, i64_w, i32_w]
        rfl
       refine one_ (i := 3) (N := some 62) #[true, true, true, true, false] rfl rfl (by kernel_rfl) (by decide) (fun K hK => ?_)
       refine goes_ Try.func22 (by kernel_rfl) rfl #[.agg #[.slice Ao38 t329.length co38, .slice Ao42 t332.length co42], .agg #[.slice Ao83 t349.length co83, .slice Ao84 t352.length co84]] (by rfl) rfl rfl sG ?_
       with_reducible refine (laws_eqLine.calls kj18 _ _ t329 _ _ t332 _ _ t349 _ _ t352 t355 _ ?side1 ?side2 ?side3 ?side4 ?side5 ?side6 ?side7 ?side8 A79.out).mono ?_
       (case side1 => exact sC (Kd.R_reads' HO_336000.out).2.2)
       (case side2 => exact (Kd.R_reads' HO_336000.out).2.1)
       (case side3 => exact sC (Kd.R_reads' HO_336001.out).2.2)
       (case side4 => exact (Kd.R_reads' HO_336001.out).2.1)
       (case side5 => exact sC (Kd.R_reads' HO351.out).2.2)
       (case side6 => exact (Kd.R_reads' HO351.out).2.1)
       (case side7 => exact sC (Kd.R_reads' HO354.out).2.2)
       (case side8 => exact (Kd.R_reads' HO354.out).2.1)
       rintro e w85 ⟨rfl, hb⟩
       refine ⟨_, rfl, ?_⟩
       have n0_ := aS (Kd.R_below (sR HO_8.out) hb)
       have n1_ := aS (Kd.R_below (sR HO_326000.out) hb)
       have n2_ := aS (Kd.R_below (sR HO_326001.out) hb)
       have n3_ := aS (Kd.R_below (sR HO_336000.out) hb)
       have n4_ := aS (Kd.R_below (sR HO_336001.out) hb)
       have n5_ := aS (Kd.R_below (sR HO_344000.out) hb)
       have n6_ := aS (Kd.R_below (sR HO_344001.out) hb)
       have n7_ := aS (Kd.R_below (sR HO347.out) hb)
       have n8_ := aS (Kd.R_below (sR HO351.out) hb)
       have n9_ := aS (Kd.R_below (sR HO354.out) hb)
       have n10_ := aS (blk_below (g := gb306) (o := .cells #[.slice A1_0 l1_0.length c1_0, .slice A1_1 l1_1.length c1_1] 32 (0, 0)) (sB BK306.out) hb)
       have n11_ := aS (blk_below (g := gb325) (o := .cells #[.slice Ao29 t318.length co29, .slice Ao31 t321.length co31] 37 (0, 0)) (sB BK325.out) hb)
       have n12_ := aS (blk_below (g := gb335) (o := .cells #[.slice Ao38 t329.length co38, .slice Ao42 t332.length co42] 37 (0, 0)) (sB BK335.out) hb)
       have n13_ := aS (blk_below (g := gb343) (o := .cells #[.slice Ao46 t336.length co46, .slice Ao51 t339.length co51] 37 (0, 0)) (sB BK343.out) hb)
       have n14_ := aS (below_step (sW HB.out) hb)
       clear HO_8 HO_326000 HO_326001 HO_336000 HO_336001 HO_344000 HO_344001 HO347 HO351 HO354 BK306 BK325 BK335 BK343 HB
       have HO_8 := n0_; have HO_326000 := n1_; have HO_326001 := n2_; have HO_336000 := n3_; have HO_336001 := n4_; have HO_344000 := n5_; have HO_344001 := n6_; have HO347 := n7_; have HO351 := n8_; have HO354 := n9_; have BK306 := n10_; have BK325 := n11_; have BK335 := n12_; have BK343 := n13_; have HB := n14_
       clear n0_ n1_ n2_ n3_ n4_ n5_ n6_ n7_ n8_ n9_ n10_ n11_ n12_ n13_ n14_
       (try clear hb); (try clear hb2); (try clear hk); (try clear hi)
       refine hK.out _ _ ⟨(blk_cell BK335.out 0).trans rfl, (blk_cell BK335.out 1).trans rfl, (blk_cell BK306.out 0).trans rfl, (blk_cell BK306.out 1).trans rfl⟩ (fun hHeld => ?_)
       clear hK K
       refine norm_ (a' := ?_) ?_ ?_
       rotate_left
       ·
        show Act.put _ (some 62) _ = _
        simp only [Act.put, List.setIfInBounds_toArray, List.set_cons_zero, List.set_cons_succ, i64_w, i32_w]
        rfl
       refine pure_ (i := 4) (N := some 63) (v := ?_) (a' := ?_) #[true, true, true, true, true] rfl rfl (by kernel_rfl) (fun _ _ _ h => h) (Or.inl ⟨by rfl, ?_⟩) ?_ ?_
       rotate_left
       ·
        intro w'
        go_simp
        with_reducible rfl
       rotate_left
       ·
        simp only [Act.put, List.setIfInBounds_toArray, List.set_cons_zero, List.set_cons_succ, i64_w, i32_w]
        rfl
       refine done_ (by kernel_rfl) ?_
       go_upto_if 63 with (fail)
       have H := HC80.out
       clear HC80
       by_cases c86 : t355 = true
       ·
        subst c86
        have H1 : ((laws_markJoinS.f kj18 t326 1).bind fun bt356 => ((laws_markLine.f kj18 t329 t332 bt356.1).bind fun bt358 => (if bt358.1 < 0 then (laws_FnExactTurnLine.j1 kj18 l0 t324 true l1_0 l1_1 t318 t321 t336 t339) else ((laws_eqLine.f kj18 t336 t339 t318 t321).bind fun t361 => (if t361 = true then (laws_FnExactTurnLine.j1 kj18 l0 t324 (t342 != t324) l1_0 l1_1 t318 t321 t336 t339) else (laws_FnExactTurnLine.j1 kj18 l0 t324 true l1_0 l1_1 t318 t321 t336 t339)))))) = some r := by rw [if_pos rfl] at H; exact H
        clear H
        have H := H1
        clear H1
        replace H := Option.bind_eq_some_iff.mp H
        obtain ⟨⟨t356, t357⟩, A870, H⟩ := H
        replace H : ((laws_markLine.f kj18 t329 t332 t356).bind fun bt358 => (if bt358.1 < 0 then (laws_FnExactTurnLine.j1 kj18 l0 t324 true l1_0 l1_1 t318 t321 t336 t339) else ((laws_eqLine.f kj18 t336 t339 t318 t321).bind fun t361 => (if t361 = true then (laws_FnExactTurnLine.j1 kj18 l0 t324 (t342 != t324) l1_0 l1_1 t318 t321 t336 t339) else (laws_FnExactTurnLine.j1 kj18 l0 t324 true l1_0 l1_1 t318 t321 t336 t339))))) = some r := H
        have A87 := aS A870
        clear A870
        replace H := Option.bind_eq_some_iff.mp H
        obtain ⟨⟨t358, t359, t360⟩, A880, H⟩ := H
        replace H : (if t358 < 0 then (laws_FnExactTurnLine.j1 kj18 l0 t324 true l1_0 l1_1 t318 t321 t336 t339) else ((laws_eqLine.f kj18 t336 t339 t318 t321).bind fun t361 => (if t361 = true then (laws_FnExactTurnLine.j1 kj18 l0 t324 (t342 != t324) l1_0 l1_1 t318 t321 t336 t339) else (laws_FnExactTurnLine.j1 kj18 l0 t324 true l1_0 l1_1 t318 t321 t336 t339)))) = some r := H
        have A88 := aS A880
        clear A880
        have HC89 := aS H
        clear H
        go_upto_region 21 with (first | ((with_reducible refine gate_callee (f := 35) rfl ?_); refine goesL_ (some 66) rfl rfl Try.func35 (by kernel_rfl) rfl #[.slice Ao43 t326.length co43, .int .i64 1] rfl sG ?_; (with_reducible refine (laws_markJoinS.calls kj18 (fun k_ => some k_ = (.slice Ao43 t326.length co43 : Value).ownBlock) (.slice Ao43 t326.length co43) t326 1 t356 t357 w _ ?side1 ?side2 A87.out).mono ?_); (case side1 => repeat (first | (with_reducible first | exact HB.out | apply below_alloc | apply pw_below_drewN | apply below_drew1 | refine below_set ?_ GE306.out | refine below_set ?_ GE325.out | refine below_set ?_ GE335.out | refine below_set ?_ GE343.out) | exact HB.out)); (case side2 => exact Kd.R_tight rfl HO_8.out); rintro e w90 ⟨rfl, hy0, hb, hkp⟩; refine ⟨_, rfl, ?_⟩; have n0_ := aS (Kd.R_reok rfl hy0 (fun k_ e_ => HO_8.out.1 k_ e_)); have n1_ := aS (Kd.R_mono (ok' := fun k_ => some k_ ≠ (.slice Ao38 t329.length co38 : Value).ownBlock ∧ some k_ ≠ (.slice Ao46 t336.length co46 : Value).ownBlock ∧ some k_ ≠ (.slice Ao83 t349.length co83 : Value).ownBlock) (Kd.R_keptB ((Kd.R_apart' HO_326000.out (Kd.R_typed HO_8.out) (by decide))) hkp (fun k_ hk_ hs_ => (hk_.2) hs_)) (fun k_ hk_ => ⟨hk_.1.1.1.1, hk_.1.1.1.2, hk_.1.1.2⟩)); have n2_ := aS (Kd.R_mono (ok' := fun k_ => some k_ ≠ (.slice Ao42 t332.length co42 : Value).ownBlock ∧ some k_ ≠ (.slice Ao51 t339.length co51 : Value).ownBlock ∧ some k_ ≠ (.slice Ao84 t352.length co84 : Value).ownBlock) (Kd.R_keptB ((Kd.R_apart' HO_326001.out (Kd.R_typed HO_8.out) (by decide))) hkp (fun k_ hk_ hs_ => (hk_.2) hs_)) (fun k_ hk_ => ⟨hk_.1.1.1.1, hk_.1.1.1.2, hk_.1.1.2⟩)); have n3_ := aS (Kd.R_mono (ok' := fun k_ => some k_ ≠ (.slice Ao29 t318.length co29 : Value).ownBlock ∧ some k_ ≠ (.slice Ao46 t336.length co46 : Value).ownBlock ∧ some k_ ≠ (.slice Ao83 t349.length co83 : Value).ownBlock) (Kd.R_keptB ((Kd.R_apart' HO_336000.out (Kd.R_typed HO_8.out) (by decide))) hkp (fun k_ hk_ hs_ => (hk_.2) hs_)) (fun k_ hk_ => ⟨hk_.1.1.1.1, hk_.1.1.1.2, hk_.1.1.2⟩)); have n4_ := aS (Kd.R_mono (ok' := fun k_ => some k_ ≠ (.slice Ao31 t321.length co31 : Value).ownBlock ∧ some k_ ≠ (.slice Ao51 t339.length co51 : Value).ownBlock ∧ some k_ ≠ (.slice Ao84 t352.length co84 : Value).ownBlock) (Kd.R_keptB ((Kd.R_apart' HO_336001.out (Kd.R_typed HO_8.out) (by decide))) hkp (fun k_ hk_ hs_ => (hk_.2) hs_)) (fun k_ hk_ => ⟨hk_.1.1.1.1, hk_.1.1.1.2, hk_.1.1.2⟩)); have n5_ := aS (Kd.R_mono (ok' := fun k_ => some k_ ≠ (.slice Ao29 t318.length co29 : Value).ownBlock ∧ some k_ ≠ (.slice Ao38 t329.length co38 : Value).ownBlock ∧ some k_ ≠ (.slice Ao83 t349.length co83 : Value).ownBlock) (Kd.R_keptB ((Kd.R_apart' HO_344000.out (Kd.R_typed HO_8.out) (by decide))) hkp (fun k_ hk_ hs_ => (hk_.2) hs_)) (fun k_ hk_ => ⟨hk_.1.1.1.1, hk_.1.1.1.2, hk_.1.1.2⟩)); have n6_ := aS (Kd.R_mono (ok' := fun k_ => some k_ ≠ (.slice Ao31 t321.length co31 : Value).ownBlock ∧ some k_ ≠ (.slice Ao42 t332.length co42 : Value).ownBlock ∧ some k_ ≠ (.slice Ao84 t352.length co84 : Value).ownBlock) (Kd.R_keptB ((Kd.R_apart' HO_344001.out (Kd.R_typed HO_8.out) (by decide))) hkp (fun k_ hk_ hs_ => (hk_.2) hs_)) (fun k_ hk_ => ⟨hk_.1.1.1.1, hk_.1.1.1.2, hk_.1.1.2⟩)); have n7_ := aS (blk_kept (sB BK306.out) hkp (fun hs_ => (fun e_ => (Kd.R_ne HO_8.out BK306.out (by decide)) e_) hs_)); have n8_ := aS (blk_kept (sB BK325.out) hkp (fun hs_ => (fun e_ => (Kd.R_ne HO_8.out BK325.out (by decide)) e_) hs_)); have n9_ := aS (blk_kept (sB BK335.out) hkp (fun hs_ => (fun e_ => (Kd.R_ne HO_8.out BK335.out (by decide)) e_) hs_)); have n10_ := aS (blk_kept (sB BK343.out) hkp (fun hs_ => (fun e_ => (Kd.R_ne HO_8.out BK343.out (by decide)) e_) hs_)); have n11_ := aS (Kd.R_mono (ok' := fun k_ => some k_ ≠ (.slice Ao43 t326.length co43 : Value).ownBlock) (Kd.R_keptB (HO347.out) hkp (fun k_ hk_ hs_ => (hk_.2) hs_)) (fun k_ hk_ => hk_.1.2)); have n12_ := aS (Kd.R_mono (ok' := fun k_ => some k_ ≠ (.slice Ao29 t318.length co29 : Value).ownBlock ∧ some k_ ≠ (.slice Ao38 t329.length co38 : Value).ownBlock ∧ some k_ ≠ (.slice Ao46 t336.length co46 : Value).ownBlock) (Kd.R_keptB ((Kd.R_apart' HO351.out (Kd.R_typed HO_8.out) (by decide))) hkp (fun k_ hk_ hs_ => (hk_.2) hs_)) (fun k_ hk_ => ⟨hk_.1.1.1.1.2, hk_.1.1.1.2, hk_.1.1.2⟩)); have n13_ := aS (Kd.R_mono (ok' := fun k_ => some k_ ≠ (.slice Ao31 t321.length co31 : Value).ownBlock ∧ some k_ ≠ (.slice Ao42 t332.length co42 : Value).ownBlock ∧ some k_ ≠ (.slice Ao51 t339.length co51 : Value).ownBlock) (Kd.R_keptB ((Kd.R_apart' HO354.out (Kd.R_typed HO_8.out) (by decide))) hkp (fun k_ hk_ hs_ => (hk_.2) hs_)) (fun k_ hk_ => ⟨hk_.1.1.1.1.2, hk_.1.1.1.2, hk_.1.1.2⟩)); have n14_ := aS (hb); clear HO_8 HO_326000 HO_326001 HO_336000 HO_336001 HO_344000 HO_344001 BK306 BK325 BK335 BK343 HO347 HO351 HO354 HB; have HO_8 := n0_; have HO_326000 := n1_; have HO_326001 := n2_; have HO_336000 := n3_; have HO_336001 := n4_; have HO_344000 := n5_; have HO_344001 := n6_; have BK306 := n7_; have BK325 := n8_; have BK335 := n9_; have BK343 := n10_; have HO347 := n11_; have HO351 := n12_; have HO354 := n13_; have HB := n14_; clear n0_ n1_ n2_ n3_ n4_ n5_ n6_ n7_ n8_ n9_ n10_ n11_ n12_ n13_ n14_; (try clear hb); (try clear hkp); (try clear hy0); have hnb91 := NB335_306.out; have hnc91 := NB306_335.out; have hnb92 := NB335_325.out; have hnc92 := NB325_335.out; have hnb93 := NB335_343.out; have hnc93 := NB343_335.out; have hcz94_0 : w90.cell? ⟨gb335, 0, none⟩ = some (.slice Ao38 t329.length co38) := (blk_cell BK335.out 0).trans rfl; have hcz94_1 : w90.cell? ⟨gb335, 1, none⟩ = some (.slice Ao42 t332.length co42) := (blk_cell BK335.out 1).trans rfl; have hfz94_0 := blk_frozen BK335.out 0; have hfz94_1 := blk_frozen BK335.out 1) | ((with_reducible refine gate_callee (f := 36) rfl ?_); refine goesL_ (some 69) rfl rfl Try.func36 (by kernel_rfl) rfl #[.agg #[.slice Ao38 t329.length co38, .slice Ao42 t332.length co42], .int .i64 t356] rfl sG ?_; (with_reducible refine (laws_markLine.calls kj18 (fun k_ => some k_ = (.slice Ao38 t329.length co38 : Value).ownBlock) (.slice Ao38 t329.length co38) t329 (fun k_ => some k_ = (.slice Ao42 t332.length co42 : Value).ownBlock) (.slice Ao42 t332.length co42) t332 t356 t358 t359 t360 w _ ?side1 ?side2 ?side3 A88.out).mono ?_); (case side1 => repeat (first | (with_reducible first | exact HB.out | apply below_alloc | apply pw_below_drewN | apply below_drew1 | refine below_set ?_ GE306.out | refine below_set ?_ GE325.out | refine below_set ?_ GE335.out | refine below_set ?_ GE343.out) | exact HB.out)); (case side2 => exact Kd.R_tight rfl HO_336000.out); (case side3 => exact Kd.R_tight rfl HO_336001.out); rintro e w95 ⟨rfl, hy0, hy1, hb, hkp⟩; refine ⟨_, rfl, ?_⟩; have n0_ := aS (Kd.R_mono (ok' := fun k_ => some k_ ≠ (.slice Ao75 t345.length co75 : Value).ownBlock) (Kd.R_keptB ((Kd.R_apart' (Kd.R_apart' HO_8.out (Kd.R_typed HO_336000.out) (by decide)) (Kd.R_typed HO_336001.out) (by decide))) hkp (fun k_ hk_ hs_ => Or.elim hs_ (fun e_ => (hk_.1.2) e_) (fun e_ => (hk_.2) e_))) (fun k_ hk_ => hk_.1.1.1.2)); have n1_ := aS (Kd.R_mono (ok' := fun k_ => some k_ ≠ (.slice Ao38 t329.length co38 : Value).ownBlock ∧ some k_ ≠ (.slice Ao46 t336.length co46 : Value).ownBlock ∧ some k_ ≠ (.slice Ao83 t349.length co83 : Value).ownBlock) (Kd.R_keptB ((Kd.R_apart' HO_326000.out (Kd.R_typed HO_336001.out) (by decide))) hkp (fun k_ hk_ hs_ => Or.elim hs_ (fun e_ => (hk_.1.1) e_) (fun e_ => (hk_.2) e_))) (fun k_ hk_ => ⟨hk_.1.1.1, hk_.1.1.2.1, hk_.1.1.2.2⟩)); have n2_ := aS (Kd.R_mono (ok' := fun k_ => some k_ ≠ (.slice Ao42 t332.length co42 : Value).ownBlock ∧ some k_ ≠ (.slice Ao51 t339.length co51 : Value).ownBlock ∧ some k_ ≠ (.slice Ao84 t352.length co84 : Value).ownBlock) (Kd.R_keptB ((Kd.R_apart' HO_326001.out (Kd.R_typed HO_336000.out) (by decide))) hkp (fun k_ hk_ hs_ => Or.elim hs_ (fun e_ => (hk_.2) e_) (fun e_ => (hk_.1.1) e_))) (fun k_ hk_ => ⟨hk_.1.1.1, hk_.1.1.2.1, hk_.1.1.2.2⟩)); have n3_ := aS (Kd.R_reok rfl hy0 (fun k_ e_ => HO_336000.out.1 k_ e_)); have n4_ := aS (Kd.R_reok rfl hy1 (fun k_ e_ => HO_336001.out.1 k_ e_)); have n5_ := aS (Kd.R_mono (ok' := fun k_ => some k_ ≠ (.slice Ao29 t318.length co29 : Value).ownBlock ∧ some k_ ≠ (.slice Ao38 t329.length co38 : Value).ownBlock ∧ some k_ ≠ (.slice Ao83 t349.length co83 : Value).ownBlock) (Kd.R_keptB ((Kd.R_apart' HO_344000.out (Kd.R_typed HO_336001.out) (by decide))) hkp (fun k_ hk_ hs_ => Or.elim hs_ (fun e_ => (hk_.1.2.1) e_) (fun e_ => (hk_.2) e_))) (fun k_ hk_ => ⟨hk_.1.1.1, hk_.1.1.2.1, hk_.1.1.2.2⟩)); have n6_ := aS (Kd.R_mono (ok' := fun k_ => some k_ ≠ (.slice Ao31 t321.length co31 : Value).ownBlock ∧ some k_ ≠ (.slice Ao42 t332.length co42 : Value).ownBlock ∧ some k_ ≠ (.slice Ao84 t352.length co84 : Value).ownBlock) (Kd.R_keptB ((Kd.R_apart' HO_344001.out (Kd.R_typed HO_336000.out) (by decide))) hkp (fun k_ hk_ hs_ => Or.elim hs_ (fun e_ => (hk_.2) e_) (fun e_ => (hk_.1.2.1) e_))) (fun k_ hk_ => ⟨hk_.1.1.1, hk_.1.1.2.1, hk_.1.1.2.2⟩)); have n7_ := aS (blk_kept (sB BK306.out) hkp (fun hs_ => Or.elim hs_ (fun e_ => (fun e_ => (Kd.R_ne HO_336000.out BK306.out (by decide)) e_) e_) (fun e_ => (fun e_ => (Kd.R_ne HO_336001.out BK306.out (by decide)) e_) e_))); have n8_ := aS (blk_kept (sB BK325.out) hkp (fun hs_ => Or.elim hs_ (fun e_ => (fun e_ => (Kd.R_ne HO_336000.out BK325.out (by decide)) e_) e_) (fun e_ => (fun e_ => (Kd.R_ne HO_336001.out BK325.out (by decide)) e_) e_))); have n9_ := aS (blk_kept (sB BK335.out) hkp (fun hs_ => Or.elim hs_ (fun e_ => (fun e_ => (Kd.R_ne HO_336000.out BK335.out (by decide)) e_) e_) (fun e_ => (fun e_ => (Kd.R_ne HO_336001.out BK335.out (by decide)) e_) e_))); have n10_ := aS (blk_kept (sB BK343.out) hkp (fun hs_ => Or.elim hs_ (fun e_ => (fun e_ => (Kd.R_ne HO_336000.out BK343.out (by decide)) e_) e_) (fun e_ => (fun e_ => (Kd.R_ne HO_336001.out BK343.out (by decide)) e_) e_))); have n11_ := aS (Kd.R_mono (ok' := fun k_ => some k_ ≠ (.slice Ao43 t326.length co43 : Value).ownBlock) (Kd.R_keptB ((Kd.R_apart' (Kd.R_apart' HO347.out (Kd.R_typed HO_336000.out) (by decide)) (Kd.R_typed HO_336001.out) (by decide))) hkp (fun k_ hk_ hs_ => Or.elim hs_ (fun e_ => (hk_.1.2) e_) (fun e_ => (hk_.2) e_))) (fun k_ hk_ => hk_.1.1.1)); have n12_ := aS (Kd.R_mono (ok' := fun k_ => some k_ ≠ (.slice Ao29 t318.length co29 : Value).ownBlock ∧ some k_ ≠ (.slice Ao38 t329.length co38 : Value).ownBlock ∧ some k_ ≠ (.slice Ao46 t336.length co46 : Value).ownBlock) (Kd.R_keptB ((Kd.R_apart' HO351.out (Kd.R_typed HO_336001.out) (by decide))) hkp (fun k_ hk_ hs_ => Or.elim hs_ (fun e_ => (hk_.1.2.1) e_) (fun e_ => (hk_.2) e_))) (fun k_ hk_ => ⟨hk_.1.1.1, hk_.1.1.2.1, hk_.1.1.2.2⟩)); have n13_ := aS (Kd.R_mono (ok' := fun k_ => some k_ ≠ (.slice Ao31 t321.length co31 : Value).ownBlock ∧ some k_ ≠ (.slice Ao42 t332.length co42 : Value).ownBlock ∧ some k_ ≠ (.slice Ao51 t339.length co51 : Value).ownBlock) (Kd.R_keptB ((Kd.R_apart' HO354.out (Kd.R_typed HO_336000.out) (by decide))) hkp (fun k_ hk_ hs_ => Or.elim hs_ (fun e_ => (hk_.2) e_) (fun e_ => (hk_.1.2.1) e_))) (fun k_ hk_ => ⟨hk_.1.1.1, hk_.1.1.2.1, hk_.1.1.2.2⟩)); have n14_ := aS (hb); clear HO_8 HO_326000 HO_326001 HO_336000 HO_336001 HO_344000 HO_344001 BK306 BK325 BK335 BK343 HO347 HO351 HO354 HB; have HO_8 := n0_; have HO_326000 := n1_; have HO_326001 := n2_; have HO_336000 := n3_; have HO_336001 := n4_; have HO_344000 := n5_; have HO_344001 := n6_; have BK306 := n7_; have BK325 := n8_; have BK335 := n9_; have BK343 := n10_; have HO347 := n11_; have HO351 := n12_; have HO354 := n13_; have HB := n14_; clear n0_ n1_ n2_ n3_ n4_ n5_ n6_ n7_ n8_ n9_ n10_ n11_ n12_ n13_ n14_; (try clear hb); (try clear hkp); (try clear hy0); (try clear hy1)))
        (try simp only [Act.put, List.setIfInBounds_toArray, List.set_cons_zero, List.set_cons_succ])
        go_cut [82] (fun v82 wc => ∃ (kq : Nat) (x82_88 : Bool), v82 = .bool x82_88 ∧ Aside0 (laws_FnExactTurnLine.j1 kq l0 t324 x82_88 l1_0 l1_1 t318 t321 t336 t339 = some r) ∧ Aside0 (kq ≤ kj18) ∧ Aside0 (Kd.R k44 44 wc w.heap.size (fun k_ => some k_ ≠ ((.slice Ao46 t336.length co46) : Value).ownBlock) (.slice Ao29 t318.length co29) t318) ∧ Aside0 (Kd.R (Kd.int .i64) 2 wc w.heap.size (fun k_ => some k_ ≠ ((.slice Ao51 t339.length co51) : Value).ownBlock) (.slice Ao31 t321.length co31) t321) ∧ Aside0 (Kd.R k44 44 wc w.heap.size (fun k_ => some k_ ≠ ((.slice Ao29 t318.length co29) : Value).ownBlock) (.slice Ao46 t336.length co46) t336) ∧ Aside0 (Kd.R (Kd.int .i64) 2 wc w.heap.size (fun k_ => some k_ ≠ ((.slice Ao31 t321.length co31) : Value).ownBlock) (.slice Ao51 t339.length co51) t339) ∧ Aside0 (wc.heap[gb306]? = some (.cells #[(.slice A1_0 l1_0.length c1_0), (.slice A1_1 l1_1.length c1_1)] 32 (0, 0))) ∧ Aside0 (wc.heap[gb325]? = some (.cells #[(.slice Ao29 t318.length co29), (.slice Ao31 t321.length co31)] 37 (0, 0))) ∧ Aside0 (wc.heap[gb343]? = some (.cells #[(.slice Ao46 t336.length co46), (.slice Ao51 t339.length co51)] 37 (0, 0))) ∧ Aside0 (Below w.heap.size w wc))
        case first =>
         have H := HC89.out
         clear HC89
         by_cases c96 : t358 < 0
         ·
          rw [if_pos c96] at H
          have c96b0 : decide (t358 < 0) = true := decide_eq_true c96
          clear c96
          (first | rw [c96b0] | (simp only [i64_w, i32_w]; rw [c96b0]) | (rw [c96b2]; simp only [Bool.not_false, Bool.not_true]) | skip)
          have H' := aS H
          clear H
          go_wp2
          go_meet
          case rel => exact ⟨_, (true), (by first | rfl | (simp; done) | (simp [*]; done) | (simp only [i64_w]; done) | (simp [i64_w]; done)), H', ⟨by have := HJ18.out; first | omega | exact Nat.le_refl _⟩, ⟨by (with_reducible repeat (first | apply Kd.R_alloc | apply Kd.R_drewN | apply Kd.R_drew)); exact Kd.R_mono HO_326000.out (fun _ hk => hk.2.1)⟩, ⟨by (with_reducible repeat (first | apply Kd.R_alloc | apply Kd.R_drewN | apply Kd.R_drew)); exact Kd.R_mono HO_326001.out (fun _ hk => hk.2.1)⟩, ⟨by (with_reducible repeat (first | apply Kd.R_alloc | apply Kd.R_drewN | apply Kd.R_drew)); exact Kd.R_mono HO_344000.out (fun _ hk => hk.1)⟩, ⟨by (with_reducible repeat (first | apply Kd.R_alloc | apply Kd.R_drewN | apply Kd.R_drew)); exact Kd.R_mono HO_344001.out (fun _ hk => hk.1)⟩, ⟨by (with_reducible repeat (first | refine blk_drewN ?_ _ | refine blk_drew ?_ | refine blk_alloc ?_ _)); exact BK306.out⟩, ⟨by (with_reducible repeat (first | refine blk_drewN ?_ _ | refine blk_drew ?_ | refine blk_alloc ?_ _)); exact BK325.out⟩, ⟨by (with_reducible repeat (first | refine blk_drewN ?_ _ | refine blk_drew ?_ | refine blk_alloc ?_ _)); exact BK343.out⟩, ⟨by repeat (first | (with_reducible first | exact HB.out | apply below_alloc | apply pw_below_drewN | apply below_drew1 | refine below_set ?_ GE306.out | refine below_set ?_ GE325.out | refine below_set ?_ GE343.out) | exact HB.out)⟩⟩
         ·
          rw [if_neg c96] at H
          have c96b0 : decide (t358 < 0) = false := decide_eq_false c96
          clear c96
          (first | rw [c96b0] | (simp only [i64_w, i32_w]; rw [c96b0]) | (rw [c96b2]; simp only [Bool.not_false, Bool.not_true]) | skip)
          replace H := Option.bind_eq_some_iff.mp H
          obtain ⟨t361, A970, H⟩ := H
          replace H : (if t361 = true then (laws_FnExactTurnLine.j1 kj18 l0 t324 (t342 != t324) l1_0 l1_1 t318 t321 t336 t339) else (laws_FnExactTurnLine.j1 kj18 l0 t324 true l1_0 l1_1 t318 t321 t336 t339)) = some r := H
          have A97 := aS A970
          clear A970
          by_cases c98 : t361 = true
          ·
           subst c98
           have H1 : (laws_FnExactTurnLine.j1 kj18 l0 t324 (t342 != t324) l1_0 l1_1 t318 t321 t336 t339) = some r := by rw [if_pos rfl] at H; exact H
           clear H
           have H := H1
           clear H1
           have H' := aS H
           clear H
           have hnb99 := NB343_306.out
           have hnc99 := NB306_343.out
           have hnb100 := NB343_325.out
           have hnc100 := NB325_343.out
           have hcz101_0 : w95.cell? ⟨gb343, 0, none⟩ = some (.slice Ao46 t336.length co46) := (blk_cell BK343.out 0).trans rfl
           have hcz101_1 : w95.cell? ⟨gb343, 1, none⟩ = some (.slice Ao51 t339.length co51) := (blk_cell BK343.out 1).trans rfl
           have hfz101_0 := blk_frozen BK343.out 0
           have hfz101_1 := blk_frozen BK343.out 1
           have hnb102 := NB325_306.out
           have hnc102 := NB306_325.out
           have hcz103_0 : w95.cell? ⟨gb325, 0, none⟩ = some (.slice Ao29 t318.length co29) := (blk_cell BK325.out 0).trans rfl
           have hcz103_1 : w95.cell? ⟨gb325, 1, none⟩ = some (.slice Ao31 t321.length co31) := (blk_cell BK325.out 1).trans rfl
           have hfz103_0 := blk_frozen BK325.out 0
           have hfz103_1 := blk_frozen BK325.out 1
           go_wp2_with (first | (go_at_call 22; (with_reducible refine (laws_eqLine.calls kj18 _ _ t336 _ _ t339 _ _ t318 _ _ t321 true _ ?side1 ?side2 ?side3 ?side4 ?side5 ?side6 ?side7 ?side8 A97.out).mono ?_); (case side1 => exact sC (Kd.R_reads' HO_344000.out).2.2); (case side2 => exact (Kd.R_reads' HO_344000.out).2.1); (case side3 => exact sC (Kd.R_reads' HO_344001.out).2.2); (case side4 => exact (Kd.R_reads' HO_344001.out).2.1); (case side5 => exact sC (Kd.R_reads' HO_326000.out).2.2); (case side6 => exact (Kd.R_reads' HO_326000.out).2.1); (case side7 => exact sC (Kd.R_reads' HO_326001.out).2.2); (case side8 => exact (Kd.R_reads' HO_326001.out).2.1); rintro e w104 ⟨rfl, hb⟩; have n0_ := aS (Kd.R_below (sR HO_8.out) hb); have n1_ := aS (Kd.R_below (sR HO_326000.out) hb); have n2_ := aS (Kd.R_below (sR HO_326001.out) hb); have n3_ := aS (Kd.R_below (sR HO_336000.out) hb); have n4_ := aS (Kd.R_below (sR HO_336001.out) hb); have n5_ := aS (Kd.R_below (sR HO_344000.out) hb); have n6_ := aS (Kd.R_below (sR HO_344001.out) hb); have n7_ := aS (Kd.R_below (sR HO347.out) hb); have n8_ := aS (Kd.R_below (sR HO351.out) hb); have n9_ := aS (Kd.R_below (sR HO354.out) hb); have n10_ := aS (blk_below (g := gb306) (o := .cells #[.slice A1_0 l1_0.length c1_0, .slice A1_1 l1_1.length c1_1] 32 (0, 0)) (sB BK306.out) hb); have n11_ := aS (blk_below (g := gb325) (o := .cells #[.slice Ao29 t318.length co29, .slice Ao31 t321.length co31] 37 (0, 0)) (sB BK325.out) hb); have n12_ := aS (blk_below (g := gb343) (o := .cells #[.slice Ao46 t336.length co46, .slice Ao51 t339.length co51] 37 (0, 0)) (sB BK343.out) hb); have n13_ := aS (below_step (sW HB.out) hb); clear HO_8 HO_326000 HO_326001 HO_336000 HO_336001 HO_344000 HO_344001 HO347 HO351 HO354 BK306 BK325 BK343 HB; have HO_8 := n0_; have HO_326000 := n1_; have HO_326001 := n2_; have HO_336000 := n3_; have HO_336001 := n4_; have HO_344000 := n5_; have HO_344001 := n6_; have HO347 := n7_; have HO351 := n8_; have HO354 := n9_; have BK306 := n10_; have BK325 := n11_; have BK343 := n12_; have HB := n13_; clear n0_ n1_ n2_ n3_ n4_ n5_ n6_ n7_ n8_ n9_ n10_ n11_ n12_ n13_; (try clear hb); (try clear hb2); (try clear hk); (try clear hi)))
           go_meet
           case rel => exact ⟨_, ((t342 != t324)), (by first | rfl | (simp; done) | (simp [*]; done) | (simp only [i64_w]; done) | (simp [i64_w]; done)), H', ⟨by have := HJ18.out; first | omega | exact Nat.le_refl _⟩, ⟨by (with_reducible repeat (first | apply Kd.R_alloc | apply Kd.R_drewN | apply Kd.R_drew)); exact Kd.R_mono HO_326000.out (fun _ hk => hk.2.1)⟩, ⟨by (with_reducible repeat (first | apply Kd.R_alloc | apply Kd.R_drewN | apply Kd.R_drew)); exact Kd.R_mono HO_326001.out (fun _ hk => hk.2.1)⟩, ⟨by (with_reducible repeat (first | apply Kd.R_alloc | apply Kd.R_drewN | apply Kd.R_drew)); exact Kd.R_mono HO_344000.out (fun _ hk => hk.1)⟩, ⟨by (with_reducible repeat (first | apply Kd.R_alloc | apply Kd.R_drewN | apply Kd.R_drew)); exact Kd.R_mono HO_344001.out (fun _ hk => hk.1)⟩, ⟨by (with_reducible repeat (first | refine blk_drewN ?_ _ | refine blk_drew ?_ | refine blk_alloc ?_ _)); exact BK306.out⟩, ⟨by (with_reducible repeat (first | refine blk_drewN ?_ _ | refine blk_drew ?_ | refine blk_alloc ?_ _)); exact BK325.out⟩, ⟨by (with_reducible repeat (first | refine blk_drewN ?_ _ | refine blk_drew ?_ | refine blk_alloc ?_ _)); exact BK343.out⟩, ⟨by repeat (first | (with_reducible first | exact HB.out | apply below_alloc | apply pw_below_drewN | apply below_drew1 | refine below_set ?_ GE306.out | refine below_set ?_ GE325.out | refine below_set ?_ GE343.out) | exact HB.out)⟩⟩
          ·
           replace c98 := Bool.eq_false_iff.mpr c98
           subst c98
           have H1 : (laws_FnExactTurnLine.j1 kj18 l0 t324 true l1_0 l1_1 t318 t321 t336 t339) = some r := by rw [if_neg (show ¬ (false = true) by decide)] at H; exact H
           clear H
           have H := H1
           clear H1
           have H' := aS H
           clear H
           have hnb105 := NB343_306.out
           have hnc105 := NB306_343.out
           have hnb106 := NB343_325.out
           have hnc106 := NB325_343.out
           have hcz107_0 : w95.cell? ⟨gb343, 0, none⟩ = some (.slice Ao46 t336.length co46) := (blk_cell BK343.out 0).trans rfl
           have hcz107_1 : w95.cell? ⟨gb343, 1, none⟩ = some (.slice Ao51 t339.length co51) := (blk_cell BK343.out 1).trans rfl
           have hfz107_0 := blk_frozen BK343.out 0
           have hfz107_1 := blk_frozen BK343.out 1
           have hnb108 := NB325_306.out
           have hnc108 := NB306_325.out
           have hcz109_0 : w95.cell? ⟨gb325, 0, none⟩ = some (.slice Ao29 t318.length co29) := (blk_cell BK325.out 0).trans rfl
           have hcz109_1 : w95.cell? ⟨gb325, 1, none⟩ = some (.slice Ao31 t321.length co31) := (blk_cell BK325.out 1).trans rfl
           have hfz109_0 := blk_frozen BK325.out 0
           have hfz109_1 := blk_frozen BK325.out 1
           go_wp2_with (first | (go_at_call 22; (with_reducible refine (laws_eqLine.calls kj18 _ _ t336 _ _ t339 _ _ t318 _ _ t321 false _ ?side1 ?side2 ?side3 ?side4 ?side5 ?side6 ?side7 ?side8 A97.out).mono ?_); (case side1 => exact sC (Kd.R_reads' HO_344000.out).2.2); (case side2 => exact (Kd.R_reads' HO_344000.out).2.1); (case side3 => exact sC (Kd.R_reads' HO_344001.out).2.2); (case side4 => exact (Kd.R_reads' HO_344001.out).2.1); (case side5 => exact sC (Kd.R_reads' HO_326000.out).2.2); (case side6 => exact (Kd.R_reads' HO_326000.out).2.1); (case side7 => exact sC (Kd.R_reads' HO_326001.out).2.2); (case side8 => exact (Kd.R_reads' HO_326001.out).2.1); rintro e w110 ⟨rfl, hb⟩; have n0_ := aS (Kd.R_below (sR HO_8.out) hb); have n1_ := aS (Kd.R_below (sR HO_326000.out) hb); have n2_ := aS (Kd.R_below (sR HO_326001.out) hb); have n3_ := aS (Kd.R_below (sR HO_336000.out) hb); have n4_ := aS (Kd.R_below (sR HO_336001.out) hb); have n5_ := aS (Kd.R_below (sR HO_344000.out) hb); have n6_ := aS (Kd.R_below (sR HO_344001.out) hb); have n7_ := aS (Kd.R_below (sR HO347.out) hb); have n8_ := aS (Kd.R_below (sR HO351.out) hb); have n9_ := aS (Kd.R_below (sR HO354.out) hb); have n10_ := aS (blk_below (g := gb306) (o := .cells #[.slice A1_0 l1_0.length c1_0, .slice A1_1 l1_1.length c1_1] 32 (0, 0)) (sB BK306.out) hb); have n11_ := aS (blk_below (g := gb325) (o := .cells #[.slice Ao29 t318.length co29, .slice Ao31 t321.length co31] 37 (0, 0)) (sB BK325.out) hb); have n12_ := aS (blk_below (g := gb343) (o := .cells #[.slice Ao46 t336.length co46, .slice Ao51 t339.length co51] 37 (0, 0)) (sB BK343.out) hb); have n13_ := aS (below_step (sW HB.out) hb); clear HO_8 HO_326000 HO_326001 HO_336000 HO_336001 HO_344000 HO_344001 HO347 HO351 HO354 BK306 BK325 BK343 HB; have HO_8 := n0_; have HO_326000 := n1_; have HO_326001 := n2_; have HO_336000 := n3_; have HO_336001 := n4_; have HO_344000 := n5_; have HO_344001 := n6_; have HO347 := n7_; have HO351 := n8_; have HO354 := n9_; have BK306 := n10_; have BK325 := n11_; have BK343 := n12_; have HB := n13_; clear n0_ n1_ n2_ n3_ n4_ n5_ n6_ n7_ n8_ n9_ n10_ n11_ n12_ n13_; (try clear hb); (try clear hb2); (try clear hk); (try clear hi)))
           go_meet
           case rel => exact ⟨_, (true), (by first | rfl | (simp; done) | (simp [*]; done) | (simp only [i64_w]; done) | (simp [i64_w]; done)), H', ⟨by have := HJ18.out; first | omega | exact Nat.le_refl _⟩, ⟨by (with_reducible repeat (first | apply Kd.R_alloc | apply Kd.R_drewN | apply Kd.R_drew)); exact Kd.R_mono HO_326000.out (fun _ hk => hk.2.1)⟩, ⟨by (with_reducible repeat (first | apply Kd.R_alloc | apply Kd.R_drewN | apply Kd.R_drew)); exact Kd.R_mono HO_326001.out (fun _ hk => hk.2.1)⟩, ⟨by (with_reducible repeat (first | apply Kd.R_alloc | apply Kd.R_drewN | apply Kd.R_drew)); exact Kd.R_mono HO_344000.out (fun _ hk => hk.1)⟩, ⟨by (with_reducible repeat (first | apply Kd.R_alloc | apply Kd.R_drewN | apply Kd.R_drew)); exact Kd.R_mono HO_344001.out (fun _ hk => hk.1)⟩, ⟨by (with_reducible repeat (first | refine blk_drewN ?_ _ | refine blk_drew ?_ | refine blk_alloc ?_ _)); exact BK306.out⟩, ⟨by (with_reducible repeat (first | refine blk_drewN ?_ _ | refine blk_drew ?_ | refine blk_alloc ?_ _)); exact BK325.out⟩, ⟨by (with_reducible repeat (first | refine blk_drewN ?_ _ | refine blk_drew ?_ | refine blk_alloc ?_ _)); exact BK343.out⟩, ⟨by repeat (first | (with_reducible first | exact HB.out | apply below_alloc | apply pw_below_drewN | apply below_drew1 | refine below_set ?_ GE306.out | refine below_set ?_ GE325.out | refine below_set ?_ GE343.out) | exact HB.out)⟩⟩
        case rest =>
         clear HC89
         (try clear c1); (try clear c2); (try clear p2); (try clear c3); (try clear c4); (try clear c5); (try clear c6); (try clear c7); (try clear c8); (try clear c9); (try clear c10); (try clear c15); (try clear c17); (try clear c20); (try clear c22); (try clear c33); (try clear c34); (try clear c35); (try clear c36); (try clear c39); (try clear c40); (try clear c47); (try clear c48); (try clear c49); (try clear c53); (try clear c54); (try clear c55); (try clear c56); (try clear c58); (try clear c59); (try clear c62); (try clear c63); (try clear c64); (try clear c66); (try clear c67); (try clear c70); (try clear c77); (try clear c86); (try clear c91); (try clear c92); (try clear c93); (try clear c96); (try clear c96b0); (try clear c96b2); (try clear c98); (try clear c99); (try clear c100); (try clear c102); (try clear c105); (try clear c106); (try clear c108); (try clear hcz101_0); (try clear hcz101_1); (try clear hcz103_0); (try clear hcz103_1); (try clear hcz107_0); (try clear hcz107_1); (try clear hcz109_0); (try clear hcz109_1); (try clear hcz35_0); (try clear hcz35_1); (try clear hcz41_0); (try clear hcz41_1); (try clear hcz50_0); (try clear hcz50_1); (try clear hcz57_0); (try clear hcz57_1); (try clear hcz60_0); (try clear hcz60_1); (try clear hcz65_0); (try clear hcz65_1); (try clear hcz68_0); (try clear hcz68_1); (try clear hcz94_0); (try clear hcz94_1); (try clear hfz101_0); (try clear hfz101_1); (try clear hfz103_0); (try clear hfz103_1); (try clear hfz107_0); (try clear hfz107_1); (try clear hfz109_0); (try clear hfz109_1); (try clear hfz35_0); (try clear hfz35_1); (try clear hfz41_0); (try clear hfz41_1); (try clear hfz50_0); (try clear hfz50_1); (try clear hfz57_0); (try clear hfz57_1); (try clear hfz60_0); (try clear hfz60_1); (try clear hfz65_0); (try clear hfz65_1); (try clear hfz68_0); (try clear hfz68_1); (try clear hfz94_0); (try clear hfz94_1); (try clear p2)
         obtain ⟨kq, x82_88, rfl, HA, HJ88, HO_326000, HO_326001, HO_344000, HO_344001, BK306, BK325, BK343, HB⟩ := hcut
         cases kq with
         | zero => exact absurd HA.out (by simp [laws_FnExactTurnLine.j1])
         | succ kj88 =>
          have H := HA.out
          clear HA
          simp only [laws_FnExactTurnLine.j1] at H
          by_cases c111 : x82_88 = true
          ·
           subst c111
           have H1 : (some false) = some r := by rw [if_pos rfl] at H; exact H
           clear H
           have H := H1
           clear H1
           obtain rfl := Option.some.inj H
           go_wp2
           go_ret
           exact ⟨by first | rfl | (simp [errW_none, errW_some, i64_w]; done) | (simp [errW_none, errW_some] <;> rfl) | (simp [*, errW_none, errW_some] <;> rfl), by repeat (first | (with_reducible first | exact HB.out | apply below_alloc | apply pw_below_drewN | apply below_drew1) | exact HB.out)⟩
          ·
           replace c111 := Bool.eq_false_iff.mpr c111
           subst c111
           have H1 : ((laws_markLine.f kj88 t336 t339 1).bind fun bt362 => ((laws_heldLine.f kj88 bt362.2.1 bt362.2.2 1).bind fun t365 => (if t365 < 0 then (some false) else (if t365 = bt362.1 then ((laws_toJoinS.f kj88 l0).bind fun t366 => ((laws_toLine.f kj88 l1_0 l1_1).bind fun bt369 => ((impl_TurnLine.f kj88 t366 bt369.1 bt369.2).bind fun bt375 => ((laws_eqLine.f kj88 bt375.1 bt375.2.1 t318 t321).bind fun t383 => (if t383 = true then (laws_FnExactTurnLine.j2 kj88 bt362.1 (bt375.2.2 != t324) bt362.2.1 bt362.2.2) else (laws_FnExactTurnLine.j2 kj88 bt362.1 true bt362.2.1 bt362.2.2)))))) else (some false))))) = some r := by rw [if_neg (show ¬ (false = true) by decide)] at H; exact H
           clear H
           have H := H1
           clear H1
           replace H := Option.bind_eq_some_iff.mp H
           obtain ⟨⟨t362, t363, t364⟩, A1120, H⟩ := H
           replace H : ((laws_heldLine.f kj88 t363 t364 1).bind fun t365 => (if t365 < 0 then (some false) else (if t365 = t362 then ((laws_toJoinS.f kj88 l0).bind fun t366 => ((laws_toLine.f kj88 l1_0 l1_1).bind fun bt369 => ((impl_TurnLine.f kj88 t366 bt369.1 bt369.2).bind fun bt375 => ((laws_eqLine.f kj88 bt375.1 bt375.2.1 t318 t321).bind fun t383 => (if t383 = true then (laws_FnExactTurnLine.j2 kj88 t362 (bt375.2.2 != t324) t363 t364) else (laws_FnExactTurnLine.j2 kj88 t362 true t363 t364)))))) else (some false)))) = some r := H
           have A112 := aS A1120
           clear A1120
           replace H := Option.bind_eq_some_iff.mp H
           obtain ⟨t365, A1130, H⟩ := H
           replace H : (if t365 < 0 then (some false) else (if t365 = t362 then ((laws_toJoinS.f kj88 l0).bind fun t366 => ((laws_toLine.f kj88 l1_0 l1_1).bind fun bt369 => ((impl_TurnLine.f kj88 t366 bt369.1 bt369.2).bind fun bt375 => ((laws_eqLine.f kj88 bt375.1 bt375.2.1 t318 t321).bind fun t383 => (if t383 = true then (laws_FnExactTurnLine.j2 kj88 t362 (bt375.2.2 != t324) t363 t364) else (laws_FnExactTurnLine.j2 kj88 t362 true t363 t364)))))) else (some false))) = some r := H
           have A113 := aS A1130
           clear A1130
           have HC114 := aS H
           clear H
           have hnb115 := NB343_306.out
           have hnc115 := NB306_343.out
           have hnb116 := NB343_325.out
           have hnc116 := NB325_343.out
           have hcz117_0 : wc.cell? ⟨gb343, 0, none⟩ = some (.slice Ao46 t336.length co46) := (blk_cell BK343.out 0).trans rfl
           have hcz117_1 : wc.cell? ⟨gb343, 1, none⟩ = some (.slice Ao51 t339.length co51) := (blk_cell BK343.out 1).trans rfl
           have hfz117_0 := blk_frozen BK343.out 0
           have hfz117_1 := blk_frozen BK343.out 1
           go_upto_if 90 with (first | ((with_reducible refine gate_callee (f := 36) rfl ?_); refine goesL_ (some 85) rfl rfl Try.func36 (by kernel_rfl) rfl #[.agg #[.slice Ao46 t336.length co46, .slice Ao51 t339.length co51], .int .i64 1] rfl sG ?_; (with_reducible refine (laws_markLine.calls kj88 (fun k_ => some k_ = (.slice Ao46 t336.length co46 : Value).ownBlock) (.slice Ao46 t336.length co46) t336 (fun k_ => some k_ = (.slice Ao51 t339.length co51 : Value).ownBlock) (.slice Ao51 t339.length co51) t339 1 t362 t363 t364 w _ ?side1 ?side2 ?side3 A112.out).mono ?_); (case side1 => repeat (first | (with_reducible first | exact HB.out | apply below_alloc | apply pw_below_drewN | apply below_drew1 | refine below_set ?_ GE306.out | refine below_set ?_ GE325.out | refine below_set ?_ GE343.out) | exact HB.out)); (case side2 => exact Kd.R_tight rfl HO_344000.out); (case side3 => exact Kd.R_tight rfl HO_344001.out); rintro e w118 ⟨rfl, hy0, hy1, hb, hkp⟩; refine ⟨_, rfl, ?_⟩; have n0_ := aS (Kd.R_mono (ok' := fun k_ => some k_ ≠ (.slice Ao46 t336.length co46 : Value).ownBlock) (Kd.R_keptB ((Kd.R_apart' HO_326000.out (Kd.R_typed HO_344001.out) (by decide))) hkp (fun k_ hk_ hs_ => Or.elim hs_ (fun e_ => (hk_.1) e_) (fun e_ => (hk_.2) e_))) (fun k_ hk_ => hk_.1.1)); have n1_ := aS (Kd.R_mono (ok' := fun k_ => some k_ ≠ (.slice Ao51 t339.length co51 : Value).ownBlock) (Kd.R_keptB ((Kd.R_apart' HO_326001.out (Kd.R_typed HO_344000.out) (by decide))) hkp (fun k_ hk_ hs_ => Or.elim hs_ (fun e_ => (hk_.2) e_) (fun e_ => (hk_.1) e_))) (fun k_ hk_ => hk_.1.1)); have n2_ := aS (Kd.R_reok rfl hy0 (fun k_ e_ => HO_344000.out.1 k_ e_)); have n3_ := aS (Kd.R_reok rfl hy1 (fun k_ e_ => HO_344001.out.1 k_ e_)); have n4_ := aS (blk_kept (sB BK306.out) hkp (fun hs_ => Or.elim hs_ (fun e_ => (fun e_ => (Kd.R_ne HO_344000.out BK306.out (by decide)) e_) e_) (fun e_ => (fun e_ => (Kd.R_ne HO_344001.out BK306.out (by decide)) e_) e_))); have n5_ := aS (blk_kept (sB BK325.out) hkp (fun hs_ => Or.elim hs_ (fun e_ => (fun e_ => (Kd.R_ne HO_344000.out BK325.out (by decide)) e_) e_) (fun e_ => (fun e_ => (Kd.R_ne HO_344001.out BK325.out (by decide)) e_) e_))); have n6_ := aS (blk_kept (sB BK343.out) hkp (fun hs_ => Or.elim hs_ (fun e_ => (fun e_ => (Kd.R_ne HO_344000.out BK343.out (by decide)) e_) e_) (fun e_ => (fun e_ => (Kd.R_ne HO_344001.out BK343.out (by decide)) e_) e_))); have n7_ := aS (hb); clear HO_326000 HO_326001 HO_344000 HO_344001 BK306 BK325 BK343 HB; have HO_326000 := n0_; have HO_326001 := n1_; have HO_344000 := n2_; have HO_344001 := n3_; have BK306 := n4_; have BK325 := n5_; have BK343 := n6_; have HB := n7_; clear n0_ n1_ n2_ n3_ n4_ n5_ n6_ n7_; (try clear hb); (try clear hkp); (try clear hy0); (try clear hy1); have hcz119_0 : w118.cell? ⟨gb343, 0, none⟩ = some (.slice Ao46 t336.length co46) := (blk_cell BK343.out 0).trans rfl; have hcz119_1 : w118.cell? ⟨gb343, 1, none⟩ = some (.slice Ao51 t339.length co51) := (blk_cell BK343.out 1).trans rfl; have hfz119_0 := blk_frozen BK343.out 0; have hfz119_1 := blk_frozen BK343.out 1) | ((with_reducible refine gate_callee (f := 37) rfl ?_); refine goesL_ (some 88) rfl rfl Try.func37 (by kernel_rfl) rfl #[.agg #[.slice Ao46 t363.length co46, .slice Ao51 t364.length co51], .int .i64 1] rfl (by (try simp only [List.map_toArray, List.map_cons, List.map_nil]); first | done | (rw [show t363.length = t336.length from (Kd.R_reads' HO_344000.out).1.symm, show t364.length = t339.length from (Kd.R_reads' HO_344001.out).1.symm] <;> rfl) | rfl | (simp only [List.length_drop, List.length_take]; rfl)) ?_; (with_reducible refine (laws_heldLine.calls kj88 _ _ t363 _ _ t364 1 t365 _ ?side1 ?side2 ?side3 ?side4 A113.out).mono ?_); (case side1 => exact sC (Kd.R_reads' HO_344000.out).2.2); (case side2 => rw [show t363.length = t336.length from (Kd.R_reads' HO_344000.out).1.symm]; exact (Kd.R_reads' HO_344000.out).2.1); (case side3 => exact sC (Kd.R_reads' HO_344001.out).2.2); (case side4 => rw [show t364.length = t339.length from (Kd.R_reads' HO_344001.out).1.symm]; exact (Kd.R_reads' HO_344001.out).2.1); rintro e w120 ⟨rfl, hb⟩; refine ⟨_, rfl, ?_⟩; have n0_ := aS (Kd.R_below (sR HO_326000.out) hb); have n1_ := aS (Kd.R_below (sR HO_326001.out) hb); have n2_ := aS (Kd.R_below (sR HO_344000.out) hb); have n3_ := aS (Kd.R_below (sR HO_344001.out) hb); have n4_ := aS (blk_below (g := gb306) (o := .cells #[.slice A1_0 l1_0.length c1_0, .slice A1_1 l1_1.length c1_1] 32 (0, 0)) (sB BK306.out) hb); have n5_ := aS (blk_below (g := gb325) (o := .cells #[.slice Ao29 t318.length co29, .slice Ao31 t321.length co31] 37 (0, 0)) (sB BK325.out) hb); have n6_ := aS (blk_below (g := gb343) (o := .cells #[.slice Ao46 t336.length co46, .slice Ao51 t339.length co51] 37 (0, 0)) (sB BK343.out) hb); have n7_ := aS (below_step (sW HB.out) hb); clear HO_326000 HO_326001 HO_344000 HO_344001 BK306 BK325 BK343 HB; have HO_326000 := n0_; have HO_326001 := n1_; have HO_344000 := n2_; have HO_344001 := n3_; have BK306 := n4_; have BK325 := n5_; have BK343 := n6_; have HB := n7_; clear n0_ n1_ n2_ n3_ n4_ n5_ n6_ n7_; (try clear hb); (try clear hb2); (try clear hk); (try clear hi)))
           (try simp only [Act.put, List.setIfInBounds_toArray, List.set_cons_zero, List.set_cons_succ])
           have H := HC114.out
           clear HC114
           by_cases c121 : t365 < 0
           ·
            rw [if_pos c121] at H
            have c121b0 : decide (t365 < 0) = true := decide_eq_true c121
            clear c121
            (first | rw [c121b0] | (simp only [i64_w, i32_w]; rw [c121b0]) | (rw [c121b2]; simp only [Bool.not_false, Bool.not_true]) | skip)
            obtain rfl := Option.some.inj H
            go_wp2
            go_ret
            exact ⟨by first | rfl | (simp [errW_none, errW_some, i64_w]; done) | (simp [errW_none, errW_some] <;> rfl) | (simp [*, errW_none, errW_some] <;> rfl), by repeat (first | (with_reducible first | exact HB.out | apply below_alloc | apply pw_below_drewN | apply below_drew1) | exact HB.out)⟩
           ·
            rw [if_neg c121] at H
            have c121b0 : decide (t365 < 0) = false := decide_eq_false c121
            clear c121
            (first | rw [c121b0] | (simp only [i64_w, i32_w]; rw [c121b0]) | (rw [c121b2]; simp only [Bool.not_false, Bool.not_true]) | skip)
            by_cases c122 : t365 = t362
            ·
             rw [if_pos c122] at H
             have c122b0 : (t365 == t362) = true := beq_iff_eq.mpr c122
             have c122b1 : (t365 != t362) = false := bne_eq_false_iff_eq.mpr c122
             clear c122
             replace H := Option.bind_eq_some_iff.mp H
             obtain ⟨t366, A1230, H⟩ := H
             replace H : ((laws_toLine.f kj88 l1_0 l1_1).bind fun bt369 => ((impl_TurnLine.f kj88 t366 bt369.1 bt369.2).bind fun bt375 => ((laws_eqLine.f kj88 bt375.1 bt375.2.1 t318 t321).bind fun t383 => (if t383 = true then (laws_FnExactTurnLine.j2 kj88 t362 (bt375.2.2 != t324) t363 t364) else (laws_FnExactTurnLine.j2 kj88 t362 true t363 t364))))) = some r := H
             have A123 := aS A1230
             clear A1230
             replace H := Option.bind_eq_some_iff.mp H
             obtain ⟨⟨t369, t372⟩, A1240, H⟩ := H
             replace H : ((impl_TurnLine.f kj88 t366 t369 t372).bind fun bt375 => ((laws_eqLine.f kj88 bt375.1 bt375.2.1 t318 t321).bind fun t383 => (if t383 = true then (laws_FnExactTurnLine.j2 kj88 t362 (bt375.2.2 != t324) t363 t364) else (laws_FnExactTurnLine.j2 kj88 t362 true t363 t364)))) = some r := H
             have A124 := aS A1240
             clear A1240
             replace H := Option.bind_eq_some_iff.mp H
             obtain ⟨⟨t375, t378, t381⟩, A1250, H⟩ := H
             replace H : ((laws_eqLine.f kj88 t375 t378 t318 t321).bind fun t383 => (if t383 = true then (laws_FnExactTurnLine.j2 kj88 t362 (t381 != t324) t363 t364) else (laws_FnExactTurnLine.j2 kj88 t362 true t363 t364))) = some r := H
             have A125 := aS A1250
             clear A1250
             have HC126 := aS H
             clear H
             try go_wp2
             have n0_ := aS (Kd.R_drew HO_326000.out)
             have n1_ := aS (Kd.R_drew HO_326001.out)
             have n2_ := aS (Kd.R_drew HO_344000.out)
             have n3_ := aS (Kd.R_drew HO_344001.out)
             have n4_ := aS (blk_drew BK306.out)
             have n5_ := aS (blk_drew BK325.out)
             have n6_ := aS (blk_drew BK343.out)
             have n7_ := aS (below_drew1 HB.out)
             clear HO_326000 HO_326001 HO_344000 HO_344001 BK306 BK325 BK343 HB
             have HO_326000 := n0_; have HO_326001 := n1_; have HO_344000 := n2_; have HO_344001 := n3_; have BK306 := n4_; have BK325 := n5_; have BK343 := n6_; have HB := n7_
             clear n0_ n1_ n2_ n3_ n4_ n5_ n6_ n7_
             refine start_ (n := 11) (S := fun w' => w'.cell? ⟨gb306, 0, none⟩ = some (.slice A1_0 l1_0.length c1_0) ∧ w'.cell? ⟨gb306, 1, none⟩ = some (.slice A1_1 l1_1.length c1_1)) (ds := []) #[false, false, false, false, false, false, false, false, false, false, false] (by kernel_rfl) rfl rfl ⟨(blk_cell BK306.out 0).trans rfl, (blk_cell BK306.out 1).trans rfl⟩ (fun hHeld => ?_); refine with_tabW laws_FnExactTurnLine.tab31 laws_FnExactTurnLine.bits31 (fun HT_ HW_ => ?_)
             generalize w120.drew = w127 at HO_326000 HO_326001 HO_344000 HO_344001 BK306 BK325 BK343 HB hHeld ⊢
             refine pure_ (i := 0) (N := some 95) (v := ?_) (a' := ?_) #[true, false, false, false, false, false, false, false, false, false, false] rfl rfl (any_of HT_.out (by kernel_rfl)) (fun _ _ _ h => h) (Or.inl ⟨by rfl, ?_⟩) ?_ ?_
             rotate_left
             ·
              intro w'
              go_simp
              with_reducible rfl
             rotate_left
             ·
              simp only [Act.put, List.setIfInBounds_toArray, List.set_cons_zero, List.set_cons_succ, i64_w, i32_w]
              rfl
             refine take_ (i := 2) (N := some 97) (v := ?_) (a' := ?_) #[true, false, true, false, false, false, false, false, false, false, false] rfl rfl (take_ofW HT_.out HW_.out (by kernel_rfl)) (fun _ _ _ h => h) (Or.inl ⟨by rfl, ?_⟩) hHeld ?_ ?_
             rotate_left
             ·
              rintro w' ⟨s0, s1⟩
              go_simp
              with_reducible rfl
             rotate_left
             ·
              simp only [Act.put, List.setIfInBounds_toArray, List.set_cons_zero, List.set_cons_succ, i64_w, i32_w]
              rfl
             refine join_ (σ := Value × Value × Value × Value × Value × Nat) 2 #[true, true, true, true, true, true, true, true, true, false, false] (fun s_ => [(96, s_.1), (98, .agg #[s_.2.1, s_.2.2.1]), (99, .tuple #[.agg #[s_.2.2.2.1, s_.2.2.2.2.1], .int .i64 t381]), (15, .pointer (some ⟨s_.2.2.2.2.2, 0, none⟩)), (94, .tuple #[.agg #[s_.2.2.2.1, s_.2.2.2.2.1], .int .i64 t381]), (100, .agg #[s_.2.2.2.1, s_.2.2.2.2.1]), (101, .int .i64 t381)]) (fun s_ w' => (w'.cell? ⟨gb306, 0, none⟩ = some (.slice A1_0 l1_0.length c1_0) ∧ w'.cell? ⟨gb306, 1, none⟩ = some (.slice A1_1 l1_1.length c1_1)) ∧ (Kd.R k68 68 w' w.heap.size (fun _ => True) s_.1 t366) ∧ (Kd.R k44 44 w' w.heap.size (fun k_ => some k_ ≠ (s_.2.2.2.1 : Value).ownBlock ∧ some k_ ≠ (.slice Ao29 t318.length co29 : Value).ownBlock ∧ some k_ ≠ (.slice Ao46 t336.length co46 : Value).ownBlock) s_.2.1 t369) ∧ (Kd.R (Kd.int .i64) 2 w' w.heap.size (fun k_ => some k_ ≠ (s_.2.2.2.2.1 : Value).ownBlock ∧ some k_ ≠ (.slice Ao31 t321.length co31 : Value).ownBlock ∧ some k_ ≠ (.slice Ao51 t339.length co51 : Value).ownBlock) s_.2.2.1 t372) ∧ (Kd.R k44 44 w' w.heap.size (fun k_ => some k_ ≠ (s_.2.1 : Value).ownBlock ∧ some k_ ≠ (.slice Ao29 t318.length co29 : Value).ownBlock ∧ some k_ ≠ (.slice Ao46 t336.length co46 : Value).ownBlock) s_.2.2.2.1 t375) ∧ (Kd.R (Kd.int .i64) 2 w' w.heap.size (fun k_ => some k_ ≠ (s_.2.2.1 : Value).ownBlock ∧ some k_ ≠ (.slice Ao31 t321.length co31 : Value).ownBlock ∧ some k_ ≠ (.slice Ao51 t339.length co51 : Value).ownBlock) s_.2.2.2.2.1 t378) ∧ (Kd.R k44 44 w' w.heap.size (fun k_ => some k_ ≠ (s_.2.1 : Value).ownBlock ∧ some k_ ≠ (s_.2.2.2.1 : Value).ownBlock ∧ some k_ ≠ (.slice Ao46 t336.length co46 : Value).ownBlock) (.slice Ao29 t318.length co29) t318) ∧ (Kd.R (Kd.int .i64) 2 w' w.heap.size (fun k_ => some k_ ≠ (s_.2.2.1 : Value).ownBlock ∧ some k_ ≠ (s_.2.2.2.2.1 : Value).ownBlock ∧ some k_ ≠ (.slice Ao51 t339.length co51 : Value).ownBlock) (.slice Ao31 t321.length co31) t321) ∧ (Kd.R k44 44 w' w.heap.size (fun k_ => some k_ ≠ (s_.2.1 : Value).ownBlock ∧ some k_ ≠ (s_.2.2.2.1 : Value).ownBlock ∧ some k_ ≠ (.slice Ao29 t318.length co29 : Value).ownBlock) (.slice Ao46 t336.length co46) t363) ∧ (Kd.R (Kd.int .i64) 2 w' w.heap.size (fun k_ => some k_ ≠ (s_.2.2.1 : Value).ownBlock ∧ some k_ ≠ (s_.2.2.2.2.1 : Value).ownBlock ∧ some k_ ≠ (.slice Ao31 t321.length co31 : Value).ownBlock) (.slice Ao51 t339.length co51) t364) ∧ (w'.heap[gb306]? = some (.cells #[.slice A1_0 l1_0.length c1_0, .slice A1_1 l1_1.length c1_1] 32 (0, 0))) ∧ (w'.heap[gb325]? = some (.cells #[.slice Ao29 t318.length co29, .slice Ao31 t321.length co31] 37 (0, 0))) ∧ (w'.heap[gb343]? = some (.cells #[.slice Ao46 t336.length co46, .slice Ao51 t339.length co51] 37 (0, 0))) ∧ (w'.heap[s_.2.2.2.2.2]? = some (.cells #[.slice none 0 0, .slice none 0 0] 37 (0, 0))) ∧ (w.heap.size ≤ s_.2.2.2.2.2) ∧ (w.heap.size ≤ s_.2.2.2.2.2) ∧ (gb306 ≠ s_.2.2.2.2.2) ∧ (s_.2.2.2.2.2 ≠ gb306) ∧ (gb325 ≠ s_.2.2.2.2.2) ∧ (s_.2.2.2.2.2 ≠ gb325) ∧ (gb343 ≠ s_.2.2.2.2.2) ∧ (s_.2.2.2.2.2 ≠ gb343) ∧ (Below w.heap.size w w')) ?_ ?_
             rotate_left
             ·
              intro hCont
              refine two_ (i := 1) (j := 8) (Ni := some 96) (Nj := some 15) #[true, true, true, false, false, false, false, false, false, false, false] #[true, false, true, false, false, false, false, false, true, false, false] rfl rfl rfl rfl (two_of HT_.out (by kernel_rfl)) (by decide) (by decide) (fun K hK => ?_) (fun K hK => ?_)
              ·
               skip
               refine goes_ Try.func15 (by kernel_rfl) rfl #[.slice A0 l0.length c0] (by rfl) rfl rfl sG ?_
               with_reducible refine (laws_toJoinS.calls kj88 _ _ l0 t366 _ ?side1 ?side2 A123.out).mono ?_
               (case side1 => exact sC (Kd.C_below HR0.out HB.out))
               (case side2 => exact HC0.out)
               rintro e w128 ⟨v367, rfl, ho0, hb⟩
               refine ⟨_, rfl, ?_⟩
               have n0_ := aS (Kd.R_below (sR HO_326000.out) hb)
               have n1_ := aS (Kd.R_below (sR HO_326001.out) hb)
               have n2_ := aS (Kd.R_below (sR HO_344000.out) hb)
               have n3_ := aS (Kd.R_below (sR HO_344001.out) hb)
               have n4_ := aS (Kd.R_lower ho0 (below_size (sW HB.out)))
               have n5_ := aS (blk_below (g := gb306) (o := .cells #[.slice A1_0 l1_0.length c1_0, .slice A1_1 l1_1.length c1_1] 32 (0, 0)) (sB BK306.out) hb)
               have n6_ := aS (blk_below (g := gb325) (o := .cells #[.slice Ao29 t318.length co29, .slice Ao31 t321.length co31] 37 (0, 0)) (sB BK325.out) hb)
               have n7_ := aS (blk_below (g := gb343) (o := .cells #[.slice Ao46 t336.length co46, .slice Ao51 t339.length co51] 37 (0, 0)) (sB BK343.out) hb)
               have n8_ := aS (below_step (sW HB.out) hb)
               clear HO_326000 HO_326001 HO_344000 HO_344001 BK306 BK325 BK343 HB
               have HO_326000 := n0_; have HO_326001 := n1_; have HO_344000 := n2_; have HO_344001 := n3_; have HO368 := n4_; have BK306 := n5_; have BK325 := n6_; have BK343 := n7_; have HB := n8_
               clear n0_ n1_ n2_ n3_ n4_ n5_ n6_ n7_ n8_
               (try clear hb); (try clear hb2); (try clear hk); (try clear hi); (try clear ho0)
               refine hK.out _ _ ⟨(blk_cell BK306.out 0).trans rfl, (blk_cell BK306.out 1).trans rfl⟩ (fun hHeld => ?_)
               clear hK K
               refine norm_ (a' := ?_) ?_ ?_
               rotate_left
               ·
                show Act.put _ (some 96) _ = _
                simp only [Act.put, List.setIfInBounds_toArray, List.set_cons_zero, List.set_cons_succ, i64_w, i32_w]
                rfl
               refine two_ (i := 3) (j := 8) (Ni := some 98) (Nj := some 15) #[true, true, true, true, false, false, false, false, false, false, false] #[true, true, true, false, false, false, false, false, true, false, false] rfl rfl rfl rfl (two_of HT_.out (by kernel_rfl)) (by decide) (by decide) (fun K hK => ?_) (fun K hK => ?_)
               ·
                skip
                refine goes_ Try.func20 (by kernel_rfl) rfl #[.agg #[.slice A1_0 l1_0.length c1_0, .slice A1_1 l1_1.length c1_1]] (by rfl) rfl rfl sG ?_
                with_reducible refine (laws_toLine.calls kj88 _ _ l1_0 _ _ l1_1 t369 t372 _ ?side1 ?side2 ?side3 ?side4 A124.out).mono ?_
                (case side1 => exact sC (Kd.C_below HR1_0.out HB.out))
                (case side2 => exact HC1_0.out)
                (case side3 => exact sC (Kd.C_below HR1_1.out HB.out))
                (case side4 => exact HC1_1.out)
                rintro e w129 ⟨v370, v373, rfl, ho0, ho1, hb⟩
                refine ⟨_, rfl, ?_⟩
                have n0_ := aS (Kd.R_elder' (sR HO_326000.out) (Kd.R_base ho0) hb)
                have n1_ := aS (Kd.R_elder' (sR HO_326001.out) (Kd.R_base ho1) hb)
                have n2_ := aS (Kd.R_elder' (sR HO_344000.out) (Kd.R_base ho0) hb)
                have n3_ := aS (Kd.R_elder' (sR HO_344001.out) (Kd.R_base ho1) hb)
                have n4_ := aS (Kd.R_below (sR HO368.out) hb)
                have n5_ := aS (Kd.R_lower (Kd.R_new' (Kd.R_new' ho0 (Kd.R_lt (sR HO_326000.out))) (Kd.R_lt (sR HO_344000.out))) (below_size (sW HB.out)))
                have n6_ := aS (Kd.R_lower (Kd.R_new' (Kd.R_new' ho1 (Kd.R_lt (sR HO_326001.out))) (Kd.R_lt (sR HO_344001.out))) (below_size (sW HB.out)))
                have n7_ := aS (blk_below (g := gb306) (o := .cells #[.slice A1_0 l1_0.length c1_0, .slice A1_1 l1_1.length c1_1] 32 (0, 0)) (sB BK306.out) hb)
                have n8_ := aS (blk_below (g := gb325) (o := .cells #[.slice Ao29 t318.length co29, .slice Ao31 t321.length co31] 37 (0, 0)) (sB BK325.out) hb)
                have n9_ := aS (blk_below (g := gb343) (o := .cells #[.slice Ao46 t336.length co46, .slice Ao51 t339.length co51] 37 (0, 0)) (sB BK343.out) hb)
                have n10_ := aS (below_step (sW HB.out) hb)
                clear HO_326000 HO_326001 HO_344000 HO_344001 HO368 BK306 BK325 BK343 HB
                have HO_326000 := n0_; have HO_326001 := n1_; have HO_344000 := n2_; have HO_344001 := n3_; have HO368 := n4_; have HO371 := n5_; have HO374 := n6_; have BK306 := n7_; have BK325 := n8_; have BK343 := n9_; have HB := n10_
                clear n0_ n1_ n2_ n3_ n4_ n5_ n6_ n7_ n8_ n9_ n10_
                (try clear hb); (try clear hb2); (try clear hk); (try clear hi); (try clear ho0); (try clear ho1)
                obtain ⟨Ao130, co130, eo130⟩ := Kd.R_slice HO368.out
                (first | subst eo130 | (injection eo130 with f1_ f2_ f3_; have f4_ := f1_.symm; have f5_ := f3_.symm; clear f1_ f2_ f3_; subst f4_; subst f5_))
                obtain ⟨Ao131, co131, eo131⟩ := Kd.R_slice HO371.out
                (first | subst eo131 | (injection eo131 with f1_ f2_ f3_; have f4_ := f1_.symm; have f5_ := f3_.symm; clear f1_ f2_ f3_; subst f4_; subst f5_))
                obtain ⟨Ao132, co132, eo132⟩ := Kd.R_slice HO374.out
                (first | subst eo132 | (injection eo132 with f1_ f2_ f3_; have f4_ := f1_.symm; have f5_ := f3_.symm; clear f1_ f2_ f3_; subst f4_; subst f5_))
                refine hK.out _ _ ⟨(blk_cell BK306.out 0).trans rfl, (blk_cell BK306.out 1).trans rfl⟩ (fun hHeld => ?_)
                clear hK K
                refine norm_ (a' := ?_) ?_ ?_
                rotate_left
                ·
                 show Act.put _ (some 98) _ = _
                 simp only [Act.put, List.setIfInBounds_toArray, List.set_cons_zero, List.set_cons_succ, i64_w, i32_w]
                 rfl
                refine two_ (i := 4) (j := 8) (Ni := some 99) (Nj := some 15) #[true, true, true, true, true, false, false, false, false, false, false] #[true, true, true, true, false, false, false, false, true, false, false] rfl rfl rfl rfl (two_of HT_.out (by kernel_rfl)) (by decide) (by decide) (fun K hK => ?_) (fun K hK => ?_)
                ·
                 skip
                 refine goes_ Try.func34 (by kernel_rfl) rfl #[.slice Ao130 t366.length co130, .agg #[.slice Ao131 t369.length co131, .slice Ao132 t372.length co132]] (by rfl) rfl rfl sG ?_
                 with_reducible refine (impl_TurnLine.calls kj88 _ _ t366 _ _ t369 _ _ t372 t375 t378 t381 _ ?side1 ?side2 ?side3 ?side4 ?side5 ?side6 A125.out).mono ?_
                 (case side1 => exact sC (Kd.R_reads' HO368.out).2.2)
                 (case side2 => exact (Kd.R_reads' HO368.out).2.1)
                 (case side3 => exact sC (Kd.R_reads' HO371.out).2.2)
                 (case side4 => exact (Kd.R_reads' HO371.out).2.1)
                 (case side5 => exact sC (Kd.R_reads' HO374.out).2.2)
                 (case side6 => exact (Kd.R_reads' HO374.out).2.1)
                 rintro e w133 ⟨v376, v379, rfl, ho0, ho1, hb⟩
                 refine ⟨_, rfl, ?_⟩
                 have n0_ := aS (Kd.R_elder' (sR HO_326000.out) (Kd.R_base ho0) hb)
                 have n1_ := aS (Kd.R_elder' (sR HO_326001.out) (Kd.R_base ho1) hb)
                 have n2_ := aS (Kd.R_elder' (sR HO_344000.out) (Kd.R_base ho0) hb)
                 have n3_ := aS (Kd.R_elder' (sR HO_344001.out) (Kd.R_base ho1) hb)
                 have n4_ := aS (Kd.R_below (sR HO368.out) hb)
                 have n5_ := aS (Kd.R_elder' (sR HO371.out) (Kd.R_base ho0) hb)
                 have n6_ := aS (Kd.R_elder' (sR HO374.out) (Kd.R_base ho1) hb)
                 have n7_ := aS (Kd.R_lower (Kd.R_new' (Kd.R_new' (Kd.R_new' ho0 (Kd.R_lt (sR HO_326000.out))) (Kd.R_lt (sR HO_344000.out))) (Kd.R_lt (sR HO371.out))) (below_size (sW HB.out)))
                 have n8_ := aS (Kd.R_lower (Kd.R_new' (Kd.R_new' (Kd.R_new' ho1 (Kd.R_lt (sR HO_326001.out))) (Kd.R_lt (sR HO_344001.out))) (Kd.R_lt (sR HO374.out))) (below_size (sW HB.out)))
                 have n9_ := aS (blk_below (g := gb306) (o := .cells #[.slice A1_0 l1_0.length c1_0, .slice A1_1 l1_1.length c1_1] 32 (0, 0)) (sB BK306.out) hb)
                 have n10_ := aS (blk_below (g := gb325) (o := .cells #[.slice Ao29 t318.length co29, .slice Ao31 t321.length co31] 37 (0, 0)) (sB BK325.out) hb)
                 have n11_ := aS (blk_below (g := gb343) (o := .cells #[.slice Ao46 t336.length co46, .slice Ao51 t339.length co51] 37 (0, 0)) (sB BK343.out) hb)
                 have n12_ := aS (below_step (sW HB.out) hb)
                 clear HO_326000 HO_326001 HO_344000 HO_344001 HO368 HO371 HO374 BK306 BK325 BK343 HB
                 have HO_326000 := n0_; have HO_326001 := n1_; have HO_344000 := n2_; have HO_344001 := n3_; have HO368 := n4_; have HO371 := n5_; have HO374 := n6_; have HO377 := n7_; have HO380 := n8_; have BK306 := n9_; have BK325 := n10_; have BK343 := n11_; have HB := n12_
                 clear n0_ n1_ n2_ n3_ n4_ n5_ n6_ n7_ n8_ n9_ n10_ n11_ n12_
                 (try clear hb); (try clear hb2); (try clear hk); (try clear hi); (try clear ho0); (try clear ho1)
                 refine hK.out _ _ ⟨(blk_cell BK306.out 0).trans rfl, (blk_cell BK306.out 1).trans rfl⟩ (fun hHeld => ?_)
                 clear hK K
                 refine norm_ (a' := ?_) ?_ ?_
                 rotate_left
                 ·
                  show Act.put _ (some 99) _ = _
                  simp only [Act.put, List.setIfInBounds_toArray, List.set_cons_zero, List.set_cons_succ, i64_w, i32_w]
                  rfl
                 refine pure_ (i := 5) (N := some 94) (v := ?_) (a' := ?_) #[true, true, true, true, true, true, false, false, false, false, false] rfl rfl (any_of HT_.out (by kernel_rfl)) (fun _ _ _ h => h) (Or.inl ⟨by rfl, ?_⟩) ?_ ?_
                 rotate_left
                 ·
                  intro w'
                  go_simp
                  with_reducible rfl
                 rotate_left
                 ·
                  simp only [Act.put, List.setIfInBounds_toArray, List.set_cons_zero, List.set_cons_succ, i64_w, i32_w]
                  rfl
                 refine pure_ (i := 6) (N := some 100) (v := ?_) (a' := ?_) #[true, true, true, true, true, true, true, false, false, false, false] rfl rfl (any_of HT_.out (by kernel_rfl)) (fun _ _ _ h => h) (Or.inl ⟨by rfl, ?_⟩) ?_ ?_
                 rotate_left
                 ·
                  intro w'
                  go_simp
                  with_reducible rfl
                 rotate_left
                 ·
                  simp only [Act.put, List.setIfInBounds_toArray, List.set_cons_zero, List.set_cons_succ, i64_w, i32_w]
                  rfl
                 refine pure_ (i := 7) (N := some 101) (v := ?_) (a' := ?_) #[true, true, true, true, true, true, true, true, false, false, false] rfl rfl (any_of HT_.out (by kernel_rfl)) (fun _ _ _ h => h) (Or.inl ⟨by rfl, ?_⟩) ?_ ?_
                 rotate_left
                 ·
                  intro w'
                  go_simp
                  with_reducible rfl
                 rotate_left
                 ·
                  simp only [Act.put, List.setIfInBounds_toArray, List.set_cons_zero, List.set_cons_succ, i64_w, i32_w]
                  rfl
                 refine one_ (i := 8) (N := some 15) #[true, true, true, true, true, true, true, true, true, false, false] rfl rfl (one_of HT_.out (by kernel_rfl)) (by decide) (fun K hK => ?_)
                 refine box_step ?hg (N := 15) ?hd (cs := #[.slice none 0 0, .slice none 0 0]) (t := 37) ?hr ?_; (case hd => rfl); (case hg => rfl); (case hr => first | (go_simp; done) | (go_simp; rfl))
                 intro gb382 hg w134 hbox hb
                 have n0_ := aS (Kd.R_below (sR HO_326000.out) hb)
                 have n1_ := aS (Kd.R_below (sR HO_326001.out) hb)
                 have n2_ := aS (Kd.R_below (sR HO_344000.out) hb)
                 have n3_ := aS (Kd.R_below (sR HO_344001.out) hb)
                 have n4_ := aS (Kd.R_below (sR HO368.out) hb)
                 have n5_ := aS (Kd.R_below (sR HO371.out) hb)
                 have n6_ := aS (Kd.R_below (sR HO374.out) hb)
                 have n7_ := aS (Kd.R_below (sR HO377.out) hb)
                 have n8_ := aS (Kd.R_below (sR HO380.out) hb)
                 have n9_ := aS (blk_below (g := gb306) (o := .cells #[.slice A1_0 l1_0.length c1_0, .slice A1_1 l1_1.length c1_1] 32 (0, 0)) (sB BK306.out) hb)
                 have n10_ := aS (blk_below (g := gb325) (o := .cells #[.slice Ao29 t318.length co29, .slice Ao31 t321.length co31] 37 (0, 0)) (sB BK325.out) hb)
                 have n11_ := aS (blk_below (g := gb343) (o := .cells #[.slice Ao46 t336.length co46, .slice Ao51 t339.length co51] 37 (0, 0)) (sB BK343.out) hb)
                 have n12_ := aS (below_step (sW HB.out) hb)
                 have n13_ := aS (hbox)
                 have n14_ := aS ((by rw [hg]; exact (below_size (sW HB.out)) : w.heap.size ≤ gb382))
                 have n15_ := aS ((by rw [hg]; exact (below_size (sW HB.out)) : w.heap.size ≤ gb382))
                 have n16_ := aS ((by rw [hg]; exact Nat.ne_of_lt (blk_lt (g := gb306) (o := .cells #[.slice A1_0 l1_0.length c1_0, .slice A1_1 l1_1.length c1_1] 32 (0, 0)) (sB BK306.out)) : gb306 ≠ gb382))
                 have n17_ := aS ((by rw [hg]; exact Nat.ne_of_gt (blk_lt (g := gb306) (o := .cells #[.slice A1_0 l1_0.length c1_0, .slice A1_1 l1_1.length c1_1] 32 (0, 0)) (sB BK306.out)) : gb382 ≠ gb306))
                 have n18_ := aS ((by rw [hg]; exact Nat.ne_of_lt (blk_lt (g := gb325) (o := .cells #[.slice Ao29 t318.length co29, .slice Ao31 t321.length co31] 37 (0, 0)) (sB BK325.out)) : gb325 ≠ gb382))
                 have n19_ := aS ((by rw [hg]; exact Nat.ne_of_gt (blk_lt (g := gb325) (o := .cells #[.slice Ao29 t318.length co29, .slice Ao31 t321.length co31] 37 (0, 0)) (sB BK325.out)) : gb382 ≠ gb325))
                 have n20_ := aS ((by rw [hg]; exact Nat.ne_of_lt (blk_lt (g := gb343) (o := .cells #[.slice Ao46 t336.length co46, .slice Ao51 t339.length co51] 37 (0, 0)) (sB BK343.out)) : gb343 ≠ gb382))
                 have n21_ := aS ((by rw [hg]; exact Nat.ne_of_gt (blk_lt (g := gb343) (o := .cells #[.slice Ao46 t336.length co46, .slice Ao51 t339.length co51] 37 (0, 0)) (sB BK343.out)) : gb382 ≠ gb343))
                 clear HO_326000 HO_326001 HO_344000 HO_344001 HO368 HO371 HO374 HO377 HO380 BK306 BK325 BK343 HB
                 have HO_326000 := n0_; have HO_326001 := n1_; have HO_344000 := n2_; have HO_344001 := n3_; have HO368 := n4_; have HO371 := n5_; have HO374 := n6_; have HO377 := n7_; have HO380 := n8_; have BK306 := n9_; have BK325 := n10_; have BK343 := n11_; have HB := n12_; have BK382 := n13_; have GW382 := n14_; have GE382 := n15_; have NB306_382 := n16_; have NB382_306 := n17_; have NB325_382 := n18_; have NB382_325 := n19_; have NB343_382 := n20_; have NB382_343 := n21_
                 clear n0_ n1_ n2_ n3_ n4_ n5_ n6_ n7_ n8_ n9_ n10_ n11_ n12_ n13_ n14_ n15_ n16_ n17_ n18_ n19_ n20_ n21_
                 clear hb hbox hg
                 refine hK.out _ _ ⟨(blk_cell BK306.out 0).trans rfl, (blk_cell BK306.out 1).trans rfl⟩ (fun hHeld => ?_)
                 clear hK K
                 refine norm_ (a' := ?_) ?_ ?_
                 rotate_left
                 ·
                  show Act.put _ (some 15) _ = _
                  simp only [Act.put, List.setIfInBounds_toArray, List.set_cons_zero, List.set_cons_succ, i64_w, i32_w]
                  rfl
                 exact norm_ (by simp only [putAll, Act.put, List.setIfInBounds_toArray, List.set_cons_zero, List.set_cons_succ]) (hCont (.slice Ao130 t366.length co130, .slice Ao131 t369.length co131, .slice Ao132 t372.length co132, v376, v379, gb382) _ ⟨hHeld, (sR HO368.out), (sR (Kd.R_mono HO371.out (fun _ hk => ⟨hk.2, ⟨hk.1.1.2, hk.1.2⟩⟩))), (sR (Kd.R_mono HO374.out (fun _ hk => ⟨hk.2, ⟨hk.1.1.2, hk.1.2⟩⟩))), (sR (Kd.R_mono HO377.out (fun _ hk => ⟨hk.2, ⟨hk.1.1.2, hk.1.2⟩⟩))), (sR (Kd.R_mono HO380.out (fun _ hk => ⟨hk.2, ⟨hk.1.1.2, hk.1.2⟩⟩))), (sR (Kd.R_mono HO_326000.out (fun _ hk => ⟨hk.1.2, ⟨hk.2, hk.1.1⟩⟩))), (sR (Kd.R_mono HO_326001.out (fun _ hk => ⟨hk.1.2, ⟨hk.2, hk.1.1⟩⟩))), (sR (Kd.R_mono HO_344000.out (fun _ hk => ⟨hk.1.2, ⟨hk.2, hk.1.1⟩⟩))), (sR (Kd.R_mono HO_344001.out (fun _ hk => ⟨hk.1.2, ⟨hk.2, hk.1.1⟩⟩))), (sB BK306.out), (sB BK325.out), (sB BK343.out), (sB BK382.out), GW382.out, GE382.out, NB306_382.out, NB382_306.out, NB325_382.out, NB382_325.out, NB343_382.out, NB382_343.out, (sW HB.out)⟩)
                ·
                 skip
                 refine box_step ?hg (N := 15) ?hd (cs := #[.slice none 0 0, .slice none 0 0]) (t := 37) ?hr ?_; (case hd => rfl); (case hg => rfl); (case hr => first | (go_simp; done) | (go_simp; rfl))
                 intro gb382 hg w130 hbox hb
                 have n0_ := aS (Kd.R_below (sR HO_326000.out) hb)
                 have n1_ := aS (Kd.R_below (sR HO_326001.out) hb)
                 have n2_ := aS (Kd.R_below (sR HO_344000.out) hb)
                 have n3_ := aS (Kd.R_below (sR HO_344001.out) hb)
                 have n4_ := aS (Kd.R_below (sR HO368.out) hb)
                 have n5_ := aS (Kd.R_below (sR HO371.out) hb)
                 have n6_ := aS (Kd.R_below (sR HO374.out) hb)
                 have n7_ := aS (blk_below (g := gb306) (o := .cells #[.slice A1_0 l1_0.length c1_0, .slice A1_1 l1_1.length c1_1] 32 (0, 0)) (sB BK306.out) hb)
                 have n8_ := aS (blk_below (g := gb325) (o := .cells #[.slice Ao29 t318.length co29, .slice Ao31 t321.length co31] 37 (0, 0)) (sB BK325.out) hb)
                 have n9_ := aS (blk_below (g := gb343) (o := .cells #[.slice Ao46 t336.length co46, .slice Ao51 t339.length co51] 37 (0, 0)) (sB BK343.out) hb)
                 have n10_ := aS (below_step (sW HB.out) hb)
                 have n11_ := aS (hbox)
                 have n12_ := aS ((by rw [hg]; exact (below_size (sW HB.out)) : w.heap.size ≤ gb382))
                 have n13_ := aS ((by rw [hg]; exact (below_size (sW HB.out)) : w.heap.size ≤ gb382))
                 have n14_ := aS ((by rw [hg]; exact Nat.ne_of_lt (blk_lt (g := gb306) (o := .cells #[.slice A1_0 l1_0.length c1_0, .slice A1_1 l1_1.length c1_1] 32 (0, 0)) (sB BK306.out)) : gb306 ≠ gb382))
                 have n15_ := aS ((by rw [hg]; exact Nat.ne_of_gt (blk_lt (g := gb306) (o := .cells #[.slice A1_0 l1_0.length c1_0, .slice A1_1 l1_1.length c1_1] 32 (0, 0)) (sB BK306.out)) : gb382 ≠ gb306))
                 have n16_ := aS ((by rw [hg]; exact Nat.ne_of_lt (blk_lt (g := gb325) (o := .cells #[.slice Ao29 t318.length co29, .slice Ao31 t321.length co31] 37 (0, 0)) (sB BK325.out)) : gb325 ≠ gb382))
                 have n17_ := aS ((by rw [hg]; exact Nat.ne_of_gt (blk_lt (g := gb325) (o := .cells #[.slice Ao29 t318.length co29, .slice Ao31 t321.length co31] 37 (0, 0)) (sB BK325.out)) : gb382 ≠ gb325))
                 have n18_ := aS ((by rw [hg]; exact Nat.ne_of_lt (blk_lt (g := gb343) (o := .cells #[.slice Ao46 t336.length co46, .slice Ao51 t339.length co51] 37 (0, 0)) (sB BK343.out)) : gb343 ≠ gb382))
                 have n19_ := aS ((by rw [hg]; exact Nat.ne_of_gt (blk_lt (g := gb343) (o := .cells #[.slice Ao46 t336.length co46, .slice Ao51 t339.length co51] 37 (0, 0)) (sB BK343.out)) : gb382 ≠ gb343))
                 clear HO_326000 HO_326001 HO_344000 HO_344001 HO368 HO371 HO374 BK306 BK325 BK343 HB
                 have HO_326000 := n0_; have HO_326001 := n1_; have HO_344000 := n2_; have HO_344001 := n3_; have HO368 := n4_; have HO371 := n5_; have HO374 := n6_; have BK306 := n7_; have BK325 := n8_; have BK343 := n9_; have HB := n10_; have BK382 := n11_; have GW382 := n12_; have GE382 := n13_; have NB306_382 := n14_; have NB382_306 := n15_; have NB325_382 := n16_; have NB382_325 := n17_; have NB343_382 := n18_; have NB382_343 := n19_
                 clear n0_ n1_ n2_ n3_ n4_ n5_ n6_ n7_ n8_ n9_ n10_ n11_ n12_ n13_ n14_ n15_ n16_ n17_ n18_ n19_
                 clear hb hbox hg
                 obtain ⟨Ao131, co131, eo131⟩ := Kd.R_slice HO368.out
                 (first | subst eo131 | (injection eo131 with f1_ f2_ f3_; have f4_ := f1_.symm; have f5_ := f3_.symm; clear f1_ f2_ f3_; subst f4_; subst f5_))
                 obtain ⟨Ao132, co132, eo132⟩ := Kd.R_slice HO371.out
                 (first | subst eo132 | (injection eo132 with f1_ f2_ f3_; have f4_ := f1_.symm; have f5_ := f3_.symm; clear f1_ f2_ f3_; subst f4_; subst f5_))
                 obtain ⟨Ao133, co133, eo133⟩ := Kd.R_slice HO374.out
                 (first | subst eo133 | (injection eo133 with f1_ f2_ f3_; have f4_ := f1_.symm; have f5_ := f3_.symm; clear f1_ f2_ f3_; subst f4_; subst f5_))
                 refine hK.out _ _ ⟨(blk_cell BK306.out 0).trans rfl, (blk_cell BK306.out 1).trans rfl⟩ (fun hHeld => ?_)
                 clear hK K
                 refine norm_ (a' := ?_) ?_ ?_
                 rotate_left
                 ·
                  show Act.put _ (some 15) _ = _
                  simp only [Act.put, List.setIfInBounds_toArray, List.set_cons_zero, List.set_cons_succ, i64_w, i32_w]
                  rfl
                 refine one_ (i := 4) (N := some 99) #[true, true, true, true, true, false, false, false, true, false, false] rfl rfl (one_of HT_.out (by kernel_rfl)) (by decide) (fun K hK => ?_)
                 refine goes_ Try.func34 (by kernel_rfl) rfl #[.slice Ao131 t366.length co131, .agg #[.slice Ao132 t369.length co132, .slice Ao133 t372.length co133]] (by rfl) rfl rfl sG ?_
                 with_reducible refine (impl_TurnLine.calls kj88 _ _ t366 _ _ t369 _ _ t372 t375 t378 t381 _ ?side1 ?side2 ?side3 ?side4 ?side5 ?side6 A125.out).mono ?_
                 (case side1 => exact sC (Kd.R_reads' HO368.out).2.2)
                 (case side2 => exact (Kd.R_reads' HO368.out).2.1)
                 (case side3 => exact sC (Kd.R_reads' HO371.out).2.2)
                 (case side4 => exact (Kd.R_reads' HO371.out).2.1)
                 (case side5 => exact sC (Kd.R_reads' HO374.out).2.2)
                 (case side6 => exact (Kd.R_reads' HO374.out).2.1)
                 rintro e w134 ⟨v376, v379, rfl, ho0, ho1, hb⟩
                 refine ⟨_, rfl, ?_⟩
                 have n0_ := aS (Kd.R_elder' (sR HO_326000.out) (Kd.R_base ho0) hb)
                 have n1_ := aS (Kd.R_elder' (sR HO_326001.out) (Kd.R_base ho1) hb)
                 have n2_ := aS (Kd.R_elder' (sR HO_344000.out) (Kd.R_base ho0) hb)
                 have n3_ := aS (Kd.R_elder' (sR HO_344001.out) (Kd.R_base ho1) hb)
                 have n4_ := aS (Kd.R_below (sR HO368.out) hb)
                 have n5_ := aS (Kd.R_elder' (sR HO371.out) (Kd.R_base ho0) hb)
                 have n6_ := aS (Kd.R_elder' (sR HO374.out) (Kd.R_base ho1) hb)
                 have n7_ := aS (Kd.R_lower (Kd.R_new' (Kd.R_new' (Kd.R_new' ho0 (Kd.R_lt (sR HO_326000.out))) (Kd.R_lt (sR HO_344000.out))) (Kd.R_lt (sR HO371.out))) (below_size (sW HB.out)))
                 have n8_ := aS (Kd.R_lower (Kd.R_new' (Kd.R_new' (Kd.R_new' ho1 (Kd.R_lt (sR HO_326001.out))) (Kd.R_lt (sR HO_344001.out))) (Kd.R_lt (sR HO374.out))) (below_size (sW HB.out)))
                 have n9_ := aS (blk_below (g := gb306) (o := .cells #[.slice A1_0 l1_0.length c1_0, .slice A1_1 l1_1.length c1_1] 32 (0, 0)) (sB BK306.out) hb)
                 have n10_ := aS (blk_below (g := gb325) (o := .cells #[.slice Ao29 t318.length co29, .slice Ao31 t321.length co31] 37 (0, 0)) (sB BK325.out) hb)
                 have n11_ := aS (blk_below (g := gb343) (o := .cells #[.slice Ao46 t336.length co46, .slice Ao51 t339.length co51] 37 (0, 0)) (sB BK343.out) hb)
                 have n12_ := aS (blk_below (g := gb382) (o := .cells #[.slice none 0 0, .slice none 0 0] 37 (0, 0)) (sB BK382.out) hb)
                 have n13_ := aS (below_step (sW HB.out) hb)
                 clear HO_326000 HO_326001 HO_344000 HO_344001 HO368 HO371 HO374 BK306 BK325 BK343 BK382 HB
                 have HO_326000 := n0_; have HO_326001 := n1_; have HO_344000 := n2_; have HO_344001 := n3_; have HO368 := n4_; have HO371 := n5_; have HO374 := n6_; have HO377 := n7_; have HO380 := n8_; have BK306 := n9_; have BK325 := n10_; have BK343 := n11_; have BK382 := n12_; have HB := n13_
                 clear n0_ n1_ n2_ n3_ n4_ n5_ n6_ n7_ n8_ n9_ n10_ n11_ n12_ n13_
                 (try clear hb); (try clear hb2); (try clear hk); (try clear hi); (try clear ho0); (try clear ho1)
                 refine hK.out _ _ ⟨(blk_cell BK306.out 0).trans rfl, (blk_cell BK306.out 1).trans rfl⟩ (fun hHeld => ?_)
                 clear hK K
                 refine norm_ (a' := ?_) ?_ ?_
                 rotate_left
                 ·
                  show Act.put _ (some 99) _ = _
                  simp only [Act.put, List.setIfInBounds_toArray, List.set_cons_zero, List.set_cons_succ, i64_w, i32_w]
                  rfl
                 refine pure_ (i := 5) (N := some 94) (v := ?_) (a' := ?_) #[true, true, true, true, true, true, false, false, true, false, false] rfl rfl (any_of HT_.out (by kernel_rfl)) (fun _ _ _ h => h) (Or.inl ⟨by rfl, ?_⟩) ?_ ?_
                 rotate_left
                 ·
                  intro w'
                  go_simp
                  with_reducible rfl
                 rotate_left
                 ·
                  simp only [Act.put, List.setIfInBounds_toArray, List.set_cons_zero, List.set_cons_succ, i64_w, i32_w]
                  rfl
                 refine pure_ (i := 6) (N := some 100) (v := ?_) (a' := ?_) #[true, true, true, true, true, true, true, false, true, false, false] rfl rfl (any_of HT_.out (by kernel_rfl)) (fun _ _ _ h => h) (Or.inl ⟨by rfl, ?_⟩) ?_ ?_
                 rotate_left
                 ·
                  intro w'
                  go_simp
                  with_reducible rfl
                 rotate_left
                 ·
                  simp only [Act.put, List.setIfInBounds_toArray, List.set_cons_zero, List.set_cons_succ, i64_w, i32_w]
                  rfl
                 refine pure_ (i := 7) (N := some 101) (v := ?_) (a' := ?_) #[true, true, true, true, true, true, true, true, true, false, false] rfl rfl (any_of HT_.out (by kernel_rfl)) (fun _ _ _ h => h) (Or.inl ⟨by rfl, ?_⟩) ?_ ?_
                 rotate_left
                 ·
                  intro w'
                  go_simp
                  with_reducible rfl
                 rotate_left
                 ·
                  simp only [Act.put, List.setIfInBounds_toArray, List.set_cons_zero, List.set_cons_succ, i64_w, i32_w]
                  rfl
                 exact norm_ (by simp only [putAll, Act.put, List.setIfInBounds_toArray, List.set_cons_zero, List.set_cons_succ]) (hCont (.slice Ao131 t366.length co131, .slice Ao132 t369.length co132, .slice Ao133 t372.length co133, v376, v379, gb382) _ ⟨hHeld, (sR HO368.out), (sR (Kd.R_mono HO371.out (fun _ hk => ⟨hk.2, ⟨hk.1.1.2, hk.1.2⟩⟩))), (sR (Kd.R_mono HO374.out (fun _ hk => ⟨hk.2, ⟨hk.1.1.2, hk.1.2⟩⟩))), (sR (Kd.R_mono HO377.out (fun _ hk => ⟨hk.2, ⟨hk.1.1.2, hk.1.2⟩⟩))), (sR (Kd.R_mono HO380.out (fun _ hk => ⟨hk.2, ⟨hk.1.1.2, hk.1.2⟩⟩))), (sR (Kd.R_mono HO_326000.out (fun _ hk => ⟨hk.1.2, ⟨hk.2, hk.1.1⟩⟩))), (sR (Kd.R_mono HO_326001.out (fun _ hk => ⟨hk.1.2, ⟨hk.2, hk.1.1⟩⟩))), (sR (Kd.R_mono HO_344000.out (fun _ hk => ⟨hk.1.2, ⟨hk.2, hk.1.1⟩⟩))), (sR (Kd.R_mono HO_344001.out (fun _ hk => ⟨hk.1.2, ⟨hk.2, hk.1.1⟩⟩))), (sB BK306.out), (sB BK325.out), (sB BK343.out), (sB BK382.out), GW382.out, GE382.out, NB306_382.out, NB382_306.out, NB325_382.out, NB382_325.out, NB343_382.out, NB382_343.out, (sW HB.out)⟩)
               ·
                skip
                refine box_step ?hg (N := 15) ?hd (cs := #[.slice none 0 0, .slice none 0 0]) (t := 37) ?hr ?_; (case hd => rfl); (case hg => rfl); (case hr => first | (go_simp; done) | (go_simp; rfl))
                intro gb382 hg w129 hbox hb
                have n0_ := aS (Kd.R_below (sR HO_326000.out) hb)
                have n1_ := aS (Kd.R_below (sR HO_326001.out) hb)
                have n2_ := aS (Kd.R_below (sR HO_344000.out) hb)
                have n3_ := aS (Kd.R_below (sR HO_344001.out) hb)
                have n4_ := aS (Kd.R_below (sR HO368.out) hb)
                have n5_ := aS (blk_below (g := gb306) (o := .cells #[.slice A1_0 l1_0.length c1_0, .slice A1_1 l1_1.length c1_1] 32 (0, 0)) (sB BK306.out) hb)
                have n6_ := aS (blk_below (g := gb325) (o := .cells #[.slice Ao29 t318.length co29, .slice Ao31 t321.length co31] 37 (0, 0)) (sB BK325.out) hb)
                have n7_ := aS (blk_below (g := gb343) (o := .cells #[.slice Ao46 t336.length co46, .slice Ao51 t339.length co51] 37 (0, 0)) (sB BK343.out) hb)
                have n8_ := aS (below_step (sW HB.out) hb)
                have n9_ := aS (hbox)
                have n10_ := aS ((by rw [hg]; exact (below_size (sW HB.out)) : w.heap.size ≤ gb382))
                have n11_ := aS ((by rw [hg]; exact (below_size (sW HB.out)) : w.heap.size ≤ gb382))
                have n12_ := aS ((by rw [hg]; exact Nat.ne_of_lt (blk_lt (g := gb306) (o := .cells #[.slice A1_0 l1_0.length c1_0, .slice A1_1 l1_1.length c1_1] 32 (0, 0)) (sB BK306.out)) : gb306 ≠ gb382))
                have n13_ := aS ((by rw [hg]; exact Nat.ne_of_gt (blk_lt (g := gb306) (o := .cells #[.slice A1_0 l1_0.length c1_0, .slice A1_1 l1_1.length c1_1] 32 (0, 0)) (sB BK306.out)) : gb382 ≠ gb306))
                have n14_ := aS ((by rw [hg]; exact Nat.ne_of_lt (blk_lt (g := gb325) (o := .cells #[.slice Ao29 t318.length co29, .slice Ao31 t321.length co31] 37 (0, 0)) (sB BK325.out)) : gb325 ≠ gb382))
                have n15_ := aS ((by rw [hg]; exact Nat.ne_of_gt (blk_lt (g := gb325) (o := .cells #[.slice Ao29 t318.length co29, .slice Ao31 t321.length co31] 37 (0, 0)) (sB BK325.out)) : gb382 ≠ gb325))
                have n16_ := aS ((by rw [hg]; exact Nat.ne_of_lt (blk_lt (g := gb343) (o := .cells #[.slice Ao46 t336.length co46, .slice Ao51 t339.length co51] 37 (0, 0)) (sB BK343.out)) : gb343 ≠ gb382))
                have n17_ := aS ((by rw [hg]; exact Nat.ne_of_gt (blk_lt (g := gb343) (o := .cells #[.slice Ao46 t336.length co46, .slice Ao51 t339.length co51] 37 (0, 0)) (sB BK343.out)) : gb382 ≠ gb343))
                clear HO_326000 HO_326001 HO_344000 HO_344001 HO368 BK306 BK325 BK343 HB
                have HO_326000 := n0_; have HO_326001 := n1_; have HO_344000 := n2_; have HO_344001 := n3_; have HO368 := n4_; have BK306 := n5_; have BK325 := n6_; have BK343 := n7_; have HB := n8_; have BK382 := n9_; have GW382 := n10_; have GE382 := n11_; have NB306_382 := n12_; have NB382_306 := n13_; have NB325_382 := n14_; have NB382_325 := n15_; have NB343_382 := n16_; have NB382_343 := n17_
                clear n0_ n1_ n2_ n3_ n4_ n5_ n6_ n7_ n8_ n9_ n10_ n11_ n12_ n13_ n14_ n15_ n16_ n17_
                clear hb hbox hg
                refine hK.out _ _ ⟨(blk_cell BK306.out 0).trans rfl, (blk_cell BK306.out 1).trans rfl⟩ (fun hHeld => ?_)
                clear hK K
                refine norm_ (a' := ?_) ?_ ?_
                rotate_left
                ·
                 show Act.put _ (some 15) _ = _
                 simp only [Act.put, List.setIfInBounds_toArray, List.set_cons_zero, List.set_cons_succ, i64_w, i32_w]
                 rfl
                refine one_ (i := 3) (N := some 98) #[true, true, true, true, false, false, false, false, true, false, false] rfl rfl (one_of HT_.out (by kernel_rfl)) (by decide) (fun K hK => ?_)
                refine goes_ Try.func20 (by kernel_rfl) rfl #[.agg #[.slice A1_0 l1_0.length c1_0, .slice A1_1 l1_1.length c1_1]] (by rfl) rfl rfl sG ?_
                with_reducible refine (laws_toLine.calls kj88 _ _ l1_0 _ _ l1_1 t369 t372 _ ?side1 ?side2 ?side3 ?side4 A124.out).mono ?_
                (case side1 => exact sC (Kd.C_below HR1_0.out HB.out))
                (case side2 => exact HC1_0.out)
                (case side3 => exact sC (Kd.C_below HR1_1.out HB.out))
                (case side4 => exact HC1_1.out)
                rintro e w130 ⟨v370, v373, rfl, ho0, ho1, hb⟩
                refine ⟨_, rfl, ?_⟩
                have n0_ := aS (Kd.R_elder' (sR HO_326000.out) (Kd.R_base ho0) hb)
                have n1_ := aS (Kd.R_elder' (sR HO_326001.out) (Kd.R_base ho1) hb)
                have n2_ := aS (Kd.R_elder' (sR HO_344000.out) (Kd.R_base ho0) hb)
                have n3_ := aS (Kd.R_elder' (sR HO_344001.out) (Kd.R_base ho1) hb)
                have n4_ := aS (Kd.R_below (sR HO368.out) hb)
                have n5_ := aS (Kd.R_lower (Kd.R_new' (Kd.R_new' ho0 (Kd.R_lt (sR HO_326000.out))) (Kd.R_lt (sR HO_344000.out))) (below_size (sW HB.out)))
                have n6_ := aS (Kd.R_lower (Kd.R_new' (Kd.R_new' ho1 (Kd.R_lt (sR HO_326001.out))) (Kd.R_lt (sR HO_344001.out))) (below_size (sW HB.out)))
                have n7_ := aS (blk_below (g := gb306) (o := .cells #[.slice A1_0 l1_0.length c1_0, .slice A1_1 l1_1.length c1_1] 32 (0, 0)) (sB BK306.out) hb)
                have n8_ := aS (blk_below (g := gb325) (o := .cells #[.slice Ao29 t318.length co29, .slice Ao31 t321.length co31] 37 (0, 0)) (sB BK325.out) hb)
                have n9_ := aS (blk_below (g := gb343) (o := .cells #[.slice Ao46 t336.length co46, .slice Ao51 t339.length co51] 37 (0, 0)) (sB BK343.out) hb)
                have n10_ := aS (blk_below (g := gb382) (o := .cells #[.slice none 0 0, .slice none 0 0] 37 (0, 0)) (sB BK382.out) hb)
                have n11_ := aS (below_step (sW HB.out) hb)
                clear HO_326000 HO_326001 HO_344000 HO_344001 HO368 BK306 BK325 BK343 BK382 HB
                have HO_326000 := n0_; have HO_326001 := n1_; have HO_344000 := n2_; have HO_344001 := n3_; have HO368 := n4_; have HO371 := n5_; have HO374 := n6_; have BK306 := n7_; have BK325 := n8_; have BK343 := n9_; have BK382 := n10_; have HB := n11_
                clear n0_ n1_ n2_ n3_ n4_ n5_ n6_ n7_ n8_ n9_ n10_ n11_
                (try clear hb); (try clear hb2); (try clear hk); (try clear hi); (try clear ho0); (try clear ho1)
                obtain ⟨Ao131, co131, eo131⟩ := Kd.R_slice HO368.out
                (first | subst eo131 | (injection eo131 with f1_ f2_ f3_; have f4_ := f1_.symm; have f5_ := f3_.symm; clear f1_ f2_ f3_; subst f4_; subst f5_))
                obtain ⟨Ao132, co132, eo132⟩ := Kd.R_slice HO371.out
                (first | subst eo132 | (injection eo132 with f1_ f2_ f3_; have f4_ := f1_.symm; have f5_ := f3_.symm; clear f1_ f2_ f3_; subst f4_; subst f5_))
                obtain ⟨Ao133, co133, eo133⟩ := Kd.R_slice HO374.out
                (first | subst eo133 | (injection eo133 with f1_ f2_ f3_; have f4_ := f1_.symm; have f5_ := f3_.symm; clear f1_ f2_ f3_; subst f4_; subst f5_))
                refine hK.out _ _ ⟨(blk_cell BK306.out 0).trans rfl, (blk_cell BK306.out 1).trans rfl⟩ (fun hHeld => ?_)
                clear hK K
                refine norm_ (a' := ?_) ?_ ?_
                rotate_left
                ·
                 show Act.put _ (some 98) _ = _
                 simp only [Act.put, List.setIfInBounds_toArray, List.set_cons_zero, List.set_cons_succ, i64_w, i32_w]
                 rfl
                refine one_ (i := 4) (N := some 99) #[true, true, true, true, true, false, false, false, true, false, false] rfl rfl (one_of HT_.out (by kernel_rfl)) (by decide) (fun K hK => ?_)
                refine goes_ Try.func34 (by kernel_rfl) rfl #[.slice Ao131 t366.length co131, .agg #[.slice Ao132 t369.length co132, .slice Ao133 t372.length co133]] (by rfl) rfl rfl sG ?_
                with_reducible refine (impl_TurnLine.calls kj88 _ _ t366 _ _ t369 _ _ t372 t375 t378 t381 _ ?side1 ?side2 ?side3 ?side4 ?side5 ?side6 A125.out).mono ?_
                (case side1 => exact sC (Kd.R_reads' HO368.out).2.2)
                (case side2 => exact (Kd.R_reads' HO368.out).2.1)
                (case side3 => exact sC (Kd.R_reads' HO371.out).2.2)
                (case side4 => exact (Kd.R_reads' HO371.out).2.1)
                (case side5 => exact sC (Kd.R_reads' HO374.out).2.2)
                (case side6 => exact (Kd.R_reads' HO374.out).2.1)
                rintro e w134 ⟨v376, v379, rfl, ho0, ho1, hb⟩
                refine ⟨_, rfl, ?_⟩
                have n0_ := aS (Kd.R_elder' (sR HO_326000.out) (Kd.R_base ho0) hb)
                have n1_ := aS (Kd.R_elder' (sR HO_326001.out) (Kd.R_base ho1) hb)
                have n2_ := aS (Kd.R_elder' (sR HO_344000.out) (Kd.R_base ho0) hb)
                have n3_ := aS (Kd.R_elder' (sR HO_344001.out) (Kd.R_base ho1) hb)
                have n4_ := aS (Kd.R_below (sR HO368.out) hb)
                have n5_ := aS (Kd.R_elder' (sR HO371.out) (Kd.R_base ho0) hb)
                have n6_ := aS (Kd.R_elder' (sR HO374.out) (Kd.R_base ho1) hb)
                have n7_ := aS (Kd.R_lower (Kd.R_new' (Kd.R_new' (Kd.R_new' ho0 (Kd.R_lt (sR HO_326000.out))) (Kd.R_lt (sR HO_344000.out))) (Kd.R_lt (sR HO371.out))) (below_size (sW HB.out)))
                have n8_ := aS (Kd.R_lower (Kd.R_new' (Kd.R_new' (Kd.R_new' ho1 (Kd.R_lt (sR HO_326001.out))) (Kd.R_lt (sR HO_344001.out))) (Kd.R_lt (sR HO374.out))) (below_size (sW HB.out)))
                have n9_ := aS (blk_below (g := gb306) (o := .cells #[.slice A1_0 l1_0.length c1_0, .slice A1_1 l1_1.length c1_1] 32 (0, 0)) (sB BK306.out) hb)
                have n10_ := aS (blk_below (g := gb325) (o := .cells #[.slice Ao29 t318.length co29, .slice Ao31 t321.length co31] 37 (0, 0)) (sB BK325.out) hb)
                have n11_ := aS (blk_below (g := gb343) (o := .cells #[.slice Ao46 t336.length co46, .slice Ao51 t339.length co51] 37 (0, 0)) (sB BK343.out) hb)
                have n12_ := aS (blk_below (g := gb382) (o := .cells #[.slice none 0 0, .slice none 0 0] 37 (0, 0)) (sB BK382.out) hb)
                have n13_ := aS (below_step (sW HB.out) hb)
                clear HO_326000 HO_326001 HO_344000 HO_344001 HO368 HO371 HO374 BK306 BK325 BK343 BK382 HB
                have HO_326000 := n0_; have HO_326001 := n1_; have HO_344000 := n2_; have HO_344001 := n3_; have HO368 := n4_; have HO371 := n5_; have HO374 := n6_; have HO377 := n7_; have HO380 := n8_; have BK306 := n9_; have BK325 := n10_; have BK343 := n11_; have BK382 := n12_; have HB := n13_
                clear n0_ n1_ n2_ n3_ n4_ n5_ n6_ n7_ n8_ n9_ n10_ n11_ n12_ n13_
                (try clear hb); (try clear hb2); (try clear hk); (try clear hi); (try clear ho0); (try clear ho1)
                refine hK.out _ _ ⟨(blk_cell BK306.out 0).trans rfl, (blk_cell BK306.out 1).trans rfl⟩ (fun hHeld => ?_)
                clear hK K
                refine norm_ (a' := ?_) ?_ ?_
                rotate_left
                ·
                 show Act.put _ (some 99) _ = _
                 simp only [Act.put, List.setIfInBounds_toArray, List.set_cons_zero, List.set_cons_succ, i64_w, i32_w]
                 rfl
                refine pure_ (i := 5) (N := some 94) (v := ?_) (a' := ?_) #[true, true, true, true, true, true, false, false, true, false, false] rfl rfl (any_of HT_.out (by kernel_rfl)) (fun _ _ _ h => h) (Or.inl ⟨by rfl, ?_⟩) ?_ ?_
                rotate_left
                ·
                 intro w'
                 go_simp
                 with_reducible rfl
                rotate_left
                ·
                 simp only [Act.put, List.setIfInBounds_toArray, List.set_cons_zero, List.set_cons_succ, i64_w, i32_w]
                 rfl
                refine pure_ (i := 6) (N := some 100) (v := ?_) (a' := ?_) #[true, true, true, true, true, true, true, false, true, false, false] rfl rfl (any_of HT_.out (by kernel_rfl)) (fun _ _ _ h => h) (Or.inl ⟨by rfl, ?_⟩) ?_ ?_
                rotate_left
                ·
                 intro w'
                 go_simp
                 with_reducible rfl
                rotate_left
                ·
                 simp only [Act.put, List.setIfInBounds_toArray, List.set_cons_zero, List.set_cons_succ, i64_w, i32_w]
                 rfl
                refine pure_ (i := 7) (N := some 101) (v := ?_) (a' := ?_) #[true, true, true, true, true, true, true, true, true, false, false] rfl rfl (any_of HT_.out (by kernel_rfl)) (fun _ _ _ h => h) (Or.inl ⟨by rfl, ?_⟩) ?_ ?_
                rotate_left
                ·
                 intro w'
                 go_simp
                 with_reducible rfl
                rotate_left
                ·
                 simp only [Act.put, List.setIfInBounds_toArray, List.set_cons_zero, List.set_cons_succ, i64_w, i32_w]
                 rfl
                exact norm_ (by simp only [putAll, Act.put, List.setIfInBounds_toArray, List.set_cons_zero, List.set_cons_succ]) (hCont (.slice Ao131 t366.length co131, .slice Ao132 t369.length co132, .slice Ao133 t372.length co133, v376, v379, gb382) _ ⟨hHeld, (sR HO368.out), (sR (Kd.R_mono HO371.out (fun _ hk => ⟨hk.2, ⟨hk.1.1.2, hk.1.2⟩⟩))), (sR (Kd.R_mono HO374.out (fun _ hk => ⟨hk.2, ⟨hk.1.1.2, hk.1.2⟩⟩))), (sR (Kd.R_mono HO377.out (fun _ hk => ⟨hk.2, ⟨hk.1.1.2, hk.1.2⟩⟩))), (sR (Kd.R_mono HO380.out (fun _ hk => ⟨hk.2, ⟨hk.1.1.2, hk.1.2⟩⟩))), (sR (Kd.R_mono HO_326000.out (fun _ hk => ⟨hk.1.2, ⟨hk.2, hk.1.1⟩⟩))), (sR (Kd.R_mono HO_326001.out (fun _ hk => ⟨hk.1.2, ⟨hk.2, hk.1.1⟩⟩))), (sR (Kd.R_mono HO_344000.out (fun _ hk => ⟨hk.1.2, ⟨hk.2, hk.1.1⟩⟩))), (sR (Kd.R_mono HO_344001.out (fun _ hk => ⟨hk.1.2, ⟨hk.2, hk.1.1⟩⟩))), (sB BK306.out), (sB BK325.out), (sB BK343.out), (sB BK382.out), GW382.out, GE382.out, NB306_382.out, NB382_306.out, NB325_382.out, NB382_325.out, NB343_382.out, NB382_343.out, (sW HB.out)⟩)
              ·
               skip
               refine box_step ?hg (N := 15) ?hd (cs := #[.slice none 0 0, .slice none 0 0]) (t := 37) ?hr ?_; (case hd => rfl); (case hg => rfl); (case hr => first | (go_simp; done) | (go_simp; rfl))
               intro gb382 hg w128 hbox hb
               have n0_ := aS (Kd.R_below (sR HO_326000.out) hb)
               have n1_ := aS (Kd.R_below (sR HO_326001.out) hb)
               have n2_ := aS (Kd.R_below (sR HO_344000.out) hb)
               have n3_ := aS (Kd.R_below (sR HO_344001.out) hb)
               have n4_ := aS (blk_below (g := gb306) (o := .cells #[.slice A1_0 l1_0.length c1_0, .slice A1_1 l1_1.length c1_1] 32 (0, 0)) (sB BK306.out) hb)
               have n5_ := aS (blk_below (g := gb325) (o := .cells #[.slice Ao29 t318.length co29, .slice Ao31 t321.length co31] 37 (0, 0)) (sB BK325.out) hb)
               have n6_ := aS (blk_below (g := gb343) (o := .cells #[.slice Ao46 t336.length co46, .slice Ao51 t339.length co51] 37 (0, 0)) (sB BK343.out) hb)
               have n7_ := aS (below_step (sW HB.out) hb)
               have n8_ := aS (hbox)
               have n9_ := aS ((by rw [hg]; exact (below_size (sW HB.out)) : w.heap.size ≤ gb382))
               have n10_ := aS ((by rw [hg]; exact (below_size (sW HB.out)) : w.heap.size ≤ gb382))
               have n11_ := aS ((by rw [hg]; exact Nat.ne_of_lt (blk_lt (g := gb306) (o := .cells #[.slice A1_0 l1_0.length c1_0, .slice A1_1 l1_1.length c1_1] 32 (0, 0)) (sB BK306.out)) : gb306 ≠ gb382))
               have n12_ := aS ((by rw [hg]; exact Nat.ne_of_gt (blk_lt (g := gb306) (o := .cells #[.slice A1_0 l1_0.length c1_0, .slice A1_1 l1_1.length c1_1] 32 (0, 0)) (sB BK306.out)) : gb382 ≠ gb306))
               have n13_ := aS ((by rw [hg]; exact Nat.ne_of_lt (blk_lt (g := gb325) (o := .cells #[.slice Ao29 t318.length co29, .slice Ao31 t321.length co31] 37 (0, 0)) (sB BK325.out)) : gb325 ≠ gb382))
               have n14_ := aS ((by rw [hg]; exact Nat.ne_of_gt (blk_lt (g := gb325) (o := .cells #[.slice Ao29 t318.length co29, .slice Ao31 t321.length co31] 37 (0, 0)) (sB BK325.out)) : gb382 ≠ gb325))
               have n15_ := aS ((by rw [hg]; exact Nat.ne_of_lt (blk_lt (g := gb343) (o := .cells #[.slice Ao46 t336.length co46, .slice Ao51 t339.length co51] 37 (0, 0)) (sB BK343.out)) : gb343 ≠ gb382))
               have n16_ := aS ((by rw [hg]; exact Nat.ne_of_gt (blk_lt (g := gb343) (o := .cells #[.slice Ao46 t336.length co46, .slice Ao51 t339.length co51] 37 (0, 0)) (sB BK343.out)) : gb382 ≠ gb343))
               clear HO_326000 HO_326001 HO_344000 HO_344001 BK306 BK325 BK343 HB
               have HO_326000 := n0_; have HO_326001 := n1_; have HO_344000 := n2_; have HO_344001 := n3_; have BK306 := n4_; have BK325 := n5_; have BK343 := n6_; have HB := n7_; have BK382 := n8_; have GW382 := n9_; have GE382 := n10_; have NB306_382 := n11_; have NB382_306 := n12_; have NB325_382 := n13_; have NB382_325 := n14_; have NB343_382 := n15_; have NB382_343 := n16_
               clear n0_ n1_ n2_ n3_ n4_ n5_ n6_ n7_ n8_ n9_ n10_ n11_ n12_ n13_ n14_ n15_ n16_
               clear hb hbox hg
               refine hK.out _ _ ⟨(blk_cell BK306.out 0).trans rfl, (blk_cell BK306.out 1).trans rfl⟩ (fun hHeld => ?_)
               clear hK K
               refine norm_ (a' := ?_) ?_ ?_
               rotate_left
               ·
                show Act.put _ (some 15) _ = _
                simp only [Act.put, List.setIfInBounds_toArray, List.set_cons_zero, List.set_cons_succ, i64_w, i32_w]
                rfl
               refine one_ (i := 1) (N := some 96) #[true, true, true, false, false, false, false, false, true, false, false] rfl rfl (one_of HT_.out (by kernel_rfl)) (by decide) (fun K hK => ?_)
               refine goes_ Try.func15 (by kernel_rfl) rfl #[.slice A0 l0.length c0] (by rfl) rfl rfl sG ?_
               with_reducible refine (laws_toJoinS.calls kj88 _ _ l0 t366 _ ?side1 ?side2 A123.out).mono ?_
               (case side1 => exact sC (Kd.C_below HR0.out HB.out))
               (case side2 => exact HC0.out)
               rintro e w129 ⟨v367, rfl, ho0, hb⟩
               refine ⟨_, rfl, ?_⟩
               have n0_ := aS (Kd.R_below (sR HO_326000.out) hb)
               have n1_ := aS (Kd.R_below (sR HO_326001.out) hb)
               have n2_ := aS (Kd.R_below (sR HO_344000.out) hb)
               have n3_ := aS (Kd.R_below (sR HO_344001.out) hb)
               have n4_ := aS (Kd.R_lower ho0 (below_size (sW HB.out)))
               have n5_ := aS (blk_below (g := gb306) (o := .cells #[.slice A1_0 l1_0.length c1_0, .slice A1_1 l1_1.length c1_1] 32 (0, 0)) (sB BK306.out) hb)
               have n6_ := aS (blk_below (g := gb325) (o := .cells #[.slice Ao29 t318.length co29, .slice Ao31 t321.length co31] 37 (0, 0)) (sB BK325.out) hb)
               have n7_ := aS (blk_below (g := gb343) (o := .cells #[.slice Ao46 t336.length co46, .slice Ao51 t339.length co51] 37 (0, 0)) (sB BK343.out) hb)
               have n8_ := aS (blk_below (g := gb382) (o := .cells #[.slice none 0 0, .slice none 0 0] 37 (0, 0)) (sB BK382.out) hb)
               have n9_ := aS (below_step (sW HB.out) hb)
               clear HO_326000 HO_326001 HO_344000 HO_344001 BK306 BK325 BK343 BK382 HB
               have HO_326000 := n0_; have HO_326001 := n1_; have HO_344000 := n2_; have HO_344001 := n3_; have HO368 := n4_; have BK306 := n5_; have BK325 := n6_; have BK343 := n7_; have BK382 := n8_; have HB := n9_
               clear n0_ n1_ n2_ n3_ n4_ n5_ n6_ n7_ n8_ n9_
               (try clear hb); (try clear hb2); (try clear hk); (try clear hi); (try clear ho0)
               refine hK.out _ _ ⟨(blk_cell BK306.out 0).trans rfl, (blk_cell BK306.out 1).trans rfl⟩ (fun hHeld => ?_)
               clear hK K
               refine norm_ (a' := ?_) ?_ ?_
               rotate_left
               ·
                show Act.put _ (some 96) _ = _
                simp only [Act.put, List.setIfInBounds_toArray, List.set_cons_zero, List.set_cons_succ, i64_w, i32_w]
                rfl
               refine one_ (i := 3) (N := some 98) #[true, true, true, true, false, false, false, false, true, false, false] rfl rfl (one_of HT_.out (by kernel_rfl)) (by decide) (fun K hK => ?_)
               refine goes_ Try.func20 (by kernel_rfl) rfl #[.agg #[.slice A1_0 l1_0.length c1_0, .slice A1_1 l1_1.length c1_1]] (by rfl) rfl rfl sG ?_
               with_reducible refine (laws_toLine.calls kj88 _ _ l1_0 _ _ l1_1 t369 t372 _ ?side1 ?side2 ?side3 ?side4 A124.out).mono ?_
               (case side1 => exact sC (Kd.C_below HR1_0.out HB.out))
               (case side2 => exact HC1_0.out)
               (case side3 => exact sC (Kd.C_below HR1_1.out HB.out))
               (case side4 => exact HC1_1.out)
               rintro e w130 ⟨v370, v373, rfl, ho0, ho1, hb⟩
               refine ⟨_, rfl, ?_⟩
               have n0_ := aS (Kd.R_elder' (sR HO_326000.out) (Kd.R_base ho0) hb)
               have n1_ := aS (Kd.R_elder' (sR HO_326001.out) (Kd.R_base ho1) hb)
               have n2_ := aS (Kd.R_elder' (sR HO_344000.out) (Kd.R_base ho0) hb)
               have n3_ := aS (Kd.R_elder' (sR HO_344001.out) (Kd.R_base ho1) hb)
               have n4_ := aS (Kd.R_below (sR HO368.out) hb)
               have n5_ := aS (Kd.R_lower (Kd.R_new' (Kd.R_new' ho0 (Kd.R_lt (sR HO_326000.out))) (Kd.R_lt (sR HO_344000.out))) (below_size (sW HB.out)))
               have n6_ := aS (Kd.R_lower (Kd.R_new' (Kd.R_new' ho1 (Kd.R_lt (sR HO_326001.out))) (Kd.R_lt (sR HO_344001.out))) (below_size (sW HB.out)))
               have n7_ := aS (blk_below (g := gb306) (o := .cells #[.slice A1_0 l1_0.length c1_0, .slice A1_1 l1_1.length c1_1] 32 (0, 0)) (sB BK306.out) hb)
               have n8_ := aS (blk_below (g := gb325) (o := .cells #[.slice Ao29 t318.length co29, .slice Ao31 t321.length co31] 37 (0, 0)) (sB BK325.out) hb)
               have n9_ := aS (blk_below (g := gb343) (o := .cells #[.slice Ao46 t336.length co46, .slice Ao51 t339.length co51] 37 (0, 0)) (sB BK343.out) hb)
               have n10_ := aS (blk_below (g := gb382) (o := .cells #[.slice none 0 0, .slice none 0 0] 37 (0, 0)) (sB BK382.out) hb)
               have n11_ := aS (below_step (sW HB.out) hb)
               clear HO_326000 HO_326001 HO_344000 HO_344001 HO368 BK306 BK325 BK343 BK382 HB
               have HO_326000 := n0_; have HO_326001 := n1_; have HO_344000 := n2_; have HO_344001 := n3_; have HO368 := n4_; have HO371 := n5_; have HO374 := n6_; have BK306 := n7_; have BK325 := n8_; have BK343 := n9_; have BK382 := n10_; have HB := n11_
               clear n0_ n1_ n2_ n3_ n4_ n5_ n6_ n7_ n8_ n9_ n10_ n11_
               (try clear hb); (try clear hb2); (try clear hk); (try clear hi); (try clear ho0); (try clear ho1)
               obtain ⟨Ao131, co131, eo131⟩ := Kd.R_slice HO368.out
               (first | subst eo131 | (injection eo131 with f1_ f2_ f3_; have f4_ := f1_.symm; have f5_ := f3_.symm; clear f1_ f2_ f3_; subst f4_; subst f5_))
               obtain ⟨Ao132, co132, eo132⟩ := Kd.R_slice HO371.out
               (first | subst eo132 | (injection eo132 with f1_ f2_ f3_; have f4_ := f1_.symm; have f5_ := f3_.symm; clear f1_ f2_ f3_; subst f4_; subst f5_))
               obtain ⟨Ao133, co133, eo133⟩ := Kd.R_slice HO374.out
               (first | subst eo133 | (injection eo133 with f1_ f2_ f3_; have f4_ := f1_.symm; have f5_ := f3_.symm; clear f1_ f2_ f3_; subst f4_; subst f5_))
               refine hK.out _ _ ⟨(blk_cell BK306.out 0).trans rfl, (blk_cell BK306.out 1).trans rfl⟩ (fun hHeld => ?_)
               clear hK K
               refine norm_ (a' := ?_) ?_ ?_
               rotate_left
               ·
                show Act.put _ (some 98) _ = _
                simp only [Act.put, List.setIfInBounds_toArray, List.set_cons_zero, List.set_cons_succ, i64_w, i32_w]
                rfl
               refine one_ (i := 4) (N := some 99) #[true, true, true, true, true, false, false, false, true, false, false] rfl rfl (one_of HT_.out (by kernel_rfl)) (by decide) (fun K hK => ?_)
               refine goes_ Try.func34 (by kernel_rfl) rfl #[.slice Ao131 t366.length co131, .agg #[.slice Ao132 t369.length co132, .slice Ao133 t372.length co133]] (by rfl) rfl rfl sG ?_
               with_reducible refine (impl_TurnLine.calls kj88 _ _ t366 _ _ t369 _ _ t372 t375 t378 t381 _ ?side1 ?side2 ?side3 ?side4 ?side5 ?side6 A125.out).mono ?_
               (case side1 => exact sC (Kd.R_reads' HO368.out).2.2)
               (case side2 => exact (Kd.R_reads' HO368.out).2.1)
               (case side3 => exact sC (Kd.R_reads' HO371.out).2.2)
               (case side4 => exact (Kd.R_reads' HO371.out).2.1)
               (case side5 => exact sC (Kd.R_reads' HO374.out).2.2)
               (case side6 => exact (Kd.R_reads' HO374.out).2.1)
               rintro e w134 ⟨v376, v379, rfl, ho0, ho1, hb⟩
               refine ⟨_, rfl, ?_⟩
               have n0_ := aS (Kd.R_elder' (sR HO_326000.out) (Kd.R_base ho0) hb)
               have n1_ := aS (Kd.R_elder' (sR HO_326001.out) (Kd.R_base ho1) hb)
               have n2_ := aS (Kd.R_elder' (sR HO_344000.out) (Kd.R_base ho0) hb)
               have n3_ := aS (Kd.R_elder' (sR HO_344001.out) (Kd.R_base ho1) hb)
               have n4_ := aS (Kd.R_below (sR HO368.out) hb)
               have n5_ := aS (Kd.R_elder' (sR HO371.out) (Kd.R_base ho0) hb)
               have n6_ := aS (Kd.R_elder' (sR HO374.out) (Kd.R_base ho1) hb)
               have n7_ := aS (Kd.R_lower (Kd.R_new' (Kd.R_new' (Kd.R_new' ho0 (Kd.R_lt (sR HO_326000.out))) (Kd.R_lt (sR HO_344000.out))) (Kd.R_lt (sR HO371.out))) (below_size (sW HB.out)))
               have n8_ := aS (Kd.R_lower (Kd.R_new' (Kd.R_new' (Kd.R_new' ho1 (Kd.R_lt (sR HO_326001.out))) (Kd.R_lt (sR HO_344001.out))) (Kd.R_lt (sR HO374.out))) (below_size (sW HB.out)))
               have n9_ := aS (blk_below (g := gb306) (o := .cells #[.slice A1_0 l1_0.length c1_0, .slice A1_1 l1_1.length c1_1] 32 (0, 0)) (sB BK306.out) hb)
               have n10_ := aS (blk_below (g := gb325) (o := .cells #[.slice Ao29 t318.length co29, .slice Ao31 t321.length co31] 37 (0, 0)) (sB BK325.out) hb)
               have n11_ := aS (blk_below (g := gb343) (o := .cells #[.slice Ao46 t336.length co46, .slice Ao51 t339.length co51] 37 (0, 0)) (sB BK343.out) hb)
               have n12_ := aS (blk_below (g := gb382) (o := .cells #[.slice none 0 0, .slice none 0 0] 37 (0, 0)) (sB BK382.out) hb)
               have n13_ := aS (below_step (sW HB.out) hb)
               clear HO_326000 HO_326001 HO_344000 HO_344001 HO368 HO371 HO374 BK306 BK325 BK343 BK382 HB
               have HO_326000 := n0_; have HO_326001 := n1_; have HO_344000 := n2_; have HO_344001 := n3_; have HO368 := n4_; have HO371 := n5_; have HO374 := n6_; have HO377 := n7_; have HO380 := n8_; have BK306 := n9_; have BK325 := n10_; have BK343 := n11_; have BK382 := n12_; have HB := n13_
               clear n0_ n1_ n2_ n3_ n4_ n5_ n6_ n7_ n8_ n9_ n10_ n11_ n12_ n13_
               (try clear hb); (try clear hb2); (try clear hk); (try clear hi); (try clear ho0); (try clear ho1)
               refine hK.out _ _ ⟨(blk_cell BK306.out 0).trans rfl, (blk_cell BK306.out 1).trans rfl⟩ (fun hHeld => ?_)
               clear hK K
               refine norm_ (a' := ?_) ?_ ?_
               rotate_left
               ·
                show Act.put _ (some 99) _ = _
                simp only [Act.put, List.setIfInBounds_toArray, List.set_cons_zero, List.set_cons_succ, i64_w, i32_w]
                rfl
               refine pure_ (i := 5) (N := some 94) (v := ?_) (a' := ?_) #[true, true, true, true, true, true, false, false, true, false, false] rfl rfl (any_of HT_.out (by kernel_rfl)) (fun _ _ _ h => h) (Or.inl ⟨by rfl, ?_⟩) ?_ ?_
               rotate_left
               ·
                intro w'
                go_simp
                with_reducible rfl
               rotate_left
               ·
                simp only [Act.put, List.setIfInBounds_toArray, List.set_cons_zero, List.set_cons_succ, i64_w, i32_w]
                rfl
               refine pure_ (i := 6) (N := some 100) (v := ?_) (a' := ?_) #[true, true, true, true, true, true, true, false, true, false, false] rfl rfl (any_of HT_.out (by kernel_rfl)) (fun _ _ _ h => h) (Or.inl ⟨by rfl, ?_⟩) ?_ ?_
               rotate_left
               ·
                intro w'
                go_simp
                with_reducible rfl
               rotate_left
               ·
                simp only [Act.put, List.setIfInBounds_toArray, List.set_cons_zero, List.set_cons_succ, i64_w, i32_w]
                rfl
               refine pure_ (i := 7) (N := some 101) (v := ?_) (a' := ?_) #[true, true, true, true, true, true, true, true, true, false, false] rfl rfl (any_of HT_.out (by kernel_rfl)) (fun _ _ _ h => h) (Or.inl ⟨by rfl, ?_⟩) ?_ ?_
               rotate_left
               ·
                intro w'
                go_simp
                with_reducible rfl
               rotate_left
               ·
                simp only [Act.put, List.setIfInBounds_toArray, List.set_cons_zero, List.set_cons_succ, i64_w, i32_w]
                rfl
               exact norm_ (by simp only [putAll, Act.put, List.setIfInBounds_toArray, List.set_cons_zero, List.set_cons_succ]) (hCont (.slice Ao131 t366.length co131, .slice Ao132 t369.length co132, .slice Ao133 t372.length co133, v376, v379, gb382) _ ⟨hHeld, (sR HO368.out), (sR (Kd.R_mono HO371.out (fun _ hk => ⟨hk.2, ⟨hk.1.1.2, hk.1.2⟩⟩))), (sR (Kd.R_mono HO374.out (fun _ hk => ⟨hk.2, ⟨hk.1.1.2, hk.1.2⟩⟩))), (sR (Kd.R_mono HO377.out (fun _ hk => ⟨hk.2, ⟨hk.1.1.2, hk.1.2⟩⟩))), (sR (Kd.R_mono HO380.out (fun _ hk => ⟨hk.2, ⟨hk.1.1.2, hk.1.2⟩⟩))), (sR (Kd.R_mono HO_326000.out (fun _ hk => ⟨hk.1.2, ⟨hk.2, hk.1.1⟩⟩))), (sR (Kd.R_mono HO_326001.out (fun _ hk => ⟨hk.1.2, ⟨hk.2, hk.1.1⟩⟩))), (sR (Kd.R_mono HO_344000.out (fun _ hk => ⟨hk.1.2, ⟨hk.2, hk.1.1⟩⟩))), (sR (Kd.R_mono HO_344001.out (fun _ hk => ⟨hk.1.2, ⟨hk.2, hk.1.1⟩⟩))), (sB BK306.out), (sB BK325.out), (sB BK343.out), (sB BK382.out), GW382.out, GE382.out, NB306_382.out, NB382_306.out, NB325_382.out, NB382_325.out, NB343_382.out, NB382_343.out, (sW HB.out)⟩)
             rintro ⟨v367, v370, v373, v376, v379, gb382⟩ w135 ⟨hS_, h0_, h1_, h2_, h3_, h4_, h5_, h6_, h7_, h8_, h9_, h10_, h11_, h12_, h13_, h14_, h15_, h16_, h17_, h18_, h19_, h20_, h21_⟩
             have n0_ : Aside0 (Kd.R k68 68 w135 w.heap.size (fun _ => True) v367 t366) := ⟨h0_⟩
             have n1_ : Aside0 (Kd.R k44 44 w135 w.heap.size (fun k_ => some k_ ≠ (v376 : Value).ownBlock ∧ some k_ ≠ (.slice Ao29 t318.length co29 : Value).ownBlock ∧ some k_ ≠ (.slice Ao46 t336.length co46 : Value).ownBlock) v370 t369) := ⟨h1_⟩
             have n2_ : Aside0 (Kd.R (Kd.int .i64) 2 w135 w.heap.size (fun k_ => some k_ ≠ (v379 : Value).ownBlock ∧ some k_ ≠ (.slice Ao31 t321.length co31 : Value).ownBlock ∧ some k_ ≠ (.slice Ao51 t339.length co51 : Value).ownBlock) v373 t372) := ⟨h2_⟩
             have n3_ : Aside0 (Kd.R k44 44 w135 w.heap.size (fun k_ => some k_ ≠ (v370 : Value).ownBlock ∧ some k_ ≠ (.slice Ao29 t318.length co29 : Value).ownBlock ∧ some k_ ≠ (.slice Ao46 t336.length co46 : Value).ownBlock) v376 t375) := ⟨h3_⟩
             have n4_ : Aside0 (Kd.R (Kd.int .i64) 2 w135 w.heap.size (fun k_ => some k_ ≠ (v373 : Value).ownBlock ∧ some k_ ≠ (.slice Ao31 t321.length co31 : Value).ownBlock ∧ some k_ ≠ (.slice Ao51 t339.length co51 : Value).ownBlock) v379 t378) := ⟨h4_⟩
             have n5_ : Aside0 (Kd.R k44 44 w135 w.heap.size (fun k_ => some k_ ≠ (v370 : Value).ownBlock ∧ some k_ ≠ (v376 : Value).ownBlock ∧ some k_ ≠ (.slice Ao46 t336.length co46 : Value).ownBlock) (.slice Ao29 t318.length co29) t318) := ⟨h5_⟩
             have n6_ : Aside0 (Kd.R (Kd.int .i64) 2 w135 w.heap.size (fun k_ => some k_ ≠ (v373 : Value).ownBlock ∧ some k_ ≠ (v379 : Value).ownBlock ∧ some k_ ≠ (.slice Ao51 t339.length co51 : Value).ownBlock) (.slice Ao31 t321.length co31) t321) := ⟨h6_⟩
             have n7_ : Aside0 (Kd.R k44 44 w135 w.heap.size (fun k_ => some k_ ≠ (v370 : Value).ownBlock ∧ some k_ ≠ (v376 : Value).ownBlock ∧ some k_ ≠ (.slice Ao29 t318.length co29 : Value).ownBlock) (.slice Ao46 t336.length co46) t363) := ⟨h7_⟩
             have n8_ : Aside0 (Kd.R (Kd.int .i64) 2 w135 w.heap.size (fun k_ => some k_ ≠ (v373 : Value).ownBlock ∧ some k_ ≠ (v379 : Value).ownBlock ∧ some k_ ≠ (.slice Ao31 t321.length co31 : Value).ownBlock) (.slice Ao51 t339.length co51) t364) := ⟨h8_⟩
             have n9_ : Aside0 (w135.heap[gb306]? = some (.cells #[.slice A1_0 l1_0.length c1_0, .slice A1_1 l1_1.length c1_1] 32 (0, 0))) := ⟨h9_⟩
             have n10_ : Aside0 (w135.heap[gb325]? = some (.cells #[.slice Ao29 t318.length co29, .slice Ao31 t321.length co31] 37 (0, 0))) := ⟨h10_⟩
             have n11_ : Aside0 (w135.heap[gb343]? = some (.cells #[.slice Ao46 t336.length co46, .slice Ao51 t339.length co51] 37 (0, 0))) := ⟨h11_⟩
             have n12_ : Aside0 (w135.heap[gb382]? = some (.cells #[.slice none 0 0, .slice none 0 0] 37 (0, 0))) := ⟨h12_⟩
             have n13_ : Aside0 (w.heap.size ≤ gb382) := ⟨h13_⟩
             have n14_ : Aside0 (w.heap.size ≤ gb382) := ⟨h14_⟩
             have n15_ : Aside0 (gb306 ≠ gb382) := ⟨h15_⟩
             have n16_ : Aside0 (gb382 ≠ gb306) := ⟨h16_⟩
             have n17_ : Aside0 (gb325 ≠ gb382) := ⟨h17_⟩
             have n18_ : Aside0 (gb382 ≠ gb325) := ⟨h18_⟩
             have n19_ : Aside0 (gb343 ≠ gb382) := ⟨h19_⟩
             have n20_ : Aside0 (gb382 ≠ gb343) := ⟨h20_⟩
             have n21_ : Aside0 (Below w.heap.size w w135) := ⟨h21_⟩
             clear HO_326000 HO_326001 HO_344000 HO_344001 BK306 BK325 BK343 HB
             clear h0_ h1_ h2_ h3_ h4_ h5_ h6_ h7_ h8_ h9_ h10_ h11_ h12_ h13_ h14_ h15_ h16_ h17_ h18_ h19_ h20_ h21_
             have HO368 := n0_; have HO371 := n1_; have HO374 := n2_; have HO377 := n3_; have HO380 := n4_; have HO_326000 := n5_; have HO_326001 := n6_; have HO_344000 := n7_; have HO_344001 := n8_; have BK306 := n9_; have BK325 := n10_; have BK343 := n11_; have BK382 := n12_; have GW382 := n13_; have GE382 := n14_; have NB306_382 := n15_; have NB382_306 := n16_; have NB325_382 := n17_; have NB382_325 := n18_; have NB343_382 := n19_; have NB382_343 := n20_; have HB := n21_
             clear n0_ n1_ n2_ n3_ n4_ n5_ n6_ n7_ n8_ n9_ n10_ n11_ n12_ n13_ n14_ n15_ n16_ n17_ n18_ n19_ n20_ n21_
             have hHeld : w135.cell? ⟨gb306, 0, none⟩ = some (.slice A1_0 l1_0.length c1_0) ∧ w135.cell? ⟨gb306, 1, none⟩ = some (.slice A1_1 l1_1.length c1_1) := hS_
             obtain ⟨Ao136, co136, eo136⟩ := Kd.R_slice HO377.out
             (first | subst eo136 | (injection eo136 with f1_ f2_ f3_; have f4_ := f1_.symm; have f5_ := f3_.symm; clear f1_ f2_ f3_; subst f4_; subst f5_))
             obtain ⟨Ao138, co138, eo138⟩ := Kd.R_slice HO380.out
             (first | subst eo138 | (injection eo138 with f1_ f2_ f3_; have f4_ := f1_.symm; have f5_ := f3_.symm; clear f1_ f2_ f3_; subst f4_; subst f5_))
             refine norm_ (a' := ?_) ?_ ?_
             rotate_left
             ·
              simp only [putAll, Act.put, List.setIfInBounds_toArray, List.set_cons_zero, List.set_cons_succ]
              rfl
             refine one_ (i := 9) (N := none) #[true, true, true, true, true, true, true, true, true, true, false] rfl rfl (one_of HT_.out (by kernel_rfl)) (by decide) (fun K hK => ?_)
             have hs137 : w135.cell? ⟨gb382, 0, none⟩ = some (.slice none 0 0) := (blk_cell BK382.out 0).trans rfl
             have hfs137 := blk_frozen BK382.out 0
             have hns137_0 := NB306_382.out
             have hns137_1 := NB325_382.out
             have hns137_2 := NB343_382.out
             have hms137_0 := NB382_306.out
             have hms137_1 := NB382_325.out
             have hms137_2 := NB382_343.out
             have hs139 : w135.cell? ⟨gb382, 1, none⟩ = some (.slice none 0 0) := (blk_cell BK382.out 1).trans rfl
             have hfs139 := blk_frozen BK382.out 1
             have hns139_0 := NB306_382.out
             have hns139_1 := NB325_382.out
             have hns139_2 := NB343_382.out
             have hms139_0 := NB382_306.out
             have hms139_1 := NB382_325.out
             have hms139_2 := NB382_343.out
             refine skip_ (w1 := ?_) (by rfl) rfl ?_ ?_
             rotate_left
             ·
              go_simp
              rfl
             refine hK.out _ _ ⟨((cell_far (p := ⟨gb382, _, none⟩) NB306_382.out _).trans (((cell_far (p := ⟨gb382, _, none⟩) NB306_382.out _).trans (hHeld.1)))), ((cell_far (p := ⟨gb382, _, none⟩) NB306_382.out _).trans (((cell_far (p := ⟨gb382, _, none⟩) NB306_382.out _).trans (hHeld.2))))⟩ (fun hHeld => ?_)
             clear hK K
             refine pure_ (i := 10) (N := some 16) (v := ?_) (a' := ?_) #[true, true, true, true, true, true, true, true, true, true, true] rfl rfl (any_of HT_.out (by kernel_rfl)) (fun _ _ _ h => h) (Or.inl ⟨by rfl, ?_⟩) ?_ ?_
             rotate_left
             ·
              intro w'
              go_simp
              with_reducible rfl
             rotate_left
             ·
              simp only [Act.put, List.setIfInBounds_toArray, List.set_cons_zero, List.set_cons_succ, i64_w, i32_w]
              rfl
             refine done_ (done_of HT_.out (by kernel_rfl)) ?_
             go_upto_region 32 with (fail)
             go_cut [110] (fun v110 wc => ∃ (kq : Nat) (x110_125 : Bool), v110 = .bool x110_125 ∧ Aside0 (laws_FnExactTurnLine.j2 kq t362 x110_125 t363 t364 = some r) ∧ Aside0 (kq ≤ kj88) ∧ Aside0 (Kd.R k44 44 wc w.heap.size (fun _ => True) (.slice Ao46 t336.length co46) t363) ∧ Aside0 (Kd.R (Kd.int .i64) 2 wc w.heap.size (fun _ => True) (.slice Ao51 t339.length co51) t364) ∧ Aside0 (wc.heap[gb343]? = some (.cells #[(.slice Ao46 t336.length co46), (.slice Ao51 t339.length co51)] 37 (0, 0))) ∧ Aside0 (Below w.heap.size w wc))
             case first =>
              have H := HC126.out
              clear HC126
              replace H := Option.bind_eq_some_iff.mp H
              obtain ⟨t383, A1400, H⟩ := H
              replace H : (if t383 = true then (laws_FnExactTurnLine.j2 kj88 t362 (t381 != t324) t363 t364) else (laws_FnExactTurnLine.j2 kj88 t362 true t363 t364)) = some r := H
              have A140 := aS A1400
              clear A1400
              by_cases c141 : t383 = true
              ·
               subst c141
               have H1 : (laws_FnExactTurnLine.j2 kj88 t362 (t381 != t324) t363 t364) = some r := by rw [if_pos rfl] at H; exact H
               clear H
               have H := H1
               clear H1
               have H' := aS H
               clear H
               have hnb142 := NB382_306.out
               have hnc142 := NB306_382.out
               have hnb143 := NB382_325.out
               have hnc143 := NB325_382.out
               have hnb144 := NB382_343.out
               have hnc144 := NB343_382.out
               have hcz145_0 : w135.cell? ⟨gb382, 0, none⟩ = some (.slice none 0 0) := (blk_cell BK382.out 0).trans rfl
               have hcz145_1 : w135.cell? ⟨gb382, 1, none⟩ = some (.slice none 0 0) := (blk_cell BK382.out 1).trans rfl
               have hfz145_0 := blk_frozen BK382.out 0
               have hfz145_1 := blk_frozen BK382.out 1
               have hnb146 := NB325_306.out
               have hnc146 := NB306_325.out
               have hnb147 := NB325_343.out
               have hnc147 := NB343_325.out
               have hcz148_0 : w135.cell? ⟨gb325, 0, none⟩ = some (.slice Ao29 t318.length co29) := (blk_cell BK325.out 0).trans rfl
               have hcz148_1 : w135.cell? ⟨gb325, 1, none⟩ = some (.slice Ao31 t321.length co31) := (blk_cell BK325.out 1).trans rfl
               have hfz148_0 := blk_frozen BK325.out 0
               have hfz148_1 := blk_frozen BK325.out 1
               go_wp2_with (first | ((with_reducible refine gate_callee (f := 22) rfl ?_); refine goesL_ (some 104) rfl rfl Try.func22 (by kernel_rfl) rfl #[.agg #[.slice Ao136 t375.length co136, .slice Ao138 t378.length co138], .agg #[.slice Ao29 t318.length co29, .slice Ao31 t321.length co31]] rfl sG ?_; (with_reducible refine (laws_eqLine.calls kj88 _ _ t375 _ _ t378 _ _ t318 _ _ t321 true _ ?side1 ?side2 ?side3 ?side4 ?side5 ?side6 ?side7 ?side8 A140.out).mono ?_); (case side1 => refine (Kd.R_reads' (e := 44) (base := w.heap.size) (ok := fun k_ => (some k_ ≠ (v370 : Value).ownBlock ∧ (some k_ ≠ (.slice Ao29 t318.length co29 : Value).ownBlock ∧ some k_ ≠ (.slice Ao46 t336.length co46 : Value).ownBlock))) (n := t375.length) (c := co136) ?_).2.2; exact (sR (Kd.R_mono (Kd.R_far (p := ⟨gb382, 1, none⟩) (Kd.R_far (p := ⟨gb382, 0, none⟩) (Kd.R_types HO377.out BK382.out (by decide)) (fun _ hk => hk.2) (.slice Ao136 t375.length co136)) (fun _ hk => hk.2) (.slice Ao138 t378.length co138)) (fun _ h_ => h_.1)))); (case side2 => exact (Kd.R_reads' HO377.out).2.1); (case side3 => refine (Kd.R_reads' (e := 2) (base := w.heap.size) (ok := fun k_ => (some k_ ≠ (v373 : Value).ownBlock ∧ (some k_ ≠ (.slice Ao31 t321.length co31 : Value).ownBlock ∧ some k_ ≠ (.slice Ao51 t339.length co51 : Value).ownBlock))) (n := t378.length) (c := co138) ?_).2.2; exact (sR (Kd.R_mono (Kd.R_far (p := ⟨gb382, 1, none⟩) (Kd.R_far (p := ⟨gb382, 0, none⟩) (Kd.R_types HO380.out BK382.out (by decide)) (fun _ hk => hk.2) (.slice Ao136 t375.length co136)) (fun _ hk => hk.2) (.slice Ao138 t378.length co138)) (fun _ h_ => h_.1)))); (case side4 => exact (Kd.R_reads' HO380.out).2.1); (case side5 => refine (Kd.R_reads' (e := 44) (base := w.heap.size) (ok := fun k_ => (some k_ ≠ (v370 : Value).ownBlock ∧ (some k_ ≠ (.slice Ao136 t375.length co136 : Value).ownBlock ∧ some k_ ≠ (.slice Ao46 t336.length co46 : Value).ownBlock))) (n := t318.length) (c := co29) ?_).2.2; exact (sR (Kd.R_mono (Kd.R_far (p := ⟨gb382, 1, none⟩) (Kd.R_far (p := ⟨gb382, 0, none⟩) (Kd.R_types HO_326000.out BK382.out (by decide)) (fun _ hk => hk.2) (.slice Ao136 t375.length co136)) (fun _ hk => hk.2) (.slice Ao138 t378.length co138)) (fun _ h_ => h_.1)))); (case side6 => exact (Kd.R_reads' HO_326000.out).2.1); (case side7 => refine (Kd.R_reads' (e := 2) (base := w.heap.size) (ok := fun k_ => (some k_ ≠ (v373 : Value).ownBlock ∧ (some k_ ≠ (.slice Ao138 t378.length co138 : Value).ownBlock ∧ some k_ ≠ (.slice Ao51 t339.length co51 : Value).ownBlock))) (n := t321.length) (c := co31) ?_).2.2; exact (sR (Kd.R_mono (Kd.R_far (p := ⟨gb382, 1, none⟩) (Kd.R_far (p := ⟨gb382, 0, none⟩) (Kd.R_types HO_326001.out BK382.out (by decide)) (fun _ hk => hk.2) (.slice Ao136 t375.length co136)) (fun _ hk => hk.2) (.slice Ao138 t378.length co138)) (fun _ h_ => h_.1)))); (case side8 => exact (Kd.R_reads' HO_326001.out).2.1); rintro e w149 ⟨rfl, hb⟩; refine ⟨_, rfl, ?_⟩; have n0_ := aS (Kd.R_below (sR (Kd.R_mono (Kd.R_far (p := ⟨gb382, 1, none⟩) (Kd.R_far (p := ⟨gb382, 0, none⟩) (Kd.R_types HO_326000.out BK382.out (by decide)) (fun _ hk => hk.2) (.slice Ao136 t375.length co136)) (fun _ hk => hk.2) (.slice Ao138 t378.length co138)) (fun _ h_ => h_.1))) hb); have n1_ := aS (Kd.R_below (sR (Kd.R_mono (Kd.R_far (p := ⟨gb382, 1, none⟩) (Kd.R_far (p := ⟨gb382, 0, none⟩) (Kd.R_types HO_326001.out BK382.out (by decide)) (fun _ hk => hk.2) (.slice Ao136 t375.length co136)) (fun _ hk => hk.2) (.slice Ao138 t378.length co138)) (fun _ h_ => h_.1))) hb); have n2_ := aS (Kd.R_below (sR (Kd.R_mono (Kd.R_far (p := ⟨gb382, 1, none⟩) (Kd.R_far (p := ⟨gb382, 0, none⟩) (Kd.R_types HO_344000.out BK382.out (by decide)) (fun _ hk => hk.2) (.slice Ao136 t375.length co136)) (fun _ hk => hk.2) (.slice Ao138 t378.length co138)) (fun _ h_ => h_.1))) hb); have n3_ := aS (Kd.R_below (sR (Kd.R_mono (Kd.R_far (p := ⟨gb382, 1, none⟩) (Kd.R_far (p := ⟨gb382, 0, none⟩) (Kd.R_types HO_344001.out BK382.out (by decide)) (fun _ hk => hk.2) (.slice Ao136 t375.length co136)) (fun _ hk => hk.2) (.slice Ao138 t378.length co138)) (fun _ h_ => h_.1))) hb); have n4_ := aS (Kd.R_below (sR (Kd.R_mono (Kd.R_far (p := ⟨gb382, 1, none⟩) (Kd.R_far (p := ⟨gb382, 0, none⟩) (Kd.R_types HO368.out BK382.out (by decide)) (fun _ hk => hk.2) (.slice Ao136 t375.length co136)) (fun _ hk => hk.2) (.slice Ao138 t378.length co138)) (fun _ h_ => h_.1))) hb); have n5_ := aS (Kd.R_below (sR (Kd.R_mono (Kd.R_far (p := ⟨gb382, 1, none⟩) (Kd.R_far (p := ⟨gb382, 0, none⟩) (Kd.R_types HO371.out BK382.out (by decide)) (fun _ hk => hk.2) (.slice Ao136 t375.length co136)) (fun _ hk => hk.2) (.slice Ao138 t378.length co138)) (fun _ h_ => h_.1))) hb); have n6_ := aS (Kd.R_below (sR (Kd.R_mono (Kd.R_far (p := ⟨gb382, 1, none⟩) (Kd.R_far (p := ⟨gb382, 0, none⟩) (Kd.R_types HO374.out BK382.out (by decide)) (fun _ hk => hk.2) (.slice Ao136 t375.length co136)) (fun _ hk => hk.2) (.slice Ao138 t378.length co138)) (fun _ h_ => h_.1))) hb); have n7_ := aS (Kd.R_below (sR (Kd.R_mono (Kd.R_far (p := ⟨gb382, 1, none⟩) (Kd.R_far (p := ⟨gb382, 0, none⟩) (Kd.R_types HO377.out BK382.out (by decide)) (fun _ hk => hk.2) (.slice Ao136 t375.length co136)) (fun _ hk => hk.2) (.slice Ao138 t378.length co138)) (fun _ h_ => h_.1))) hb); have n8_ := aS (Kd.R_below (sR (Kd.R_mono (Kd.R_far (p := ⟨gb382, 1, none⟩) (Kd.R_far (p := ⟨gb382, 0, none⟩) (Kd.R_types HO380.out BK382.out (by decide)) (fun _ hk => hk.2) (.slice Ao136 t375.length co136)) (fun _ hk => hk.2) (.slice Ao138 t378.length co138)) (fun _ h_ => h_.1))) hb); have n9_ := aS (blk_below (g := gb306) (o := .cells #[.slice A1_0 l1_0.length c1_0, .slice A1_1 l1_1.length c1_1] 32 (0, 0)) (by (with_reducible repeat (first | refine blk_drewN ?_ _ | refine blk_drew ?_ | refine blk_alloc ?_ _)); refine blk_far ?_ NB306_382.out _; (with_reducible repeat (first | refine blk_drewN ?_ _ | refine blk_drew ?_ | refine blk_alloc ?_ _)); refine blk_far ?_ NB306_382.out _; (with_reducible repeat (first | refine blk_drewN ?_ _ | refine blk_drew ?_ | refine blk_alloc ?_ _)); exact BK306.out) hb); have n10_ := aS (blk_below (g := gb325) (o := .cells #[.slice Ao29 t318.length co29, .slice Ao31 t321.length co31] 37 (0, 0)) (by (with_reducible repeat (first | refine blk_drewN ?_ _ | refine blk_drew ?_ | refine blk_alloc ?_ _)); refine blk_far ?_ NB325_382.out _; (with_reducible repeat (first | refine blk_drewN ?_ _ | refine blk_drew ?_ | refine blk_alloc ?_ _)); refine blk_far ?_ NB325_382.out _; (with_reducible repeat (first | refine blk_drewN ?_ _ | refine blk_drew ?_ | refine blk_alloc ?_ _)); exact BK325.out) hb); have n11_ := aS (blk_below (g := gb343) (o := .cells #[.slice Ao46 t336.length co46, .slice Ao51 t339.length co51] 37 (0, 0)) (by (with_reducible repeat (first | refine blk_drewN ?_ _ | refine blk_drew ?_ | refine blk_alloc ?_ _)); refine blk_far ?_ NB343_382.out _; (with_reducible repeat (first | refine blk_drewN ?_ _ | refine blk_drew ?_ | refine blk_alloc ?_ _)); refine blk_far ?_ NB343_382.out _; (with_reducible repeat (first | refine blk_drewN ?_ _ | refine blk_drew ?_ | refine blk_alloc ?_ _)); exact BK343.out) hb); have n12_ := aS (blk_below (g := gb382) (o := .cells #[.slice Ao136 t375.length co136, .slice Ao138 t378.length co138] 37 (0, 0)) (by (with_reducible repeat (first | refine blk_drewN ?_ _ | refine blk_drew ?_ | refine blk_alloc ?_ _)); refine blk_put (cs := #[.slice Ao136 t375.length co136, .slice none 0 0]) ?_ 1 _ rfl; (with_reducible repeat (first | refine blk_drewN ?_ _ | refine blk_drew ?_ | refine blk_alloc ?_ _)); refine blk_put (cs := #[.slice none 0 0, .slice none 0 0]) ?_ 0 _ rfl; (with_reducible repeat (first | refine blk_drewN ?_ _ | refine blk_drew ?_ | refine blk_alloc ?_ _)); exact BK382.out) hb); have n13_ := aS (below_step (sW HB.out) hb); clear HO_326000 HO_326001 HO_344000 HO_344001 HO368 HO371 HO374 HO377 HO380 BK306 BK325 BK343 BK382 HB; have HO_326000 := n0_; have HO_326001 := n1_; have HO_344000 := n2_; have HO_344001 := n3_; have HO368 := n4_; have HO371 := n5_; have HO374 := n6_; have HO377 := n7_; have HO380 := n8_; have BK306 := n9_; have BK325 := n10_; have BK343 := n11_; have BK382 := n12_; have HB := n13_; clear n0_ n1_ n2_ n3_ n4_ n5_ n6_ n7_ n8_ n9_ n10_ n11_ n12_ n13_; (try clear hb); (try clear hb2); (try clear hk); (try clear hi)))
               go_meet
               case rel => exact ⟨_, ((t381 != t324)), (by first | rfl | (simp; done) | (simp [*]; done) | (simp only [i64_w]; done) | (simp [i64_w]; done)), H', ⟨by have := HJ18.out; have := HJ88.out; first | omega | exact Nat.le_refl _⟩, ⟨by (with_reducible repeat (first | apply Kd.R_alloc | apply Kd.R_drewN | apply Kd.R_drew)); exact Kd.R_mono HO_344000.out (fun _ hk => trivial)⟩, ⟨by (with_reducible repeat (first | apply Kd.R_alloc | apply Kd.R_drewN | apply Kd.R_drew)); exact Kd.R_mono HO_344001.out (fun _ hk => trivial)⟩, ⟨by (with_reducible repeat (first | refine blk_drewN ?_ _ | refine blk_drew ?_ | refine blk_alloc ?_ _)); exact BK343.out⟩, ⟨by repeat (first | (with_reducible first | exact HB.out | apply below_alloc | apply pw_below_drewN | apply below_drew1 | refine below_set ?_ GE343.out) | exact HB.out)⟩⟩
              ·
               replace c141 := Bool.eq_false_iff.mpr c141
               subst c141
               have H1 : (laws_FnExactTurnLine.j2 kj88 t362 true t363 t364) = some r := by rw [if_neg (show ¬ (false = true) by decide)] at H; exact H
               clear H
               have H := H1
               clear H1
               have H' := aS H
               clear H
               have hnb150 := NB382_306.out
               have hnc150 := NB306_382.out
               have hnb151 := NB382_325.out
               have hnc151 := NB325_382.out
               have hnb152 := NB382_343.out
               have hnc152 := NB343_382.out
               have hcz153_0 : w135.cell? ⟨gb382, 0, none⟩ = some (.slice none 0 0) := (blk_cell BK382.out 0).trans rfl
               have hcz153_1 : w135.cell? ⟨gb382, 1, none⟩ = some (.slice none 0 0) := (blk_cell BK382.out 1).trans rfl
               have hfz153_0 := blk_frozen BK382.out 0
               have hfz153_1 := blk_frozen BK382.out 1
               have hnb154 := NB325_306.out
               have hnc154 := NB306_325.out
               have hnb155 := NB325_343.out
               have hnc155 := NB343_325.out
               have hcz156_0 : w135.cell? ⟨gb325, 0, none⟩ = some (.slice Ao29 t318.length co29) := (blk_cell BK325.out 0).trans rfl
               have hcz156_1 : w135.cell? ⟨gb325, 1, none⟩ = some (.slice Ao31 t321.length co31) := (blk_cell BK325.out 1).trans rfl
               have hfz156_0 := blk_frozen BK325.out 0
               have hfz156_1 := blk_frozen BK325.out 1
               go_wp2_with (first | ((with_reducible refine gate_callee (f := 22) rfl ?_); refine goesL_ (some 104) rfl rfl Try.func22 (by kernel_rfl) rfl #[.agg #[.slice Ao136 t375.length co136, .slice Ao138 t378.length co138], .agg #[.slice Ao29 t318.length co29, .slice Ao31 t321.length co31]] rfl sG ?_; (with_reducible refine (laws_eqLine.calls kj88 _ _ t375 _ _ t378 _ _ t318 _ _ t321 false _ ?side1 ?side2 ?side3 ?side4 ?side5 ?side6 ?side7 ?side8 A140.out).mono ?_); (case side1 => refine (Kd.R_reads' (e := 44) (base := w.heap.size) (ok := fun k_ => (some k_ ≠ (v370 : Value).ownBlock ∧ (some k_ ≠ (.slice Ao29 t318.length co29 : Value).ownBlock ∧ some k_ ≠ (.slice Ao46 t336.length co46 : Value).ownBlock))) (n := t375.length) (c := co136) ?_).2.2; exact (sR (Kd.R_mono (Kd.R_far (p := ⟨gb382, 1, none⟩) (Kd.R_far (p := ⟨gb382, 0, none⟩) (Kd.R_types HO377.out BK382.out (by decide)) (fun _ hk => hk.2) (.slice Ao136 t375.length co136)) (fun _ hk => hk.2) (.slice Ao138 t378.length co138)) (fun _ h_ => h_.1)))); (case side2 => exact (Kd.R_reads' HO377.out).2.1); (case side3 => refine (Kd.R_reads' (e := 2) (base := w.heap.size) (ok := fun k_ => (some k_ ≠ (v373 : Value).ownBlock ∧ (some k_ ≠ (.slice Ao31 t321.length co31 : Value).ownBlock ∧ some k_ ≠ (.slice Ao51 t339.length co51 : Value).ownBlock))) (n := t378.length) (c := co138) ?_).2.2; exact (sR (Kd.R_mono (Kd.R_far (p := ⟨gb382, 1, none⟩) (Kd.R_far (p := ⟨gb382, 0, none⟩) (Kd.R_types HO380.out BK382.out (by decide)) (fun _ hk => hk.2) (.slice Ao136 t375.length co136)) (fun _ hk => hk.2) (.slice Ao138 t378.length co138)) (fun _ h_ => h_.1)))); (case side4 => exact (Kd.R_reads' HO380.out).2.1); (case side5 => refine (Kd.R_reads' (e := 44) (base := w.heap.size) (ok := fun k_ => (some k_ ≠ (v370 : Value).ownBlock ∧ (some k_ ≠ (.slice Ao136 t375.length co136 : Value).ownBlock ∧ some k_ ≠ (.slice Ao46 t336.length co46 : Value).ownBlock))) (n := t318.length) (c := co29) ?_).2.2; exact (sR (Kd.R_mono (Kd.R_far (p := ⟨gb382, 1, none⟩) (Kd.R_far (p := ⟨gb382, 0, none⟩) (Kd.R_types HO_326000.out BK382.out (by decide)) (fun _ hk => hk.2) (.slice Ao136 t375.length co136)) (fun _ hk => hk.2) (.slice Ao138 t378.length co138)) (fun _ h_ => h_.1)))); (case side6 => exact (Kd.R_reads' HO_326000.out).2.1); (case side7 => refine (Kd.R_reads' (e := 2) (base := w.heap.size) (ok := fun k_ => (some k_ ≠ (v373 : Value).ownBlock ∧ (some k_ ≠ (.slice Ao138 t378.length co138 : Value).ownBlock ∧ some k_ ≠ (.slice Ao51 t339.length co51 : Value).ownBlock))) (n := t321.length) (c := co31) ?_).2.2; exact (sR (Kd.R_mono (Kd.R_far (p := ⟨gb382, 1, none⟩) (Kd.R_far (p := ⟨gb382, 0, none⟩) (Kd.R_types HO_326001.out BK382.out (by decide)) (fun _ hk => hk.2) (.slice Ao136 t375.length co136)) (fun _ hk => hk.2) (.slice Ao138 t378.length co138)) (fun _ h_ => h_.1)))); (case side8 => exact (Kd.R_reads' HO_326001.out).2.1); rintro e w157 ⟨rfl, hb⟩; refine ⟨_, rfl, ?_⟩; have n0_ := aS (Kd.R_below (sR (Kd.R_mono (Kd.R_far (p := ⟨gb382, 1, none⟩) (Kd.R_far (p := ⟨gb382, 0, none⟩) (Kd.R_types HO_326000.out BK382.out (by decide)) (fun _ hk => hk.2) (.slice Ao136 t375.length co136)) (fun _ hk => hk.2) (.slice Ao138 t378.length co138)) (fun _ h_ => h_.1))) hb); have n1_ := aS (Kd.R_below (sR (Kd.R_mono (Kd.R_far (p := ⟨gb382, 1, none⟩) (Kd.R_far (p := ⟨gb382, 0, none⟩) (Kd.R_types HO_326001.out BK382.out (by decide)) (fun _ hk => hk.2) (.slice Ao136 t375.length co136)) (fun _ hk => hk.2) (.slice Ao138 t378.length co138)) (fun _ h_ => h_.1))) hb); have n2_ := aS (Kd.R_below (sR (Kd.R_mono (Kd.R_far (p := ⟨gb382, 1, none⟩) (Kd.R_far (p := ⟨gb382, 0, none⟩) (Kd.R_types HO_344000.out BK382.out (by decide)) (fun _ hk => hk.2) (.slice Ao136 t375.length co136)) (fun _ hk => hk.2) (.slice Ao138 t378.length co138)) (fun _ h_ => h_.1))) hb); have n3_ := aS (Kd.R_below (sR (Kd.R_mono (Kd.R_far (p := ⟨gb382, 1, none⟩) (Kd.R_far (p := ⟨gb382, 0, none⟩) (Kd.R_types HO_344001.out BK382.out (by decide)) (fun _ hk => hk.2) (.slice Ao136 t375.length co136)) (fun _ hk => hk.2) (.slice Ao138 t378.length co138)) (fun _ h_ => h_.1))) hb); have n4_ := aS (Kd.R_below (sR (Kd.R_mono (Kd.R_far (p := ⟨gb382, 1, none⟩) (Kd.R_far (p := ⟨gb382, 0, none⟩) (Kd.R_types HO368.out BK382.out (by decide)) (fun _ hk => hk.2) (.slice Ao136 t375.length co136)) (fun _ hk => hk.2) (.slice Ao138 t378.length co138)) (fun _ h_ => h_.1))) hb); have n5_ := aS (Kd.R_below (sR (Kd.R_mono (Kd.R_far (p := ⟨gb382, 1, none⟩) (Kd.R_far (p := ⟨gb382, 0, none⟩) (Kd.R_types HO371.out BK382.out (by decide)) (fun _ hk => hk.2) (.slice Ao136 t375.length co136)) (fun _ hk => hk.2) (.slice Ao138 t378.length co138)) (fun _ h_ => h_.1))) hb); have n6_ := aS (Kd.R_below (sR (Kd.R_mono (Kd.R_far (p := ⟨gb382, 1, none⟩) (Kd.R_far (p := ⟨gb382, 0, none⟩) (Kd.R_types HO374.out BK382.out (by decide)) (fun _ hk => hk.2) (.slice Ao136 t375.length co136)) (fun _ hk => hk.2) (.slice Ao138 t378.length co138)) (fun _ h_ => h_.1))) hb); have n7_ := aS (Kd.R_below (sR (Kd.R_mono (Kd.R_far (p := ⟨gb382, 1, none⟩) (Kd.R_far (p := ⟨gb382, 0, none⟩) (Kd.R_types HO377.out BK382.out (by decide)) (fun _ hk => hk.2) (.slice Ao136 t375.length co136)) (fun _ hk => hk.2) (.slice Ao138 t378.length co138)) (fun _ h_ => h_.1))) hb); have n8_ := aS (Kd.R_below (sR (Kd.R_mono (Kd.R_far (p := ⟨gb382, 1, none⟩) (Kd.R_far (p := ⟨gb382, 0, none⟩) (Kd.R_types HO380.out BK382.out (by decide)) (fun _ hk => hk.2) (.slice Ao136 t375.length co136)) (fun _ hk => hk.2) (.slice Ao138 t378.length co138)) (fun _ h_ => h_.1))) hb); have n9_ := aS (blk_below (g := gb306) (o := .cells #[.slice A1_0 l1_0.length c1_0, .slice A1_1 l1_1.length c1_1] 32 (0, 0)) (by (with_reducible repeat (first | refine blk_drewN ?_ _ | refine blk_drew ?_ | refine blk_alloc ?_ _)); refine blk_far ?_ NB306_382.out _; (with_reducible repeat (first | refine blk_drewN ?_ _ | refine blk_drew ?_ | refine blk_alloc ?_ _)); refine blk_far ?_ NB306_382.out _; (with_reducible repeat (first | refine blk_drewN ?_ _ | refine blk_drew ?_ | refine blk_alloc ?_ _)); exact BK306.out) hb); have n10_ := aS (blk_below (g := gb325) (o := .cells #[.slice Ao29 t318.length co29, .slice Ao31 t321.length co31] 37 (0, 0)) (by (with_reducible repeat (first | refine blk_drewN ?_ _ | refine blk_drew ?_ | refine blk_alloc ?_ _)); refine blk_far ?_ NB325_382.out _; (with_reducible repeat (first | refine blk_drewN ?_ _ | refine blk_drew ?_ | refine blk_alloc ?_ _)); refine blk_far ?_ NB325_382.out _; (with_reducible repeat (first | refine blk_drewN ?_ _ | refine blk_drew ?_ | refine blk_alloc ?_ _)); exact BK325.out) hb); have n11_ := aS (blk_below (g := gb343) (o := .cells #[.slice Ao46 t336.length co46, .slice Ao51 t339.length co51] 37 (0, 0)) (by (with_reducible repeat (first | refine blk_drewN ?_ _ | refine blk_drew ?_ | refine blk_alloc ?_ _)); refine blk_far ?_ NB343_382.out _; (with_reducible repeat (first | refine blk_drewN ?_ _ | refine blk_drew ?_ | refine blk_alloc ?_ _)); refine blk_far ?_ NB343_382.out _; (with_reducible repeat (first | refine blk_drewN ?_ _ | refine blk_drew ?_ | refine blk_alloc ?_ _)); exact BK343.out) hb); have n12_ := aS (blk_below (g := gb382) (o := .cells #[.slice Ao136 t375.length co136, .slice Ao138 t378.length co138] 37 (0, 0)) (by (with_reducible repeat (first | refine blk_drewN ?_ _ | refine blk_drew ?_ | refine blk_alloc ?_ _)); refine blk_put (cs := #[.slice Ao136 t375.length co136, .slice none 0 0]) ?_ 1 _ rfl; (with_reducible repeat (first | refine blk_drewN ?_ _ | refine blk_drew ?_ | refine blk_alloc ?_ _)); refine blk_put (cs := #[.slice none 0 0, .slice none 0 0]) ?_ 0 _ rfl; (with_reducible repeat (first | refine blk_drewN ?_ _ | refine blk_drew ?_ | refine blk_alloc ?_ _)); exact BK382.out) hb); have n13_ := aS (below_step (sW HB.out) hb); clear HO_326000 HO_326001 HO_344000 HO_344001 HO368 HO371 HO374 HO377 HO380 BK306 BK325 BK343 BK382 HB; have HO_326000 := n0_; have HO_326001 := n1_; have HO_344000 := n2_; have HO_344001 := n3_; have HO368 := n4_; have HO371 := n5_; have HO374 := n6_; have HO377 := n7_; have HO380 := n8_; have BK306 := n9_; have BK325 := n10_; have BK343 := n11_; have BK382 := n12_; have HB := n13_; clear n0_ n1_ n2_ n3_ n4_ n5_ n6_ n7_ n8_ n9_ n10_ n11_ n12_ n13_; (try clear hb); (try clear hb2); (try clear hk); (try clear hi)))
               go_meet
               case rel => exact ⟨_, (true), (by first | rfl | (simp; done) | (simp [*]; done) | (simp only [i64_w]; done) | (simp [i64_w]; done)), H', ⟨by have := HJ18.out; have := HJ88.out; first | omega | exact Nat.le_refl _⟩, ⟨by (with_reducible repeat (first | apply Kd.R_alloc | apply Kd.R_drewN | apply Kd.R_drew)); exact Kd.R_mono HO_344000.out (fun _ hk => trivial)⟩, ⟨by (with_reducible repeat (first | apply Kd.R_alloc | apply Kd.R_drewN | apply Kd.R_drew)); exact Kd.R_mono HO_344001.out (fun _ hk => trivial)⟩, ⟨by (with_reducible repeat (first | refine blk_drewN ?_ _ | refine blk_drew ?_ | refine blk_alloc ?_ _)); exact BK343.out⟩, ⟨by repeat (first | (with_reducible first | exact HB.out | apply below_alloc | apply pw_below_drewN | apply below_drew1 | refine below_set ?_ GE343.out) | exact HB.out)⟩⟩
             case rest =>
              clear HC126
              (try clear c1); (try clear c2); (try clear p2); (try clear c3); (try clear c14); (try clear c15); (try clear c20); (try clear c22); (try clear c34); (try clear c141); (try clear c142); (try clear c143); (try clear c144); (try clear c146); (try clear c147); (try clear c150); (try clear c151); (try clear c152); (try clear c154); (try clear c155); (try clear hcz145_0); (try clear hcz145_1); (try clear hcz148_0); (try clear hcz148_1); (try clear hcz153_0); (try clear hcz153_1); (try clear hcz156_0); (try clear hcz156_1); (try clear hfz145_0); (try clear hfz145_1); (try clear hfz148_0); (try clear hfz148_1); (try clear hfz153_0); (try clear hfz153_1); (try clear hfz156_0); (try clear hfz156_1)
              obtain ⟨kq, x110_125, rfl, HA, HJ125, HO_344000, HO_344001, BK343, HB⟩ := hcut
              have hl344000_125 := (Kd.R_reads' HO_344000.out).1
              rw [hl344000_125] at HO_344000
              (try simp only [hl344000_125])
              (try simp only [hl344000_125] at BK343)
              (try simp only [hl344000_125] at HO_344001)
              have hl344001_125 := (Kd.R_reads' HO_344001.out).1
              rw [hl344001_125] at HO_344001
              (try simp only [hl344001_125])
              (try simp only [hl344001_125] at BK343)
              (try simp only [hl344001_125] at HO_344000)
              cases kq with
              | zero => exact absurd HA.out (by simp [laws_FnExactTurnLine.j2])
              | succ kj125 =>
               have H := HA.out
               clear HA
               simp only [laws_FnExactTurnLine.j2] at H
               by_cases c158 : x110_125 = true
               ·
                subst c158
                have H1 : (some false) = some r := by rw [if_pos rfl] at H; exact H
                clear H
                have H := H1
                clear H1
                obtain rfl := Option.some.inj H
                go_wp2
                go_ret
                exact ⟨by first | rfl | (simp [errW_none, errW_some, i64_w]; done) | (simp [errW_none, errW_some] <;> rfl) | (simp [*, errW_none, errW_some] <;> rfl), by repeat (first | (with_reducible first | exact HB.out | apply below_alloc | apply pw_below_drewN | apply below_drew1) | exact HB.out)⟩
               ·
                replace c158 := Bool.eq_false_iff.mpr c158
                subst c158
                have H1 : ((laws_heldLine.f kj125 t363 t364 1).bind fun t384 => (if t384 < 0 then (some false) else (if t384 = t362 then (some true) else (some false)))) = some r := by rw [if_neg (show ¬ (false = true) by decide)] at H; exact H
                clear H
                have H := H1
                clear H1
                replace H := Option.bind_eq_some_iff.mp H
                obtain ⟨t384, A1590, H⟩ := H
                replace H : (if t384 < 0 then (some false) else (if t384 = t362 then (some true) else (some false))) = some r := H
                have A159 := aS A1590
                clear A1590
                have HC160 := aS H
                clear H
                have hcz161_0 : wc.cell? ⟨gb343, 0, none⟩ = some (.slice Ao46 t363.length co46) := (blk_cell BK343.out 0).trans rfl
                have hcz161_1 : wc.cell? ⟨gb343, 1, none⟩ = some (.slice Ao51 t364.length co51) := (blk_cell BK343.out 1).trans rfl
                have hfz161_0 := blk_frozen BK343.out 0
                have hfz161_1 := blk_frozen BK343.out 1
                go_upto_if 115 with (first | ((with_reducible refine gate_callee (f := 37) rfl ?_); refine goesL_ (some 113) rfl rfl Try.func37 (by kernel_rfl) rfl #[.agg #[.slice Ao46 t363.length co46, .slice Ao51 t364.length co51], .int .i64 1] rfl sG ?_; (with_reducible refine (laws_heldLine.calls kj125 _ _ t363 _ _ t364 1 t384 _ ?side1 ?side2 ?side3 ?side4 A159.out).mono ?_); (case side1 => exact sC (Kd.R_reads' HO_344000.out).2.2); (case side2 => exact (Kd.R_reads' HO_344000.out).2.1); (case side3 => exact sC (Kd.R_reads' HO_344001.out).2.2); (case side4 => exact (Kd.R_reads' HO_344001.out).2.1); rintro e w162 ⟨rfl, hb⟩; refine ⟨_, rfl, ?_⟩; have n0_ := aS (Kd.R_below (sR HO_344000.out) hb); have n1_ := aS (Kd.R_below (sR HO_344001.out) hb); have n2_ := aS (blk_below (g := gb343) (o := .cells #[.slice Ao46 t363.length co46, .slice Ao51 t364.length co51] 37 (0, 0)) (sB BK343.out) hb); have n3_ := aS (below_step (sW HB.out) hb); clear HO_344000 HO_344001 BK343 HB; have HO_344000 := n0_; have HO_344001 := n1_; have BK343 := n2_; have HB := n3_; clear n0_ n1_ n2_ n3_; (try clear hb); (try clear hb2); (try clear hk); (try clear hi)))
                (try simp only [Act.put, List.setIfInBounds_toArray, List.set_cons_zero, List.set_cons_succ])
                have H := HC160.out
                clear HC160
                by_cases c163 : t384 < 0
                ·
                 rw [if_pos c163] at H
                 have c163b0 : decide (t384 < 0) = true := decide_eq_true c163
                 clear c163
                 (first | rw [c163b0] | (simp only [i64_w, i32_w]; rw [c163b0]) | (rw [c163b2]; simp only [Bool.not_false, Bool.not_true]) | skip)
                 obtain rfl := Option.some.inj H
                 go_wp2
                 go_ret
                 exact ⟨by first | rfl | (simp [errW_none, errW_some, i64_w]; done) | (simp [errW_none, errW_some] <;> rfl) | (simp [*, errW_none, errW_some] <;> rfl), by repeat (first | (with_reducible first | exact HB.out | apply below_alloc | apply pw_below_drewN | apply below_drew1) | exact HB.out)⟩
                ·
                 rw [if_neg c163] at H
                 have c163b0 : decide (t384 < 0) = false := decide_eq_false c163
                 clear c163
                 (first | rw [c163b0] | (simp only [i64_w, i32_w]; rw [c163b0]) | (rw [c163b2]; simp only [Bool.not_false, Bool.not_true]) | skip)
                 by_cases c164 : t384 = t362
                 ·
                  rw [if_pos c164] at H
                  have c164b0 : (t384 == t362) = true := beq_iff_eq.mpr c164
                  have c164b1 : (t384 != t362) = false := bne_eq_false_iff_eq.mpr c164
                  clear c164
                  obtain rfl := Option.some.inj H
                  go_wp2
                  go_ret
                  exact ⟨by first | rfl | (simp [errW_none, errW_some, i64_w]; done) | (simp [errW_none, errW_some] <;> rfl) | (simp [*, errW_none, errW_some] <;> rfl), by repeat (first | (with_reducible first | exact HB.out | apply below_alloc | apply pw_below_drewN | apply below_drew1) | exact HB.out)⟩
                 ·
                  rw [if_neg c164] at H
                  have c164b0 : (t384 == t362) = false := beq_eq_false_iff_ne.mpr c164
                  have c164b1 : (t384 != t362) = true := bne_iff_ne.mpr c164
                  obtain rfl := Option.some.inj H
                  go_wp2
                  go_ret
                  exact ⟨by first | rfl | (simp [errW_none, errW_some, i64_w]; done) | (simp [errW_none, errW_some] <;> rfl) | (simp [*, errW_none, errW_some] <;> rfl), by repeat (first | (with_reducible first | exact HB.out | apply below_alloc | apply pw_below_drewN | apply below_drew1) | exact HB.out)⟩
            ·
             rw [if_neg c122] at H
             have c122b0 : (t365 == t362) = false := beq_eq_false_iff_ne.mpr c122
             have c122b1 : (t365 != t362) = true := bne_iff_ne.mpr c122
             obtain rfl := Option.some.inj H
             go_wp2
             go_ret
             exact ⟨by first | rfl | (simp [errW_none, errW_some, i64_w]; done) | (simp [errW_none, errW_some] <;> rfl) | (simp [*, errW_none, errW_some] <;> rfl), by repeat (first | (with_reducible first | exact HB.out | apply below_alloc | apply pw_below_drewN | apply below_drew1) | exact HB.out)⟩
       ·
        replace c86 := Bool.eq_false_iff.mpr c86
        subst c86
        have H1 : (some false) = some r := by rw [if_neg (show ¬ (false = true) by decide)] at H; exact H
        clear H
        have H := H1
        clear H1
        obtain rfl := Option.some.inj H
        go_wp2
        go_ret
        exact ⟨by first | rfl | (simp [errW_none, errW_some, i64_w]; done) | (simp [errW_none, errW_some] <;> rfl) | (simp [*, errW_none, errW_some] <;> rfl), by repeat (first | (with_reducible first | exact HB.out | apply below_alloc | apply pw_below_drewN | apply below_drew1) | exact HB.out)⟩
      ·
       replace c77 := Bool.eq_false_iff.mpr c77
       subst c77
       have H1 : (some false) = some r := by rw [if_neg (show ¬ (false = true) by decide)] at H; exact H
       clear H
       have H := H1
       clear H1
       obtain rfl := Option.some.inj H
       go_wp2
       go_ret
       exact ⟨by first | rfl | (simp [errW_none, errW_some, i64_w]; done) | (simp [errW_none, errW_some] <;> rfl) | (simp [*, errW_none, errW_some] <;> rfl), by repeat (first | (with_reducible first | exact HB.out | apply below_alloc | apply pw_below_drewN | apply below_drew1) | exact HB.out)⟩

/-- THE ONE PURE STATEMENT of laws_FnExactTurnLine. -/
def laws_FnExactTurnLine.Pure : Prop := ∀ (l0 : List (S67)) (l1_0 : List (S41)) (l1_1 : List Int), (l0.length * 32 ≤ 140737488351232 ∧ l0.length ≤ maxLen ∧ (∀ y0 ∈ l0, (y0.f0.size ≤ 140737488351232) ∧ ((Lit.int .i64 y0.f1).wf = true) ∧ ((Lit.int .i64 y0.f2).wf = true))) → (l1_0.length * 16 ≤ 140737488351232 ∧ l1_0.length ≤ maxLen ∧ (∀ y0 ∈ l1_0, ((Lit.int .i64 y0.f0).wf = true) ∧ ((Lit.int .i64 y0.f1).wf = true))) → (l1_1.length * 8 ≤ 140737488351232 ∧ l1_1.length ≤ maxLen ∧ (∀ y0 ∈ l1_1, (Lit.int .i64 y0).wf = true)) → ∃ k, laws_FnExactTurnLine.f k l0 l1_0 l1_1 = some true
theorem laws_FnExactTurnLine.walk : True := trivial

end Go.Proofs.Ytdgodlccejoibaa.QFnExactTurnLine

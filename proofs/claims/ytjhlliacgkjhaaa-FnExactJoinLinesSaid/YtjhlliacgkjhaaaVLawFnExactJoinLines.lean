/- The statement FnExactJoinLines: the row, out of the printed walk and the pure statement. No condition. -/
import Derived.Test.YtjhlliacgkjhaaaRows
import Derived.Test.YtjhlliacgkjhaaaVQFnExactJoinLinesx14
import Derived.Test.YtjhlliacgkjhaaaVPureFnExactJoinLines
import Derived.Test.YtjhlliacgkjhaaaVOpn
import Derived.WalkKit
import Derived.ProofKit
import Derived.OpenShut
import Derived.ShutString
import Derived.ChangeOld
import Derived.Below
import Derived.SizedLaws
import Derived.Carry
namespace Go.Proofs.Ytjhlliacgkjhaaa.fnExactJoinLines
open Go.ChangeShapes Go.WideShapes Go.ChangeAt Go.RowKit Go.Proofs.YtjhlliacgkjhaaaW.PrintWords
open Go.ChangeMaps (open_string shut_string)
set_option linter.unusedVariables false
theorem own : ownKnob Try.prog.godebug = none := by kernel_rfl
theorem laidOut : laidOutB Try.prog = true := by kernel_rfl
set_option maxRecDepth 100000 in
theorem lifted (os : Os) (started : os.Started) (H : Type) (enc : TypeId × Value → H) :
    ReturnsInHanded {} Try.checked os 4 .any (Rows.fnExactJoinLinesSpec.pre6 enc Try.prog Try.f4 Rows.fnExactJoinLinesRow.domain false) (Rows.fnExactJoinLinesSpec.post enc Try.prog Try.f4 false true false false) := by
  refine returnsInHanded_of_change_sized (C := Try.checked) own started (by kernel_rfl) Try.func4
    (ChangeSpec.witness6 (enc := enc) (C := Try.checked) false ⟨#[], #[.slice none 0 0, .agg #[.slice none 0 0, .slice none 0 0], .agg #[.slice none 0 0, .slice none 0 0], .int .i64 0], []⟩ 8 (by kernel_rfl) (by kernel_rfl) (by kernel_rfl) (by kernel_rfl)) ?_
  intro W base args ds gs before hval0 hW hcnd hsz0 _
  have hsz : (DataW.weightsEach Try.prog (Try.f4.params.toList ++ Rows.fnExactJoinLinesSpec.plain.varTypes Try.prog) (ds ++ gs)).all (· ≤ reachBytes) = true := hsz0
  have hval : ∀ (j : Nat) t v, Try.f4.params[j]? = some t → args[j]? = some v → Value.okWide Try.prog W .any base t v := hval0
  have hW' := hW
  obtain ⟨p, q, hA0, hV, rfl, hfz, hnd⟩ := hW
  have hA : DataW.TrodAll enc Try.prog W 0 (fun _ => true) true Try.f4.params.toList args.toList ds p := hA0
  rw [Try.params4] at hA hval hsz
  obtain ⟨v0, vs0, d0, ds0, p0, q0, hargs, rfl, rfl, h0, r0⟩ := trodAll_cons hA
  obtain ⟨v1, vs1, d1, ds1, p1, q1, rfl, rfl, rfl, h1, r1⟩ := trodAll_cons r0
  obtain ⟨v2, vs2, d2, ds2, p2, q2, rfl, rfl, rfl, h2, r2⟩ := trodAll_cons r1
  obtain ⟨v3, vs3, d3, ds3, p3, q3, rfl, rfl, rfl, h3, r3⟩ := trodAll_cons r2
  obtain ⟨rfl, rfl, rfl⟩ := trodAll_nil r3
  obtain rfl : args = #[v0, v1, v2, v3] := by cases args; simp_all
  obtain ⟨rfl, rfl⟩ := trodVars_none hV
  have k0 := h0
  have lt0 : ∀ x ∈ p0, x.block < W.heap.size := by obtain ⟨m, hm⟩ := k0; exact DataW.trod_lt m _ _ _ hm
  obtain ⟨l0, K0, G0⟩ := Opn.opens_arg (Opn.opens_slice (Opn.opens_struct3 (pr := fun x_ : QFnExactJoinLines.S68 => (x_.f0, x_.f1, x_.f2)) Try.underlying68 (Opn.opens_string Try.underlying9) (Opn.opens_int Try.underlying2) (Opn.opens_int Try.underlying2) (fun x0_ x1_ x2_ => ⟨(⟨x0_, x1_, x2_⟩ : QFnExactJoinLines.S68), rfl⟩) ⟨rfl, by kernel_rfl, by kernel_rfl, by kernel_rfl⟩) Try.underlying36 (by kernel_rfl) (B := 32) (by kernel_rfl)) h0 (Opn.weights_at hsz (j := 0) (t := 36) rfl rfl)
  obtain ⟨A0, c0, rfl, hc0, hr0⟩ := Opn.slice_arg Try.underlying36 (hval 0 36 v0 rfl rfl) K0
  have k1 := h1
  have lt1 : ∀ x ∈ p1, x.block < W.heap.size := by obtain ⟨m, hm⟩ := k1; exact DataW.trod_lt m _ _ _ hm
  obtain ⟨x1, K1, G1⟩ := Opn.opens_arg (Opn.opens_struct2 (pr := id) Try.underlying40 (Opn.opens_slice (Opn.opens_struct2 (pr := fun x_ : QFnExactJoinLines.S94 => (x_.f0, x_.f1)) Try.underlying94 (Opn.opens_int Try.underlying2) (Opn.opens_int Try.underlying2) (fun x0_ x1_ => ⟨(⟨x0_, x1_⟩ : QFnExactJoinLines.S94), rfl⟩) ⟨rfl, by kernel_rfl, by kernel_rfl⟩) Try.underlying37 (by kernel_rfl) (B := 16) (by kernel_rfl)) (Opn.opens_slice (Opn.opens_int Try.underlying2) Try.underlying38 (by kernel_rfl) (B := 8) (by kernel_rfl)) (fun x0_ x1_ => ⟨(x0_, x1_), rfl⟩) ⟨rfl, by kernel_rfl, by kernel_rfl⟩) h1 (Opn.weights_at hsz (j := 1) (t := 40) rfl rfl)
  obtain ⟨_, _, e1, ⟨A1_0, c1_0, rfl, hc1_0, hr1_0⟩, ⟨A1_1, c1_1, rfl, hc1_1, hr1_1⟩⟩ := K1
  obtain rfl : v1 = .agg #[.slice A1_0 x1.1.length c1_0, .slice A1_1 x1.2.length c1_1] := Opn.agg_arg Try.underlying40 (hval 1 40 v1 rfl rfl) e1
  have k2 := h2
  have lt2 : ∀ x ∈ p2, x.block < W.heap.size := by obtain ⟨m, hm⟩ := k2; exact DataW.trod_lt m _ _ _ hm
  obtain ⟨x2, K2, G2⟩ := Opn.opens_arg (Opn.opens_struct2 (pr := id) Try.underlying40 (Opn.opens_slice (Opn.opens_struct2 (pr := fun x_ : QFnExactJoinLines.S94 => (x_.f0, x_.f1)) Try.underlying94 (Opn.opens_int Try.underlying2) (Opn.opens_int Try.underlying2) (fun x0_ x1_ => ⟨(⟨x0_, x1_⟩ : QFnExactJoinLines.S94), rfl⟩) ⟨rfl, by kernel_rfl, by kernel_rfl⟩) Try.underlying37 (by kernel_rfl) (B := 16) (by kernel_rfl)) (Opn.opens_slice (Opn.opens_int Try.underlying2) Try.underlying38 (by kernel_rfl) (B := 8) (by kernel_rfl)) (fun x0_ x1_ => ⟨(x0_, x1_), rfl⟩) ⟨rfl, by kernel_rfl, by kernel_rfl⟩) h2 (Opn.weights_at hsz (j := 2) (t := 40) rfl rfl)
  obtain ⟨_, _, e2, ⟨A2_0, c2_0, rfl, hc2_0, hr2_0⟩, ⟨A2_1, c2_1, rfl, hc2_1, hr2_1⟩⟩ := K2
  obtain rfl : v2 = .agg #[.slice A2_0 x2.1.length c2_0, .slice A2_1 x2.2.length c2_1] := Opn.agg_arg Try.underlying40 (hval 2 40 v2 rfl rfl) e2
  have k3 := h3
  have lt3 : ∀ x ∈ p3, x.block < W.heap.size := by obtain ⟨m, hm⟩ := k3; exact DataW.trod_lt m _ _ _ hm
  obtain ⟨a3, rfl, rfl, rfl, w3⟩ := open_int Try.underlying2 (hval 3 2 v3 rfl rfl) h3
  clear hA0 hval0 hsz0 hsz
  obtain ⟨k, h⟩ := Pure.FnExactJoinLines l0 x1.1 x1.2 x2.1 x2.2 a3 G0 G1.1 G1.2 G2.1 G2.2 w3
  refine (QFnExactJoinLines.laws_FnExactJoinLines.calls k _ _ l0 _ _ x1.1 _ _ x1.2 _ _ x2.1 _ _ x2.2 a3 true W hr0 hc0 hr1_0 hc1_0 hr1_1 hc1_1 hr2_0 hc2_0 hr2_1 hc2_1 h).mono ?_
  rintro e W' ⟨rfl, bel0⟩
  have bel : Below W.heap.size W W' := bel0
  exact ⟨_, rfl, _, _, _, [], _, [], hW', trodAll_mk1 (shut_bool Try.underlying4 _), (trodAll_cons_mk (Below.trod laidOut (by kernel_rfl) (of_decide_eq_true (by kernel_rfl)) k0 bel lt0) (trodAll_cons_mk (Below.trod laidOut (by kernel_rfl) (of_decide_eq_true (by kernel_rfl)) k1 bel lt1) (trodAll_cons_mk (Below.trod laidOut (by kernel_rfl) (of_decide_eq_true (by kernel_rfl)) k2 bel lt2) (trodAll_cons_mk (Below.trod laidOut (by kernel_rfl) (of_decide_eq_true (by kernel_rfl)) k3 bel lt3) trodAll_mk0)))), rfl, bel.frame _, fun h => by cases h⟩
theorem over : Rows.fnExactJoinLinesRow.holds Try.pinned (OpenSpec.ofChange Rows.fnExactJoinLinesSpec) :=
  OpenClaim.holds_of_wide 4 Try.f4 rfl rfl rfl rfl rfl rfl rfl ⟨rfl, rfl, rfl, rfl, rfl⟩ rfl rfl rfl rfl rfl (by kernel_rfl) Try.func4 (by kernel_rfl)
    (of_decide_eq_true (by kernel_rfl)) (by unfold Func.isWrapper; first | (rw [if_pos (by decide +kernel)]; kernel_rfl) | (rw [if_neg (by decide +kernel)]; exact ⟨rfl, rfl⟩))
    (fun os started H enc _ => lifted os started H enc)
theorem proved : Rows.FnExactJoinLinesSaid := over
#print axioms proved
end Go.Proofs.Ytjhlliacgkjhaaa.fnExactJoinLines
namespace Go.Proofs.Ytjhlliacgkjhaaa
/-- The row, under a short name, for the claim. -/
theorem fnExactJoinLines_holds : Rows.FnExactJoinLinesSaid := fnExactJoinLines.proved
end Go.Proofs.Ytjhlliacgkjhaaa

/- The statement FnRopeLists: the row, out of the printed walk and the pure statement. No condition. -/
import Derived.Test.YtginmioklkcgbaaRows
import Derived.Test.YtginmioklkcgbaaQFnRopeListsx8
import Derived.Test.YtginmioklkcgbaaPureFnRopeLists
import Derived.Test.YtginmioklkcgbaaOpn
import Derived.WalkKit
import Derived.ProofKit
import Derived.OpenShut
import Derived.ShutString
import Derived.ChangeOld
import Derived.Below
import Derived.SizedLaws
import Derived.Carry
namespace Go.Proofs.Ytginmioklkcgbaa.fnRopeLists
open Go.ChangeShapes Go.WideShapes Go.ChangeAt Go.RowKit Go.Proofs.YtginmioklkcgbaaW.PrintWords
open Go.ChangeMaps (open_string shut_string)
set_option linter.unusedVariables false
theorem own : ownKnob Try.prog.godebug = none := by kernel_rfl
theorem laidOut : laidOutB Try.prog = true := by kernel_rfl
set_option maxRecDepth 100000 in
theorem lifted (os : Os) (started : os.Started) (H : Type) (enc : TypeId × Value → H) :
    ReturnsInHanded {} Try.checked os 5 .any (Rows.fnRopeListsSpec.pre6 enc Try.prog Try.f5 Rows.fnRopeListsRow.domain false) (Rows.fnRopeListsSpec.post enc Try.prog Try.f5 false true false false) := by
  refine returnsInHanded_of_change_sized (C := Try.checked) own started (by kernel_rfl) Try.func5
    (ChangeSpec.witness6 (enc := enc) (C := Try.checked) false ⟨#[], #[.slice none 0 0, .slice none 0 0], []⟩ 8 (by kernel_rfl) (by kernel_rfl) (by kernel_rfl) (by kernel_rfl)) ?_
  intro W base args ds gs before hval0 hW hcnd hsz0 _
  have hsz : (DataW.weightsEach Try.prog (Try.f5.params.toList ++ Rows.fnRopeListsSpec.plain.varTypes Try.prog) (ds ++ gs)).all (· ≤ reachBytes) = true := hsz0
  have hval : ∀ (j : Nat) t v, Try.f5.params[j]? = some t → args[j]? = some v → Value.okWide Try.prog W .any base t v := hval0
  have hW' := hW
  obtain ⟨p, q, hA0, hV, rfl, hfz, hnd⟩ := hW
  have hA : DataW.TrodAll enc Try.prog W 0 (fun _ => true) true Try.f5.params.toList args.toList ds p := hA0
  rw [Try.params5] at hA hval hsz
  obtain ⟨v0, vs0, d0, ds0, p0, q0, hargs, rfl, rfl, h0, r0⟩ := trodAll_cons hA
  obtain ⟨v1, vs1, d1, ds1, p1, q1, rfl, rfl, rfl, h1, r1⟩ := trodAll_cons r0
  obtain ⟨rfl, rfl, rfl⟩ := trodAll_nil r1
  obtain rfl : args = #[v0, v1] := by cases args; simp_all
  obtain ⟨rfl, rfl⟩ := trodVars_none hV
  have k0 := h0
  have lt0 : ∀ x ∈ p0, x.block < W.heap.size := by obtain ⟨m, hm⟩ := k0; exact DataW.trod_lt m _ _ _ hm
  obtain ⟨l0, K0, G0⟩ := Opn.opens_arg (Opn.opens_slice (Opn.opens_int Try.underlying5) Try.underlying42 (by kernel_rfl) (B := 1) (by kernel_rfl)) h0 (Opn.weights_at hsz (j := 0) (t := 42) rfl rfl)
  obtain ⟨A0, c0, rfl, hc0, hr0⟩ := Opn.slice_arg Try.underlying42 (hval 0 42 v0 rfl rfl) K0
  have k1 := h1
  have lt1 : ∀ x ∈ p1, x.block < W.heap.size := by obtain ⟨m, hm⟩ := k1; exact DataW.trod_lt m _ _ _ hm
  obtain ⟨l1, K1, G1⟩ := Opn.opens_arg (Opn.opens_slice (Opn.opens_int Try.underlying5) Try.underlying42 (by kernel_rfl) (B := 1) (by kernel_rfl)) h1 (Opn.weights_at hsz (j := 1) (t := 42) rfl rfl)
  obtain ⟨A1, c1, rfl, hc1, hr1⟩ := Opn.slice_arg Try.underlying42 (hval 1 42 v1 rfl rfl) K1
  clear hA0 hval0 hsz0 hsz
  obtain ⟨k, h⟩ := Pure.FnRopeLists l0 l1 G0 G1
  refine (QFnRopeLists.laws_FnRopeLists.calls k _ _ l0 _ _ l1 true W hr0 hc0 hr1 hc1 h).mono ?_
  rintro e W' ⟨rfl, bel0⟩
  have bel : Below W.heap.size W W' := bel0
  exact ⟨_, rfl, _, _, _, [], _, [], hW', trodAll_mk1 (shut_bool Try.underlying4 _), (trodAll_cons_mk (Below.trod laidOut (by kernel_rfl) (of_decide_eq_true (by kernel_rfl)) k0 bel lt0) (trodAll_cons_mk (Below.trod laidOut (by kernel_rfl) (of_decide_eq_true (by kernel_rfl)) k1 bel lt1) trodAll_mk0)), rfl, bel.frame _, fun h => by cases h⟩
theorem over : Rows.fnRopeListsRow.holds Try.pinned (OpenSpec.ofChange Rows.fnRopeListsSpec) :=
  OpenClaim.holds_of_wide 5 Try.f5 rfl rfl rfl rfl rfl rfl rfl ⟨rfl, rfl, rfl, rfl, rfl⟩ rfl rfl rfl rfl rfl (by kernel_rfl) Try.func5 (by kernel_rfl)
    (of_decide_eq_true (by kernel_rfl)) (by unfold Func.isWrapper; first | (rw [if_pos (by decide +kernel)]; kernel_rfl) | (rw [if_neg (by decide +kernel)]; exact ⟨rfl, rfl⟩))
    (fun os started H enc _ => lifted os started H enc)
theorem proved : Rows.FnRopeListsSaid := over
#print axioms proved
end Go.Proofs.Ytginmioklkcgbaa.fnRopeLists
namespace Go.Proofs.Ytginmioklkcgbaa
/-- The row, under a short name, for the claim. -/
theorem fnRopeLists_holds : Rows.FnRopeListsSaid := fnRopeLists.proved
end Go.Proofs.Ytginmioklkcgbaa

/- The statement FnExactPurchaseName: the row, out of the printed walk and the pure statement. No condition. -/
import Derived.Test.YtpjmdgaicfngjaaRows
import Derived.Test.YtpjmdgaicfngjaaQFnExactPurchaseNamex2
import Derived.Test.YtpjmdgaicfngjaaPureFnExactPurchaseName
import Derived.Test.YtpjmdgaicfngjaaOpn
import Derived.WalkKit
import Derived.ProofKit
import Derived.OpenShut
import Derived.ShutString
import Derived.ChangeOld
import Derived.Below
import Derived.SizedLaws
import Derived.Carry
namespace Go.Proofs.Ytpjmdgaicfngjaa.fnExactPurchaseName
open Go.ChangeShapes Go.WideShapes Go.ChangeAt Go.RowKit Go.Proofs.YtpjmdgaicfngjaaW.PrintWords
open Go.ChangeMaps (open_string shut_string)
set_option linter.unusedVariables false
theorem own : ownKnob Try.prog.godebug = none := by kernel_rfl
theorem laidOut : laidOutB Try.prog = true := by kernel_rfl
set_option maxRecDepth 100000 in
theorem lifted (os : Os) (started : os.Started) (H : Type) (enc : TypeId × Value → H) :
    ReturnsInHanded {} Try.checked os 9 .any (Rows.fnExactPurchaseNameSpec.pre6 enc Try.prog Try.f9 Rows.fnExactPurchaseNameRow.domain false) (Rows.fnExactPurchaseNameSpec.post enc Try.prog Try.f9 false true false false) := by
  refine returnsInHanded_of_change_sized (C := Try.checked) own started (by kernel_rfl) Try.func9
    (ChangeSpec.witness6 (enc := enc) (C := Try.checked) false ⟨#[], #[.agg #[.int .i64 0, .int .i64 0, .bool false]], []⟩ 8 (by kernel_rfl) (by kernel_rfl) (by kernel_rfl) (by kernel_rfl)) ?_
  intro W base args ds gs before hval0 hW hcnd hsz0 _
  have hsz : (DataW.weightsEach Try.prog (Try.f9.params.toList ++ Rows.fnExactPurchaseNameSpec.plain.varTypes Try.prog) (ds ++ gs)).all (· ≤ reachBytes) = true := hsz0
  have hval : ∀ (j : Nat) t v, Try.f9.params[j]? = some t → args[j]? = some v → Value.okWide Try.prog W .any base t v := hval0
  have hW' := hW
  obtain ⟨p, q, hA0, hV, rfl, hfz, hnd⟩ := hW
  have hA : DataW.TrodAll enc Try.prog W 0 (fun _ => true) true Try.f9.params.toList args.toList ds p := hA0
  rw [Try.params9] at hA hval hsz
  obtain ⟨v0, vs0, d0, ds0, p0, q0, hargs, rfl, rfl, h0, r0⟩ := trodAll_cons hA
  obtain ⟨rfl, rfl, rfl⟩ := trodAll_nil r0
  obtain rfl : args = #[v0] := by cases args; simp_all
  obtain ⟨rfl, rfl⟩ := trodVars_none hV
  have k0 := h0
  have lt0 : ∀ x ∈ p0, x.block < W.heap.size := by obtain ⟨m, hm⟩ := k0; exact DataW.trod_lt m _ _ _ hm
  obtain ⟨x0, K0, G0⟩ := Opn.opens_arg (Opn.opens_struct3 (pr := id) Try.underlying27 (Opn.opens_int Try.underlying2) (Opn.opens_int Try.underlying2) (Opn.opens_bool Try.underlying4) (fun x0_ x1_ x2_ => ⟨(x0_, x1_, x2_), rfl⟩) ⟨rfl, by kernel_rfl, by kernel_rfl, by kernel_rfl⟩) h0 (Opn.weights_at hsz (j := 0) (t := 27) rfl rfl)
  obtain ⟨_, _, e0, rfl, ⟨_, _, rfl, rfl, rfl⟩⟩ := K0
  obtain rfl : v0 = .agg #[.int .i64 x0.1, .int .i64 x0.2.1, .bool x0.2.2] := Opn.agg_arg Try.underlying27 (hval 0 27 v0 rfl rfl) e0
  clear hA0 hval0 hsz0 hsz
  obtain ⟨k, h⟩ := Pure.FnExactPurchaseName x0.1 x0.2.1 x0.2.2 G0.1 G0.2.1
  refine (QFnExactPurchaseName.laws_FnExactPurchaseName.calls k x0.1 x0.2.1 x0.2.2 true W  h).mono ?_
  rintro e W' ⟨rfl, bel0⟩
  have bel : Below W.heap.size W W' := bel0
  exact ⟨_, rfl, _, _, _, [], _, [], hW', trodAll_mk1 (shut_bool Try.underlying4 _), (trodAll_cons_mk (Below.trod laidOut (by kernel_rfl) (of_decide_eq_true (by kernel_rfl)) k0 bel lt0) trodAll_mk0), rfl, bel.frame _, fun h => by cases h⟩
theorem over : Rows.fnExactPurchaseNameRow.holds Try.pinned (OpenSpec.ofChange Rows.fnExactPurchaseNameSpec) :=
  OpenClaim.holds_of_wide 9 Try.f9 rfl rfl rfl rfl rfl rfl rfl ⟨rfl, rfl, rfl, rfl, rfl⟩ rfl rfl rfl rfl rfl (by kernel_rfl) Try.func9 (by kernel_rfl)
    (of_decide_eq_true (by kernel_rfl)) (by unfold Func.isWrapper; first | (rw [if_pos (by decide +kernel)]; kernel_rfl) | (rw [if_neg (by decide +kernel)]; exact ⟨rfl, rfl⟩))
    (fun os started H enc _ => lifted os started H enc)
theorem proved : Rows.FnExactPurchaseNameSaid := over
#print axioms proved
end Go.Proofs.Ytpjmdgaicfngjaa.fnExactPurchaseName
namespace Go.Proofs.Ytpjmdgaicfngjaa
/-- The row, under a short name, for the claim. -/
theorem fnExactPurchaseName_holds : Rows.FnExactPurchaseNameSaid := fnExactPurchaseName.proved
end Go.Proofs.Ytpjmdgaicfngjaa

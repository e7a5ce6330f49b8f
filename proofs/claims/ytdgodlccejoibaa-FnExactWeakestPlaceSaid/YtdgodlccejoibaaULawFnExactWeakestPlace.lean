/- The statement FnExactWeakestPlace: the row, out of the printed walk and the pure statement. No condition. -/
import Derived.Test.YtdgodlccejoibaaRows
import Derived.Test.YtdgodlccejoibaaUQFnExactWeakestPlacex16
import Derived.Test.YtdgodlccejoibaaUPureFnExactWeakestPlace
import Derived.Test.YtdgodlccejoibaaUOpn
import Derived.WalkKit
import Derived.ProofKit
import Derived.OpenShut
import Derived.ShutString
import Derived.ChangeOld
import Derived.Below
import Derived.SizedLaws
import Derived.Carry
namespace Go.Proofs.Ytdgodlccejoibaa.fnExactWeakestPlace
open Go.ChangeShapes Go.WideShapes Go.ChangeAt Go.RowKit Go.Proofs.YtdgodlccejoibaaW.PrintWords
open Go.ChangeMaps (open_string shut_string)
set_option linter.unusedVariables false
theorem own : ownKnob Try.prog.godebug = none := by kernel_rfl
theorem laidOut : laidOutB Try.prog = true := by kernel_rfl
set_option maxRecDepth 100000 in
theorem lifted (os : Os) (started : os.Started) (H : Type) (enc : TypeId × Value → H) :
    ReturnsInHanded {} Try.checked os 11 .any (Rows.fnExactWeakestPlaceSpec.pre6 enc Try.prog Try.f11 Rows.fnExactWeakestPlaceRow.domain false) (Rows.fnExactWeakestPlaceSpec.post enc Try.prog Try.f11 false true false false) := by
  refine returnsInHanded_of_change_sized (C := Try.checked) own started (by kernel_rfl) Try.func11
    (ChangeSpec.witness6 (enc := enc) (C := Try.checked) false ⟨#[], #[.slice none 0 0, .agg #[.slice none 0 0, .slice none 0 0]], []⟩ 8 (by kernel_rfl) (by kernel_rfl) (by kernel_rfl) (by kernel_rfl)) ?_
  intro W base args ds gs before hval0 hW hcnd hsz0 _
  have hsz : (DataW.weightsEach Try.prog (Try.f11.params.toList ++ Rows.fnExactWeakestPlaceSpec.plain.varTypes Try.prog) (ds ++ gs)).all (· ≤ reachBytes) = true := hsz0
  have hval : ∀ (j : Nat) t v, Try.f11.params[j]? = some t → args[j]? = some v → Value.okWide Try.prog W .any base t v := hval0
  have hW' := hW
  obtain ⟨p, q, hA0, hV, rfl, hfz, hnd⟩ := hW
  have hA : DataW.TrodAll enc Try.prog W 0 (fun _ => true) true Try.f11.params.toList args.toList ds p := hA0
  rw [Try.params11] at hA hval hsz
  obtain ⟨v0, vs0, d0, ds0, p0, q0, hargs, rfl, rfl, h0, r0⟩ := trodAll_cons hA
  obtain ⟨v1, vs1, d1, ds1, p1, q1, rfl, rfl, rfl, h1, r1⟩ := trodAll_cons r0
  obtain ⟨rfl, rfl, rfl⟩ := trodAll_nil r1
  obtain rfl : args = #[v0, v1] := by cases args; simp_all
  obtain ⟨rfl, rfl⟩ := trodVars_none hV
  have k0 := h0
  have lt0 : ∀ x ∈ p0, x.block < W.heap.size := by obtain ⟨m, hm⟩ := k0; exact DataW.trod_lt m _ _ _ hm
  obtain ⟨l0, K0, G0⟩ := Opn.opens_arg (Opn.opens_slice (Opn.opens_struct3 (pr := fun x_ : QFnExactWeakestPlace.S67 => (x_.f0, x_.f1, x_.f2)) Try.underlying67 (Opn.opens_string Try.underlying9) (Opn.opens_int Try.underlying2) (Opn.opens_int Try.underlying2) (fun x0_ x1_ x2_ => ⟨(⟨x0_, x1_, x2_⟩ : QFnExactWeakestPlace.S67), rfl⟩) ⟨rfl, by kernel_rfl, by kernel_rfl, by kernel_rfl⟩) Try.underlying22 (by kernel_rfl) (B := 32) (by kernel_rfl)) h0 (Opn.weights_at hsz (j := 0) (t := 22) rfl rfl)
  obtain ⟨A0, c0, rfl, hc0, hr0⟩ := Opn.slice_arg Try.underlying22 (hval 0 22 v0 rfl rfl) K0
  have k1 := h1
  have lt1 : ∀ x ∈ p1, x.block < W.heap.size := by obtain ⟨m, hm⟩ := k1; exact DataW.trod_lt m _ _ _ hm
  obtain ⟨x1, K1, G1⟩ := Opn.opens_arg (Opn.opens_struct2 (pr := id) Try.underlying32 (Opn.opens_slice (Opn.opens_struct2 (pr := fun x_ : QFnExactWeakestPlace.S41 => (x_.f0, x_.f1)) Try.underlying41 (Opn.opens_int Try.underlying2) (Opn.opens_int Try.underlying2) (fun x0_ x1_ => ⟨(⟨x0_, x1_⟩ : QFnExactWeakestPlace.S41), rfl⟩) ⟨rfl, by kernel_rfl, by kernel_rfl⟩) Try.underlying29 (by kernel_rfl) (B := 16) (by kernel_rfl)) (Opn.opens_slice (Opn.opens_int Try.underlying2) Try.underlying30 (by kernel_rfl) (B := 8) (by kernel_rfl)) (fun x0_ x1_ => ⟨(x0_, x1_), rfl⟩) ⟨rfl, by kernel_rfl, by kernel_rfl⟩) h1 (Opn.weights_at hsz (j := 1) (t := 32) rfl rfl)
  obtain ⟨_, _, e1, ⟨A1_0, c1_0, rfl, hc1_0, hr1_0⟩, ⟨A1_1, c1_1, rfl, hc1_1, hr1_1⟩⟩ := K1
  obtain rfl : v1 = .agg #[.slice A1_0 x1.1.length c1_0, .slice A1_1 x1.2.length c1_1] := Opn.agg_arg Try.underlying32 (hval 1 32 v1 rfl rfl) e1
  clear hA0 hval0 hsz0 hsz
  obtain ⟨k, h⟩ := Pure.FnExactWeakestPlace l0 x1.1 x1.2 G0 G1.1 G1.2
  refine (QFnExactWeakestPlace.laws_FnExactWeakestPlace.calls k _ _ l0 _ _ x1.1 _ _ x1.2 true W hr0 hc0 hr1_0 hc1_0 hr1_1 hc1_1 h).mono ?_
  rintro e W' ⟨rfl, bel0⟩
  have bel : Below W.heap.size W W' := bel0
  exact ⟨_, rfl, _, _, _, [], _, [], hW', trodAll_mk1 (shut_bool Try.underlying4 _), (trodAll_cons_mk (Below.trod laidOut (by kernel_rfl) (of_decide_eq_true (by kernel_rfl)) k0 bel lt0) (trodAll_cons_mk (Below.trod laidOut (by kernel_rfl) (of_decide_eq_true (by kernel_rfl)) k1 bel lt1) trodAll_mk0)), rfl, bel.frame _, fun h => by cases h⟩
theorem over : Rows.fnExactWeakestPlaceRow.holds Try.pinned (OpenSpec.ofChange Rows.fnExactWeakestPlaceSpec) :=
  OpenClaim.holds_of_wide 11 Try.f11 rfl rfl rfl rfl rfl rfl rfl ⟨rfl, rfl, rfl, rfl, rfl⟩ rfl rfl rfl rfl rfl (by kernel_rfl) Try.func11 (by kernel_rfl)
    (of_decide_eq_true (by kernel_rfl)) (by unfold Func.isWrapper; first | (rw [if_pos (by decide +kernel)]; kernel_rfl) | (rw [if_neg (by decide +kernel)]; exact ⟨rfl, rfl⟩))
    (fun os started H enc _ => lifted os started H enc)
theorem proved : Rows.FnExactWeakestPlaceSaid := over
#print axioms proved
end Go.Proofs.Ytdgodlccejoibaa.fnExactWeakestPlace
namespace Go.Proofs.Ytdgodlccejoibaa
/-- The row, under a short name, for the claim. -/
theorem fnExactWeakestPlace_holds : Rows.FnExactWeakestPlaceSaid := fnExactWeakestPlace.proved
end Go.Proofs.Ytdgodlccejoibaa

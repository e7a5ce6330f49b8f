/- The statement FnLines: the row, out of the printed walk and the pure statement. No condition. -/
import Derived.Test.YtginmioklkcgbaaGreatDoorRows
import Derived.Test.YtginmioklkcgbaaGreatDoorVQFnLinesx7
import Derived.Test.YtginmioklkcgbaaGreatDoorVPureFnLines
import Derived.Test.YtginmioklkcgbaaGreatDoorVOpn
import Derived.WalkKit
import Derived.ProofKit
import Derived.OpenShut
import Derived.ShutString
import Derived.ChangeOld
import Derived.Below
import Derived.SizedLaws
import Derived.Carry
import Derived.Test.YtginmioklkcgbaaGreatDoorCards
import Derived.Test.YtginmioklkcgbaaGreatDoorTie
import Derived.Test.YtginmioklkcgbaaGreatDoorVDor
import Derived.SevenTiedAt
namespace Go.Proofs.YtginmioklkcgbaaGreatDoor.fnLines
open Go.ChangeShapes Go.WideShapes Go.ChangeAt Go.RowKit Go.Proofs.YtginmioklkcgbaaGreatDoorW.PrintWords
open Go.ChangeMaps (open_string shut_string)
set_option linter.unusedVariables false
theorem own : ownKnob Tryz.prog.godebug = none := by kernel_rfl
theorem laidOut : laidOutB Tryz.prog = true := by kernel_rfl
set_option maxRecDepth 100000 in
theorem lifted (os : Os) (started : os.Started) (H : Type) (enc : TypeId × Value → H) :
    ReturnsInHanded {} Tryz.checked os 3 .any (fun w args => (Rows.fnLinesSpec.pre enc Tryz.prog Tryz.f3 Rows.fnLinesRow.domain false w args ∧ laidMetH Tryz.prog Rows.fnLinesRow.laid w) ∧ sizedMet enc Tryz.prog Tryz.f3 (OpenSpec.ofChange Rows.fnLinesSpec) false w args) (Rows.fnLinesSpec.post enc Tryz.prog Tryz.f3 false true false false) := by
  refine Dor.wrap (C := Tryz.checked) own started (by kernel_rfl) Tryz.func3
    (ChangeSpec.witness_shaped (enc := enc) (C := Tryz.checked) (os := os) (X := fun w _ => laidMetH Tryz.prog Rows.fnLinesRow.laid w) false (World.laidAll Tryz.prog os Rows.fnLinesRow.laid) #[.slice none 0 0] 8 (World.laidAll_os _ _ _)
      (World.shaped_of_ZipB (by kernel_rfl) (by kernel_rfl)) (by kernel_rfl) (by kernel_rfl) (by kernel_rfl)
      (by rw [MakeChecks.laidMetH_plain _ _ _ (by kernel_rfl)]; exact laidMet_laidAll _ (by kernel_rfl) (by kernel_rfl))) ?_
  intro W base args ds gs before hval0 hW hsz0 hL hsh
  have hT : Gnd.Tab W := Dor.tab_third (by rw [MakeChecks.laidMetH_plain _ _ _ (by kernel_rfl)] at hL; exact hL)
  have hM : Gnd.Max W := Dor.max_shaped hsh
  have hsz : (DataW.weightsEach Tryz.prog (Tryz.f3.params.toList ++ Rows.fnLinesSpec.plain.varTypes Tryz.prog) (ds ++ gs)).all (· ≤ reachBytes) = true := hsz0
  have hval : ∀ (j : Nat) t v, Tryz.f3.params[j]? = some t → args[j]? = some v → Value.okWide Tryz.prog W .any base t v := hval0
  have hW' := hW
  obtain ⟨p, q, hA0, hV, rfl, hfz, hnd⟩ := hW
  have hA : DataW.TrodAll enc Tryz.prog W 0 (fun _ => true) true Tryz.f3.params.toList args.toList ds p := hA0
  rw [Tryz.params3] at hA hval hsz
  obtain ⟨v0, vs0, d0, ds0, p0, q0, hargs, rfl, rfl, h0, r0⟩ := trodAll_cons hA
  obtain ⟨rfl, rfl, rfl⟩ := trodAll_nil r0
  obtain rfl : args = #[v0] := by cases args; simp_all
  obtain ⟨rfl, rfl⟩ := trodVars_none hV
  have k0 := h0
  have lt0 : ∀ x ∈ p0, x.block < W.heap.size := by obtain ⟨m, hm⟩ := k0; exact DataW.trod_lt m _ _ _ hm
  obtain ⟨l0, K0, G0⟩ := Opn.opens_arg (Opn.opens_slice (Opn.opens_int Tryz.underlying5) Tryz.underlying22 (by kernel_rfl) (B := 1) (by kernel_rfl)) h0 (Opn.weights_at hsz (j := 0) (t := 22) rfl rfl)
  obtain ⟨A0, c0, rfl, hc0, hr0⟩ := Opn.slice_arg Tryz.underlying22 (hval 0 22 v0 rfl rfl) K0
  clear hA0 hval0 hsz0 hsz
  obtain ⟨k, h⟩ := Pure.FnLines l0 G0
  refine (QFnLines.laws_FnLines.calls k _ _ l0 W hM hT hr0 hc0 h).mono ?_
  rintro e W' ⟨rfl, bel0⟩
  have bel : Below W.heap.size W W' := bel0
  exact ⟨_, rfl, _, _, _, [], _, [], hW', trodAll_mk1 (shut_bool Tryz.underlying4 _), (trodAll_cons_mk (Below.trod laidOut (by kernel_rfl) (of_decide_eq_true (by kernel_rfl)) k0 bel lt0) trodAll_mk0), rfl, bel.frame _, fun h => by cases h⟩
theorem over : Rows.fnLinesRow.holds Tryz.pinned (OpenSpec.ofChange Rows.fnLinesSpec) :=
  OpenClaim.holds_of_wide 3 Tryz.f3 rfl rfl rfl rfl rfl rfl rfl ⟨rfl, rfl, rfl, rfl, rfl⟩ rfl rfl rfl rfl rfl (by kernel_rfl) Tryz.func3 (by kernel_rfl)
    (of_decide_eq_true (by kernel_rfl)) (by unfold Func.isWrapper; first | (rw [if_pos (by decide +kernel)]; kernel_rfl) | (rw [if_neg (by decide +kernel)]; exact ⟨rfl, rfl⟩))
    (fun os started H enc _ => lifted os started H enc)
theorem proved : Rows.FnLinesCardSaid :=
  Claim7.holds_tied_plain_at .later [] [.data, .data, .data, .data, .pinned] true (true, "f9c4bc69340dc3d5e8c8e73ce55e6c34caeb4df4d59ad800ea5a81e971e660ca") false
    over (fun _ h => by cases h) (by kernel_rfl) (fun _ h => by cases h) fnLines_row_tie rfl ⟨rfl, rfl⟩ (by kernel_rfl) rfl
    (fun f fn hf hfn => by
      obtain rfl : f = 3 := Option.some.inj ((show Tryz.prog.funcNamed Rows.fnLinesRow.func = some 3 by kernel_rfl).symm.trans hf) |>.symm
      obtain rfl : fn = Tryz.f3 := (Option.some.inj (Tryz.func3.symm.trans hfn)).symm
      exact ⟨by kernel_rfl, fun j t ht => by
        rw [Tryz.params3] at ht
        have hm : t ∈ [22] := by simpa using Array.mem_of_getElem? ht
        have hall : ([22].all fun u => !Tryz.prog.wantsStandIn u) = true := by kernel_rfl
        exact (show Tryz.prog.wantsStandIn t = false by simpa using List.all_eq_true.1 hall t hm)⟩)
    (by kernel_rfl)
#print axioms proved
end Go.Proofs.YtginmioklkcgbaaGreatDoor.fnLines
namespace Go.Proofs.YtginmioklkcgbaaGreatDoor
/-- The row, under a short name, for the claim. -/
theorem fnLines_holds : Rows.FnLinesCardSaid := fnLines.proved
end Go.Proofs.YtginmioklkcgbaaGreatDoor

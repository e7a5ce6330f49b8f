/- What the Go functions of this law compute, each as a Lean function, and that each call comes to that answer; written by a program of this session. No condition. -/
import Derived.Test.YtginmioklkcgbaaDoorQFnDecimalsx0
import Derived.Test.YtginmioklkcgbaaDoorQFnDecimalsx1
import Derived.Test.YtginmioklkcgbaaDoorQFnDecimalsx2
import Derived.Test.YtginmioklkcgbaaDoorQFnDecimalsx3
import Derived.Test.YtginmioklkcgbaaDoorQFnDecimalsx4
import Derived.Test.YtginmioklkcgbaaDoorQFnDecimalsx5
import Derived.Test.YtginmioklkcgbaaDoorQFnDecimalsx6
namespace Go.Proofs.YtginmioklkcgbaaDoor.QFnDecimals
open Go.RowKit Go.Proofs.YtginmioklkcgbaaDoorW.PrintWords Go.Proofs.YtginmioklkcgbaaDoorW.PrintLast Go.Proofs.YtginmioklkcgbaaDoorW.PrintMore
attribute [local go_sem] max2_int min2_int max_two min_two max_three min_three max_four min_four   -- for this text's walks alone
set_option linter.unusedVariables false
set_option linter.unusedSimpArgs false

/-! ### laws_FnDecimals: function 11 -/
mutual
def laws_FnDecimals.j0 : Nat → Int → Int → Bool → List ByteArray → Int → Bool → Option (Bool)
 | 0, _, _, _, _, _, _ => none
 | k + 1, x3, x5, x6, x13, x15, x84 => if x84 = true then (some false) else (if x3 > (-1000000000000000000) then (if x3 < 1000000000000000000 then (if x6 = true then (laws_FnDecimals.j1 k x13 x15 (x5 != x3)) else (laws_FnDecimals.j1 k x13 x15 true)) else (laws_FnDecimals.j1 k x13 x15 false)) else (laws_FnDecimals.j1 k x13 x15 false))
def laws_FnDecimals.j1 : Nat → List ByteArray → Int → Bool → Option (Bool)
 | 0, _, _, _ => none
 | k + 1, x13, x15, x99 => if x99 = true then (some false) else (laws_FnDecimals.l0 k x13 x15 0)
def laws_FnDecimals.l0 : Nat → List ByteArray → Int → Int → Option (Bool)
 | 0, _, _, _ => none
 | k + 1, x13, x15, x16 => if x16 < (x13.length : Int) then (if 0 ≤ x16 then ((impl_SplitWords.f k (rdOf ByteArray.empty x13 x16)).bind fun t303 => (if (t303.length : Int) = 1 then (if 0 < (t303.length : Int) then (if (rdOf ByteArray.empty t303 0).toList = (rdOf ByteArray.empty x13 x16).toList then (laws_FnDecimals.l0 k x13 x15 (wrap64 (x16 + 1))) else (some false)) else (none)) else (some false))) else (none)) else (laws_FnDecimals.l1 k x15 0)
def laws_FnDecimals.l1 : Nat → Int → Int → Option (Bool)
 | 0, _, _ => none
 | k + 1, x15, x18 => if x18 ≤ 10 then (if x18 = x15 then (laws_FnDecimals.l1 k x15 (wrap64 (x18 + 1))) else ((impl_CodeName.f x18).bind fun t308 => ((impl_CodeName.f x15).bind fun t309 => (if t308.toList = t309.toList then (some false) else (laws_FnDecimals.l1 k x15 (wrap64 (x18 + 1))))))) else (some true)
end
def laws_FnDecimals.f (k : Nat) (l0 : List Int) : Option (Bool) := (laws_f6big.f l0).bind fun t277 => (if t277 = true then (some true) else ((spec_DrawDecimal.f k l0).bind fun t278 => ((impl_Decimal.f t278).bind fun t279 => ((impl_ReadDecimal.f k t279).bind fun bt280 => ((spec_DrawReadDecimal.f k l0).bind fun t282 => ((impl_ReadDecimal.f k t282).bind fun bt283 => ((spec_ReadDecimal.f k t282).bind fun bt285 => ((spec_DrawSplitWords.f k l0).bind fun t287 => ((impl_SplitWords.f k t287).bind fun t288 => ((spec_DrawIsName.f l0).bind fun t291 => ((spec_DrawCodeName.f l0).bind fun t292 => ((spec_Decimal.f k t278).bind fun t293 => (if t279.toList = t293.toList then (if bt283.1 = bt285.1 then (if (bt283.2 != bt285.2) = true then (laws_FnDecimals.j0 k t278 bt280.1 bt280.2 t288 t292 true) else ((spec_SplitWords.f k t287).bind fun t294 => ((laws_f6texts.f k t288 t294).bind fun t297 => (if t297 = true then ((impl_IsName.f k t291).bind fun t298 => ((spec_IsName.f k t291).bind fun t299 => (if (t298 != t299) = true then (laws_FnDecimals.j0 k t278 bt280.1 bt280.2 t288 t292 true) else ((impl_CodeName.f t292).bind fun t300 => ((spec_CodeName.f t292).bind fun t301 => (laws_FnDecimals.j0 k t278 bt280.1 bt280.2 t288 t292 (t300.toList != t301.toList))))))) else (laws_FnDecimals.j0 k t278 bt280.1 bt280.2 t288 t292 true))))) else (laws_FnDecimals.j0 k t278 bt280.1 bt280.2 t288 t292 true)) else (laws_FnDecimals.j0 k t278 bt280.1 bt280.2 t288 t292 true))))))))))))))
theorem laws_FnDecimals.mono_l : ∀ k, (∀ y0 y1 y2 y3 y4 y5, LeO (laws_FnDecimals.j0 k y0 y1 y2 y3 y4 y5) (laws_FnDecimals.j0 (k + 1) y0 y1 y2 y3 y4 y5)) ∧ (∀ y0 y1 y2, LeO (laws_FnDecimals.j1 k y0 y1 y2) (laws_FnDecimals.j1 (k + 1) y0 y1 y2)) ∧ (∀ y0 y1 y2, LeO (laws_FnDecimals.l0 k y0 y1 y2) (laws_FnDecimals.l0 (k + 1) y0 y1 y2)) ∧ (∀ y0 y1, LeO (laws_FnDecimals.l1 k y0 y1) (laws_FnDecimals.l1 (k + 1) y0 y1))
 | 0 => ⟨fun _ _ _ _ _ _ r h => by simp [laws_FnDecimals.j0] at h, fun _ _ _ r h => by simp [laws_FnDecimals.j1] at h, fun _ _ _ r h => by simp [laws_FnDecimals.l0] at h, fun _ _ r h => by simp [laws_FnDecimals.l1] at h⟩
 | k + 1 => by
  obtain ⟨ih0, ih1, ih2, ih3⟩ := laws_FnDecimals.mono_l k
  refine ⟨?_, ?_, ?_, ?_⟩
  ·
   intro y0 y1 y2 y3 y4 y5
   unfold laws_FnDecimals.j0
   repeat' first
   | (with_reducible exact ih0 _ _ _ _ _ _)
   | (with_reducible exact ih1 _ _ _)
   | (with_reducible exact ih2 _ _ _)
   | (with_reducible exact ih3 _ _)
   | (with_reducible exact impl_IsName.mono _ _)
   | (with_reducible exact impl_ReadDecimal.mono _ _)
   | (with_reducible exact impl_SplitWords.mono _ _)
   | (with_reducible exact laws_f6texts.mono _ _ _)
   | (with_reducible exact spec_Decimal.mono _ _)
   | (with_reducible exact spec_DrawDecimal.mono _ _)
   | (with_reducible exact spec_DrawReadDecimal.mono _ _)
   | (with_reducible exact spec_DrawSplitWords.mono _ _)
   | (with_reducible exact spec_IsName.mono _ _)
   | (with_reducible exact spec_ReadDecimal.mono _ _)
   | (with_reducible exact spec_SplitWords.mono _ _)
   | (with_reducible exact LeO.refl _)
   | (with_reducible exact LeO.none _)
   | (with_reducible refine LeO.ite ?_ ?_)
   | (with_reducible refine LeO.bind ?_ (fun _ => ?_))
   | exact ih0 _ _ _ _ _ _
   | exact ih1 _ _ _
   | exact ih2 _ _ _
   | exact ih3 _ _
   | exact impl_IsName.mono _ _
   | exact impl_ReadDecimal.mono _ _
   | exact impl_SplitWords.mono _ _
   | exact laws_f6texts.mono _ _ _
   | exact spec_Decimal.mono _ _
   | exact spec_DrawDecimal.mono _ _
   | exact spec_DrawReadDecimal.mono _ _
   | exact spec_DrawSplitWords.mono _ _
   | exact spec_IsName.mono _ _
   | exact spec_ReadDecimal.mono _ _
   | exact spec_SplitWords.mono _ _
   | exact LeO.none _
   | refine LeO.ite ?_ ?_
   | refine LeO.bind ?_ (fun _ => ?_)
  ·
   intro y0 y1 y2
   unfold laws_FnDecimals.j1
   repeat' first
   | (with_reducible exact ih0 _ _ _ _ _ _)
   | (with_reducible exact ih1 _ _ _)
   | (with_reducible exact ih2 _ _ _)
   | (with_reducible exact ih3 _ _)
   | (with_reducible exact impl_IsName.mono _ _)
   | (with_reducible exact impl_ReadDecimal.mono _ _)
   | (with_reducible exact impl_SplitWords.mono _ _)
   | (with_reducible exact laws_f6texts.mono _ _ _)
   | (with_reducible exact spec_Decimal.mono _ _)
   | (with_reducible exact spec_DrawDecimal.mono _ _)
   | (with_reducible exact spec_DrawReadDecimal.mono _ _)
   | (with_reducible exact spec_DrawSplitWords.mono _ _)
   | (with_reducible exact spec_IsName.mono _ _)
   | (with_reducible exact spec_ReadDecimal.mono _ _)
   | (with_reducible exact spec_SplitWords.mono _ _)
   | (with_reducible exact LeO.refl _)
   | (with_reducible exact LeO.none _)
   | (with_reducible refine LeO.ite ?_ ?_)
   | (with_reducible refine LeO.bind ?_ (fun _ => ?_))
   | exact ih0 _ _ _ _ _ _
   | exact ih1 _ _ _
   | exact ih2 _ _ _
   | exact ih3 _ _
   | exact impl_IsName.mono _ _
   | exact impl_ReadDecimal.mono _ _
   | exact impl_SplitWords.mono _ _
   | exact laws_f6texts.mono _ _ _
   | exact spec_Decimal.mono _ _
   | exact spec_DrawDecimal.mono _ _
   | exact spec_DrawReadDecimal.mono _ _
   | exact spec_DrawSplitWords.mono _ _
   | exact spec_IsName.mono _ _
   | exact spec_ReadDecimal.mono _ _
   | exact spec_SplitWords.mono _ _
   | exact LeO.none _
   | refine LeO.ite ?_ ?_
   | refine LeO.bind ?_ (fun _ => ?_)
  ·
   intro y0 y1 y2
   unfold laws_FnDecimals.l0
   repeat' first
   | (with_reducible exact ih0 _ _ _ _ _ _)
   | (with_reducible exact ih1 _ _ _)
   | (with_reducible exact ih2 _ _ _)
   | (with_reducible exact ih3 _ _)
   | (with_reducible exact impl_IsName.mono _ _)
   | (with_reducible exact impl_ReadDecimal.mono _ _)
   | (with_reducible exact impl_SplitWords.mono _ _)
   | (with_reducible exact laws_f6texts.mono _ _ _)
   | (with_reducible exact spec_Decimal.mono _ _)
   | (with_reducible exact spec_DrawDecimal.mono _ _)
   | (with_reducible exact spec_DrawReadDecimal.mono _ _)
   | (with_reducible exact spec_DrawSplitWords.mono _ _)
   | (with_reducible exact spec_IsName.mono _ _)
   | (with_reducible exact spec_ReadDecimal.mono _ _)
   | (with_reducible exact spec_SplitWords.mono _ _)
   | (with_reducible exact LeO.refl _)
   | (with_reducible exact LeO.none _)
   | (with_reducible refine LeO.ite ?_ ?_)
   | (with_reducible refine LeO.bind ?_ (fun _ => ?_))
   | exact ih0 _ _ _ _ _ _
   | exact ih1 _ _ _
   | exact ih2 _ _ _
   | exact ih3 _ _
   | exact impl_IsName.mono _ _
   | exact impl_ReadDecimal.mono _ _
   | exact impl_SplitWords.mono _ _
   | exact laws_f6texts.mono _ _ _
   | exact spec_Decimal.mono _ _
   | exact spec_DrawDecimal.mono _ _
   | exact spec_DrawReadDecimal.mono _ _
   | exact spec_DrawSplitWords.mono _ _
   | exact spec_IsName.mono _ _
   | exact spec_ReadDecimal.mono _ _
   | exact spec_SplitWords.mono _ _
   | exact LeO.none _
   | refine LeO.ite ?_ ?_
   | refine LeO.bind ?_ (fun _ => ?_)
  ·
   intro y0 y1
   unfold laws_FnDecimals.l1
   repeat' first
   | (with_reducible exact ih0 _ _ _ _ _ _)
   | (with_reducible exact ih1 _ _ _)
   | (with_reducible exact ih2 _ _ _)
   | (with_reducible exact ih3 _ _)
   | (with_reducible exact impl_IsName.mono _ _)
   | (with_reducible exact impl_ReadDecimal.mono _ _)
   | (with_reducible exact impl_SplitWords.mono _ _)
   | (with_reducible exact laws_f6texts.mono _ _ _)
   | (with_reducible exact spec_Decimal.mono _ _)
   | (with_reducible exact spec_DrawDecimal.mono _ _)
   | (with_reducible exact spec_DrawReadDecimal.mono _ _)
   | (with_reducible exact spec_DrawSplitWords.mono _ _)
   | (with_reducible exact spec_IsName.mono _ _)
   | (with_reducible exact spec_ReadDecimal.mono _ _)
   | (with_reducible exact spec_SplitWords.mono _ _)
   | (with_reducible exact LeO.refl _)
   | (with_reducible exact LeO.none _)
   | (with_reducible refine LeO.ite ?_ ?_)
   | (with_reducible refine LeO.bind ?_ (fun _ => ?_))
   | exact ih0 _ _ _ _ _ _
   | exact ih1 _ _ _
   | exact ih2 _ _ _
   | exact ih3 _ _
   | exact impl_IsName.mono _ _
   | exact impl_ReadDecimal.mono _ _
   | exact impl_SplitWords.mono _ _
   | exact laws_f6texts.mono _ _ _
   | exact spec_Decimal.mono _ _
   | exact spec_DrawDecimal.mono _ _
   | exact spec_DrawReadDecimal.mono _ _
   | exact spec_DrawSplitWords.mono _ _
   | exact spec_IsName.mono _ _
   | exact spec_ReadDecimal.mono _ _
   | exact spec_SplitWords.mono _ _
   | exact LeO.none _
   | refine LeO.ite ?_ ?_
   | refine LeO.bind ?_ (fun _ => ?_)
theorem laws_FnDecimals.mono : ∀ a0 k, LeO (laws_FnDecimals.f k a0) (laws_FnDecimals.f (k + 1) a0) := by
 intro a0 k
 obtain ⟨ih0, ih1, ih2, ih3⟩ := laws_FnDecimals.mono_l k
 unfold laws_FnDecimals.f
 repeat' first
   | (with_reducible exact ih0 _ _ _ _ _ _)
   | (with_reducible exact ih1 _ _ _)
   | (with_reducible exact ih2 _ _ _)
   | (with_reducible exact ih3 _ _)
   | (with_reducible exact impl_IsName.mono _ _)
   | (with_reducible exact impl_ReadDecimal.mono _ _)
   | (with_reducible exact impl_SplitWords.mono _ _)
   | (with_reducible exact laws_f6texts.mono _ _ _)
   | (with_reducible exact spec_Decimal.mono _ _)
   | (with_reducible exact spec_DrawDecimal.mono _ _)
   | (with_reducible exact spec_DrawReadDecimal.mono _ _)
   | (with_reducible exact spec_DrawSplitWords.mono _ _)
   | (with_reducible exact spec_IsName.mono _ _)
   | (with_reducible exact spec_ReadDecimal.mono _ _)
   | (with_reducible exact spec_SplitWords.mono _ _)
   | (with_reducible exact LeO.refl _)
   | (with_reducible exact LeO.none _)
   | (with_reducible refine LeO.ite ?_ ?_)
   | (with_reducible refine LeO.bind ?_ (fun _ => ?_))
   | exact ih0 _ _ _ _ _ _
   | exact ih1 _ _ _
   | exact ih2 _ _ _
   | exact ih3 _ _
   | exact impl_IsName.mono _ _
   | exact impl_ReadDecimal.mono _ _
   | exact impl_SplitWords.mono _ _
   | exact laws_f6texts.mono _ _ _
   | exact spec_Decimal.mono _ _
   | exact spec_DrawDecimal.mono _ _
   | exact spec_DrawReadDecimal.mono _ _
   | exact spec_DrawSplitWords.mono _ _
   | exact spec_IsName.mono _ _
   | exact spec_ReadDecimal.mono _ _
   | exact spec_SplitWords.mono _ _
   | exact LeO.none _
   | refine LeO.ite ?_ ?_
   | refine LeO.bind ?_ (fun _ => ?_)
def laws_FnDecimals.bF (n k : Nat) : Array Bool := ((List.range n).map fun i => k.testBit i).toArray
set_option maxHeartbeats 8000000 in
set_option maxRecDepth 100000 in
theorem laws_FnDecimals.calls (k : Nat) (A0 : Option Addr) (c0 : Nat) (l0 : List Int) (r : Bool) (w : World) (hM : Gnd.Max w) (hT : Gnd.Tab w) (hr0 : Kd.C (Kd.int .u8) w A0 l0.length l0) (hc0 : l0.length ≤ c0) (h : laws_FnDecimals.f k l0 = some r) :
  Calls Tryd.prog 11 #[.slice A0 l0.length c0] w fun e w' => e = .returned (.bool r) ∧ Below w.heap.size w w' := by
 have HR0 := aS hr0
 have HC0 := aS hc0
 clear hr0 hc0
 have HB := aS (Below.refl w.heap.size w)
 have H : ((laws_f6big.f l0).bind fun t277 => (if t277 = true then (some true) else ((spec_DrawDecimal.f k l0).bind fun t278 => ((impl_Decimal.f t278).bind fun t279 => ((impl_ReadDecimal.f k t279).bind fun bt280 => ((spec_DrawReadDecimal.f k l0).bind fun t282 => ((impl_ReadDecimal.f k t282).bind fun bt283 => ((spec_ReadDecimal.f k t282).bind fun bt285 => ((spec_DrawSplitWords.f k l0).bind fun t287 => ((impl_SplitWords.f k t287).bind fun t288 => ((spec_DrawIsName.f l0).bind fun t291 => ((spec_DrawCodeName.f l0).bind fun t292 => ((spec_Decimal.f k t278).bind fun t293 => (if t279.toList = t293.toList then (if bt283.1 = bt285.1 then (if (bt283.2 != bt285.2) = true then (laws_FnDecimals.j0 k t278 bt280.1 bt280.2 t288 t292 true) else ((spec_SplitWords.f k t287).bind fun t294 => ((laws_f6texts.f k t288 t294).bind fun t297 => (if t297 = true then ((impl_IsName.f k t291).bind fun t298 => ((spec_IsName.f k t291).bind fun t299 => (if (t298 != t299) = true then (laws_FnDecimals.j0 k t278 bt280.1 bt280.2 t288 t292 true) else ((impl_CodeName.f t292).bind fun t300 => ((spec_CodeName.f t292).bind fun t301 => (laws_FnDecimals.j0 k t278 bt280.1 bt280.2 t288 t292 (t300.toList != t301.toList))))))) else (laws_FnDecimals.j0 k t278 bt280.1 bt280.2 t288 t292 true))))) else (laws_FnDecimals.j0 k t278 bt280.1 bt280.2 t288 t292 true)) else (laws_FnDecimals.j0 k t278 bt280.1 bt280.2 t288 t292 true))))))))))))))) = some r := h
 clear h
 replace H := Option.bind_eq_some_iff.mp H
 obtain ⟨t277, A20, H⟩ := H
 replace H : (if t277 = true then (some true) else ((spec_DrawDecimal.f k l0).bind fun t278 => ((impl_Decimal.f t278).bind fun t279 => ((impl_ReadDecimal.f k t279).bind fun bt280 => ((spec_DrawReadDecimal.f k l0).bind fun t282 => ((impl_ReadDecimal.f k t282).bind fun bt283 => ((spec_ReadDecimal.f k t282).bind fun bt285 => ((spec_DrawSplitWords.f k l0).bind fun t287 => ((impl_SplitWords.f k t287).bind fun t288 => ((spec_DrawIsName.f l0).bind fun t291 => ((spec_DrawCodeName.f l0).bind fun t292 => ((spec_Decimal.f k t278).bind fun t293 => (if t279.toList = t293.toList then (if bt283.1 = bt285.1 then (if (bt283.2 != bt285.2) = true then (laws_FnDecimals.j0 k t278 bt280.1 bt280.2 t288 t292 true) else ((spec_SplitWords.f k t287).bind fun t294 => ((laws_f6texts.f k t288 t294).bind fun t297 => (if t297 = true then ((impl_IsName.f k t291).bind fun t298 => ((spec_IsName.f k t291).bind fun t299 => (if (t298 != t299) = true then (laws_FnDecimals.j0 k t278 bt280.1 bt280.2 t288 t292 true) else ((impl_CodeName.f t292).bind fun t300 => ((spec_CodeName.f t292).bind fun t301 => (laws_FnDecimals.j0 k t278 bt280.1 bt280.2 t288 t292 (t300.toList != t301.toList))))))) else (laws_FnDecimals.j0 k t278 bt280.1 bt280.2 t288 t292 true))))) else (laws_FnDecimals.j0 k t278 bt280.1 bt280.2 t288 t292 true)) else (laws_FnDecimals.j0 k t278 bt280.1 bt280.2 t288 t292 true)))))))))))))) = some r := H
 have A2 := aS A20
 clear A20
 have HC3 := aS H
 clear H
 go_enter Tryd.func11, Tryd.ntmps11
 go_upto_if 20 with (first | (go_at_call 42; (with_reducible refine (laws_f6big.calls _ _ l0 t277 _ ?side1 ?side2 A2.out).mono ?_); (case side1 => exact sC HR0.out); (case side2 => exact HC0.out); rintro e w' ⟨rfl, ⟨nd, rfl⟩⟩; (try first | exact ⟨rfl, _, World.drewN_drewN _ _ _⟩ | exact ⟨rfl, _, Eq.trans (World.drewN_drewN _ _ _) (congrArg (World.drewN _) (Nat.add_assoc _ _ _))⟩)))
 repeat (go_quiet (first | (go_at_call 42; (with_reducible refine (laws_f6big.calls _ _ l0 t277 _ ?side1 ?side2 A2.out).mono ?_); (case side1 => exact sC HR0.out); (case side2 => exact HC0.out); rintro e w' ⟨rfl, ⟨nd, rfl⟩⟩; (try first | exact ⟨rfl, _, World.drewN_drewN _ _ _⟩ | exact ⟨rfl, _, Eq.trans (World.drewN_drewN _ _ _) (congrArg (World.drewN _) (Nat.add_assoc _ _ _))⟩))); go_upto_if 20 with (first | (go_at_call 42; (with_reducible refine (laws_f6big.calls _ _ l0 t277 _ ?side1 ?side2 A2.out).mono ?_); (case side1 => exact sC HR0.out); (case side2 => exact HC0.out); rintro e w' ⟨rfl, ⟨nd, rfl⟩⟩; (try first | exact ⟨rfl, _, World.drewN_drewN _ _ _⟩ | exact ⟨rfl, _, Eq.trans (World.drewN_drewN _ _ _) (congrArg (World.drewN _) (Nat.add_assoc _ _ _))⟩))))
 (try simp only [Act.put, List.setIfInBounds_toArray, List.set_cons_zero, List.set_cons_succ])
 have H := HC3.out
 clear HC3
 by_cases c4 : t277 = true
 ·
  subst c4
  have H1 : (some true) = some r := by rw [if_pos rfl] at H; exact H
  clear H
  have H := H1
  clear H1
  obtain rfl := Option.some.inj H
  go_wp2
  repeat (go_quiet (fail); try go_wp2)
  go_ret
  exact ⟨by first | rfl | (simp [errW_none, errW_some, i64_w]; done) | (simp [errW_none, errW_some] <;> rfl) | (simp [*, errW_none, errW_some] <;> rfl), by repeat (first | (with_reducible first | exact HB.out | apply below_alloc | apply pw_below_drewN | apply below_drew1) | exact HB.out)⟩
 ·
  replace c4 := Bool.eq_false_iff.mpr c4
  subst c4
  have H1 : ((spec_DrawDecimal.f k l0).bind fun t278 => ((impl_Decimal.f t278).bind fun t279 => ((impl_ReadDecimal.f k t279).bind fun bt280 => ((spec_DrawReadDecimal.f k l0).bind fun t282 => ((impl_ReadDecimal.f k t282).bind fun bt283 => ((spec_ReadDecimal.f k t282).bind fun bt285 => ((spec_DrawSplitWords.f k l0).bind fun t287 => ((impl_SplitWords.f k t287).bind fun t288 => ((spec_DrawIsName.f l0).bind fun t291 => ((spec_DrawCodeName.f l0).bind fun t292 => ((spec_Decimal.f k t278).bind fun t293 => (if t279.toList = t293.toList then (if bt283.1 = bt285.1 then (if (bt283.2 != bt285.2) = true then (laws_FnDecimals.j0 k t278 bt280.1 bt280.2 t288 t292 true) else ((spec_SplitWords.f k t287).bind fun t294 => ((laws_f6texts.f k t288 t294).bind fun t297 => (if t297 = true then ((impl_IsName.f k t291).bind fun t298 => ((spec_IsName.f k t291).bind fun t299 => (if (t298 != t299) = true then (laws_FnDecimals.j0 k t278 bt280.1 bt280.2 t288 t292 true) else ((impl_CodeName.f t292).bind fun t300 => ((spec_CodeName.f t292).bind fun t301 => (laws_FnDecimals.j0 k t278 bt280.1 bt280.2 t288 t292 (t300.toList != t301.toList))))))) else (laws_FnDecimals.j0 k t278 bt280.1 bt280.2 t288 t292 true))))) else (laws_FnDecimals.j0 k t278 bt280.1 bt280.2 t288 t292 true)) else (laws_FnDecimals.j0 k t278 bt280.1 bt280.2 t288 t292 true))))))))))))) = some r := by rw [if_neg (show ¬ (false = true) by decide)] at H; exact H
  clear H
  have H := H1
  clear H1
  replace H := Option.bind_eq_some_iff.mp H
  obtain ⟨t278, A50, H⟩ := H
  replace H : ((impl_Decimal.f t278).bind fun t279 => ((impl_ReadDecimal.f k t279).bind fun bt280 => ((spec_DrawReadDecimal.f k l0).bind fun t282 => ((impl_ReadDecimal.f k t282).bind fun bt283 => ((spec_ReadDecimal.f k t282).bind fun bt285 => ((spec_DrawSplitWords.f k l0).bind fun t287 => ((impl_SplitWords.f k t287).bind fun t288 => ((spec_DrawIsName.f l0).bind fun t291 => ((spec_DrawCodeName.f l0).bind fun t292 => ((spec_Decimal.f k t278).bind fun t293 => (if t279.toList = t293.toList then (if bt283.1 = bt285.1 then (if (bt283.2 != bt285.2) = true then (laws_FnDecimals.j0 k t278 bt280.1 bt280.2 t288 t292 true) else ((spec_SplitWords.f k t287).bind fun t294 => ((laws_f6texts.f k t288 t294).bind fun t297 => (if t297 = true then ((impl_IsName.f k t291).bind fun t298 => ((spec_IsName.f k t291).bind fun t299 => (if (t298 != t299) = true then (laws_FnDecimals.j0 k t278 bt280.1 bt280.2 t288 t292 true) else ((impl_CodeName.f t292).bind fun t300 => ((spec_CodeName.f t292).bind fun t301 => (laws_FnDecimals.j0 k t278 bt280.1 bt280.2 t288 t292 (t300.toList != t301.toList))))))) else (laws_FnDecimals.j0 k t278 bt280.1 bt280.2 t288 t292 true))))) else (laws_FnDecimals.j0 k t278 bt280.1 bt280.2 t288 t292 true)) else (laws_FnDecimals.j0 k t278 bt280.1 bt280.2 t288 t292 true)))))))))))) = some r := H
  have A5 := aS A50
  clear A50
  replace H := Option.bind_eq_some_iff.mp H
  obtain ⟨t279, A60, H⟩ := H
  replace H : ((impl_ReadDecimal.f k t279).bind fun bt280 => ((spec_DrawReadDecimal.f k l0).bind fun t282 => ((impl_ReadDecimal.f k t282).bind fun bt283 => ((spec_ReadDecimal.f k t282).bind fun bt285 => ((spec_DrawSplitWords.f k l0).bind fun t287 => ((impl_SplitWords.f k t287).bind fun t288 => ((spec_DrawIsName.f l0).bind fun t291 => ((spec_DrawCodeName.f l0).bind fun t292 => ((spec_Decimal.f k t278).bind fun t293 => (if t279.toList = t293.toList then (if bt283.1 = bt285.1 then (if (bt283.2 != bt285.2) = true then (laws_FnDecimals.j0 k t278 bt280.1 bt280.2 t288 t292 true) else ((spec_SplitWords.f k t287).bind fun t294 => ((laws_f6texts.f k t288 t294).bind fun t297 => (if t297 = true then ((impl_IsName.f k t291).bind fun t298 => ((spec_IsName.f k t291).bind fun t299 => (if (t298 != t299) = true then (laws_FnDecimals.j0 k t278 bt280.1 bt280.2 t288 t292 true) else ((impl_CodeName.f t292).bind fun t300 => ((spec_CodeName.f t292).bind fun t301 => (laws_FnDecimals.j0 k t278 bt280.1 bt280.2 t288 t292 (t300.toList != t301.toList))))))) else (laws_FnDecimals.j0 k t278 bt280.1 bt280.2 t288 t292 true))))) else (laws_FnDecimals.j0 k t278 bt280.1 bt280.2 t288 t292 true)) else (laws_FnDecimals.j0 k t278 bt280.1 bt280.2 t288 t292 true))))))))))) = some r := H
  have A6 := aS A60
  clear A60
  replace H := Option.bind_eq_some_iff.mp H
  obtain ⟨⟨t280, t281⟩, A70, H⟩ := H
  replace H : ((spec_DrawReadDecimal.f k l0).bind fun t282 => ((impl_ReadDecimal.f k t282).bind fun bt283 => ((spec_ReadDecimal.f k t282).bind fun bt285 => ((spec_DrawSplitWords.f k l0).bind fun t287 => ((impl_SplitWords.f k t287).bind fun t288 => ((spec_DrawIsName.f l0).bind fun t291 => ((spec_DrawCodeName.f l0).bind fun t292 => ((spec_Decimal.f k t278).bind fun t293 => (if t279.toList = t293.toList then (if bt283.1 = bt285.1 then (if (bt283.2 != bt285.2) = true then (laws_FnDecimals.j0 k t278 t280 t281 t288 t292 true) else ((spec_SplitWords.f k t287).bind fun t294 => ((laws_f6texts.f k t288 t294).bind fun t297 => (if t297 = true then ((impl_IsName.f k t291).bind fun t298 => ((spec_IsName.f k t291).bind fun t299 => (if (t298 != t299) = true then (laws_FnDecimals.j0 k t278 t280 t281 t288 t292 true) else ((impl_CodeName.f t292).bind fun t300 => ((spec_CodeName.f t292).bind fun t301 => (laws_FnDecimals.j0 k t278 t280 t281 t288 t292 (t300.toList != t301.toList))))))) else (laws_FnDecimals.j0 k t278 t280 t281 t288 t292 true))))) else (laws_FnDecimals.j0 k t278 t280 t281 t288 t292 true)) else (laws_FnDecimals.j0 k t278 t280 t281 t288 t292 true)))))))))) = some r := H
  have A7 := aS A70
  clear A70
  replace H := Option.bind_eq_some_iff.mp H
  obtain ⟨t282, A80, H⟩ := H
  replace H : ((impl_ReadDecimal.f k t282).bind fun bt283 => ((spec_ReadDecimal.f k t282).bind fun bt285 => ((spec_DrawSplitWords.f k l0).bind fun t287 => ((impl_SplitWords.f k t287).bind fun t288 => ((spec_DrawIsName.f l0).bind fun t291 => ((spec_DrawCodeName.f l0).bind fun t292 => ((spec_Decimal.f k t278).bind fun t293 => (if t279.toList = t293.toList then (if bt283.1 = bt285.1 then (if (bt283.2 != bt285.2) = true then (laws_FnDecimals.j0 k t278 t280 t281 t288 t292 true) else ((spec_SplitWords.f k t287).bind fun t294 => ((laws_f6texts.f k t288 t294).bind fun t297 => (if t297 = true then ((impl_IsName.f k t291).bind fun t298 => ((spec_IsName.f k t291).bind fun t299 => (if (t298 != t299) = true then (laws_FnDecimals.j0 k t278 t280 t281 t288 t292 true) else ((impl_CodeName.f t292).bind fun t300 => ((spec_CodeName.f t292).bind fun t301 => (laws_FnDecimals.j0 k t278 t280 t281 t288 t292 (t300.toList != t301.toList))))))) else (laws_FnDecimals.j0 k t278 t280 t281 t288 t292 true))))) else (laws_FnDecimals.j0 k t278 t280 t281 t288 t292 true)) else (laws_FnDecimals.j0 k t278 t280 t281 t288 t292 true))))))))) = some r := H
  have A8 := aS A80
  clear A80
  replace H := Option.bind_eq_some_iff.mp H
  obtain ⟨⟨t283, t284⟩, A90, H⟩ := H
  replace H : ((spec_ReadDecimal.f k t282).bind fun bt285 => ((spec_DrawSplitWords.f k l0).bind fun t287 => ((impl_SplitWords.f k t287).bind fun t288 => ((spec_DrawIsName.f l0).bind fun t291 => ((spec_DrawCodeName.f l0).bind fun t292 => ((spec_Decimal.f k t278).bind fun t293 => (if t279.toList = t293.toList then (if t283 = bt285.1 then (if (t284 != bt285.2) = true then (laws_FnDecimals.j0 k t278 t280 t281 t288 t292 true) else ((spec_SplitWords.f k t287).bind fun t294 => ((laws_f6texts.f k t288 t294).bind fun t297 => (if t297 = true then ((impl_IsName.f k t291).bind fun t298 => ((spec_IsName.f k t291).bind fun t299 => (if (t298 != t299) = true then (laws_FnDecimals.j0 k t278 t280 t281 t288 t292 true) else ((impl_CodeName.f t292).bind fun t300 => ((spec_CodeName.f t292).bind fun t301 => (laws_FnDecimals.j0 k t278 t280 t281 t288 t292 (t300.toList != t301.toList))))))) else (laws_FnDecimals.j0 k t278 t280 t281 t288 t292 true))))) else (laws_FnDecimals.j0 k t278 t280 t281 t288 t292 true)) else (laws_FnDecimals.j0 k t278 t280 t281 t288 t292 true)))))))) = some r := H
  have A9 := aS A90
  clear A90
  replace H := Option.bind_eq_some_iff.mp H
  obtain ⟨⟨t285, t286⟩, A100, H⟩ := H
  replace H : ((spec_DrawSplitWords.f k l0).bind fun t287 => ((impl_SplitWords.f k t287).bind fun t288 => ((spec_DrawIsName.f l0).bind fun t291 => ((spec_DrawCodeName.f l0).bind fun t292 => ((spec_Decimal.f k t278).bind fun t293 => (if t279.toList = t293.toList then (if t283 = t285 then (if (t284 != t286) = true then (laws_FnDecimals.j0 k t278 t280 t281 t288 t292 true) else ((spec_SplitWords.f k t287).bind fun t294 => ((laws_f6texts.f k t288 t294).bind fun t297 => (if t297 = true then ((impl_IsName.f k t291).bind fun t298 => ((spec_IsName.f k t291).bind fun t299 => (if (t298 != t299) = true then (laws_FnDecimals.j0 k t278 t280 t281 t288 t292 true) else ((impl_CodeName.f t292).bind fun t300 => ((spec_CodeName.f t292).bind fun t301 => (laws_FnDecimals.j0 k t278 t280 t281 t288 t292 (t300.toList != t301.toList))))))) else (laws_FnDecimals.j0 k t278 t280 t281 t288 t292 true))))) else (laws_FnDecimals.j0 k t278 t280 t281 t288 t292 true)) else (laws_FnDecimals.j0 k t278 t280 t281 t288 t292 true))))))) = some r := H
  have A10 := aS A100
  clear A100
  replace H := Option.bind_eq_some_iff.mp H
  obtain ⟨t287, A110, H⟩ := H
  replace H : ((impl_SplitWords.f k t287).bind fun t288 => ((spec_DrawIsName.f l0).bind fun t291 => ((spec_DrawCodeName.f l0).bind fun t292 => ((spec_Decimal.f k t278).bind fun t293 => (if t279.toList = t293.toList then (if t283 = t285 then (if (t284 != t286) = true then (laws_FnDecimals.j0 k t278 t280 t281 t288 t292 true) else ((spec_SplitWords.f k t287).bind fun t294 => ((laws_f6texts.f k t288 t294).bind fun t297 => (if t297 = true then ((impl_IsName.f k t291).bind fun t298 => ((spec_IsName.f k t291).bind fun t299 => (if (t298 != t299) = true then (laws_FnDecimals.j0 k t278 t280 t281 t288 t292 true) else ((impl_CodeName.f t292).bind fun t300 => ((spec_CodeName.f t292).bind fun t301 => (laws_FnDecimals.j0 k t278 t280 t281 t288 t292 (t300.toList != t301.toList))))))) else (laws_FnDecimals.j0 k t278 t280 t281 t288 t292 true))))) else (laws_FnDecimals.j0 k t278 t280 t281 t288 t292 true)) else (laws_FnDecimals.j0 k t278 t280 t281 t288 t292 true)))))) = some r := H
  have A11 := aS A110
  clear A110
  replace H := Option.bind_eq_some_iff.mp H
  obtain ⟨t288, A120, H⟩ := H
  replace H : ((spec_DrawIsName.f l0).bind fun t291 => ((spec_DrawCodeName.f l0).bind fun t292 => ((spec_Decimal.f k t278).bind fun t293 => (if t279.toList = t293.toList then (if t283 = t285 then (if (t284 != t286) = true then (laws_FnDecimals.j0 k t278 t280 t281 t288 t292 true) else ((spec_SplitWords.f k t287).bind fun t294 => ((laws_f6texts.f k t288 t294).bind fun t297 => (if t297 = true then ((impl_IsName.f k t291).bind fun t298 => ((spec_IsName.f k t291).bind fun t299 => (if (t298 != t299) = true then (laws_FnDecimals.j0 k t278 t280 t281 t288 t292 true) else ((impl_CodeName.f t292).bind fun t300 => ((spec_CodeName.f t292).bind fun t301 => (laws_FnDecimals.j0 k t278 t280 t281 t288 t292 (t300.toList != t301.toList))))))) else (laws_FnDecimals.j0 k t278 t280 t281 t288 t292 true))))) else (laws_FnDecimals.j0 k t278 t280 t281 t288 t292 true)) else (laws_FnDecimals.j0 k t278 t280 t281 t288 t292 true))))) = some r := H
  have A12 := aS A120
  clear A120
  replace H := Option.bind_eq_some_iff.mp H
  obtain ⟨t291, A130, H⟩ := H
  replace H : ((spec_DrawCodeName.f l0).bind fun t292 => ((spec_Decimal.f k t278).bind fun t293 => (if t279.toList = t293.toList then (if t283 = t285 then (if (t284 != t286) = true then (laws_FnDecimals.j0 k t278 t280 t281 t288 t292 true) else ((spec_SplitWords.f k t287).bind fun t294 => ((laws_f6texts.f k t288 t294).bind fun t297 => (if t297 = true then ((impl_IsName.f k t291).bind fun t298 => ((spec_IsName.f k t291).bind fun t299 => (if (t298 != t299) = true then (laws_FnDecimals.j0 k t278 t280 t281 t288 t292 true) else ((impl_CodeName.f t292).bind fun t300 => ((spec_CodeName.f t292).bind fun t301 => (laws_FnDecimals.j0 k t278 t280 t281 t288 t292 (t300.toList != t301.toList))))))) else (laws_FnDecimals.j0 k t278 t280 t281 t288 t292 true))))) else (laws_FnDecimals.j0 k t278 t280 t281 t288 t292 true)) else (laws_FnDecimals.j0 k t278 t280 t281 t288 t292 true)))) = some r := H
  have A13 := aS A130
  clear A130
  replace H := Option.bind_eq_some_iff.mp H
  obtain ⟨t292, A140, H⟩ := H
  replace H : ((spec_Decimal.f k t278).bind fun t293 => (if t279.toList = t293.toList then (if t283 = t285 then (if (t284 != t286) = true then (laws_FnDecimals.j0 k t278 t280 t281 t288 t292 true) else ((spec_SplitWords.f k t287).bind fun t294 => ((laws_f6texts.f k t288 t294).bind fun t297 => (if t297 = true then ((impl_IsName.f k t291).bind fun t298 => ((spec_IsName.f k t291).bind fun t299 => (if (t298 != t299) = true then (laws_FnDecimals.j0 k t278 t280 t281 t288 t292 true) else ((impl_CodeName.f t292).bind fun t300 => ((spec_CodeName.f t292).bind fun t301 => (laws_FnDecimals.j0 k t278 t280 t281 t288 t292 (t300.toList != t301.toList))))))) else (laws_FnDecimals.j0 k t278 t280 t281 t288 t292 true))))) else (laws_FnDecimals.j0 k t278 t280 t281 t288 t292 true)) else (laws_FnDecimals.j0 k t278 t280 t281 t288 t292 true))) = some r := H
  have A14 := aS A140
  clear A140
  have HC15 := aS H
  clear H
  go_upto_region 13 with (first | (go_at_call 43; (with_reducible refine (spec_DrawDecimal.calls k _ _ l0 t278 _ ?side1 ?side2 A5.out).mono ?_); (case side1 => exact sC (Kd.C_below HR0.out HB.out)); (case side2 => exact HC0.out); rintro e w16 ⟨rfl, hb⟩; have n0_ := aS (below_step (sW HB.out) hb); clear HB; have HB := n0_; clear n0_; (try clear hb); (try clear hb2); (try clear hk); (try clear hi)) | (go_at_call 20; (with_reducible refine (impl_Decimal.calls t278 t279 _ ?side1 A6.out).mono ?_); (case side1 => exact Gnd.Tab.on hT (sW HB.out)); rintro e w17 ⟨rfl, hb⟩; have n0_ := aS (below_step (sW HB.out) hb); clear HB; have HB := n0_; clear n0_; (try clear hb); (try clear hb2); (try clear hk); (try clear hi)) | (go_at_call 22; (with_reducible refine (impl_ReadDecimal.calls k t279 t280 t281 _ ?side1 A7.out).mono ?_); (case side1 => exact Gnd.Tab.on hT (sW HB.out)); rintro e w18 ⟨rfl, hb⟩; have n0_ := aS (below_step (sW HB.out) hb); clear HB; have HB := n0_; clear n0_; (try clear hb); (try clear hb2); (try clear hk); (try clear hi)) | (go_at_call 44; (with_reducible refine (spec_DrawReadDecimal.calls k _ _ l0 t282 _ ?side1 ?side2 A8.out).mono ?_); (case side1 => exact sC (Kd.C_below HR0.out HB.out)); (case side2 => exact HC0.out); rintro e w19 ⟨rfl, hb⟩; have n0_ := aS (below_step (sW HB.out) hb); clear HB; have HB := n0_; clear n0_; (try clear hb); (try clear hb2); (try clear hk); (try clear hi)) | (go_at_call 22; (with_reducible refine (impl_ReadDecimal.calls k t282 t283 t284 _ ?side1 A9.out).mono ?_); (case side1 => exact Gnd.Tab.on hT (sW HB.out)); rintro e w20 ⟨rfl, hb⟩; have n0_ := aS (below_step (sW HB.out) hb); clear HB; have HB := n0_; clear n0_; (try clear hb); (try clear hb2); (try clear hk); (try clear hi)) | (go_at_call 21; (with_reducible refine (spec_ReadDecimal.calls k t282 t285 t286 _ A10.out).mono ?_); rintro e w21 ⟨rfl, hb⟩; have n0_ := aS (below_step (sW HB.out) hb); clear HB; have HB := n0_; clear n0_; (try clear hb); (try clear hb2); (try clear hk); (try clear hi)) | (go_at_call 45; (with_reducible refine (spec_DrawSplitWords.calls k _ _ l0 t287 _ ?side1 ?side2 A11.out).mono ?_); (case side1 => exact sC (Kd.C_below HR0.out HB.out)); (case side2 => exact HC0.out); rintro e w22 ⟨rfl, hb⟩; have n0_ := aS (below_step (sW HB.out) hb); clear HB; have HB := n0_; clear n0_; (try clear hb); (try clear hb2); (try clear hk); (try clear hi)) | (go_at_call 24; (with_reducible refine (impl_SplitWords.calls k t287 t288 _ ?side1 A12.out).mono ?_); (case side1 => exact Gnd.Max.on hM (sW HB.out)); rintro e w23 ⟨v289, rfl, ho0, hb⟩; have n0_ := aS (Kd.R_lower ho0 (below_size (sW HB.out))); have n1_ := aS (below_step (sW HB.out) hb); clear HB; have HO290 := n0_; have HB := n1_; clear n0_ n1_; (try clear hb); (try clear hb2); (try clear hk); (try clear hi); (try clear ho0)) | (go_at_call 46; (with_reducible refine (spec_DrawIsName.calls _ _ l0 t291 _ ?side1 ?side2 A13.out).mono ?_); (case side1 => exact sC (Kd.C_below HR0.out HB.out)); (case side2 => exact HC0.out); rintro e w24 ⟨rfl, hb⟩; have n0_ := aS (Kd.R_below (sR HO290.out) hb); have n1_ := aS (below_step (sW HB.out) hb); clear HO290 HB; have HO290 := n0_; have HB := n1_; clear n0_ n1_; (try clear hb); (try clear hb2); (try clear hk); (try clear hi)) | (go_at_call 47; (with_reducible refine (spec_DrawCodeName.calls _ _ l0 t292 _ ?side1 ?side2 A14.out).mono ?_); (case side1 => exact sC (Kd.C_below HR0.out HB.out)); (case side2 => exact HC0.out); rintro e w25 ⟨rfl, hb⟩; have n0_ := aS (Kd.R_below (sR HO290.out) hb); have n1_ := aS (below_step (sW HB.out) hb); clear HO290 HB; have HO290 := n0_; have HB := n1_; clear n0_ n1_; (try clear hb); (try clear hb2); (try clear hk); (try clear hi)))
  repeat (go_quiet (first | (go_at_call 43; (with_reducible refine (spec_DrawDecimal.calls k _ _ l0 t278 _ ?side1 ?side2 A5.out).mono ?_); (case side1 => exact sC (Kd.C_below HR0.out HB.out)); (case side2 => exact HC0.out); rintro e w16 ⟨rfl, hb⟩; have n0_ := aS (below_step (sW HB.out) hb); clear HB; have HB := n0_; clear n0_; (try clear hb); (try clear hb2); (try clear hk); (try clear hi)) | (go_at_call 20; (with_reducible refine (impl_Decimal.calls t278 t279 _ ?side1 A6.out).mono ?_); (case side1 => exact Gnd.Tab.on hT (sW HB.out)); rintro e w17 ⟨rfl, hb⟩; have n0_ := aS (below_step (sW HB.out) hb); clear HB; have HB := n0_; clear n0_; (try clear hb); (try clear hb2); (try clear hk); (try clear hi)) | (go_at_call 22; (with_reducible refine (impl_ReadDecimal.calls k t279 t280 t281 _ ?side1 A7.out).mono ?_); (case side1 => exact Gnd.Tab.on hT (sW HB.out)); rintro e w18 ⟨rfl, hb⟩; have n0_ := aS (below_step (sW HB.out) hb); clear HB; have HB := n0_; clear n0_; (try clear hb); (try clear hb2); (try clear hk); (try clear hi)) | (go_at_call 44; (with_reducible refine (spec_DrawReadDecimal.calls k _ _ l0 t282 _ ?side1 ?side2 A8.out).mono ?_); (case side1 => exact sC (Kd.C_below HR0.out HB.out)); (case side2 => exact HC0.out); rintro e w19 ⟨rfl, hb⟩; have n0_ := aS (below_step (sW HB.out) hb); clear HB; have HB := n0_; clear n0_; (try clear hb); (try clear hb2); (try clear hk); (try clear hi)) | (go_at_call 22; (with_reducible refine (impl_ReadDecimal.calls k t282 t283 t284 _ ?side1 A9.out).mono ?_); (case side1 => exact Gnd.Tab.on hT (sW HB.out)); rintro e w20 ⟨rfl, hb⟩; have n0_ := aS (below_step (sW HB.out) hb); clear HB; have HB := n0_; clear n0_; (try clear hb); (try clear hb2); (try clear hk); (try clear hi)) | (go_at_call 21; (with_reducible refine (spec_ReadDecimal.calls k t282 t285 t286 _ A10.out).mono ?_); rintro e w21 ⟨rfl, hb⟩; have n0_ := aS (below_step (sW HB.out) hb); clear HB; have HB := n0_; clear n0_; (try clear hb); (try clear hb2); (try clear hk); (try clear hi)) | (go_at_call 45; (with_reducible refine (spec_DrawSplitWords.calls k _ _ l0 t287 _ ?side1 ?side2 A11.out).mono ?_); (case side1 => exact sC (Kd.C_below HR0.out HB.out)); (case side2 => exact HC0.out); rintro e w22 ⟨rfl, hb⟩; have n0_ := aS (below_step (sW HB.out) hb); clear HB; have HB := n0_; clear n0_; (try clear hb); (try clear hb2); (try clear hk); (try clear hi)) | (go_at_call 24; (with_reducible refine (impl_SplitWords.calls k t287 t288 _ ?side1 A12.out).mono ?_); (case side1 => exact Gnd.Max.on hM (sW HB.out)); rintro e w23 ⟨v289, rfl, ho0, hb⟩; have n0_ := aS (Kd.R_lower ho0 (below_size (sW HB.out))); have n1_ := aS (below_step (sW HB.out) hb); clear HB; have HO290 := n0_; have HB := n1_; clear n0_ n1_; (try clear hb); (try clear hb2); (try clear hk); (try clear hi); (try clear ho0)) | (go_at_call 46; (with_reducible refine (spec_DrawIsName.calls _ _ l0 t291 _ ?side1 ?side2 A13.out).mono ?_); (case side1 => exact sC (Kd.C_below HR0.out HB.out)); (case side2 => exact HC0.out); rintro e w24 ⟨rfl, hb⟩; have n0_ := aS (Kd.R_below (sR HO290.out) hb); have n1_ := aS (below_step (sW HB.out) hb); clear HO290 HB; have HO290 := n0_; have HB := n1_; clear n0_ n1_; (try clear hb); (try clear hb2); (try clear hk); (try clear hi)) | (go_at_call 47; (with_reducible refine (spec_DrawCodeName.calls _ _ l0 t292 _ ?side1 ?side2 A14.out).mono ?_); (case side1 => exact sC (Kd.C_below HR0.out HB.out)); (case side2 => exact HC0.out); rintro e w25 ⟨rfl, hb⟩; have n0_ := aS (Kd.R_below (sR HO290.out) hb); have n1_ := aS (below_step (sW HB.out) hb); clear HO290 HB; have HO290 := n0_; have HB := n1_; clear n0_ n1_; (try clear hb); (try clear hb2); (try clear hk); (try clear hi))); go_upto_region 13 with (first | (go_at_call 43; (with_reducible refine (spec_DrawDecimal.calls k _ _ l0 t278 _ ?side1 ?side2 A5.out).mono ?_); (case side1 => exact sC (Kd.C_below HR0.out HB.out)); (case side2 => exact HC0.out); rintro e w16 ⟨rfl, hb⟩; have n0_ := aS (below_step (sW HB.out) hb); clear HB; have HB := n0_; clear n0_; (try clear hb); (try clear hb2); (try clear hk); (try clear hi)) | (go_at_call 20; (with_reducible refine (impl_Decimal.calls t278 t279 _ ?side1 A6.out).mono ?_); (case side1 => exact Gnd.Tab.on hT (sW HB.out)); rintro e w17 ⟨rfl, hb⟩; have n0_ := aS (below_step (sW HB.out) hb); clear HB; have HB := n0_; clear n0_; (try clear hb); (try clear hb2); (try clear hk); (try clear hi)) | (go_at_call 22; (with_reducible refine (impl_ReadDecimal.calls k t279 t280 t281 _ ?side1 A7.out).mono ?_); (case side1 => exact Gnd.Tab.on hT (sW HB.out)); rintro e w18 ⟨rfl, hb⟩; have n0_ := aS (below_step (sW HB.out) hb); clear HB; have HB := n0_; clear n0_; (try clear hb); (try clear hb2); (try clear hk); (try clear hi)) | (go_at_call 44; (with_reducible refine (spec_DrawReadDecimal.calls k _ _ l0 t282 _ ?side1 ?side2 A8.out).mono ?_); (case side1 => exact sC (Kd.C_below HR0.out HB.out)); (case side2 => exact HC0.out); rintro e w19 ⟨rfl, hb⟩; have n0_ := aS (below_step (sW HB.out) hb); clear HB; have HB := n0_; clear n0_; (try clear hb); (try clear hb2); (try clear hk); (try clear hi)) | (go_at_call 22; (with_reducible refine (impl_ReadDecimal.calls k t282 t283 t284 _ ?side1 A9.out).mono ?_); (case side1 => exact Gnd.Tab.on hT (sW HB.out)); rintro e w20 ⟨rfl, hb⟩; have n0_ := aS (below_step (sW HB.out) hb); clear HB; have HB := n0_; clear n0_; (try clear hb); (try clear hb2); (try clear hk); (try clear hi)) | (go_at_call 21; (with_reducible refine (spec_ReadDecimal.calls k t282 t285 t286 _ A10.out).mono ?_); rintro e w21 ⟨rfl, hb⟩; have n0_ := aS (below_step (sW HB.out) hb); clear HB; have HB := n0_; clear n0_; (try clear hb); (try clear hb2); (try clear hk); (try clear hi)) | (go_at_call 45; (with_reducible refine (spec_DrawSplitWords.calls k _ _ l0 t287 _ ?side1 ?side2 A11.out).mono ?_); (case side1 => exact sC (Kd.C_below HR0.out HB.out)); (case side2 => exact HC0.out); rintro e w22 ⟨rfl, hb⟩; have n0_ := aS (below_step (sW HB.out) hb); clear HB; have HB := n0_; clear n0_; (try clear hb); (try clear hb2); (try clear hk); (try clear hi)) | (go_at_call 24; (with_reducible refine (impl_SplitWords.calls k t287 t288 _ ?side1 A12.out).mono ?_); (case side1 => exact Gnd.Max.on hM (sW HB.out)); rintro e w23 ⟨v289, rfl, ho0, hb⟩; have n0_ := aS (Kd.R_lower ho0 (below_size (sW HB.out))); have n1_ := aS (below_step (sW HB.out) hb); clear HB; have HO290 := n0_; have HB := n1_; clear n0_ n1_; (try clear hb); (try clear hb2); (try clear hk); (try clear hi); (try clear ho0)) | (go_at_call 46; (with_reducible refine (spec_DrawIsName.calls _ _ l0 t291 _ ?side1 ?side2 A13.out).mono ?_); (case side1 => exact sC (Kd.C_below HR0.out HB.out)); (case side2 => exact HC0.out); rintro e w24 ⟨rfl, hb⟩; have n0_ := aS (Kd.R_below (sR HO290.out) hb); have n1_ := aS (below_step (sW HB.out) hb); clear HO290 HB; have HO290 := n0_; have HB := n1_; clear n0_ n1_; (try clear hb); (try clear hb2); (try clear hk); (try clear hi)) | (go_at_call 47; (with_reducible refine (spec_DrawCodeName.calls _ _ l0 t292 _ ?side1 ?side2 A14.out).mono ?_); (case side1 => exact sC (Kd.C_below HR0.out HB.out)); (case side2 => exact HC0.out); rintro e w25 ⟨rfl, hb⟩; have n0_ := aS (Kd.R_below (sR HO290.out) hb); have n1_ := aS (below_step (sW HB.out) hb); clear HO290 HB; have HO290 := n0_; have HB := n1_; clear n0_ n1_; (try clear hb); (try clear hb2); (try clear hk); (try clear hi))))
  (try simp only [Act.put, List.setIfInBounds_toArray, List.set_cons_zero, List.set_cons_succ])
  go_cut [84] (fun v84 wc => ∃ (kq : Nat) (x84_14 : Bool), v84 = .bool x84_14 ∧ Aside0 (laws_FnDecimals.j0 kq t278 t280 t281 t288 t292 x84_14 = some r) ∧ Aside0 (kq ≤ k) ∧ Aside0 (Kd.R Kd.string 9 wc w.heap.size (fun _ => True) v289 t288) ∧ Aside0 (Below w.heap.size w wc))
  case first =>
   have H := HC15.out
   clear HC15
   replace H := Option.bind_eq_some_iff.mp H
   obtain ⟨t293, A260, H⟩ := H
   replace H : (if t279.toList = t293.toList then (if t283 = t285 then (if (t284 != t286) = true then (laws_FnDecimals.j0 k t278 t280 t281 t288 t292 true) else ((spec_SplitWords.f k t287).bind fun t294 => ((laws_f6texts.f k t288 t294).bind fun t297 => (if t297 = true then ((impl_IsName.f k t291).bind fun t298 => ((spec_IsName.f k t291).bind fun t299 => (if (t298 != t299) = true then (laws_FnDecimals.j0 k t278 t280 t281 t288 t292 true) else ((impl_CodeName.f t292).bind fun t300 => ((spec_CodeName.f t292).bind fun t301 => (laws_FnDecimals.j0 k t278 t280 t281 t288 t292 (t300.toList != t301.toList))))))) else (laws_FnDecimals.j0 k t278 t280 t281 t288 t292 true))))) else (laws_FnDecimals.j0 k t278 t280 t281 t288 t292 true)) else (laws_FnDecimals.j0 k t278 t280 t281 t288 t292 true)) = some r := H
   have A26 := aS A260
   clear A260
   by_cases c27 : t279.toList = t293.toList
   rotate_left
   ·
    rw [if_neg c27] at H
    have c27b0 : (t279.toList == t293.toList) = false := beq_eq_false_iff_ne.mpr c27
    have c27b1 : (t279.toList != t293.toList) = true := bne_iff_ne.mpr c27
    (first | rw [c27b0] | (simp only [i64_w, i32_w]; rw [c27b0]) | (rw [c27b2]; simp only [Bool.not_false, Bool.not_true]) | skip)
    have H' := aS H
    clear H
    go_wp2_with (first | (go_at_call 19; (with_reducible refine (spec_Decimal.calls k t278 t293 _ A26.out).mono ?_); rintro e w54 ⟨rfl, hb⟩; have n0_ := aS (Kd.R_below (sR HO290.out) hb); have n1_ := aS (below_step (sW HB.out) hb); clear HO290 HB; have HO290 := n0_; have HB := n1_; clear n0_ n1_; (try clear hb); (try clear hb2); (try clear hk); (try clear hi)))
    repeat (go_quiet (first | (go_at_call 19; (with_reducible refine (spec_Decimal.calls k t278 t293 _ A26.out).mono ?_); rintro e w54 ⟨rfl, hb⟩; have n0_ := aS (Kd.R_below (sR HO290.out) hb); have n1_ := aS (below_step (sW HB.out) hb); clear HO290 HB; have HO290 := n0_; have HB := n1_; clear n0_ n1_; (try clear hb); (try clear hb2); (try clear hk); (try clear hi))); try go_wp2_with (first | (go_at_call 19; (with_reducible refine (spec_Decimal.calls k t278 t293 _ A26.out).mono ?_); rintro e w54 ⟨rfl, hb⟩; have n0_ := aS (Kd.R_below (sR HO290.out) hb); have n1_ := aS (below_step (sW HB.out) hb); clear HO290 HB; have HO290 := n0_; have HB := n1_; clear n0_ n1_; (try clear hb); (try clear hb2); (try clear hk); (try clear hi))))
    go_meet
    case rel => exact ⟨_, (true), (by first | rfl | (simp; done) | (simp [*]; done) | (simp only [i64_w]; done) | (simp [i64_w]; done)), H', ⟨by first | omega | exact Nat.le_refl _⟩, ⟨by (with_reducible repeat (first | apply Kd.R_alloc | apply Kd.R_drewN | apply Kd.R_drew)); exact HO290.out⟩, ⟨by repeat (first | (with_reducible first | exact HB.out | apply below_alloc | apply pw_below_drewN | apply below_drew1) | exact HB.out)⟩⟩
   rw [if_pos c27] at H
   have c27b0 : (t279.toList == t293.toList) = true := beq_iff_eq.mpr c27
   have c27b1 : (t279.toList != t293.toList) = false := bne_eq_false_iff_eq.mpr c27
   clear c27
   (first | rw [c27b0] | (simp only [i64_w, i32_w]; rw [c27b0]) | (rw [c27b2]; simp only [Bool.not_false, Bool.not_true]) | skip)
   by_cases c28 : t283 = t285
   rotate_left
   ·
    rw [if_neg c28] at H
    have c28b0 : (t283 == t285) = false := beq_eq_false_iff_ne.mpr c28
    have c28b1 : (t283 != t285) = true := bne_iff_ne.mpr c28
    have H' := aS H
    clear H
    go_wp2_with (first | (go_at_call 19; (with_reducible refine (spec_Decimal.calls k t278 t293 _ A26.out).mono ?_); rintro e w53 ⟨rfl, hb⟩; have n0_ := aS (Kd.R_below (sR HO290.out) hb); have n1_ := aS (below_step (sW HB.out) hb); clear HO290 HB; have HO290 := n0_; have HB := n1_; clear n0_ n1_; (try clear hb); (try clear hb2); (try clear hk); (try clear hi)))
    repeat (go_quiet (first | (go_at_call 19; (with_reducible refine (spec_Decimal.calls k t278 t293 _ A26.out).mono ?_); rintro e w53 ⟨rfl, hb⟩; have n0_ := aS (Kd.R_below (sR HO290.out) hb); have n1_ := aS (below_step (sW HB.out) hb); clear HO290 HB; have HO290 := n0_; have HB := n1_; clear n0_ n1_; (try clear hb); (try clear hb2); (try clear hk); (try clear hi))); try go_wp2_with (first | (go_at_call 19; (with_reducible refine (spec_Decimal.calls k t278 t293 _ A26.out).mono ?_); rintro e w53 ⟨rfl, hb⟩; have n0_ := aS (Kd.R_below (sR HO290.out) hb); have n1_ := aS (below_step (sW HB.out) hb); clear HO290 HB; have HO290 := n0_; have HB := n1_; clear n0_ n1_; (try clear hb); (try clear hb2); (try clear hk); (try clear hi))))
    go_meet
    case rel => exact ⟨_, (true), (by first | rfl | (simp; done) | (simp [*]; done) | (simp only [i64_w]; done) | (simp [i64_w]; done)), H', ⟨by first | omega | exact Nat.le_refl _⟩, ⟨by (with_reducible repeat (first | apply Kd.R_alloc | apply Kd.R_drewN | apply Kd.R_drew)); exact HO290.out⟩, ⟨by repeat (first | (with_reducible first | exact HB.out | apply below_alloc | apply pw_below_drewN | apply below_drew1) | exact HB.out)⟩⟩
   rw [if_pos c28] at H
   have c28b0 : (t283 == t285) = true := beq_iff_eq.mpr c28
   have c28b1 : (t283 != t285) = false := bne_eq_false_iff_eq.mpr c28
   clear c28
   by_cases c29 : (t284 != t286) = true
   ·
    rw [if_pos c29] at H
    have c29b0 : (t284 != t286) = true := c29
    (try (have c29b1 : decide (t284 = t286) = false := by simpa using c29))
    (try (have c29b2 : (t284 == t286) = false := by simpa using c29))
    (try (have c29b3 : ¬ (t284 = t286) := by simpa using c29))
    clear c29
    have H' := aS H
    clear H
    go_wp2_with (first | (go_at_call 19; (with_reducible refine (spec_Decimal.calls k t278 t293 _ A26.out).mono ?_); rintro e w30 ⟨rfl, hb⟩; have n0_ := aS (Kd.R_below (sR HO290.out) hb); have n1_ := aS (below_step (sW HB.out) hb); clear HO290 HB; have HO290 := n0_; have HB := n1_; clear n0_ n1_; (try clear hb); (try clear hb2); (try clear hk); (try clear hi)))
    repeat (go_quiet (first | (go_at_call 19; (with_reducible refine (spec_Decimal.calls k t278 t293 _ A26.out).mono ?_); rintro e w30 ⟨rfl, hb⟩; have n0_ := aS (Kd.R_below (sR HO290.out) hb); have n1_ := aS (below_step (sW HB.out) hb); clear HO290 HB; have HO290 := n0_; have HB := n1_; clear n0_ n1_; (try clear hb); (try clear hb2); (try clear hk); (try clear hi))); try go_wp2_with (first | (go_at_call 19; (with_reducible refine (spec_Decimal.calls k t278 t293 _ A26.out).mono ?_); rintro e w30 ⟨rfl, hb⟩; have n0_ := aS (Kd.R_below (sR HO290.out) hb); have n1_ := aS (below_step (sW HB.out) hb); clear HO290 HB; have HO290 := n0_; have HB := n1_; clear n0_ n1_; (try clear hb); (try clear hb2); (try clear hk); (try clear hi))))
    go_meet
    case rel => exact ⟨_, (true), (by first | rfl | (simp; done) | (simp [*]; done) | (simp only [i64_w]; done) | (simp [i64_w]; done)), H', ⟨by first | omega | exact Nat.le_refl _⟩, ⟨by (with_reducible repeat (first | apply Kd.R_alloc | apply Kd.R_drewN | apply Kd.R_drew)); exact HO290.out⟩, ⟨by repeat (first | (with_reducible first | exact HB.out | apply below_alloc | apply pw_below_drewN | apply below_drew1) | exact HB.out)⟩⟩
   rw [if_neg c29] at H
   have c29b0 : (t284 != t286) = false := by simpa using c29
   (try (have c29b1 : decide (t284 = t286) = true := by simpa using c29))
   (try (have c29b2 : (t284 == t286) = true := by simpa using c29))
   clear c29
   replace H := Option.bind_eq_some_iff.mp H
   obtain ⟨t294, A310, H⟩ := H
   replace H : ((laws_f6texts.f k t288 t294).bind fun t297 => (if t297 = true then ((impl_IsName.f k t291).bind fun t298 => ((spec_IsName.f k t291).bind fun t299 => (if (t298 != t299) = true then (laws_FnDecimals.j0 k t278 t280 t281 t288 t292 true) else ((impl_CodeName.f t292).bind fun t300 => ((spec_CodeName.f t292).bind fun t301 => (laws_FnDecimals.j0 k t278 t280 t281 t288 t292 (t300.toList != t301.toList))))))) else (laws_FnDecimals.j0 k t278 t280 t281 t288 t292 true))) = some r := H
   have A31 := aS A310
   clear A310
   replace H := Option.bind_eq_some_iff.mp H
   obtain ⟨t297, A320, H⟩ := H
   replace H : (if t297 = true then ((impl_IsName.f k t291).bind fun t298 => ((spec_IsName.f k t291).bind fun t299 => (if (t298 != t299) = true then (laws_FnDecimals.j0 k t278 t280 t281 t288 t292 true) else ((impl_CodeName.f t292).bind fun t300 => ((spec_CodeName.f t292).bind fun t301 => (laws_FnDecimals.j0 k t278 t280 t281 t288 t292 (t300.toList != t301.toList))))))) else (laws_FnDecimals.j0 k t278 t280 t281 t288 t292 true)) = some r := H
   have A32 := aS A320
   clear A320
   by_cases c33 : t297 = true
   rotate_left
   ·
    replace c33 := Bool.eq_false_iff.mpr c33
    subst c33
    have H1 : (laws_FnDecimals.j0 k t278 t280 t281 t288 t292 true) = some r := by rw [if_neg (show ¬ (false = true) by decide)] at H; exact H
    clear H
    have H := H1
    clear H1
    have H' := aS H
    clear H
    go_wp2_with (first | (go_at_call 19; (with_reducible refine (spec_Decimal.calls k t278 t293 _ A26.out).mono ?_); rintro e w49 ⟨rfl, hb⟩; have n0_ := aS (Kd.R_below (sR HO290.out) hb); have n1_ := aS (below_step (sW HB.out) hb); clear HO290 HB; have HO290 := n0_; have HB := n1_; clear n0_ n1_; (try clear hb); (try clear hb2); (try clear hk); (try clear hi)) | (go_at_call 23; (with_reducible refine (spec_SplitWords.calls k t287 t294 _ A31.out).mono ?_); rintro e w50 ⟨v295, rfl, ho0, hb⟩; have n0_ := aS (Kd.R_elder' (sR HO290.out) (Kd.R_base ho0) hb); have n1_ := aS (Kd.R_lower (Kd.R_new' ho0 (Kd.R_lt (sR HO290.out))) (below_size (sW HB.out))); have n2_ := aS (below_step (sW HB.out) hb); clear HO290 HB; have HO290 := n0_; have HO296 := n1_; have HB := n2_; clear n0_ n1_ n2_; (try clear hb); (try clear hb2); (try clear hk); (try clear hi); (try clear ho0); obtain ⟨Ao51, co51, eo51⟩ := Kd.R_slice HO290.out; subst eo51; obtain ⟨Ao52, co52, eo52⟩ := Kd.R_slice HO296.out; subst eo52) | (go_at_call 48; (with_reducible refine (laws_f6texts.calls k _ _ t288 _ _ t294 false _ ?side1 ?side2 ?side3 ?side4 A32.out).mono ?_); (case side1 => exact sC (Kd.R_reads' HO290.out).2.2); (case side2 => exact (Kd.R_reads' HO290.out).2.1); (case side3 => exact sC (Kd.R_reads' HO296.out).2.2); (case side4 => exact (Kd.R_reads' HO296.out).2.1); rintro e w' ⟨rfl, ⟨nd, rfl⟩⟩; (try first | exact ⟨rfl, _, World.drewN_drewN _ _ _⟩ | exact ⟨rfl, _, Eq.trans (World.drewN_drewN _ _ _) (congrArg (World.drewN _) (Nat.add_assoc _ _ _))⟩)))
    repeat (go_quiet (first | (go_at_call 19; (with_reducible refine (spec_Decimal.calls k t278 t293 _ A26.out).mono ?_); rintro e w49 ⟨rfl, hb⟩; have n0_ := aS (Kd.R_below (sR HO290.out) hb); have n1_ := aS (below_step (sW HB.out) hb); clear HO290 HB; have HO290 := n0_; have HB := n1_; clear n0_ n1_; (try clear hb); (try clear hb2); (try clear hk); (try clear hi)) | (go_at_call 23; (with_reducible refine (spec_SplitWords.calls k t287 t294 _ A31.out).mono ?_); rintro e w50 ⟨v295, rfl, ho0, hb⟩; have n0_ := aS (Kd.R_elder' (sR HO290.out) (Kd.R_base ho0) hb); have n1_ := aS (Kd.R_lower (Kd.R_new' ho0 (Kd.R_lt (sR HO290.out))) (below_size (sW HB.out))); have n2_ := aS (below_step (sW HB.out) hb); clear HO290 HB; have HO290 := n0_; have HO296 := n1_; have HB := n2_; clear n0_ n1_ n2_; (try clear hb); (try clear hb2); (try clear hk); (try clear hi); (try clear ho0); obtain ⟨Ao51, co51, eo51⟩ := Kd.R_slice HO290.out; subst eo51; obtain ⟨Ao52, co52, eo52⟩ := Kd.R_slice HO296.out; subst eo52) | (go_at_call 48; (with_reducible refine (laws_f6texts.calls k _ _ t288 _ _ t294 false _ ?side1 ?side2 ?side3 ?side4 A32.out).mono ?_); (case side1 => exact sC (Kd.R_reads' HO290.out).2.2); (case side2 => exact (Kd.R_reads' HO290.out).2.1); (case side3 => exact sC (Kd.R_reads' HO296.out).2.2); (case side4 => exact (Kd.R_reads' HO296.out).2.1); rintro e w' ⟨rfl, ⟨nd, rfl⟩⟩; (try first | exact ⟨rfl, _, World.drewN_drewN _ _ _⟩ | exact ⟨rfl, _, Eq.trans (World.drewN_drewN _ _ _) (congrArg (World.drewN _) (Nat.add_assoc _ _ _))⟩))); try go_wp2_with (first | (go_at_call 19; (with_reducible refine (spec_Decimal.calls k t278 t293 _ A26.out).mono ?_); rintro e w49 ⟨rfl, hb⟩; have n0_ := aS (Kd.R_below (sR HO290.out) hb); have n1_ := aS (below_step (sW HB.out) hb); clear HO290 HB; have HO290 := n0_; have HB := n1_; clear n0_ n1_; (try clear hb); (try clear hb2); (try clear hk); (try clear hi)) | (go_at_call 23; (with_reducible refine (spec_SplitWords.calls k t287 t294 _ A31.out).mono ?_); rintro e w50 ⟨v295, rfl, ho0, hb⟩; have n0_ := aS (Kd.R_elder' (sR HO290.out) (Kd.R_base ho0) hb); have n1_ := aS (Kd.R_lower (Kd.R_new' ho0 (Kd.R_lt (sR HO290.out))) (below_size (sW HB.out))); have n2_ := aS (below_step (sW HB.out) hb); clear HO290 HB; have HO290 := n0_; have HO296 := n1_; have HB := n2_; clear n0_ n1_ n2_; (try clear hb); (try clear hb2); (try clear hk); (try clear hi); (try clear ho0); obtain ⟨Ao51, co51, eo51⟩ := Kd.R_slice HO290.out; subst eo51; obtain ⟨Ao52, co52, eo52⟩ := Kd.R_slice HO296.out; subst eo52) | (go_at_call 48; (with_reducible refine (laws_f6texts.calls k _ _ t288 _ _ t294 false _ ?side1 ?side2 ?side3 ?side4 A32.out).mono ?_); (case side1 => exact sC (Kd.R_reads' HO290.out).2.2); (case side2 => exact (Kd.R_reads' HO290.out).2.1); (case side3 => exact sC (Kd.R_reads' HO296.out).2.2); (case side4 => exact (Kd.R_reads' HO296.out).2.1); rintro e w' ⟨rfl, ⟨nd, rfl⟩⟩; (try first | exact ⟨rfl, _, World.drewN_drewN _ _ _⟩ | exact ⟨rfl, _, Eq.trans (World.drewN_drewN _ _ _) (congrArg (World.drewN _) (Nat.add_assoc _ _ _))⟩))))
    go_meet
    case rel => exact ⟨_, (true), (by first | rfl | (simp; done) | (simp [*]; done) | (simp only [i64_w]; done) | (simp [i64_w]; done)), H', ⟨by first | omega | exact Nat.le_refl _⟩, ⟨by (with_reducible repeat (first | apply Kd.R_alloc | apply Kd.R_drewN | apply Kd.R_drew)); exact Kd.R_mono HO290.out (fun _ hk => trivial)⟩, ⟨by repeat (first | (with_reducible first | exact HB.out | apply below_alloc | apply pw_below_drewN | apply below_drew1) | exact HB.out)⟩⟩
   subst c33
   have H1 : ((impl_IsName.f k t291).bind fun t298 => ((spec_IsName.f k t291).bind fun t299 => (if (t298 != t299) = true then (laws_FnDecimals.j0 k t278 t280 t281 t288 t292 true) else ((impl_CodeName.f t292).bind fun t300 => ((spec_CodeName.f t292).bind fun t301 => (laws_FnDecimals.j0 k t278 t280 t281 t288 t292 (t300.toList != t301.toList))))))) = some r := by rw [if_pos rfl] at H; exact H
   clear H
   have H := H1
   clear H1
   replace H := Option.bind_eq_some_iff.mp H
   obtain ⟨t298, A340, H⟩ := H
   replace H : ((spec_IsName.f k t291).bind fun t299 => (if (t298 != t299) = true then (laws_FnDecimals.j0 k t278 t280 t281 t288 t292 true) else ((impl_CodeName.f t292).bind fun t300 => ((spec_CodeName.f t292).bind fun t301 => (laws_FnDecimals.j0 k t278 t280 t281 t288 t292 (t300.toList != t301.toList)))))) = some r := H
   have A34 := aS A340
   clear A340
   replace H := Option.bind_eq_some_iff.mp H
   obtain ⟨t299, A350, H⟩ := H
   replace H : (if (t298 != t299) = true then (laws_FnDecimals.j0 k t278 t280 t281 t288 t292 true) else ((impl_CodeName.f t292).bind fun t300 => ((spec_CodeName.f t292).bind fun t301 => (laws_FnDecimals.j0 k t278 t280 t281 t288 t292 (t300.toList != t301.toList))))) = some r := H
   have A35 := aS A350
   clear A350
   by_cases c36 : (t298 != t299) = true
   ·
    rw [if_pos c36] at H
    have c36b0 : (t298 != t299) = true := c36
    (try (have c36b1 : decide (t298 = t299) = false := by simpa using c36))
    (try (have c36b2 : (t298 == t299) = false := by simpa using c36))
    (try (have c36b3 : ¬ (t298 = t299) := by simpa using c36))
    clear c36
    have H' := aS H
    clear H
    go_wp2_with (first | (go_at_call 19; (with_reducible refine (spec_Decimal.calls k t278 t293 _ A26.out).mono ?_); rintro e w37 ⟨rfl, hb⟩; have n0_ := aS (Kd.R_below (sR HO290.out) hb); have n1_ := aS (below_step (sW HB.out) hb); clear HO290 HB; have HO290 := n0_; have HB := n1_; clear n0_ n1_; (try clear hb); (try clear hb2); (try clear hk); (try clear hi)) | (go_at_call 23; (with_reducible refine (spec_SplitWords.calls k t287 t294 _ A31.out).mono ?_); rintro e w38 ⟨v295, rfl, ho0, hb⟩; have n0_ := aS (Kd.R_elder' (sR HO290.out) (Kd.R_base ho0) hb); have n1_ := aS (Kd.R_lower (Kd.R_new' ho0 (Kd.R_lt (sR HO290.out))) (below_size (sW HB.out))); have n2_ := aS (below_step (sW HB.out) hb); clear HO290 HB; have HO290 := n0_; have HO296 := n1_; have HB := n2_; clear n0_ n1_ n2_; (try clear hb); (try clear hb2); (try clear hk); (try clear hi); (try clear ho0); obtain ⟨Ao39, co39, eo39⟩ := Kd.R_slice HO290.out; subst eo39; obtain ⟨Ao40, co40, eo40⟩ := Kd.R_slice HO296.out; subst eo40) | (go_at_call 48; (with_reducible refine (laws_f6texts.calls k _ _ t288 _ _ t294 true _ ?side1 ?side2 ?side3 ?side4 A32.out).mono ?_); (case side1 => exact sC (Kd.R_reads' HO290.out).2.2); (case side2 => exact (Kd.R_reads' HO290.out).2.1); (case side3 => exact sC (Kd.R_reads' HO296.out).2.2); (case side4 => exact (Kd.R_reads' HO296.out).2.1); rintro e w' ⟨rfl, ⟨nd, rfl⟩⟩; (try first | exact ⟨rfl, _, World.drewN_drewN _ _ _⟩ | exact ⟨rfl, _, Eq.trans (World.drewN_drewN _ _ _) (congrArg (World.drewN _) (Nat.add_assoc _ _ _))⟩)) | (go_at_call 49; (with_reducible refine (impl_IsName.calls k t291 t298 _ A34.out).mono ?_); rintro e w' ⟨rfl, ⟨nd, rfl⟩⟩; (try first | exact ⟨rfl, _, World.drewN_drewN _ _ _⟩ | exact ⟨rfl, _, Eq.trans (World.drewN_drewN _ _ _) (congrArg (World.drewN _) (Nat.add_assoc _ _ _))⟩)) | (go_at_call 50; (with_reducible refine (spec_IsName.calls k t291 t299 _ A35.out).mono ?_); rintro e w' ⟨rfl, ⟨nd, rfl⟩⟩; (try first | exact ⟨rfl, _, World.drewN_drewN _ _ _⟩ | exact ⟨rfl, _, Eq.trans (World.drewN_drewN _ _ _) (congrArg (World.drewN _) (Nat.add_assoc _ _ _))⟩)))
    repeat (go_quiet (first | (go_at_call 19; (with_reducible refine (spec_Decimal.calls k t278 t293 _ A26.out).mono ?_); rintro e w37 ⟨rfl, hb⟩; have n0_ := aS (Kd.R_below (sR HO290.out) hb); have n1_ := aS (below_step (sW HB.out) hb); clear HO290 HB; have HO290 := n0_; have HB := n1_; clear n0_ n1_; (try clear hb); (try clear hb2); (try clear hk); (try clear hi)) | (go_at_call 23; (with_reducible refine (spec_SplitWords.calls k t287 t294 _ A31.out).mono ?_); rintro e w38 ⟨v295, rfl, ho0, hb⟩; have n0_ := aS (Kd.R_elder' (sR HO290.out) (Kd.R_base ho0) hb); have n1_ := aS (Kd.R_lower (Kd.R_new' ho0 (Kd.R_lt (sR HO290.out))) (below_size (sW HB.out))); have n2_ := aS (below_step (sW HB.out) hb); clear HO290 HB; have HO290 := n0_; have HO296 := n1_; have HB := n2_; clear n0_ n1_ n2_; (try clear hb); (try clear hb2); (try clear hk); (try clear hi); (try clear ho0); obtain ⟨Ao39, co39, eo39⟩ := Kd.R_slice HO290.out; subst eo39; obtain ⟨Ao40, co40, eo40⟩ := Kd.R_slice HO296.out; subst eo40) | (go_at_call 48; (with_reducible refine (laws_f6texts.calls k _ _ t288 _ _ t294 true _ ?side1 ?side2 ?side3 ?side4 A32.out).mono ?_); (case side1 => exact sC (Kd.R_reads' HO290.out).2.2); (case side2 => exact (Kd.R_reads' HO290.out).2.1); (case side3 => exact sC (Kd.R_reads' HO296.out).2.2); (case side4 => exact (Kd.R_reads' HO296.out).2.1); rintro e w' ⟨rfl, ⟨nd, rfl⟩⟩; (try first | exact ⟨rfl, _, World.drewN_drewN _ _ _⟩ | exact ⟨rfl, _, Eq.trans (World.drewN_drewN _ _ _) (congrArg (World.drewN _) (Nat.add_assoc _ _ _))⟩)) | (go_at_call 49; (with_reducible refine (impl_IsName.calls k t291 t298 _ A34.out).mono ?_); rintro e w' ⟨rfl, ⟨nd, rfl⟩⟩; (try first | exact ⟨rfl, _, World.drewN_drewN _ _ _⟩ | exact ⟨rfl, _, Eq.trans (World.drewN_drewN _ _ _) (congrArg (World.drewN _) (Nat.add_assoc _ _ _))⟩)) | (go_at_call 50; (with_reducible refine (spec_IsName.calls k t291 t299 _ A35.out).mono ?_); rintro e w' ⟨rfl, ⟨nd, rfl⟩⟩; (try first | exact ⟨rfl, _, World.drewN_drewN _ _ _⟩ | exact ⟨rfl, _, Eq.trans (World.drewN_drewN _ _ _) (congrArg (World.drewN _) (Nat.add_assoc _ _ _))⟩))); try go_wp2_with (first | (go_at_call 19; (with_reducible refine (spec_Decimal.calls k t278 t293 _ A26.out).mono ?_); rintro e w37 ⟨rfl, hb⟩; have n0_ := aS (Kd.R_below (sR HO290.out) hb); have n1_ := aS (below_step (sW HB.out) hb); clear HO290 HB; have HO290 := n0_; have HB := n1_; clear n0_ n1_; (try clear hb); (try clear hb2); (try clear hk); (try clear hi)) | (go_at_call 23; (with_reducible refine (spec_SplitWords.calls k t287 t294 _ A31.out).mono ?_); rintro e w38 ⟨v295, rfl, ho0, hb⟩; have n0_ := aS (Kd.R_elder' (sR HO290.out) (Kd.R_base ho0) hb); have n1_ := aS (Kd.R_lower (Kd.R_new' ho0 (Kd.R_lt (sR HO290.out))) (below_size (sW HB.out))); have n2_ := aS (below_step (sW HB.out) hb); clear HO290 HB; have HO290 := n0_; have HO296 := n1_; have HB := n2_; clear n0_ n1_ n2_; (try clear hb); (try clear hb2); (try clear hk); (try clear hi); (try clear ho0); obtain ⟨Ao39, co39, eo39⟩ := Kd.R_slice HO290.out; subst eo39; obtain ⟨Ao40, co40, eo40⟩ := Kd.R_slice HO296.out; subst eo40) | (go_at_call 48; (with_reducible refine (laws_f6texts.calls k _ _ t288 _ _ t294 true _ ?side1 ?side2 ?side3 ?side4 A32.out).mono ?_); (case side1 => exact sC (Kd.R_reads' HO290.out).2.2); (case side2 => exact (Kd.R_reads' HO290.out).2.1); (case side3 => exact sC (Kd.R_reads' HO296.out).2.2); (case side4 => exact (Kd.R_reads' HO296.out).2.1); rintro e w' ⟨rfl, ⟨nd, rfl⟩⟩; (try first | exact ⟨rfl, _, World.drewN_drewN _ _ _⟩ | exact ⟨rfl, _, Eq.trans (World.drewN_drewN _ _ _) (congrArg (World.drewN _) (Nat.add_assoc _ _ _))⟩)) | (go_at_call 49; (with_reducible refine (impl_IsName.calls k t291 t298 _ A34.out).mono ?_); rintro e w' ⟨rfl, ⟨nd, rfl⟩⟩; (try first | exact ⟨rfl, _, World.drewN_drewN _ _ _⟩ | exact ⟨rfl, _, Eq.trans (World.drewN_drewN _ _ _) (congrArg (World.drewN _) (Nat.add_assoc _ _ _))⟩)) | (go_at_call 50; (with_reducible refine (spec_IsName.calls k t291 t299 _ A35.out).mono ?_); rintro e w' ⟨rfl, ⟨nd, rfl⟩⟩; (try first | exact ⟨rfl, _, World.drewN_drewN _ _ _⟩ | exact ⟨rfl, _, Eq.trans (World.drewN_drewN _ _ _) (congrArg (World.drewN _) (Nat.add_assoc _ _ _))⟩))))
    go_meet
    case rel => exact ⟨_, (true), (by first | rfl | (simp; done) | (simp [*]; done) | (simp only [i64_w]; done) | (simp [i64_w]; done)), H', ⟨by first | omega | exact Nat.le_refl _⟩, ⟨by (with_reducible repeat (first | apply Kd.R_alloc | apply Kd.R_drewN | apply Kd.R_drew)); exact Kd.R_mono HO290.out (fun _ hk => trivial)⟩, ⟨by repeat (first | (with_reducible first | exact HB.out | apply below_alloc | apply pw_below_drewN | apply below_drew1) | exact HB.out)⟩⟩
   rw [if_neg c36] at H
   have c36b0 : (t298 != t299) = false := by simpa using c36
   (try (have c36b1 : decide (t298 = t299) = true := by simpa using c36))
   (try (have c36b2 : (t298 == t299) = true := by simpa using c36))
   clear c36
   replace H := Option.bind_eq_some_iff.mp H
   obtain ⟨t300, A410, H⟩ := H
   replace H : ((spec_CodeName.f t292).bind fun t301 => (laws_FnDecimals.j0 k t278 t280 t281 t288 t292 (t300.toList != t301.toList))) = some r := H
   have A41 := aS A410
   clear A410
   replace H := Option.bind_eq_some_iff.mp H
   obtain ⟨t301, A420, H⟩ := H
   replace H : (laws_FnDecimals.j0 k t278 t280 t281 t288 t292 (t300.toList != t301.toList)) = some r := H
   have A42 := aS A420
   clear A420
   have H' := aS H
   clear H
   go_wp2_with (first | (go_at_call 19; (with_reducible refine (spec_Decimal.calls k t278 t293 _ A26.out).mono ?_); rintro e w43 ⟨rfl, hb⟩; have n0_ := aS (Kd.R_below (sR HO290.out) hb); have n1_ := aS (below_step (sW HB.out) hb); clear HO290 HB; have HO290 := n0_; have HB := n1_; clear n0_ n1_; (try clear hb); (try clear hb2); (try clear hk); (try clear hi)) | (go_at_call 23; (with_reducible refine (spec_SplitWords.calls k t287 t294 _ A31.out).mono ?_); rintro e w44 ⟨v295, rfl, ho0, hb⟩; have n0_ := aS (Kd.R_elder' (sR HO290.out) (Kd.R_base ho0) hb); have n1_ := aS (Kd.R_lower (Kd.R_new' ho0 (Kd.R_lt (sR HO290.out))) (below_size (sW HB.out))); have n2_ := aS (below_step (sW HB.out) hb); clear HO290 HB; have HO290 := n0_; have HO296 := n1_; have HB := n2_; clear n0_ n1_ n2_; (try clear hb); (try clear hb2); (try clear hk); (try clear hi); (try clear ho0); obtain ⟨Ao45, co45, eo45⟩ := Kd.R_slice HO290.out; subst eo45; obtain ⟨Ao46, co46, eo46⟩ := Kd.R_slice HO296.out; subst eo46) | (go_at_call 48; (with_reducible refine (laws_f6texts.calls k _ _ t288 _ _ t294 true _ ?side1 ?side2 ?side3 ?side4 A32.out).mono ?_); (case side1 => exact sC (Kd.R_reads' HO290.out).2.2); (case side2 => exact (Kd.R_reads' HO290.out).2.1); (case side3 => exact sC (Kd.R_reads' HO296.out).2.2); (case side4 => exact (Kd.R_reads' HO296.out).2.1); rintro e w' ⟨rfl, ⟨nd, rfl⟩⟩; (try first | exact ⟨rfl, _, World.drewN_drewN _ _ _⟩ | exact ⟨rfl, _, Eq.trans (World.drewN_drewN _ _ _) (congrArg (World.drewN _) (Nat.add_assoc _ _ _))⟩)) | (go_at_call 49; (with_reducible refine (impl_IsName.calls k t291 t298 _ A34.out).mono ?_); rintro e w' ⟨rfl, ⟨nd, rfl⟩⟩; (try first | exact ⟨rfl, _, World.drewN_drewN _ _ _⟩ | exact ⟨rfl, _, Eq.trans (World.drewN_drewN _ _ _) (congrArg (World.drewN _) (Nat.add_assoc _ _ _))⟩)) | (go_at_call 50; (with_reducible refine (spec_IsName.calls k t291 t299 _ A35.out).mono ?_); rintro e w' ⟨rfl, ⟨nd, rfl⟩⟩; (try first | exact ⟨rfl, _, World.drewN_drewN _ _ _⟩ | exact ⟨rfl, _, Eq.trans (World.drewN_drewN _ _ _) (congrArg (World.drewN _) (Nat.add_assoc _ _ _))⟩)) | (go_at_call 51; (with_reducible refine (impl_CodeName.calls t292 t300 _ A41.out).mono ?_); rintro e w47 ⟨rfl, hb⟩; have n0_ := aS (Kd.R_below (sR HO290.out) hb); have n1_ := aS (Kd.R_below (sR HO296.out) hb); have n2_ := aS (below_step (sW HB.out) hb); clear HO290 HO296 HB; have HO290 := n0_; have HO296 := n1_; have HB := n2_; clear n0_ n1_ n2_; (try clear hb); (try clear hb2); (try clear hk); (try clear hi)) | (go_at_call 52; (with_reducible refine (spec_CodeName.calls t292 t301 _ A42.out).mono ?_); rintro e w48 ⟨rfl, hb⟩; have n0_ := aS (Kd.R_below (sR HO290.out) hb); have n1_ := aS (Kd.R_below (sR HO296.out) hb); have n2_ := aS (below_step (sW HB.out) hb); clear HO290 HO296 HB; have HO290 := n0_; have HO296 := n1_; have HB := n2_; clear n0_ n1_ n2_; (try clear hb); (try clear hb2); (try clear hk); (try clear hi)))
   repeat (go_quiet (first | (go_at_call 19; (with_reducible refine (spec_Decimal.calls k t278 t293 _ A26.out).mono ?_); rintro e w43 ⟨rfl, hb⟩; have n0_ := aS (Kd.R_below (sR HO290.out) hb); have n1_ := aS (below_step (sW HB.out) hb); clear HO290 HB; have HO290 := n0_; have HB := n1_; clear n0_ n1_; (try clear hb); (try clear hb2); (try clear hk); (try clear hi)) | (go_at_call 23; (with_reducible refine (spec_SplitWords.calls k t287 t294 _ A31.out).mono ?_); rintro e w44 ⟨v295, rfl, ho0, hb⟩; have n0_ := aS (Kd.R_elder' (sR HO290.out) (Kd.R_base ho0) hb); have n1_ := aS (Kd.R_lower (Kd.R_new' ho0 (Kd.R_lt (sR HO290.out))) (below_size (sW HB.out))); have n2_ := aS (below_step (sW HB.out) hb); clear HO290 HB; have HO290 := n0_; have HO296 := n1_; have HB := n2_; clear n0_ n1_ n2_; (try clear hb); (try clear hb2); (try clear hk); (try clear hi); (try clear ho0); obtain ⟨Ao45, co45, eo45⟩ := Kd.R_slice HO290.out; subst eo45; obtain ⟨Ao46, co46, eo46⟩ := Kd.R_slice HO296.out; subst eo46) | (go_at_call 48; (with_reducible refine (laws_f6texts.calls k _ _ t288 _ _ t294 true _ ?side1 ?side2 ?side3 ?side4 A32.out).mono ?_); (case side1 => exact sC (Kd.R_reads' HO290.out).2.2); (case side2 => exact (Kd.R_reads' HO290.out).2.1); (case side3 => exact sC (Kd.R_reads' HO296.out).2.2); (case side4 => exact (Kd.R_reads' HO296.out).2.1); rintro e w' ⟨rfl, ⟨nd, rfl⟩⟩; (try first | exact ⟨rfl, _, World.drewN_drewN _ _ _⟩ | exact ⟨rfl, _, Eq.trans (World.drewN_drewN _ _ _) (congrArg (World.drewN _) (Nat.add_assoc _ _ _))⟩)) | (go_at_call 49; (with_reducible refine (impl_IsName.calls k t291 t298 _ A34.out).mono ?_); rintro e w' ⟨rfl, ⟨nd, rfl⟩⟩; (try first | exact ⟨rfl, _, World.drewN_drewN _ _ _⟩ | exact ⟨rfl, _, Eq.trans (World.drewN_drewN _ _ _) (congrArg (World.drewN _) (Nat.add_assoc _ _ _))⟩)) | (go_at_call 50; (with_reducible refine (spec_IsName.calls k t291 t299 _ A35.out).mono ?_); rintro e w' ⟨rfl, ⟨nd, rfl⟩⟩; (try first | exact ⟨rfl, _, World.drewN_drewN _ _ _⟩ | exact ⟨rfl, _, Eq.trans (World.drewN_drewN _ _ _) (congrArg (World.drewN _) (Nat.add_assoc _ _ _))⟩)) | (go_at_call 51; (with_reducible refine (impl_CodeName.calls t292 t300 _ A41.out).mono ?_); rintro e w47 ⟨rfl, hb⟩; have n0_ := aS (Kd.R_below (sR HO290.out) hb); have n1_ := aS (Kd.R_below (sR HO296.out) hb); have n2_ := aS (below_step (sW HB.out) hb); clear HO290 HO296 HB; have HO290 := n0_; have HO296 := n1_; have HB := n2_; clear n0_ n1_ n2_; (try clear hb); (try clear hb2); (try clear hk); (try clear hi)) | (go_at_call 52; (with_reducible refine (spec_CodeName.calls t292 t301 _ A42.out).mono ?_); rintro e w48 ⟨rfl, hb⟩; have n0_ := aS (Kd.R_below (sR HO290.out) hb); have n1_ := aS (Kd.R_below (sR HO296.out) hb); have n2_ := aS (below_step (sW HB.out) hb); clear HO290 HO296 HB; have HO290 := n0_; have HO296 := n1_; have HB := n2_; clear n0_ n1_ n2_; (try clear hb); (try clear hb2); (try clear hk); (try clear hi))); try go_wp2_with (first | (go_at_call 19; (with_reducible refine (spec_Decimal.calls k t278 t293 _ A26.out).mono ?_); rintro e w43 ⟨rfl, hb⟩; have n0_ := aS (Kd.R_below (sR HO290.out) hb); have n1_ := aS (below_step (sW HB.out) hb); clear HO290 HB; have HO290 := n0_; have HB := n1_; clear n0_ n1_; (try clear hb); (try clear hb2); (try clear hk); (try clear hi)) | (go_at_call 23; (with_reducible refine (spec_SplitWords.calls k t287 t294 _ A31.out).mono ?_); rintro e w44 ⟨v295, rfl, ho0, hb⟩; have n0_ := aS (Kd.R_elder' (sR HO290.out) (Kd.R_base ho0) hb); have n1_ := aS (Kd.R_lower (Kd.R_new' ho0 (Kd.R_lt (sR HO290.out))) (below_size (sW HB.out))); have n2_ := aS (below_step (sW HB.out) hb); clear HO290 HB; have HO290 := n0_; have HO296 := n1_; have HB := n2_; clear n0_ n1_ n2_; (try clear hb); (try clear hb2); (try clear hk); (try clear hi); (try clear ho0); obtain ⟨Ao45, co45, eo45⟩ := Kd.R_slice HO290.out; subst eo45; obtain ⟨Ao46, co46, eo46⟩ := Kd.R_slice HO296.out; subst eo46) | (go_at_call 48; (with_reducible refine (laws_f6texts.calls k _ _ t288 _ _ t294 true _ ?side1 ?side2 ?side3 ?side4 A32.out).mono ?_); (case side1 => exact sC (Kd.R_reads' HO290.out).2.2); (case side2 => exact (Kd.R_reads' HO290.out).2.1); (case side3 => exact sC (Kd.R_reads' HO296.out).2.2); (case side4 => exact (Kd.R_reads' HO296.out).2.1); rintro e w' ⟨rfl, ⟨nd, rfl⟩⟩; (try first | exact ⟨rfl, _, World.drewN_drewN _ _ _⟩ | exact ⟨rfl, _, Eq.trans (World.drewN_drewN _ _ _) (congrArg (World.drewN _) (Nat.add_assoc _ _ _))⟩)) | (go_at_call 49; (with_reducible refine (impl_IsName.calls k t291 t298 _ A34.out).mono ?_); rintro e w' ⟨rfl, ⟨nd, rfl⟩⟩; (try first | exact ⟨rfl, _, World.drewN_drewN _ _ _⟩ | exact ⟨rfl, _, Eq.trans (World.drewN_drewN _ _ _) (congrArg (World.drewN _) (Nat.add_assoc _ _ _))⟩)) | (go_at_call 50; (with_reducible refine (spec_IsName.calls k t291 t299 _ A35.out).mono ?_); rintro e w' ⟨rfl, ⟨nd, rfl⟩⟩; (try first | exact ⟨rfl, _, World.drewN_drewN _ _ _⟩ | exact ⟨rfl, _, Eq.trans (World.drewN_drewN _ _ _) (congrArg (World.drewN _) (Nat.add_assoc _ _ _))⟩)) | (go_at_call 51; (with_reducible refine (impl_CodeName.calls t292 t300 _ A41.out).mono ?_); rintro e w47 ⟨rfl, hb⟩; have n0_ := aS (Kd.R_below (sR HO290.out) hb); have n1_ := aS (Kd.R_below (sR HO296.out) hb); have n2_ := aS (below_step (sW HB.out) hb); clear HO290 HO296 HB; have HO290 := n0_; have HO296 := n1_; have HB := n2_; clear n0_ n1_ n2_; (try clear hb); (try clear hb2); (try clear hk); (try clear hi)) | (go_at_call 52; (with_reducible refine (spec_CodeName.calls t292 t301 _ A42.out).mono ?_); rintro e w48 ⟨rfl, hb⟩; have n0_ := aS (Kd.R_below (sR HO290.out) hb); have n1_ := aS (Kd.R_below (sR HO296.out) hb); have n2_ := aS (below_step (sW HB.out) hb); clear HO290 HO296 HB; have HO290 := n0_; have HO296 := n1_; have HB := n2_; clear n0_ n1_ n2_; (try clear hb); (try clear hb2); (try clear hk); (try clear hi))))
   go_meet
   case rel => exact ⟨_, ((t300.toList != t301.toList)), (by first | rfl | (simp; done) | (simp [*]; done) | (simp only [i64_w]; done) | (simp [i64_w]; done)), H', ⟨by first | omega | exact Nat.le_refl _⟩, ⟨by (with_reducible repeat (first | apply Kd.R_alloc | apply Kd.R_drewN | apply Kd.R_drew)); exact Kd.R_mono HO290.out (fun _ hk => trivial)⟩, ⟨by repeat (first | (with_reducible first | exact HB.out | apply below_alloc | apply pw_below_drewN | apply below_drew1) | exact HB.out)⟩⟩
  case rest =>
   clear HC15
   (try clear c1); (try clear c2); (try clear p2); (try clear c3); (try clear c4); (try clear c11); (try clear c27); (try clear c27b0); (try clear c27b1); (try clear c27b2); (try clear c28); (try clear c28b0); (try clear c28b1); (try clear c29); (try clear c29b0); (try clear c29b1); (try clear c29b2); (try clear c33); (try clear c36); (try clear c36b0); (try clear c36b1); (try clear c36b2)
   obtain ⟨kq, x84_14, rfl, HA, HJ14, HO_13, HB⟩ := hcut
   cases kq with
   | zero => exact absurd HA.out (by simp [laws_FnDecimals.j0])
   | succ kj14 =>
    have H := HA.out
    clear HA
    simp only [laws_FnDecimals.j0] at H
    by_cases c55 : x84_14 = true
    ·
     subst c55
     have H1 : (some false) = some r := by rw [if_pos rfl] at H; exact H
     clear H
     have H := H1
     clear H1
     obtain rfl := Option.some.inj H
     go_wp2
     repeat (go_quiet (fail); try go_wp2)
     go_ret
     exact ⟨by first | rfl | (simp [errW_none, errW_some, i64_w]; done) | (simp [errW_none, errW_some] <;> rfl) | (simp [*, errW_none, errW_some] <;> rfl), by repeat (first | (with_reducible first | exact HB.out | apply below_alloc | apply pw_below_drewN | apply below_drew1) | exact HB.out)⟩
    ·
     replace c55 := Bool.eq_false_iff.mpr c55
     subst c55
     have H1 : (if t278 > (-1000000000000000000) then (if t278 < 1000000000000000000 then (if t281 = true then (laws_FnDecimals.j1 kj14 t288 t292 (t280 != t278)) else (laws_FnDecimals.j1 kj14 t288 t292 true)) else (laws_FnDecimals.j1 kj14 t288 t292 false)) else (laws_FnDecimals.j1 kj14 t288 t292 false)) = some r := by rw [if_neg (show ¬ (false = true) by decide)] at H; exact H
     clear H
     have H := H1
     clear H1
     have HC56 := aS H
     clear H
     go_upto_region 15 with (fail)
     repeat (go_quiet (fail); go_upto_region 15 with (fail))
     go_cut [99] (fun v99 wc => ∃ (kq : Nat) (x99_55 : Bool), v99 = .bool x99_55 ∧ Aside0 (laws_FnDecimals.j1 kq t288 t292 x99_55 = some r) ∧ Aside0 (kq ≤ kj14) ∧ Aside0 (Kd.R Kd.string 9 wc w.heap.size (fun _ => True) v289 t288) ∧ Aside0 (Below w.heap.size w wc))
     case first =>
      have H := HC56.out
      clear HC56
      by_cases c57 : t278 > (-1000000000000000000)
      rotate_left
      ·
       rw [if_neg c57] at H
       have c57b0 : decide ((-1000000000000000000) < t278) = false := decide_eq_false c57
       clear c57
       (first | rw [c57b0] | (simp only [i64_w, i32_w]; rw [c57b0]) | (rw [c57b2]; simp only [Bool.not_false, Bool.not_true]) | skip)
       have H' := aS H
       clear H
       go_wp2
       repeat (go_quiet (fail); try go_wp2)
       go_meet
       case rel => exact ⟨_, (false), (by first | rfl | (simp; done) | (simp [*]; done) | (simp only [i64_w]; done) | (simp [i64_w]; done)), H', ⟨by have := HJ14.out; first | omega | exact Nat.le_refl _⟩, ⟨by (with_reducible repeat (first | apply Kd.R_alloc | apply Kd.R_drewN | apply Kd.R_drew)); exact HO_13.out⟩, ⟨by repeat (first | (with_reducible first | exact HB.out | apply below_alloc | apply pw_below_drewN | apply below_drew1) | exact HB.out)⟩⟩
      rw [if_pos c57] at H
      have c57b0 : decide ((-1000000000000000000) < t278) = true := decide_eq_true c57
      clear c57
      (first | rw [c57b0] | (simp only [i64_w, i32_w]; rw [c57b0]) | (rw [c57b2]; simp only [Bool.not_false, Bool.not_true]) | skip)
      by_cases c58 : t278 < 1000000000000000000
      rotate_left
      ·
       rw [if_neg c58] at H
       have c58b0 : decide (t278 < 1000000000000000000) = false := decide_eq_false c58
       clear c58
       have H' := aS H
       clear H
       go_wp2
       repeat (go_quiet (fail); try go_wp2)
       go_meet
       case rel => exact ⟨_, (false), (by first | rfl | (simp; done) | (simp [*]; done) | (simp only [i64_w]; done) | (simp [i64_w]; done)), H', ⟨by have := HJ14.out; first | omega | exact Nat.le_refl _⟩, ⟨by (with_reducible repeat (first | apply Kd.R_alloc | apply Kd.R_drewN | apply Kd.R_drew)); exact HO_13.out⟩, ⟨by repeat (first | (with_reducible first | exact HB.out | apply below_alloc | apply pw_below_drewN | apply below_drew1) | exact HB.out)⟩⟩
      rw [if_pos c58] at H
      have c58b0 : decide (t278 < 1000000000000000000) = true := decide_eq_true c58
      clear c58
      by_cases c59 : t281 = true
      ·
       subst c59
       have H1 : (laws_FnDecimals.j1 kj14 t288 t292 (t280 != t278)) = some r := by rw [if_pos rfl] at H; exact H
       clear H
       have H := H1
       clear H1
       have H' := aS H
       clear H
       go_wp2
       repeat (go_quiet (fail); try go_wp2)
       go_meet
       case rel => exact ⟨_, ((t280 != t278)), (by first | rfl | (simp; done) | (simp [*]; done) | (simp only [i64_w]; done) | (simp [i64_w]; done)), H', ⟨by have := HJ14.out; first | omega | exact Nat.le_refl _⟩, ⟨by (with_reducible repeat (first | apply Kd.R_alloc | apply Kd.R_drewN | apply Kd.R_drew)); exact HO_13.out⟩, ⟨by repeat (first | (with_reducible first | exact HB.out | apply below_alloc | apply pw_below_drewN | apply below_drew1) | exact HB.out)⟩⟩
      replace c59 := Bool.eq_false_iff.mpr c59
      subst c59
      have H1 : (laws_FnDecimals.j1 kj14 t288 t292 true) = some r := by rw [if_neg (show ¬ (false = true) by decide)] at H; exact H
      clear H
      have H := H1
      clear H1
      have H' := aS H
      clear H
      go_wp2
      repeat (go_quiet (fail); try go_wp2)
      go_meet
      case rel => exact ⟨_, (true), (by first | rfl | (simp; done) | (simp [*]; done) | (simp only [i64_w]; done) | (simp [i64_w]; done)), H', ⟨by have := HJ14.out; first | omega | exact Nat.le_refl _⟩, ⟨by (with_reducible repeat (first | apply Kd.R_alloc | apply Kd.R_drewN | apply Kd.R_drew)); exact HO_13.out⟩, ⟨by repeat (first | (with_reducible first | exact HB.out | apply below_alloc | apply pw_below_drewN | apply below_drew1) | exact HB.out)⟩⟩
     case rest =>
      clear HC56
      (try clear c1); (try clear c2); (try clear p2); (try clear c3); (try clear c4); (try clear c5); (try clear c11); (try clear c27); (try clear c27b0); (try clear c27b1); (try clear c27b2); (try clear c28); (try clear c28b0); (try clear c28b1); (try clear c29); (try clear c29b0); (try clear c29b1); (try clear c29b2); (try clear c33); (try clear c36); (try clear c36b0); (try clear c36b1); (try clear c36b2); (try clear c55); (try clear c57); (try clear c57b0); (try clear c57b2); (try clear c58); (try clear c58b0); (try clear c59); (try clear p2)
      obtain ⟨kq, x99_55, rfl, HA, HJ55, HO_13, HB⟩ := hcut
      cases kq with
      | zero => exact absurd HA.out (by simp [laws_FnDecimals.j1])
      | succ kj55 =>
       have H := HA.out
       clear HA
       simp only [laws_FnDecimals.j1] at H
       by_cases c60 : x99_55 = true
       ·
        subst c60
        have H1 : (some false) = some r := by rw [if_pos rfl] at H; exact H
        clear H
        have H := H1
        clear H1
        obtain rfl := Option.some.inj H
        go_wp2
        repeat (go_quiet (fail); try go_wp2)
        go_ret
        exact ⟨by first | rfl | (simp [errW_none, errW_some, i64_w]; done) | (simp [errW_none, errW_some] <;> rfl) | (simp [*, errW_none, errW_some] <;> rfl), by repeat (first | (with_reducible first | exact HB.out | apply below_alloc | apply pw_below_drewN | apply below_drew1) | exact HB.out)⟩
       ·
        replace c60 := Bool.eq_false_iff.mpr c60
        subst c60
        have H1 : (laws_FnDecimals.l0 kj55 t288 t292 0) = some r := by rw [if_neg (show ¬ (false = true) by decide)] at H; exact H
        clear H
        have H := H1
        clear H1
        have H' := aS H
        clear H
        go_wp2
        repeat (go_quiet (fail); try go_wp2)
        go_loopg [16] kj55 (fun kq v16 w' => ∃ (x16_3 : Int), v16 = .int .i64 x16_3 ∧ Aside0 (laws_FnDecimals.l0 kq t288 t292 x16_3 = some r) ∧ Aside0 (kq ≤ kj55) ∧ Aside0 (Kd.R Kd.string 9 w' w.heap.size (fun _ => True) v289 t288) ∧ Aside0 (Below w.heap.size w w'))
        case atStart => exact ⟨(0), (by first | rfl | (simp; done) | (simp [*]; done) | (simp only [i64_w]; done) | (simp [i64_w]; done)), H', ⟨Nat.le_refl _⟩, ⟨by (with_reducible repeat (first | apply Kd.R_alloc | apply Kd.R_drewN | apply Kd.R_drew)); exact HO_13.out⟩, ⟨by repeat (first | (with_reducible first | exact HB.out | apply below_alloc | apply pw_below_drewN | apply below_drew1) | exact HB.out)⟩⟩
        case round =>
         clear H'
         (try clear c1); (try clear c2); (try clear p2); (try clear c3); (try clear c4); (try clear c5); (try clear c6); (try clear c11); (try clear c27); (try clear c27b0); (try clear c27b1); (try clear c27b2); (try clear c28); (try clear c28b0); (try clear c28b1); (try clear c29); (try clear c29b0); (try clear c29b1); (try clear c29b2); (try clear c33); (try clear c36); (try clear c36b0); (try clear c36b1); (try clear c36b2); (try clear c55); (try clear c57); (try clear c57b0); (try clear c57b2); (try clear c58); (try clear c58b0); (try clear c59); (try clear c60); (try clear p2)
         obtain ⟨x16_3, rfl, HA, HK3, HO_13, HB⟩ := hrel
         cases gk with
         | zero => exact absurd HA.out (by simp [laws_FnDecimals.l0])
         | succ k3 =>
          have H := HA.out
          clear HA
          simp only [laws_FnDecimals.l0] at H
          by_cases c61 : x16_3 < (t288.length : Int)
          ·
           rw [if_pos c61] at H
           have c61b0 : decide (x16_3 < (t288.length : Int)) = true := decide_eq_true c61
           clear c61
           by_cases c62 : 0 ≤ x16_3
           rotate_left
           ·
            rw [if_neg c62] at H
            exact absurd H (by simp)
           rw [if_pos c62] at H
           have c62b0 : decide (0 ≤ x16_3) = true := decide_eq_true c62
           clear c62
           replace H := Option.bind_eq_some_iff.mp H
           obtain ⟨t303, A630, H⟩ := H
           replace H : (if (t303.length : Int) = 1 then (if 0 < (t303.length : Int) then (if (rdOf ByteArray.empty t303 0).toList = (rdOf ByteArray.empty t288 x16_3).toList then (laws_FnDecimals.l0 k3 t288 t292 (wrap64 (x16_3 + 1))) else (some false)) else (none)) else (some false)) = some r := H
           have A63 := aS A630
           clear A630
           have HC64 := aS H
           clear H
           obtain ⟨Ao65, co65, eo65⟩ := Kd.R_slice HO_13.out
           subst eo65
           have p302 : 0 ≤ (x16_3 : Int) := of_decide_eq_true (by first | (with_reducible assumption) | assumption)
           have q302 : x16_3 < (t288.length : Int) := of_decide_eq_true (by first | (with_reducible assumption) | assumption)
           obtain ⟨ad302, e302, hx302_0⟩ := Kd.at_string (Kd.R_reads' HO_13.out).2.2 x16_3 p302 q302
           cases e302
           replace p302 := eq_true p302
           replace q302 := eq_true q302
           go_upto_region 21 with (first | (go_at_call 24; (with_reducible refine (impl_SplitWords.calls k3 (rdOf ByteArray.empty t288 x16_3) t303 _ ?side1 A63.out).mono ?_); (case side1 => exact Gnd.Max.on hM (sW HB.out)); rintro e w66 ⟨v304, rfl, ho0, hb⟩; have n0_ := aS (Kd.R_elder' (sR HO_13.out) (Kd.R_base ho0) hb); have n1_ := aS (Kd.R_lower (Kd.R_new' ho0 (Kd.R_lt (sR HO_13.out))) (below_size (sW HB.out))); have n2_ := aS (below_step (sW HB.out) hb); clear HO_13 HB; have HO_13 := n0_; have HO305 := n1_; have HB := n2_; clear n0_ n1_ n2_; (try clear hb); (try clear hb2); (try clear hk); (try clear hi); (try clear ho0)))
           repeat (go_quiet (first | (go_at_call 24; (with_reducible refine (impl_SplitWords.calls k3 (rdOf ByteArray.empty t288 x16_3) t303 _ ?side1 A63.out).mono ?_); (case side1 => exact Gnd.Max.on hM (sW HB.out)); rintro e w66 ⟨v304, rfl, ho0, hb⟩; have n0_ := aS (Kd.R_elder' (sR HO_13.out) (Kd.R_base ho0) hb); have n1_ := aS (Kd.R_lower (Kd.R_new' ho0 (Kd.R_lt (sR HO_13.out))) (below_size (sW HB.out))); have n2_ := aS (below_step (sW HB.out) hb); clear HO_13 HB; have HO_13 := n0_; have HO305 := n1_; have HB := n2_; clear n0_ n1_ n2_; (try clear hb); (try clear hb2); (try clear hk); (try clear hi); (try clear ho0))); go_upto_region 21 with (first | (go_at_call 24; (with_reducible refine (impl_SplitWords.calls k3 (rdOf ByteArray.empty t288 x16_3) t303 _ ?side1 A63.out).mono ?_); (case side1 => exact Gnd.Max.on hM (sW HB.out)); rintro e w66 ⟨v304, rfl, ho0, hb⟩; have n0_ := aS (Kd.R_elder' (sR HO_13.out) (Kd.R_base ho0) hb); have n1_ := aS (Kd.R_lower (Kd.R_new' ho0 (Kd.R_lt (sR HO_13.out))) (below_size (sW HB.out))); have n2_ := aS (below_step (sW HB.out) hb); clear HO_13 HB; have HO_13 := n0_; have HO305 := n1_; have HB := n2_; clear n0_ n1_ n2_; (try clear hb); (try clear hb2); (try clear hk); (try clear hi); (try clear ho0))))
           (try simp only [Act.put, List.setIfInBounds_toArray, List.set_cons_zero, List.set_cons_succ])
           have H := HC64.out
           clear HC64
           by_cases c67 : (t303.length : Int) = 1
           rotate_left
           ·
            rw [if_neg c67] at H
            have c67b0 : ((t303.length : Int) == 1) = false := beq_eq_false_iff_ne.mpr c67
            have c67b1 : ((t303.length : Int) != 1) = true := bne_iff_ne.mpr c67
            (first | rw [c67b0] | (simp only [i64_w, i32_w]; rw [c67b0]) | (rw [c67b2]; simp only [Bool.not_false, Bool.not_true]) | skip)
            obtain rfl := Option.some.inj H
            obtain ⟨Ao72, co72, eo72⟩ := Kd.R_slice HO305.out
            subst eo72
            go_wp2
            repeat (go_quiet (fail); try go_wp2)
            go_ret
            exact ⟨by first | rfl | (simp [errW_none, errW_some, i64_w]; done) | (simp [errW_none, errW_some] <;> rfl) | (simp [*, errW_none, errW_some] <;> rfl), by repeat (first | (with_reducible first | exact HB.out | apply below_alloc | apply pw_below_drewN | apply below_drew1) | exact HB.out)⟩
           rw [if_pos c67] at H
           have c67b0 : ((t303.length : Int) == 1) = true := beq_iff_eq.mpr c67
           have c67b1 : ((t303.length : Int) != 1) = false := bne_eq_false_iff_eq.mpr c67
           clear c67
           (first | rw [c67b0] | (simp only [i64_w, i32_w]; rw [c67b0]) | (rw [c67b2]; simp only [Bool.not_false, Bool.not_true]) | skip)
           by_cases c68 : 0 < (t303.length : Int)
           rotate_left
           ·
            rw [if_neg c68] at H
            exact absurd H (by simp)
           rw [if_pos c68] at H
           have c68b0 : decide (0 < (t303.length : Int)) = true := decide_eq_true c68
           have c68b1 : decide (0 < t303.length) = true := decide_eq_true (by omega)
           clear c68
           by_cases c69 : (rdOf ByteArray.empty t303 0).toList = (rdOf ByteArray.empty t288 x16_3).toList
           rotate_left
           ·
            rw [if_neg c69] at H
            have c69b0 : ((rdOf ByteArray.empty t303 0).toList == (rdOf ByteArray.empty t288 x16_3).toList) = false := beq_eq_false_iff_ne.mpr c69
            have c69b1 : ((rdOf ByteArray.empty t303 0).toList != (rdOf ByteArray.empty t288 x16_3).toList) = true := bne_iff_ne.mpr c69
            obtain rfl := Option.some.inj H
            obtain ⟨Ao71, co71, eo71⟩ := Kd.R_slice HO305.out
            subst eo71
            have p306 : 0 ≤ (0 : Int) := (by omega)
            have q306 : 0 < (t303.length : Int) := of_decide_eq_true (by first | (with_reducible assumption) | assumption)
            obtain ⟨ad306, e306, hx306_0⟩ := Kd.at_string (Kd.R_reads' HO305.out).2.2 0 p306 q306
            cases e306
            have qi306 : (0 < t303.length) = True := eq_true (by omega)
            (try rw [show ((0 : Int)).toNat = 0 from rfl] at hx306_0)
            (try rw [Addr.add_zero'] at hx306_0)
            replace p306 := eq_true p306
            replace q306 := eq_true q306
            have p307 : 0 ≤ (x16_3 : Int) := of_decide_eq_true (by first | (with_reducible assumption) | assumption)
            have q307 : x16_3 < (t288.length : Int) := of_decide_eq_true (by first | (with_reducible assumption) | assumption)
            obtain ⟨ad307, e307, hx307_0⟩ := Kd.at_string (Kd.R_reads' HO_13.out).2.2 x16_3 p307 q307
            obtain rfl : ad302 = ad307 := (by injection e307)
            replace p307 := eq_true p307
            replace q307 := eq_true q307
            go_wp2
            repeat (go_quiet (fail); try go_wp2)
            go_ret
            exact ⟨by first | rfl | (simp [errW_none, errW_some, i64_w]; done) | (simp [errW_none, errW_some] <;> rfl) | (simp [*, errW_none, errW_some] <;> rfl), by repeat (first | (with_reducible first | exact HB.out | apply below_alloc | apply pw_below_drewN | apply below_drew1) | exact HB.out)⟩
           rw [if_pos c69] at H
           have c69b0 : ((rdOf ByteArray.empty t303 0).toList == (rdOf ByteArray.empty t288 x16_3).toList) = true := beq_iff_eq.mpr c69
           have c69b1 : ((rdOf ByteArray.empty t303 0).toList != (rdOf ByteArray.empty t288 x16_3).toList) = false := bne_eq_false_iff_eq.mpr c69
           clear c69
           have H' := aS H
           clear H
           obtain ⟨Ao70, co70, eo70⟩ := Kd.R_slice HO305.out
           subst eo70
           have p306 : 0 ≤ (0 : Int) := (by omega)
           have q306 : 0 < (t303.length : Int) := of_decide_eq_true (by first | (with_reducible assumption) | assumption)
           obtain ⟨ad306, e306, hx306_0⟩ := Kd.at_string (Kd.R_reads' HO305.out).2.2 0 p306 q306
           cases e306
           have qi306 : (0 < t303.length) = True := eq_true (by omega)
           (try rw [show ((0 : Int)).toNat = 0 from rfl] at hx306_0)
           (try rw [Addr.add_zero'] at hx306_0)
           replace p306 := eq_true p306
           replace q306 := eq_true q306
           have p307 : 0 ≤ (x16_3 : Int) := of_decide_eq_true (by first | (with_reducible assumption) | assumption)
           have q307 : x16_3 < (t288.length : Int) := of_decide_eq_true (by first | (with_reducible assumption) | assumption)
           obtain ⟨ad307, e307, hx307_0⟩ := Kd.at_string (Kd.R_reads' HO_13.out).2.2 x16_3 p307 q307
           obtain rfl : ad302 = ad307 := (by injection e307)
           replace p307 := eq_true p307
           replace q307 := eq_true q307
           go_wp2
           repeat (go_quiet (fail); try go_wp2)
           go_roundg k3
           case measure => have := HJ14.out; have := HJ55.out; have := HK3.out; omega
           case rel => exact ⟨(wrap64 (x16_3 + 1)), (by first | rfl | (simp; done) | (simp [*]; done) | (simp only [i64_w]; done) | (simp [i64_w]; done)), H', ⟨by have := HJ14.out; have := HJ55.out; have := HK3.out; omega⟩, ⟨by (with_reducible repeat (first | apply Kd.R_alloc | apply Kd.R_drewN | apply Kd.R_drew)); exact Kd.R_mono HO_13.out (fun _ hk => trivial)⟩, ⟨by repeat (first | (with_reducible first | exact HB.out | apply below_alloc | apply pw_below_drewN | apply below_drew1) | exact HB.out)⟩⟩
          ·
           rw [if_neg c61] at H
           have c61b0 : decide (x16_3 < (t288.length : Int)) = false := decide_eq_false c61
           clear c61
           have H' := aS H
           clear H
           obtain ⟨Ao73, co73, eo73⟩ := Kd.R_slice HO_13.out
           subst eo73
           go_wp2
           repeat (go_quiet (fail); try go_wp2)
           go_loopg [18] k3 (fun kq v18 w' => ∃ (x18_4 : Int), v18 = .int .i64 x18_4 ∧ Aside0 (laws_FnDecimals.l1 kq t292 x18_4 = some r) ∧ Aside0 (kq ≤ k3) ∧ Aside0 (Below w.heap.size w w'))
           case atStart => exact ⟨(0), (by first | rfl | (simp; done) | (simp [*]; done) | (simp only [i64_w]; done) | (simp [i64_w]; done)), H', ⟨Nat.le_refl _⟩, ⟨by repeat (first | (with_reducible first | exact HB.out | apply below_alloc | apply pw_below_drewN | apply below_drew1) | exact HB.out)⟩⟩
           case round =>
            clear H'
            (try clear c1); (try clear c2); (try clear p2); (try clear c3); (try clear p3); (try clear q3); (try clear hx3); (try clear qi3); (try clear c4); (try clear c5); (try clear c6); (try clear p6); (try clear c11); (try clear c27); (try clear c27b0); (try clear c27b1); (try clear c27b2); (try clear c28); (try clear c28b0); (try clear c28b1); (try clear c29); (try clear c29b0); (try clear c29b1); (try clear c29b2); (try clear p30); (try clear q30); (try clear hx30); (try clear qi30); (try clear c33); (try clear c36); (try clear c36b0); (try clear c36b1); (try clear c36b2); (try clear c55); (try clear c57); (try clear c57b0); (try clear c57b2); (try clear c58); (try clear c58b0); (try clear c59); (try clear c60); (try clear c61); (try clear c61b0); (try clear c62); (try clear c62b0); (try clear p64); (try clear c67); (try clear c67b0); (try clear c67b1); (try clear c67b2); (try clear c68); (try clear c68b0); (try clear c68b1); (try clear c69); (try clear c69b0); (try clear c69b1); (try clear hx302_0); (try clear hx306_0); (try clear hx307_0); (try clear p2); (try clear p302); (try clear p306); (try clear p307); (try clear q302); (try clear q306); (try clear q307)
            obtain ⟨x18_4, rfl, HA, HK4, HB⟩ := hrel
            cases gk with
            | zero => exact absurd HA.out (by simp [laws_FnDecimals.l1])
            | succ k4 =>
             have H := HA.out
             clear HA
             simp only [laws_FnDecimals.l1] at H
             by_cases c74 : x18_4 ≤ 10
             ·
              rw [if_pos c74] at H
              have c74b0 : decide (x18_4 ≤ 10) = true := decide_eq_true c74
              clear c74
              by_cases c75 : x18_4 = t292
              ·
               rw [if_pos c75] at H
               have c75b0 : (x18_4 == t292) = true := beq_iff_eq.mpr c75
               have c75b1 : (x18_4 != t292) = false := bne_eq_false_iff_eq.mpr c75
               clear c75
               have H' := aS H
               clear H
               go_wp2
               repeat (go_quiet (fail); try go_wp2)
               go_roundg k4
               case measure => have := HJ14.out; have := HJ55.out; have := HK3.out; have := HK4.out; omega
               case rel => exact ⟨(wrap64 (x18_4 + 1)), (by first | rfl | (simp; done) | (simp [*]; done) | (simp only [i64_w]; done) | (simp [i64_w]; done)), H', ⟨by have := HJ14.out; have := HJ55.out; have := HK3.out; have := HK4.out; omega⟩, ⟨by repeat (first | (with_reducible first | exact HB.out | apply below_alloc | apply pw_below_drewN | apply below_drew1) | exact HB.out)⟩⟩
              rw [if_neg c75] at H
              have c75b0 : (x18_4 == t292) = false := beq_eq_false_iff_ne.mpr c75
              have c75b1 : (x18_4 != t292) = true := bne_iff_ne.mpr c75
              replace H := Option.bind_eq_some_iff.mp H
              obtain ⟨t308, A760, H⟩ := H
              replace H : ((impl_CodeName.f t292).bind fun t309 => (if t308.toList = t309.toList then (some false) else (laws_FnDecimals.l1 k4 t292 (wrap64 (x18_4 + 1))))) = some r := H
              have A76 := aS A760
              clear A760
              replace H := Option.bind_eq_some_iff.mp H
              obtain ⟨t309, A770, H⟩ := H
              replace H : (if t308.toList = t309.toList then (some false) else (laws_FnDecimals.l1 k4 t292 (wrap64 (x18_4 + 1)))) = some r := H
              have A77 := aS A770
              clear A770
              have HC78 := aS H
              clear H
              go_upto_if 137 with (first | (go_at_call 51; (with_reducible refine (impl_CodeName.calls x18_4 t308 _ A76.out).mono ?_); rintro e w79 ⟨rfl, hb⟩; have n0_ := aS (below_step (sW HB.out) hb); clear HB; have HB := n0_; clear n0_; (try clear hb); (try clear hb2); (try clear hk); (try clear hi)) | (go_at_call 51; (with_reducible refine (impl_CodeName.calls t292 t309 _ A77.out).mono ?_); rintro e w80 ⟨rfl, hb⟩; have n0_ := aS (below_step (sW HB.out) hb); clear HB; have HB := n0_; clear n0_; (try clear hb); (try clear hb2); (try clear hk); (try clear hi)))
              repeat (go_quiet (first | (go_at_call 51; (with_reducible refine (impl_CodeName.calls x18_4 t308 _ A76.out).mono ?_); rintro e w79 ⟨rfl, hb⟩; have n0_ := aS (below_step (sW HB.out) hb); clear HB; have HB := n0_; clear n0_; (try clear hb); (try clear hb2); (try clear hk); (try clear hi)) | (go_at_call 51; (with_reducible refine (impl_CodeName.calls t292 t309 _ A77.out).mono ?_); rintro e w80 ⟨rfl, hb⟩; have n0_ := aS (below_step (sW HB.out) hb); clear HB; have HB := n0_; clear n0_; (try clear hb); (try clear hb2); (try clear hk); (try clear hi))); go_upto_if 137 with (first | (go_at_call 51; (with_reducible refine (impl_CodeName.calls x18_4 t308 _ A76.out).mono ?_); rintro e w79 ⟨rfl, hb⟩; have n0_ := aS (below_step (sW HB.out) hb); clear HB; have HB := n0_; clear n0_; (try clear hb); (try clear hb2); (try clear hk); (try clear hi)) | (go_at_call 51; (with_reducible refine (impl_CodeName.calls t292 t309 _ A77.out).mono ?_); rintro e w80 ⟨rfl, hb⟩; have n0_ := aS (below_step (sW HB.out) hb); clear HB; have HB := n0_; clear n0_; (try clear hb); (try clear hb2); (try clear hk); (try clear hi))))
              (try simp only [Act.put, List.setIfInBounds_toArray, List.set_cons_zero, List.set_cons_succ])
              have H := HC78.out
              clear HC78
              by_cases c81 : t308.toList = t309.toList
              ·
               rw [if_pos c81] at H
               have c81b0 : (t308.toList == t309.toList) = true := beq_iff_eq.mpr c81
               have c81b1 : (t308.toList != t309.toList) = false := bne_eq_false_iff_eq.mpr c81
               clear c81
               (first | rw [c81b0] | (simp only [i64_w, i32_w]; rw [c81b0]) | (rw [c81b2]; simp only [Bool.not_false, Bool.not_true]) | skip)
               obtain rfl := Option.some.inj H
               go_wp2
               repeat (go_quiet (fail); try go_wp2)
               go_ret
               exact ⟨by first | rfl | (simp [errW_none, errW_some, i64_w]; done) | (simp [errW_none, errW_some] <;> rfl) | (simp [*, errW_none, errW_some] <;> rfl), by repeat (first | (with_reducible first | exact HB.out | apply below_alloc | apply pw_below_drewN | apply below_drew1) | exact HB.out)⟩
              rw [if_neg c81] at H
              have c81b0 : (t308.toList == t309.toList) = false := beq_eq_false_iff_ne.mpr c81
              have c81b1 : (t308.toList != t309.toList) = true := bne_iff_ne.mpr c81
              (first | rw [c81b0] | (simp only [i64_w, i32_w]; rw [c81b0]) | (rw [c81b2]; simp only [Bool.not_false, Bool.not_true]) | skip)
              have H' := aS H
              clear H
              go_wp2
              repeat (go_quiet (fail); try go_wp2)
              go_roundg k4
              case measure => have := HJ14.out; have := HJ55.out; have := HK3.out; have := HK4.out; omega
              case rel => exact ⟨(wrap64 (x18_4 + 1)), (by first | rfl | (simp; done) | (simp [*]; done) | (simp only [i64_w]; done) | (simp [i64_w]; done)), H', ⟨by have := HJ14.out; have := HJ55.out; have := HK3.out; have := HK4.out; omega⟩, ⟨by repeat (first | (with_reducible first | exact HB.out | apply below_alloc | apply pw_below_drewN | apply below_drew1) | exact HB.out)⟩⟩
             ·
              rw [if_neg c74] at H
              have c74b0 : decide (x18_4 ≤ 10) = false := decide_eq_false c74
              clear c74
              obtain rfl := Option.some.inj H
              go_wp2
              repeat (go_quiet (fail); try go_wp2)
              go_ret
              exact ⟨by first | rfl | (simp [errW_none, errW_some, i64_w]; done) | (simp [errW_none, errW_some] <;> rfl) | (simp [*, errW_none, errW_some] <;> rfl), by repeat (first | (with_reducible first | exact HB.out | apply below_alloc | apply pw_below_drewN | apply below_drew1) | exact HB.out)⟩

/-- THE ONE PURE STATEMENT of laws_FnDecimals. -/
def laws_FnDecimals.Pure : Prop := ∀ (l0 : List Int), (l0.length * 1 ≤ 140737488351232 ∧ l0.length ≤ maxLen ∧ (∀ y0 ∈ l0, (Lit.int .u8 y0).wf = true)) → ∃ k, laws_FnDecimals.f k l0 = some true
theorem laws_FnDecimals.walk : True := trivial

end Go.Proofs.YtginmioklkcgbaaDoor.QFnDecimals

/- What the Go functions of this law compute, each as a Lean function, and that each call comes to that answer; written by a program of this session. No condition. -/
import Derived.Test.YtginmioklkcgbaaGreatDoorVShn
import Derived.Test.YtginmioklkcgbaaGreatDoorVQFnLinesx0
import Derived.Test.YtginmioklkcgbaaGreatDoorVQFnLinesx1
namespace Go.Proofs.YtginmioklkcgbaaGreatDoor.QFnLines
open Go.RowKit Go.Proofs.YtginmioklkcgbaaGreatDoorW.PrintWords Go.Proofs.YtginmioklkcgbaaGreatDoorW.PrintLast Go.Proofs.YtginmioklkcgbaaGreatDoorW.PrintMore
attribute [local go_sem] max2_int min2_int max_two min_two max_three min_three max_four min_four   -- for this text's walks alone
set_option linter.unusedVariables false
set_option linter.unusedSimpArgs false
set_option maxHeartbeats 8000000
set_option maxRecDepth 100000
def spec_l03Both.f (k : Nat) (l0 : List Int) : Option ((List (S47)) × (List (S58)) × List Int) := (spec_l00From.f l0).bind fun bt293 => ((spec_l03Bent.f k bt293.1 bt293.2.1 bt293.2.2).bind fun bt297 => ((spec_l03DrawLine.f k bt293.1 bt297.2.1 bt297.2.2 bt297.1).bind fun bt302 => (some (bt297.1, bt302.1, bt302.2.1))))
theorem spec_l03Both.calls (k : Nat) (A0 : Option Addr) (c0 : Nat) (l0 : List Int) (r1 : List (S47)) (r2 : List (S58)) (r3 : List Int) (w : World) (hr0 : Kd.C (Kd.int .u8) w A0 l0.length l0) (hc0 : l0.length ≤ c0) (h : spec_l03Both.f k l0 = some (r1, r2, r3)) :
  Calls Tryz.prog 31 #[.slice A0 l0.length c0] w fun e w' => ∃ v0_ v1_ v2_ : Value, e = .returned (.tuple #[v0_, .agg #[v1_, v2_]]) ∧ Kd.R k47 47 w' w.heap.size (fun _ => True) v0_ r1 ∧ Kd.R k58 58 w' w.heap.size (fun _ => True) v1_ r2 ∧ Kd.R (Kd.int .i64) 2 w' w.heap.size (fun _ => True) v2_ r3 ∧ Below w.heap.size w w' := by
 have hu28 := Tryz.underlying28; have HR0 := aS hr0; have HC0 := aS hc0; clear hr0 hc0; have HB := aS (Below.refl w.heap.size w); have H := h; clear h; unfold spec_l03Both.f at H; replace H := bE H; obtain ⟨⟨t293, t294, t295⟩, A2, H⟩ := H; try dsimp only at H
 replace H := bE H; obtain ⟨⟨t297, t300, t301⟩, A3, H⟩ := H; try dsimp only at H
 replace H := bE H; obtain ⟨⟨t302, t305, t308, t309⟩, A4, H⟩ := H; try dsimp only at H
 simp only [Option.some.injEq, Prod.mk.injEq] at H; obtain ⟨rfl, rfl, rfl⟩ := H; go_enter Tryz.func31, Tryz.ntmps31
 go_wp2_with (first | ((with_reducible refine gt 3 rfl ?_); refine bx 3 #[.slice none 0 0, .slice none 0 0] 28 ?_; intro gb292 hg w5 hbox hb; have BK292 := aS (hbox); have GW292 := aS (gW hg (sW HB.out)); have GE292 := aS (gW hg (sW HB.out)); replace HB := lW HB hb; clear hb hbox hg) | ((with_reducible refine gk 43 rfl ?_); refine gC (some 7) rfl Tryz.func43 #[.slice A0 l0.length c0] (spec_l00From.calls _ _ l0 t293 t294 t295 w _ (sW HB.out) HR0.out HC0.out A2.out) ?_; rintro e w6 ⟨g296, rfl, hi, hb, hb2⟩; refine ⟨_, rfl, ?_⟩; replace HB := aS (hb); have HI296 := aS (hi); have NB296_292 := aS (IsS100.ne_blk hi (blk_below (sB BK292.out) hb2) (by decide)); have NB292_296 := aS (Ne.symm (IsS100.ne_blk hi (blk_below (sB BK292.out) hb2) (by decide))); replace BK292 := aS (blk_below (sB BK292.out) hb2)) | ((with_reducible refine gk 44 rfl ?_); refine gC (some 9) rfl Tryz.func44 #[.pointer (some ⟨g296, 0, none⟩)] (spec_l03Bent.calls k g296 t293 t294 t295 t297 t300 t301 w _ (IsS100.s HI296.out) (sWg HB.out (IsS100.ge HI296.out)) A3.out) ?_; rintro e w7 ⟨v298, rfl, ho0, hi, hb, hk⟩; refine ⟨_, rfl, ?_⟩; replace BK292 := aS (kB hk (sB BK292.out) NB292_296.out); have HO299 := aS (Kd.R_lower ho0 (below_size (sWg HB.out (IsS100.ge HI296.out)))); replace HB := aS (hb); replace HI296 := aS (hi); (try clear hb); (try clear hb2); (try clear hk); (try clear hi); (try clear ho0); obtain ⟨Ao8, co8, eo8⟩ := Kd.R_slice HO299.out; subst eo8) | ((with_reducible refine gk 45 rfl ?_); refine gC (some 13) rfl Tryz.func45 #[.pointer (some ⟨g296, 0, none⟩), .slice Ao8 t297.length co8] (spec_l03DrawLine.calls k g296 t293 t300 t301 _ _ t297 t302 t305 t308 t309 w _ (IsS100.s HI296.out) (sWg HB.out (IsS100.ge HI296.out)) ?side3 (uL HO299) A4.out) ?_; (case side3 => exact Kd.C_foot_own (IsS100.apart (show IsS100 w _ g296 t293 t300 t301 from IsS100.s HI296.out) (sR HO299.out) (by decide)) (fun _ h_ => h_.2)); rintro e w9 ⟨v303, v306, rfl, ho0, ho1, hi, hb, hk⟩; refine ⟨_, rfl, ?_⟩; replace BK292 := aS (kB hk (sB BK292.out) NB292_296.out); replace HO299 := aS (Kd.R_mono (Kd.R_keep (IsS100.apart (show IsS100 w _ g296 t293 t300 t301 from IsS100.s HI296.out) (sR HO299.out) (by decide)) hk (fun _ h => h.2)) (fun _ h => h.1)); have HO304 := aS (Kd.R_lower ho0 (below_size (sWg HB.out (IsS100.ge HI296.out)))); have HO307 := aS (Kd.R_lower ho1 (below_size (sWg HB.out (IsS100.ge HI296.out)))); replace HB := aS (hb); replace HI296 := aS (hi); (try clear hb); (try clear hb2); (try clear hk); (try clear hi); (try clear ho0); (try clear ho1); obtain ⟨Ao10, co10, eo10⟩ := Kd.R_slice HO304.out; subst eo10; obtain ⟨hnb11, hnc11⟩ := nD NB292_296; obtain ⟨hcz12_0, hcz12_1, hfz12_0, hfz12_1⟩ := z2 BK292.out; obtain ⟨Ao13, co13, eo13⟩ := Kd.R_slice HO307.out; subst eo13))
 refine bodyPost_ret (results_tc rfl _ _ gb292 28 #[.slice Ao10 t302.length co10, .slice Ao13 t305.length co13] (0, 0) _ rfl (sB (put2 BK292.out)) Tryz.underlying28 rfl (by kernel_rfl)) rfl ?_; exact ⟨_, _, _, eE, sR (Kd.R_mono (rG (g := gb292) (Kd.R_types HO299.out BK292.out (by decide)) (fun _ hk => hk.2)) (fun _ hk => trivial)), sR (Kd.R_mono (rG (g := gb292) (Kd.R_types HO304.out BK292.out (by decide)) (fun _ hk => hk.2)) (fun _ hk => trivial)), sR (Kd.R_mono (rG (g := gb292) (Kd.R_types HO307.out BK292.out (by decide)) (fun _ hk => hk.2)) (fun _ hk => trivial)), sWg HB.out (IsS100.ge HI296.out)⟩

def spec_DrawLineStrength.f (k : Nat) (l0 : List Int) : Option ((List (S47)) × (List (S58)) × List Int) := (spec_l03Both.f k l0).bind fun bt311 => (some (bt311.1, bt311.2.1, bt311.2.2))
theorem spec_DrawLineStrength.calls (k : Nat) (A0 : Option Addr) (c0 : Nat) (l0 : List Int) (r1 : List (S47)) (r2 : List (S58)) (r3 : List Int) (w : World) (hr0 : Kd.C (Kd.int .u8) w A0 l0.length l0) (hc0 : l0.length ≤ c0) (h : spec_DrawLineStrength.f k l0 = some (r1, r2, r3)) :
  Calls Tryz.prog 5 #[.slice A0 l0.length c0] w fun e w' => ∃ v0_ v1_ v2_ : Value, e = .returned (.tuple #[v0_, .agg #[v1_, v2_]]) ∧ Kd.R k47 47 w' w.heap.size (fun _ => True) v0_ r1 ∧ Kd.R k58 58 w' w.heap.size (fun _ => True) v1_ r2 ∧ Kd.R (Kd.int .i64) 2 w' w.heap.size (fun _ => True) v2_ r3 ∧ Below w.heap.size w w' := by
 have hu28 := Tryz.underlying28; have HR0 := aS hr0; have HC0 := aS hc0; clear hr0 hc0; have HB := aS (Below.refl w.heap.size w); have H := h; clear h; unfold spec_DrawLineStrength.f at H; replace H := bE H; obtain ⟨⟨t311, t314, t317⟩, A2, H⟩ := H; try dsimp only at H
 simp only [Option.some.injEq, Prod.mk.injEq] at H; obtain ⟨rfl, rfl, rfl⟩ := H; go_enter Tryz.func5, Tryz.ntmps5
 go_wp2_with (first | ((with_reducible refine gt 3 rfl ?_); refine bx 3 #[.slice none 0 0, .slice none 0 0] 28 ?_; intro gb310 hg w3 hbox hb; have BK310 := aS (hbox); have GW310 := aS (gW hg (sW HB.out)); have GE310 := aS (gW hg (sW HB.out)); replace HB := lW HB hb; clear hb hbox hg) | ((with_reducible refine gk 31 rfl ?_); refine gC (some 5) rfl Tryz.func31 #[.slice A0 l0.length c0] (spec_l03Both.calls k _ _ l0 t311 t314 t317 _ (sC (Kd.C_below HR0.out HB.out)) HC0.out A2.out) ?_; rintro e w4 ⟨v312, v315, v318, rfl, ho0, ho1, ho2, hb⟩; refine ⟨_, rfl, ?_⟩; have HO313 := aS (Kd.R_lower ho0 (below_size (sW HB.out))); have HO316 := aS (Kd.R_lower ho1 (below_size (sW HB.out))); have HO319 := aS (Kd.R_lower ho2 (below_size (sW HB.out))); replace BK310 := lB BK310 hb; replace HB := lW HB hb; (try clear hb); (try clear hb2); (try clear hk); (try clear hi); (try clear ho0); (try clear ho1); (try clear ho2); obtain ⟨Ao5, co5, eo5⟩ := Kd.R_slice HO316.out; subst eo5; obtain ⟨hcz6_0, hcz6_1, hfz6_0, hfz6_1⟩ := z2 BK310.out; obtain ⟨Ao7, co7, eo7⟩ := Kd.R_slice HO319.out; subst eo7))
 refine bodyPost_ret (results_tc rfl _ _ gb310 28 #[.slice Ao5 t314.length co5, .slice Ao7 t317.length co7] (0, 0) _ rfl (sB (put2 BK310.out)) Tryz.underlying28 rfl (by kernel_rfl)) rfl ?_; exact ⟨_, _, _, eE, sR (Kd.R_mono (rG (g := gb310) (Kd.R_types HO313.out BK310.out (by decide)) (fun _ hk => hk.2)) (fun _ hk => trivial)), sR (Kd.R_mono (rG (g := gb310) (Kd.R_types HO316.out BK310.out (by decide)) (fun _ hk => hk.2)) (fun _ hk => trivial)), sR (Kd.R_mono (rG (g := gb310) (Kd.R_types HO319.out BK310.out (by decide)) (fun _ hk => hk.2)) (fun _ hk => trivial)), sW HB.out⟩

def impl_within.f (a0 : Int) (a1 : Int) (a2 : Int) : Option (Bool) := if a0 ≥ a1 then (some (decide (a0 ≤ a2))) else (some false)
theorem impl_within.calls (a0 : Int) (a1 : Int) (a2 : Int) (r : Bool) (w : World) (h : impl_within.f a0 a1 a2 = some r) :
  Calls Tryz.prog 47 #[.int .i64 a0, .int .i64 a1, .int .i64 a2] w fun e w' => e = .returned (.bool r) ∧ Drawn0 w w' := by
 have H := h; clear h; unfold impl_within.f at H; replace H := iE H; rcases H with ⟨c4, H⟩ | ⟨c4, H⟩
 ·
  have c4b0 : decide (a1 ≤ a0) = true := decide_eq_true c4; clear c4; obtain rfl := Option.some.inj H; go_enter Tryz.func47, Tryz.ntmps47; go_wp2; go_ret; exact ⟨eV, eD⟩
 ·
  have c4b0 : decide (a1 ≤ a0) = false := decide_eq_false c4; clear c4; obtain rfl := Option.some.inj H; go_enter Tryz.func47, Tryz.ntmps47; go_wp2; go_ret; exact ⟨eV, eD⟩

mutual
def impl_IsName.j0 : Nat → ByteArray → Bool → Option (Bool)
 | 0, _, _ => none
 | k + 1, x0, x21 => if x21 = true then (some false) else (impl_IsName.l0 k x0 0)
def impl_IsName.l0 : Nat → ByteArray → Int → Option (Bool)
 | 0, _, _ => none
 | k + 1, x0, x3 => if x3 < (x0.size : Int) then (if 0 ≤ x3 then (if (bt x0 x3) < 97 then (if (bt x0 x3) < 48 then (impl_IsName.j2 k x0 x3 ((bt x0 x3) != 45)) else (if (bt x0 x3) > 57 then (impl_IsName.j2 k x0 x3 ((bt x0 x3) != 45)) else (impl_IsName.j2 k x0 x3 false))) else (if (bt x0 x3) > 122 then (if (bt x0 x3) < 48 then (impl_IsName.j2 k x0 x3 ((bt x0 x3) != 45)) else (if (bt x0 x3) > 57 then (impl_IsName.j2 k x0 x3 ((bt x0 x3) != 45)) else (impl_IsName.j2 k x0 x3 false))) else (impl_IsName.j2 k x0 x3 false))) else (none)) else (some true)
def impl_IsName.j2 : Nat → ByteArray → Int → Bool → Option (Bool)
 | 0, _, _, _ => none
 | k + 1, x0, x3, x55 => if x55 = true then (some false) else (impl_IsName.l0 k x0 (wrap64 (x3 + 1)))
end
def impl_IsName.f (k : Nat) (a0 : ByteArray) : Option (Bool) := if (a0.size : Int) < 1 then (impl_IsName.j0 k a0 true) else (if (a0.size : Int) > 12 then (impl_IsName.j0 k a0 true) else (if 0 < (a0.size : Int) then (if (bt a0 0) < 97 then (impl_IsName.j0 k a0 true) else (impl_IsName.j0 k a0 (decide ((bt a0 0) > 122)))) else (none)))
theorem impl_IsName.calls (k : Nat) (a0 : ByteArray) (r : Bool) (w : World) (h : impl_IsName.f k a0 = some r) :
  Calls Tryz.prog 82 #[.string a0] w fun e w' => e = .returned (.bool r) ∧ Drawn0 w w' := by
 have H := h; clear h; unfold impl_IsName.f at H; have HC2 := aS H; clear H; go_enter Tryz.func82, Tryz.ntmps82
 go_upto_region 1 with (fail)
 go_cut [21] (fun v21 wc => ∃ (kq : Nat) (x21_1 : Bool), v21 = .bool x21_1 ∧ Aside0 (impl_IsName.j0 kq a0 x21_1 = some r) ∧ Aside0 (kq ≤ k) ∧ Drawn0 w wc)
 case first =>
  have H := HC2.out; clear HC2; replace H := iE H; rcases H with ⟨c3, H⟩ | ⟨c3, H⟩
  ·
   have c3b0 := decide_eq_true c3; have c3b1 : decide (a0.size < 1) = true := decide_eq_true (by omega); clear c3; (first | rw [c3b0] | (simp only [i64_w, i32_w]; rw [c3b0]) | (rw [c3b2]; simp only [Bool.not_false, Bool.not_true]) | rw [c3b1] | skip); have H' := aS H; clear H; go_wp2; go_meet
   case rel => exact ⟨_, (true), eV, H', jL0, eD⟩
  ·
   have c3b0 := decide_eq_false c3; have c3b1 : decide (a0.size < 1) = false := decide_eq_false (by omega); clear c3; (first | rw [c3b0] | (simp only [i64_w, i32_w]; rw [c3b0]) | (rw [c3b2]; simp only [Bool.not_false, Bool.not_true]) | rw [c3b1] | skip); replace H := iE H; rcases H with ⟨c4, H⟩ | ⟨c4, H⟩
   ·
    have c4b0 : decide (12 < (a0.size : Int)) = true := decide_eq_true c4; have c4b1 : decide (12 < a0.size) = true := decide_eq_true (by omega); clear c4; have H' := aS H; clear H; go_wp2; go_meet
    case rel => exact ⟨_, (true), eV, H', jL0, eD⟩
   ·
    have c4b0 : decide (12 < (a0.size : Int)) = false := decide_eq_false c4; have c4b1 : decide (12 < a0.size) = false := decide_eq_false (by omega); clear c4; replace H := iE H; rcases H with ⟨c5, H⟩ | ⟨c5, H⟩
    ·
     have c5b0 := decide_eq_true c5; have c5b1 : decide (0 < a0.size) = true := decide_eq_true (by omega); clear c5; replace H := iD H; rcases H with ⟨c7b0, H⟩ | ⟨c7b0, H⟩
     ·
      have H' := aS H; clear H; have p6 : 0 ≤ (0 : Int) := (by omega); have q6 : 0 < a0.size := (by have : (0 : Int) < (a0.size : Int) := sD; omega); have hx6 : ∀ h : 0 < a0.size, ((a0[0]'h).toNat : Int) = bt a0 0 := bt_at a0 0; clear p6; have qi6 : (0 < (a0.size : Int)) = True := eq_true (sD); go_wp2; go_meet
      case rel => exact ⟨_, (true), eV, H', jL0, eD⟩
     ·
      have H' := aS H; clear H; have p6 : 0 ≤ (0 : Int) := (by omega); have q6 : 0 < a0.size := (by have : (0 : Int) < (a0.size : Int) := sD; omega); have hx6 : ∀ h : 0 < a0.size, ((a0[0]'h).toNat : Int) = bt a0 0 := bt_at a0 0; clear p6; have qi6 : (0 < (a0.size : Int)) = True := eq_true (sD); have p8 : 0 ≤ (0 : Int) := (by omega); have q8 : 0 < a0.size := (by have : (0 : Int) < (a0.size : Int) := sD; omega); have hx8 : ∀ h : 0 < a0.size, ((a0[0]'h).toNat : Int) = bt a0 0 := bt_at a0 0; clear p8; have qi8 : (0 < (a0.size : Int)) = True := eq_true (sD); go_wp2; go_meet
      case rel => exact ⟨_, (decide ((bt a0 0) > 122)), eV, H', jL0, eD⟩
    ·
     exact absurd H (by simp)
 case rest =>
  clear HC2; (try clear hx6); (try clear hx8); obtain ⟨kq, x21_1, rfl, HA, HJ1, ⟨mc1, rfl⟩⟩ := hcut; cases kq with
  | zero => exact absurd HA.out (by simp [impl_IsName.j0])
  | succ kj1 =>
   have H := HA.out; clear HA; simp only [impl_IsName.j0] at H; replace H := iZ H; rcases H with ⟨rfl, H⟩ | ⟨rfl, H⟩
   ·
    obtain rfl := Option.some.inj H; go_wp2; go_ret; exact ⟨eV, eD⟩
   ·
    have H' := aS H; clear H; go_wp2
    go_loopg [3] kj1 (fun kq v3 w' => ∃ (x3_2 : Int), v3 = .int .i64 x3_2 ∧ Aside0 (impl_IsName.l0 kq a0 x3_2 = some r) ∧ Aside0 (kq ≤ kj1) ∧ Drawn0 w w')
    case atStart => exact ⟨(0), eV, H', ⟨Nat.le_refl _⟩, eD⟩
    case round =>
     clear H'; (try clear hx6); (try clear hx8); obtain ⟨x3_2, rfl, HA, HK2, ⟨m2, rfl⟩⟩ := hrel; cases gk with
     | zero => exact absurd HA.out (by simp [impl_IsName.l0])
     | succ k2 =>
      have H := HA.out; clear HA; simp only [impl_IsName.l0] at H; replace H := iD H; rcases H with ⟨c10b0, H⟩ | ⟨c10b0, H⟩
      ·
       have HC11 := aS H; clear H
       go_upto_region 6 with (fail)
       go_cut [55] (fun v55 wc => ∃ (kq : Nat) (x55_10 : Bool), v55 = .bool x55_10 ∧ Aside0 (impl_IsName.j2 kq a0 x3_2 x55_10 = some r) ∧ Aside0 (kq ≤ k2) ∧ Drawn0 w wc)
       case first =>
        have H := HC11.out; clear HC11; replace H := iE H; rcases H with ⟨c12, H⟩ | ⟨c12, H⟩
        ·
         have c12b0 := decide_eq_true c12; clear c12; (first | rw [c12b0] | (simp only [i64_w, i32_w]; rw [c12b0]) | (rw [c12b2]; simp only [Bool.not_false, Bool.not_true]) | rw [c12b1] | skip); replace H := iD H; rcases H with ⟨c14b0, H⟩ | ⟨c14b0, H⟩
         ·
          replace H := iD H; rcases H with ⟨c16b0, H⟩ | ⟨c16b0, H⟩
          ·
           have H' := aS H; clear H; have p13 : 0 ≤ (x3_2 : Int) := sD; have q13 : x3_2 < (a0.size : Int) := sD; have hx13 := bt_at a0 x3_2; have p15 : 0 ≤ (x3_2 : Int) := sD; have q15 : x3_2 < (a0.size : Int) := sD; have hx15 := bt_at a0 x3_2; have p17 : 0 ≤ (x3_2 : Int) := sD; have q17 : x3_2 < (a0.size : Int) := sD; have hx17 := bt_at a0 x3_2; go_wp2; go_meet
           case rel => exact ⟨_, (((bt a0 x3_2) != 45)), eV, H', (jL2 HJ1 HK2), eD⟩
          ·
           replace H := iE H; rcases H with ⟨c19, H⟩ | ⟨c19, H⟩
           ·
            have c19b0 : decide (57 < (bt a0 x3_2)) = true := decide_eq_true c19; clear c19; have H' := aS H; clear H; have p13 : 0 ≤ (x3_2 : Int) := sD; have q13 : x3_2 < (a0.size : Int) := sD; have hx13 := bt_at a0 x3_2; have p15 : 0 ≤ (x3_2 : Int) := sD; have q15 : x3_2 < (a0.size : Int) := sD; have hx15 := bt_at a0 x3_2; have p18 : 0 ≤ (x3_2 : Int) := sD; have q18 : x3_2 < (a0.size : Int) := sD; have hx18 := bt_at a0 x3_2; have p20 : 0 ≤ (x3_2 : Int) := sD; have q20 : x3_2 < (a0.size : Int) := sD; have hx20 := bt_at a0 x3_2; go_wp2; go_meet
            case rel => exact ⟨_, (((bt a0 x3_2) != 45)), eV, H', (jL2 HJ1 HK2), eD⟩
           ·
            have c19b0 : decide (57 < (bt a0 x3_2)) = false := decide_eq_false c19; clear c19; have H' := aS H; clear H; have p13 : 0 ≤ (x3_2 : Int) := sD; have q13 : x3_2 < (a0.size : Int) := sD; have hx13 := bt_at a0 x3_2; have p15 : 0 ≤ (x3_2 : Int) := sD; have q15 : x3_2 < (a0.size : Int) := sD; have hx15 := bt_at a0 x3_2; have p18 : 0 ≤ (x3_2 : Int) := sD; have q18 : x3_2 < (a0.size : Int) := sD; have hx18 := bt_at a0 x3_2; go_wp2; go_meet
            case rel => exact ⟨_, (false), eV, H', (jL2 HJ1 HK2), eD⟩
         ·
          replace H := iE H; rcases H with ⟨c22, H⟩ | ⟨c22, H⟩
          ·
           have c22b0 : decide (122 < (bt a0 x3_2)) = true := decide_eq_true c22; clear c22; replace H := iD H; rcases H with ⟨c24b0, H⟩ | ⟨c24b0, H⟩
           ·
            have H' := aS H; clear H; have p13 : 0 ≤ (x3_2 : Int) := sD; have q13 : x3_2 < (a0.size : Int) := sD; have hx13 := bt_at a0 x3_2; have p21 : 0 ≤ (x3_2 : Int) := sD; have q21 : x3_2 < (a0.size : Int) := sD; have hx21 := bt_at a0 x3_2; have p23 : 0 ≤ (x3_2 : Int) := sD; have q23 : x3_2 < (a0.size : Int) := sD; have hx23 := bt_at a0 x3_2; have p25 : 0 ≤ (x3_2 : Int) := sD; have q25 : x3_2 < (a0.size : Int) := sD; have hx25 := bt_at a0 x3_2; go_wp2; go_meet
            case rel => exact ⟨_, (((bt a0 x3_2) != 45)), eV, H', (jL2 HJ1 HK2), eD⟩
           ·
            replace H := iE H; rcases H with ⟨c27, H⟩ | ⟨c27, H⟩
            ·
             have c27b0 : decide (57 < (bt a0 x3_2)) = true := decide_eq_true c27; clear c27; have H' := aS H; clear H; have p13 : 0 ≤ (x3_2 : Int) := sD; have q13 : x3_2 < (a0.size : Int) := sD; have hx13 := bt_at a0 x3_2; have p21 : 0 ≤ (x3_2 : Int) := sD; have q21 : x3_2 < (a0.size : Int) := sD; have hx21 := bt_at a0 x3_2; have p23 : 0 ≤ (x3_2 : Int) := sD; have q23 : x3_2 < (a0.size : Int) := sD; have hx23 := bt_at a0 x3_2; have p26 : 0 ≤ (x3_2 : Int) := sD; have q26 : x3_2 < (a0.size : Int) := sD; have hx26 := bt_at a0 x3_2; have p28 : 0 ≤ (x3_2 : Int) := sD; have q28 : x3_2 < (a0.size : Int) := sD; have hx28 := bt_at a0 x3_2; go_wp2; go_meet
             case rel => exact ⟨_, (((bt a0 x3_2) != 45)), eV, H', (jL2 HJ1 HK2), eD⟩
            ·
             have c27b0 : decide (57 < (bt a0 x3_2)) = false := decide_eq_false c27; clear c27; have H' := aS H; clear H; have p13 : 0 ≤ (x3_2 : Int) := sD; have q13 : x3_2 < (a0.size : Int) := sD; have hx13 := bt_at a0 x3_2; have p21 : 0 ≤ (x3_2 : Int) := sD; have q21 : x3_2 < (a0.size : Int) := sD; have hx21 := bt_at a0 x3_2; have p23 : 0 ≤ (x3_2 : Int) := sD; have q23 : x3_2 < (a0.size : Int) := sD; have hx23 := bt_at a0 x3_2; have p26 : 0 ≤ (x3_2 : Int) := sD; have q26 : x3_2 < (a0.size : Int) := sD; have hx26 := bt_at a0 x3_2; go_wp2; go_meet
             case rel => exact ⟨_, (false), eV, H', (jL2 HJ1 HK2), eD⟩
          ·
           have c22b0 : decide (122 < (bt a0 x3_2)) = false := decide_eq_false c22; clear c22; have H' := aS H; clear H; have p13 : 0 ≤ (x3_2 : Int) := sD; have q13 : x3_2 < (a0.size : Int) := sD; have hx13 := bt_at a0 x3_2; have p21 : 0 ≤ (x3_2 : Int) := sD; have q21 : x3_2 < (a0.size : Int) := sD; have hx21 := bt_at a0 x3_2; go_wp2; go_meet
           case rel => exact ⟨_, (false), eV, H', (jL2 HJ1 HK2), eD⟩
        ·
         exact absurd H (by simp)
       case rest =>
        clear HC11; (try clear hx1); (try clear hx2); (try clear hx6); (try clear hx8); (try clear hx13); (try clear hx15); (try clear hx17); (try clear hx18); (try clear hx20); (try clear hx21); (try clear hx23); (try clear hx25); (try clear hx26); (try clear hx28); obtain ⟨kq, x55_10, rfl, HA, HJ10, ⟨mc10, rfl⟩⟩ := hcut; cases kq with
        | zero => exact absurd HA.out (by simp [impl_IsName.j2])
        | succ kj10 =>
         have H := HA.out; clear HA; simp only [impl_IsName.j2] at H; replace H := iZ H; rcases H with ⟨rfl, H⟩ | ⟨rfl, H⟩
         ·
          obtain rfl := Option.some.inj H; go_wp2; go_ret; exact ⟨eV, eD⟩
         ·
          have H' := aS H; clear H; go_wp2
          go_roundg kj10
          case measure => have := HJ1.out; have := HK2.out; have := HJ10.out; omega
          case rel => exact ⟨(wrap64 (x3_2 + 1)), eV, H', ⟨by have := HJ1.out; have := HK2.out; have := HJ10.out; omega⟩, eD⟩
      ·
       obtain rfl := Option.some.inj H; go_wp2; go_ret; exact ⟨eV, eD⟩

def impl_validJoin.f (k : Nat) (a0_0 : ByteArray) (a0_1 : Int) (a0_2 : Int) : Option (Bool) := (impl_IsName.f k a0_0).bind fun t321 => (if t321 = true then ((impl_within.f a0_1 1 1000).bind fun t322 => (if t322 = true then ((impl_within.f a0_2 0 1000).bind fun t323 => (some t323)) else (some false))) else (some false))
theorem impl_validJoin.calls (k : Nat) (a0_0 : ByteArray) (a0_1 : Int) (a0_2 : Int) (r : Bool) (w : World) (h : impl_validJoin.f k a0_0 a0_1 a0_2 = some r) :
  Calls Tryz.prog 51 #[.agg #[.string a0_0, .int .i64 a0_1, .int .i64 a0_2]] w fun e w' => e = .returned (.bool r) ∧ Below w.heap.size w w' := by
 have hu47 := Tryz.underlying47; have HB := aS (Below.refl w.heap.size w); have H := h; clear h; unfold impl_validJoin.f at H; replace H := bE H; obtain ⟨t321, A2, H⟩ := H; try dsimp only at H
 replace H := iZ H; rcases H with ⟨rfl, H⟩ | ⟨rfl, H⟩
 ·
  replace H := bE H; obtain ⟨t322, A4, H⟩ := H; try dsimp only at H
  replace H := iZ H; rcases H with ⟨rfl, H⟩ | ⟨rfl, H⟩
  ·
   replace H := bE H; obtain ⟨t323, A6, H⟩ := H; try dsimp only at H
   obtain rfl := Option.some.inj H; go_enter Tryz.func51, Tryz.ntmps51
   go_wp2_with (first | ((with_reducible refine gt 1 rfl ?_); refine bx 1 #[.string a0_0, .int .i64 a0_1, .int .i64 a0_2] 47 ?_; intro gb320 hg w7 hbox hb; have BK320 := aS (hbox); have GW320 := aS (gW hg (sW HB.out)); have GE320 := aS (gW hg (sW HB.out)); replace HB := lW HB hb; clear hb hbox hg; obtain ⟨hcz8_0, hcz8_1, hcz8_2, hfz8_0, hfz8_1, hfz8_2⟩ := z3 BK320.out) | ((with_reducible refine gk 82 rfl ?_); refine gC (some 5) rfl Tryz.func82 #[.string a0_0] (impl_IsName.calls k a0_0 true _ A2.out) ?_; rintro e w' ⟨rfl, ⟨nd, rfl⟩⟩; refine ⟨_, rfl, ?_⟩) | (go_at_call 47; (with_reducible refine (impl_within.calls a0_1 1 1000 true _ A4.out).mono ?_); rintro e w' ⟨rfl, ⟨nd, rfl⟩⟩) | (go_at_call 47; (with_reducible refine (impl_within.calls a0_2 0 1000 t323 _ A6.out).mono ?_); rintro e w' ⟨rfl, ⟨nd, rfl⟩⟩))
   go_ret; exact ⟨eE, sW HB.out⟩
  ·
   obtain rfl := Option.some.inj H; go_enter Tryz.func51, Tryz.ntmps51
   go_wp2_with (first | ((with_reducible refine gt 1 rfl ?_); refine bx 1 #[.string a0_0, .int .i64 a0_1, .int .i64 a0_2] 47 ?_; intro gb320 hg w9 hbox hb; have BK320 := aS (hbox); have GW320 := aS (gW hg (sW HB.out)); have GE320 := aS (gW hg (sW HB.out)); replace HB := lW HB hb; clear hb hbox hg; obtain ⟨hcz10_0, hcz10_1, hcz10_2, hfz10_0, hfz10_1, hfz10_2⟩ := z3 BK320.out) | ((with_reducible refine gk 82 rfl ?_); refine gC (some 5) rfl Tryz.func82 #[.string a0_0] (impl_IsName.calls k a0_0 true _ A2.out) ?_; rintro e w' ⟨rfl, ⟨nd, rfl⟩⟩; refine ⟨_, rfl, ?_⟩) | (go_at_call 47; (with_reducible refine (impl_within.calls a0_1 1 1000 false _ A4.out).mono ?_); rintro e w' ⟨rfl, ⟨nd, rfl⟩⟩))
   go_ret; exact ⟨eE, sW HB.out⟩
 ·
  obtain rfl := Option.some.inj H; go_enter Tryz.func51, Tryz.ntmps51
  go_wp2_with (first | ((with_reducible refine gt 1 rfl ?_); refine bx 1 #[.string a0_0, .int .i64 a0_1, .int .i64 a0_2] 47 ?_; intro gb320 hg w11 hbox hb; have BK320 := aS (hbox); have GW320 := aS (gW hg (sW HB.out)); have GE320 := aS (gW hg (sW HB.out)); replace HB := lW HB hb; clear hb hbox hg; obtain ⟨hcz12_0, hcz12_1, hcz12_2, hfz12_0, hfz12_1, hfz12_2⟩ := z3 BK320.out) | ((with_reducible refine gk 82 rfl ?_); refine gC (some 5) rfl Tryz.func82 #[.string a0_0] (impl_IsName.calls k a0_0 false _ A2.out) ?_; rintro e w' ⟨rfl, ⟨nd, rfl⟩⟩; refine ⟨_, rfl, ?_⟩))
  go_ret; exact ⟨eE, sW HB.out⟩

def impl_ValidJoins_1.f (a0_0 : ByteArray) (a0_1 : Int) (a0_2 : Int) (l1 : List (S47)) : Option (Bool) := if 0 < (l1.length : Int) then (some (a0_0.toList == ((rd_T47 l1 0).f0).toList)) else (none)
theorem impl_ValidJoins_1.calls (a0_0 : ByteArray) (a0_1 : Int) (a0_2 : Int) (A1 : Option Addr) (c1 : Nat) (l1 : List (S47)) (r : Bool) (w : World) (hr1 : Kd.C k47 w A1 l1.length l1) (hc1 : l1.length ≤ c1) (h : impl_ValidJoins_1.f a0_0 a0_1 a0_2 l1 = some r) :
  Calls Tryz.prog 67 #[.agg #[.string a0_0, .int .i64 a0_1, .int .i64 a0_2], .pointer A1] w fun e w' => e = .returned (.bool r) ∧ Below w.heap.size w w' := by
 have hu47 := Tryz.underlying47; have HR1 := aS hr1; have HC1 := aS hc1; clear hr1 hc1; have HB := aS (Below.refl w.heap.size w); have H := h; clear h; unfold impl_ValidJoins_1.f at H; replace H := iE H; rcases H with ⟨c3, H⟩ | ⟨c3, H⟩
 ·
  have c3b0 := decide_eq_true c3; have c3b1 : decide (0 < l1.length) = true := decide_eq_true (by omega); clear c3; obtain rfl := Option.some.inj H; go_enter Tryz.func67, Tryz.ntmps67
  go_wp2_with (first | ((with_reducible refine gt 2 rfl ?_); refine bx 2 #[.string a0_0, .int .i64 a0_1, .int .i64 a0_2] 47 ?_; intro gb324 hg w4 hbox hb; have BK324 := aS (hbox); have GW324 := aS (gW hg (sW HB.out)); have GE324 := aS (gW hg (sW HB.out)); replace HB := lW HB hb; clear hb hbox hg; obtain ⟨hcz5_0, hcz5_1, hcz5_2, hfz5_0, hfz5_1, hfz5_2⟩ := z3 BK324.out; have p325 : 0 ≤ (0 : Int) := (by omega); have q325 : 0 < (l1.length : Int) := sD; obtain ⟨ad325, e325, hx325_0, hx325_1, hx325_2⟩ := at_T47 HR1.out 0 p325 q325; cases e325; have qi325 : (0 < l1.length) = True := eq_true (by omega); (try rw [show ((0 : Int)).toNat = 0 from rfl] at hx325_0); (try rw [show 0 * 3 = 0 from rfl] at hx325_0); (try rw [Addr.add_zero'] at hx325_0); (try rw [show ((0 : Int)).toNat = 0 from rfl] at hx325_1); (try rw [show 0 * 3 = 0 from rfl] at hx325_1); (try rw [Addr.add_zero'] at hx325_1); (try rw [show ((0 : Int)).toNat = 0 from rfl] at hx325_2); (try rw [show 0 * 3 = 0 from rfl] at hx325_2); (try rw [Addr.add_zero'] at hx325_2); replace hx325_0 := bC HB.out hx325_0; replace hx325_1 := bC HB.out hx325_1; replace hx325_2 := bC HB.out hx325_2))
  go_ret; exact ⟨eE, sW HB.out⟩
 ·
  exact absurd H (by simp)

def impl_Join_90.l0 : Nat → List (S47) → List (S47) → Int → Int → Option (Int)
 | 0, _, _, _, _ => none
 | k + 1, x0, x1, x7, x8 => if x8 < x7 then (if 0 ≤ x8 then (if x8 < (x0.length : Int) then ((impl_ValidJoins_1.f ((rd_T47 x0 x8).f0) ((rd_T47 x0 x8).f1) ((rd_T47 x0 x8).f2) x1).bind fun t327 => (if t327 = true then (some x8) else (impl_Join_90.l0 k x0 x1 x7 (wrap64 (x8 + 1))))) else (none)) else (none)) else (some (-1))
def impl_Join_90.f (k : Nat) (l0 : List (S47)) (l1 : List (S47)) : Option (Int) := impl_Join_90.l0 k l0 l1 (l0.length : Int) 0
theorem impl_Join_90.calls (k : Nat) (A0 : Option Addr) (c0 : Nat) (l0 : List (S47)) (A1 : Option Addr) (c1 : Nat) (l1 : List (S47)) (r : Int) (w : World) (hr0 : Kd.C k47 w A0 l0.length l0) (hc0 : l0.length ≤ c0) (hr1 : Kd.C k47 w A1 l1.length l1) (hc1 : l1.length ≤ c1) (h : impl_Join_90.f k l0 l1 = some r) :
  Calls Tryz.prog 90 #[.slice A0 l0.length c0, .func (.func 67) #[] #[.pointer A1]] w fun e w' => e = .returned (.int .i64 r) ∧ Below w.heap.size w w' := by
 have hu47 := Tryz.underlying47; have HR0 := aS hr0; have HC0 := aS hc0; clear hr0 hc0; have HR1 := aS hr1; have HC1 := aS hc1; clear hr1 hc1; have HB := aS (Below.refl w.heap.size w); have H := h; clear h; unfold impl_Join_90.f at H; have H' := aS H; clear H; go_enter Tryz.func90, Tryz.ntmps90; go_wp2
 go_loopg [8] k (fun kq v8 w' => ∃ (x8_1 : Int), v8 = .int .i64 x8_1 ∧ Aside0 (impl_Join_90.l0 kq l0 l1 (l0.length : Int) x8_1 = some r) ∧ Aside0 (kq ≤ k) ∧ Aside0 (Below w.heap.size w w'))
 case atStart => exact ⟨(0), eV, H', ⟨Nat.le_refl _⟩, (aS (sW HB.out))⟩
 case round =>
  clear H'; obtain ⟨x8_1, rfl, HA, HK1, HB⟩ := hrel; cases gk with
  | zero => exact absurd HA.out (by simp [impl_Join_90.l0])
  | succ k1 =>
   have H := HA.out; clear HA; simp only [impl_Join_90.l0] at H; replace H := iD H; rcases H with ⟨c3b0, H⟩ | ⟨c3b0, H⟩
   ·
    replace H := iE H; rcases H with ⟨c4, H⟩ | ⟨c4, H⟩
    ·
     have c4b0 := decide_eq_true c4; clear c4; replace H := iE H; rcases H with ⟨c5, H⟩ | ⟨c5, H⟩
     ·
      have c5b0 := decide_eq_true c5; clear c5; replace H := bE H; obtain ⟨t327, A6, H⟩ := H; try dsimp only at H
      have HC7 := aS H; clear H; have p326 : 0 ≤ (x8_1 : Int) := sD; have q326 : x8_1 < (l0.length : Int) := sD; obtain ⟨ad326, e326, hx326_0, hx326_1, hx326_2⟩ := at_T47 HR0.out x8_1 p326 q326; cases e326; replace hx326_0 := bC HB.out hx326_0; replace hx326_1 := bC HB.out hx326_1; replace hx326_2 := bC HB.out hx326_2
      go_upto_if 16 with (first | ((with_reducible refine gate_closure 11 rfl ?_); refine goesC_ (some 16) rfl rfl Tryz.func67 (by kernel_rfl) rfl #[.agg #[.string ((rd_T47 l0 x8_1).f0), .int .i64 ((rd_T47 l0 x8_1).f1), .int .i64 ((rd_T47 l0 x8_1).f2)], .pointer A1] #[.pointer A1] rfl rfl (by (try simp only [List.map_toArray, List.map_cons, List.map_nil]); first | done | rfl) ?_; refine (impl_ValidJoins_1.calls ((rd_T47 l0 x8_1).f0) ((rd_T47 l0 x8_1).f1) ((rd_T47 l0 x8_1).f2) _ l1.length l1 t327 _ (sC (Kd.C_below HR1.out HB.out)) (Nat.le_refl _) A6.out).mono ?_; rintro e w8 ⟨rfl, hb⟩; refine ⟨_, rfl, ?_⟩; replace HB := lW HB hb))
      (try simp only [Act.put, List.setIfInBounds_toArray, List.set_cons_zero, List.set_cons_succ]); have H := HC7.out; clear HC7; replace H := iZ H; rcases H with ⟨rfl, H⟩ | ⟨rfl, H⟩
      ·
       obtain rfl := Option.some.inj H; go_wp2; go_ret; exact ⟨eE, sW HB.out⟩
      ·
       have H' := aS H; clear H; go_wp2
       go_roundg k1
       case measure => have := HK1.out; omega
       case rel => exact ⟨(wrap64 (x8_1 + 1)), eV, H', ⟨by have := HK1.out; omega⟩, (aS (sW HB.out))⟩
     ·
      exact absurd H (by simp)
    ·
     exact absurd H (by simp)
   ·
    obtain rfl := Option.some.inj H; go_wp2; go_ret; exact ⟨eE, sW HB.out⟩

def impl_Join_66.f (k : Nat) (l0 : List (S47)) (l1 : List (S47)) : Option (Bool) := (impl_Join_90.f k l0 l1).bind fun t328 => (some (decide (t328 ≥ 0)))
theorem impl_Join_66.calls (k : Nat) (A0 : Option Addr) (c0 : Nat) (l0 : List (S47)) (A1 : Option Addr) (c1 : Nat) (l1 : List (S47)) (r : Bool) (w : World) (hr0 : Kd.C k47 w A0 l0.length l0) (hc0 : l0.length ≤ c0) (hr1 : Kd.C k47 w A1 l1.length l1) (hc1 : l1.length ≤ c1) (h : impl_Join_66.f k l0 l1 = some r) :
  Calls Tryz.prog 66 #[.slice A0 l0.length c0, .func (.func 67) #[] #[.pointer A1]] w fun e w' => e = .returned (.bool r) ∧ Below w.heap.size w w' := by
 have HR0 := aS hr0; have HC0 := aS hc0; clear hr0 hc0; have HR1 := aS hr1; have HC1 := aS hc1; clear hr1 hc1; have HB := aS (Below.refl w.heap.size w); have H := h; clear h; unfold impl_Join_66.f at H; replace H := bE H; obtain ⟨t328, A3, H⟩ := H; try dsimp only at H
 obtain rfl := Option.some.inj H; go_enter Tryz.func66, Tryz.ntmps66
 go_wp2_with (first | ((with_reducible refine gk 90 rfl ?_); refine gC (some 7) rfl Tryz.func90 #[.slice A0 l0.length c0, .func (.func 67) #[] #[.pointer A1]] (impl_Join_90.calls k _ _ l0 _ l1.length l1 t328 _ (sC HR0.out) HC0.out (sC HR1.out) (Nat.le_refl _) A3.out) ?_; rintro e w4 ⟨rfl, hb⟩; refine ⟨_, rfl, ?_⟩; replace HB := lW HB hb))
 go_ret; exact ⟨eE, sW HB.out⟩
def impl_ValidJoins.l0 : Nat → List (S47) → List (S47) → Int → Int → Option (Bool)
 | 0, _, _, _, _ => none
 | k + 1, x0, x8, x9, x10 => if x10 < x9 then (if 0 ≤ x10 then (if x10 < (x8.length : Int) then ((impl_validJoin.f k ((rd_T47 x8 x10).f0) ((rd_T47 x8 x10).f1) ((rd_T47 x8 x10).f2)).bind fun t331 => (if t331 = true then (if x10 ≤ (x0.length : Int) then ((impl_Join_66.f k (x0.take (x10 : Int).toNat) [(⟨(rd_T47 x8 x10).f0, (rd_T47 x8 x10).f1, (rd_T47 x8 x10).f2⟩ : S47)]).bind fun t336 => (if t336 = true then (some false) else (impl_ValidJoins.l0 k x0 x8 x9 (wrap64 (x10 + 1))))) else (none)) else (some false))) else (none)) else (none)) else (some true)
def impl_ValidJoins.f (k : Nat) (l0 : List (S47)) : Option (Bool) := if (l0.length : Int) > 20 then (some false) else (impl_ValidJoins.l0 k l0 l0 (l0.length : Int) 0)
theorem impl_ValidJoins.calls (k : Nat) (A0 : Option Addr) (c0 : Nat) (l0 : List (S47)) (r : Bool) (w : World) (hr0 : Kd.C k47 w A0 l0.length l0) (hc0 : l0.length ≤ c0) (h : impl_ValidJoins.f k l0 = some r) :
  Calls Tryz.prog 28 #[.slice A0 l0.length c0] w fun e w' => e = .returned (.bool r) ∧ Below w.heap.size w w' := by
 have hu47 := Tryz.underlying47; have HR0 := aS hr0; have HC0 := aS hc0; clear hr0 hc0; have HB := aS (Below.refl w.heap.size w); have H := h; clear h; unfold impl_ValidJoins.f at H; replace H := iE H; rcases H with ⟨c2, H⟩ | ⟨c2, H⟩
 ·
  have c2b0 : decide (20 < (l0.length : Int)) = true := decide_eq_true c2; have c2b1 : decide (20 < l0.length) = true := decide_eq_true (by omega); clear c2; obtain rfl := Option.some.inj H; go_enter Tryz.func28, Tryz.ntmps28; go_wp2; go_ret; exact ⟨eE, sW HB.out⟩
 ·
  have c2b0 : decide (20 < (l0.length : Int)) = false := decide_eq_false c2; have c2b1 : decide (20 < l0.length) = false := decide_eq_false (by omega); clear c2; have H' := aS H; clear H; go_enter Tryz.func28, Tryz.ntmps28; go_wp2
  go_loopg [10] k (fun kq v10 w' => ∃ (x10_1 : Int), v10 = .int .i64 x10_1 ∧ Aside0 (impl_ValidJoins.l0 kq l0 l0 (l0.length : Int) x10_1 = some r) ∧ Aside0 (kq ≤ k) ∧ Aside0 (Below w.heap.size w w'))
  case atStart => exact ⟨(0), eV, H', ⟨Nat.le_refl _⟩, (aS (sW HB.out))⟩
  case round =>
   clear H'; obtain ⟨x10_1, rfl, HA, HK1, HB⟩ := hrel; cases gk with
   | zero => exact absurd HA.out (by simp [impl_ValidJoins.l0])
   | succ k1 =>
    have H := HA.out; clear HA; simp only [impl_ValidJoins.l0] at H; replace H := iD H; rcases H with ⟨c3b0, H⟩ | ⟨c3b0, H⟩
    ·
     replace H := iE H; rcases H with ⟨c4, H⟩ | ⟨c4, H⟩
     ·
      have c4b0 := decide_eq_true c4; clear c4; replace H := iE H; rcases H with ⟨c5, H⟩ | ⟨c5, H⟩
      ·
       have c5b0 := decide_eq_true c5; clear c5; replace H := bE H; obtain ⟨t331, A6, H⟩ := H; try dsimp only at H
       replace H := iZ H; rcases H with ⟨rfl, H⟩ | ⟨rfl, H⟩
       ·
        have c8b0 := eq_true (sD : 0 ≤ x10_1); replace H := iE H; rcases H with ⟨c9, H⟩ | ⟨c9, H⟩
        ·
         have c9b0 := eq_true c9; have c9b1 := decide_eq_true c9; clear c9; obtain ⟨y332, hy332⟩ : ∃ y_ : List (S47), y_ = (l0.take (x10_1 : Int).toNat) := ⟨_, rfl⟩; replace H : ((impl_Join_66.f k1 y332 [(⟨(rd_T47 l0 x10_1).f0, (rd_T47 l0 x10_1).f1, (rd_T47 l0 x10_1).f2⟩ : S47)]).bind fun t336 => (if t336 = true then (some false) else (impl_ValidJoins.l0 k1 l0 l0 (l0.length : Int) (wrap64 (x10_1 + 1))))) = some r := by first | (rw [hy332]; with_reducible exact H) | (have H2_ := (Option.bind_some _ _).symm.trans H; rw [hy332]; with_reducible exact H2_) | (have H2_ := (Option.bind_some _ _).symm.trans H; with_reducible exact H2_) | with_reducible exact H | (rw [hy332]; exact H) | exact H
         have Ny332 := aS hy332; clear hy332; replace H := bE H; obtain ⟨t336, A10, H⟩ := H; try dsimp only at H
         have HC11 := aS H; clear H; have p329 : 0 ≤ (x10_1 : Int) := sD; have q329 : x10_1 < (l0.length : Int) := sD; obtain ⟨ad329, e329, hx329_0, hx329_1, hx329_2⟩ := at_T47 HR0.out x10_1 p329 q329; cases e329; replace hx329_0 := bC HB.out hx329_0; replace hx329_1 := bC HB.out hx329_1; replace hx329_2 := bC HB.out hx329_2
         go_upto_if 24 with (first | ((with_reducible refine gt 4 rfl ?_); refine bx 4 #[.string (⟨#[]⟩ : ByteArray), .int .i64 0, .int .i64 0] 47 ?_; intro gb330 hg w12 hbox hb; have BK330 := aS (hbox); have GW330 := aS (gW hg (sW HB.out)); have GE330 := aS (gW hg (sW HB.out)); replace HB := lW HB hb; clear hb hbox hg; obtain ⟨hcz13_0, hcz13_1, hcz13_2, hfz13_0, hfz13_1, hfz13_2⟩ := z3 BK330.out) | ((with_reducible refine gk 51 rfl ?_); refine gC (some 16) rfl Tryz.func51 #[.agg #[.string ((rd_T47 l0 x10_1).f0), .int .i64 ((rd_T47 l0 x10_1).f1), .int .i64 ((rd_T47 l0 x10_1).f2)]] (impl_validJoin.calls k1 ((rd_T47 l0 x10_1).f0) ((rd_T47 l0 x10_1).f1) ((rd_T47 l0 x10_1).f2) true _ A6.out) ?_; rintro e w14 ⟨rfl, hb⟩; refine ⟨_, rfl, ?_⟩; replace BK330 := aS (blk_below (g := gb330) (o := .cells #[.string ((rd_T47 l0 x10_1).f0), .int .i64 ((rd_T47 l0 x10_1).f1), .int .i64 ((rd_T47 l0 x10_1).f2)] 47 (0, 0)) (by exact sZ BK330.out) hb); replace HB := lW HB hb; (try clear hb); (try clear hb2); (try clear hk); (try clear hi); have q15 : (x10_1 : Int) ≤ ((l0.length : Int) : Int) := sD; obtain ⟨i015, hi015, _, hsz15, _⟩ := info_parts info47; have hroom15 : l0.length ≤ c0 := HC0.out; have hC15 : Kd.C k47 _ (some ad329) l0.length l0 := HR0.out; have hcut15 := cut_to (P := Tryz.prog) 24 47 .i64 Tryz.underlying24 hi015 (some ad329) l0.length c0 x10_1 (sD) q15 hroom15; have hr15 := Kd.C_take (m := (x10_1 : Int).toNat) hC15 (by omega); have hy15 : y332.length = (x10_1 : Int).toNat := (by rw [Ny332.out, List.length_take]; omega); rw [← Ny332.out] at hr15; rw [← hy15] at hcut15; have HR335 := aS hr15; have HC335 := aS (show y332.length ≤ c0 from by omega); clear hr15 hC15 hroom15 hi015 hsz15; have KY15 := aS hy15; clear hy15) | (go_at_call 66; (with_reducible refine (impl_Join_66.calls k1 _ _ y332 _ 1 [(⟨(rd_T47 l0 x10_1).f0, (rd_T47 l0 x10_1).f1, (rd_T47 l0 x10_1).f2⟩ : S47)] t336 _ ?side1 ?side2 ?side3 ?side4 A10.out).mono ?_); (case side1 => exact sC (Kd.C_below HR335.out HB.out)); (case side2 => exact HC335.out); (case side3 => exact box_C (show (_ : World).heap[_]? = some (Obj.cells #[.string ((rd_T47 l0 x10_1).f0), .int .i64 ((rd_T47 l0 x10_1).f1), .int .i64 ((rd_T47 l0 x10_1).f2)] 47 (0, 0)) from by (with_reducible repeat (first | refine blk_drewN ?_ _ | refine blk_drew ?_ | refine blk_alloc ?_ _)); exact BK330.out) (k47_mk _ _ )); (case side4 => exact Nat.le_refl _); rintro e w16 ⟨rfl, hb⟩; replace BK330 := lB BK330 hb; replace HB := lW HB hb))
         (try simp only [Act.put, List.setIfInBounds_toArray, List.set_cons_zero, List.set_cons_succ]); have H := HC11.out; clear HC11; replace H := iZ H; rcases H with ⟨rfl, H⟩ | ⟨rfl, H⟩
         ·
          obtain rfl := Option.some.inj H; go_wp2; go_ret; exact ⟨eE, sW HB.out⟩
         ·
          have H' := aS H; clear H; go_wp2
          go_roundg k1
          case measure => have := HK1.out; omega
          case rel => exact ⟨(wrap64 (x10_1 + 1)), eV, H', ⟨by have := HK1.out; omega⟩, (aS (sW HB.out))⟩
        ·
         exact absurd H (by simp)
       ·
        obtain rfl := Option.some.inj H; have p329 : 0 ≤ (x10_1 : Int) := sD; have q329 : x10_1 < (l0.length : Int) := sD; obtain ⟨ad329, e329, hx329_0, hx329_1, hx329_2⟩ := at_T47 HR0.out x10_1 p329 q329; cases e329; replace hx329_0 := bC HB.out hx329_0; replace hx329_1 := bC HB.out hx329_1; replace hx329_2 := bC HB.out hx329_2
        go_wp2_with (first | ((with_reducible refine gt 4 rfl ?_); refine bx 4 #[.string (⟨#[]⟩ : ByteArray), .int .i64 0, .int .i64 0] 47 ?_; intro gb330 hg w18 hbox hb; have BK330 := aS (hbox); have GW330 := aS (gW hg (sW HB.out)); have GE330 := aS (gW hg (sW HB.out)); replace HB := lW HB hb; clear hb hbox hg; obtain ⟨hcz19_0, hcz19_1, hcz19_2, hfz19_0, hfz19_1, hfz19_2⟩ := z3 BK330.out) | ((with_reducible refine gk 51 rfl ?_); refine gC (some 16) rfl Tryz.func51 #[.agg #[.string ((rd_T47 l0 x10_1).f0), .int .i64 ((rd_T47 l0 x10_1).f1), .int .i64 ((rd_T47 l0 x10_1).f2)]] (impl_validJoin.calls k1 ((rd_T47 l0 x10_1).f0) ((rd_T47 l0 x10_1).f1) ((rd_T47 l0 x10_1).f2) false _ A6.out) ?_; rintro e w20 ⟨rfl, hb⟩; refine ⟨_, rfl, ?_⟩; replace BK330 := aS (blk_below (g := gb330) (o := .cells #[.string ((rd_T47 l0 x10_1).f0), .int .i64 ((rd_T47 l0 x10_1).f1), .int .i64 ((rd_T47 l0 x10_1).f2)] 47 (0, 0)) (by exact sZ BK330.out) hb); replace HB := lW HB hb))
        go_ret; exact ⟨eE, sW HB.out⟩
      ·
       exact absurd H (by simp)
     ·
      exact absurd H (by simp)
    ·
     obtain rfl := Option.some.inj H; go_wp2; go_ret; exact ⟨eE, sW HB.out⟩

mutual
def impl_lineLength.l0 : Nat → List (S47) → Int → List (S58) → Int → Int → List (S58) → List Int → Option (Int)
 | 0, _, _, _, _, _, _, _ => none
 | k + 1, x0, x5, x11, x12, x13, x338000, x338001 => if x13 < x12 then (if 0 ≤ x13 then (if x13 < (x11.length : Int) then (impl_lineLength.l0 k x0 (wrap64 (x5 + ((rd_T58 x11 x13).f1))) x11 x12 (wrap64 (x13 + 1)) x338000 x338001) else (none)) else (none)) else (impl_lineLength.l1 k x0 x5 x338001 (x338001.length : Int) 0)
def impl_lineLength.l1 : Nat → List (S47) → Int → List Int → Int → Int → Option (Int)
 | 0, _, _, _, _, _ => none
 | k + 1, x0, x5, x23, x24, x25 => if x25 < x24 then (if 0 ≤ x25 then (if x25 < (x23.length : Int) then (if 0 ≤ (rd x23 x25) then (if (rd x23 x25) < (x0.length : Int) then (impl_lineLength.l1 k x0 (wrap64 (x5 - ((rd_T47 x0 (rd x23 x25)).f2))) x23 x24 (wrap64 (x25 + 1))) else (none)) else (none)) else (none)) else (none)) else (some x5)
end
def impl_lineLength.f (k : Nat) (l0 : List (S47)) (l1_0 : List (S58)) (l1_1 : List Int) : Option (Int) := impl_lineLength.l0 k l0 0 l1_0 (l1_0.length : Int) 0 l1_0 l1_1
theorem impl_lineLength.calls (k : Nat) (A0 : Option Addr) (c0 : Nat) (l0 : List (S47)) (A1_0 : Option Addr) (c1_0 : Nat) (l1_0 : List (S58)) (A1_1 : Option Addr) (c1_1 : Nat) (l1_1 : List Int) (r : Int) (w : World) (hr0 : Kd.C k47 w A0 l0.length l0) (hc0 : l0.length ≤ c0) (hr1_0 : Kd.C k58 w A1_0 l1_0.length l1_0) (hc1_0 : l1_0.length ≤ c1_0) (hr1_1 : Kd.C (Kd.int .i64) w A1_1 l1_1.length l1_1) (hc1_1 : l1_1.length ≤ c1_1) (h : impl_lineLength.f k l0 l1_0 l1_1 = some r) :
  Calls Tryz.prog 37 #[.slice A0 l0.length c0, .agg #[.slice A1_0 l1_0.length c1_0, .slice A1_1 l1_1.length c1_1]] w fun e w' => e = .returned (.int .i64 r) ∧ Below w.heap.size w w' := by
 have hu28 := Tryz.underlying28; have hu58 := Tryz.underlying58; have HR0 := aS hr0; have HC0 := aS hc0; clear hr0 hc0; have HR1_0 := aS hr1_0; have HC1_0 := aS hc1_0; clear hr1_0 hc1_0; have HR1_1 := aS hr1_1; have HC1_1 := aS hc1_1; clear hr1_1 hc1_1; have HB := aS (Below.refl w.heap.size w); have H := h; clear h; unfold impl_lineLength.f at H; have H' := aS H; clear H; go_enter Tryz.func37, Tryz.ntmps37
 go_wp2_with (first | ((with_reducible refine gt 3 rfl ?_); refine bx 3 #[.slice A1_0 l1_0.length c1_0, .slice A1_1 l1_1.length c1_1] 28 ?_; intro gb337 hg w3 hbox hb; have BK337 := aS (hbox); have GW337 := aS (gW hg (sW HB.out)); have GE337 := aS (gW hg (sW HB.out)); replace HB := lW HB hb; clear hb hbox hg; obtain ⟨hcz4_0, hcz4_1, hfz4_0, hfz4_1⟩ := z2 BK337.out))
 go_loopg [5, 13] k (fun kq v5 v13 w' => ∃ (x5_1 : Int) (x13_1 : Int), v5 = .int .i64 x5_1 ∧ v13 = .int .i64 x13_1 ∧ Aside0 (impl_lineLength.l0 kq l0 x5_1 l1_0 (l1_0.length : Int) x13_1 l1_0 l1_1 = some r) ∧ Aside0 (kq ≤ k) ∧ Aside0 (w'.heap[gb337]? = some (.cells #[(.slice A1_0 l1_0.length c1_0), (.slice A1_1 l1_1.length c1_1)] 28 (0, 0))) ∧ Aside0 (Below w.heap.size w w'))
 case atStart => exact ⟨(0), (0), eV, eV, H', ⟨Nat.le_refl _⟩, (aS (sB BK337.out)), (aS (sW HB.out))⟩
 case round =>
  clear H'; obtain ⟨x5_1, x13_1, rfl, rfl, HA, HK1, BK337, HB⟩ := hrel; cases gk with
  | zero => exact absurd HA.out (by simp [impl_lineLength.l0])
  | succ k1 =>
   have H := HA.out; clear HA; simp only [impl_lineLength.l0] at H; replace H := iD H; rcases H with ⟨c5b0, H⟩ | ⟨c5b0, H⟩
   ·
    replace H := iE H; rcases H with ⟨c6, H⟩ | ⟨c6, H⟩
    ·
     have c6b0 := decide_eq_true c6; clear c6; replace H := iE H; rcases H with ⟨c7, H⟩ | ⟨c7, H⟩
     ·
      have c7b0 := decide_eq_true c7; clear c7; have H' := aS H; clear H; have p338 : 0 ≤ (x13_1 : Int) := sD; have q338 : x13_1 < (l1_0.length : Int) := sD; obtain ⟨ad338, e338, hx338_0, hx338_1⟩ := at_T58 HR1_0.out x13_1 p338 q338; cases e338; replace hx338_0 := bC HB.out hx338_0; replace hx338_1 := bC HB.out hx338_1
      go_wp2_with (first | ((with_reducible refine gt 7 rfl ?_); refine bx 7 #[.int .i64 0, .int .i64 0] 58 ?_; intro gb339 hg w8 hbox hb; have BK339 := aS (hbox); have GW339 := aS (gW hg (sW HB.out)); have GE339 := aS (gW hg (sW HB.out)); replace HB := lW HB hb; have NB337_339 := aS (nL hg (sB BK337.out)); have NB339_337 := aS (nG hg (sB BK337.out)); replace BK337 := lB BK337 hb; clear hb hbox hg; obtain ⟨hnb9, hnc9⟩ := nD NB339_337; obtain ⟨hcz10_0, hcz10_1, hfz10_0, hfz10_1⟩ := z2 BK339.out))
      go_roundg k1
      case measure => have := HK1.out; omega
      case rel => exact ⟨(wrap64 (x5_1 + ((rd_T58 l1_0 x13_1).f1))), (wrap64 (x13_1 + 1)), eV, eV, H', ⟨by have := HK1.out; omega⟩, (aS (sF BK337.out NB337_339.out)), (aS (sW HB.out))⟩
     ·
      exact absurd H (by simp)
    ·
     exact absurd H (by simp)
   ·
    have H' := aS H; clear H; obtain ⟨hcz11_0, hcz11_1, hfz11_0, hfz11_1⟩ := z2 BK337.out; go_wp2
    go_loopg [5, 25] k1 (fun kq v5 v25 w' => ∃ (x5_2 : Int) (x25_2 : Int), v5 = .int .i64 x5_2 ∧ v25 = .int .i64 x25_2 ∧ Aside0 (impl_lineLength.l1 kq l0 x5_2 l1_1 (l1_1.length : Int) x25_2 = some r) ∧ Aside0 (kq ≤ k1) ∧ Aside0 (Below w.heap.size w w'))
    case atStart => exact ⟨(x5_1), (0), eV, eV, H', ⟨Nat.le_refl _⟩, (aS (sW HB.out))⟩
    case round =>
     clear H'; (try clear hx3); (try clear hx338_0); (try clear hx338_1); obtain ⟨x5_2, x25_2, rfl, rfl, HA, HK2, HB⟩ := hrel; cases gk with
     | zero => exact absurd HA.out (by simp [impl_lineLength.l1])
     | succ k2 =>
      have H := HA.out; clear HA; simp only [impl_lineLength.l1] at H; replace H := iD H; rcases H with ⟨c12b0, H⟩ | ⟨c12b0, H⟩
      ·
       replace H := iE H; rcases H with ⟨c13, H⟩ | ⟨c13, H⟩
       ·
        have c13b0 := decide_eq_true c13; clear c13; replace H := iE H; rcases H with ⟨c14, H⟩ | ⟨c14, H⟩
        ·
         have c14b0 := decide_eq_true c14; clear c14; replace H := iE H; rcases H with ⟨c15, H⟩ | ⟨c15, H⟩
         ·
          have c15b0 := decide_eq_true c15; clear c15; replace H := iE H; rcases H with ⟨c16, H⟩ | ⟨c16, H⟩
          ·
           have c16b0 := decide_eq_true c16; clear c16; have H' := aS H; clear H; have p340 : 0 ≤ (x25_2 : Int) := sD; have q340 : x25_2 < (l1_1.length : Int) := sD; obtain ⟨ad340, e340, hx340_0⟩ := Kd.at_int HR1_1.out x25_2 p340 q340; cases e340; replace hx340_0 := bC HB.out hx340_0; have p341 : 0 ≤ ((rd l1_1 x25_2) : Int) := sD; have q341 : (rd l1_1 x25_2) < (l0.length : Int) := sD; obtain ⟨ad341, e341, hx341_0, hx341_1, hx341_2⟩ := at_T47 HR0.out (rd l1_1 x25_2) p341 q341; cases e341; replace hx341_0 := bC HB.out hx341_0; replace hx341_1 := bC HB.out hx341_1; replace hx341_2 := bC HB.out hx341_2; go_wp2
           go_roundg k2
           case measure => have := HK1.out; have := HK2.out; omega
           case rel => exact ⟨(wrap64 (x5_2 - ((rd_T47 l0 (rd l1_1 x25_2)).f2))), (wrap64 (x25_2 + 1)), eV, eV, H', ⟨by have := HK1.out; have := HK2.out; omega⟩, (aS (sW HB.out))⟩
          ·
           exact absurd H (by simp)
         ·
          exact absurd H (by simp)
        ·
         exact absurd H (by simp)
       ·
        exact absurd H (by simp)
      ·
       obtain rfl := Option.some.inj H; go_wp2; go_ret; exact ⟨eE, sW HB.out⟩

def impl_validPiece.f (a0_0 : Int) (a0_1 : Int) : Option (Bool) := (impl_within.f a0_0 1 1000000).bind fun t343 => (if t343 = true then ((impl_within.f a0_1 1 100000).bind fun t344 => (some t344)) else (some false))
theorem impl_validPiece.calls (a0_0 : Int) (a0_1 : Int) (r : Bool) (w : World) (h : impl_validPiece.f a0_0 a0_1 = some r) :
  Calls Tryz.prog 69 #[.agg #[.int .i64 a0_0, .int .i64 a0_1]] w fun e w' => e = .returned (.bool r) ∧ Below w.heap.size w w' := by
 have hu58 := Tryz.underlying58; have HB := aS (Below.refl w.heap.size w); have H := h; clear h; unfold impl_validPiece.f at H; replace H := bE H; obtain ⟨t343, A2, H⟩ := H; try dsimp only at H
 replace H := iZ H; rcases H with ⟨rfl, H⟩ | ⟨rfl, H⟩
 ·
  replace H := bE H; obtain ⟨t344, A4, H⟩ := H; try dsimp only at H
  obtain rfl := Option.some.inj H; go_enter Tryz.func69, Tryz.ntmps69
  go_wp2_with (first | ((with_reducible refine gt 1 rfl ?_); refine bx 1 #[.int .i64 a0_0, .int .i64 a0_1] 58 ?_; intro gb342 hg w5 hbox hb; have BK342 := aS (hbox); have GW342 := aS (gW hg (sW HB.out)); have GE342 := aS (gW hg (sW HB.out)); replace HB := lW HB hb; clear hb hbox hg; obtain ⟨hcz6_0, hcz6_1, hfz6_0, hfz6_1⟩ := z2 BK342.out) | ((with_reducible refine gk 47 rfl ?_); refine gC (some 5) rfl Tryz.func47 #[.int .i64 a0_0, .int .i64 1, .int .i64 1000000] (impl_within.calls a0_0 1 1000000 true _ A2.out) ?_; rintro e w' ⟨rfl, ⟨nd, rfl⟩⟩; refine ⟨_, rfl, ?_⟩) | (go_at_call 47; (with_reducible refine (impl_within.calls a0_1 1 100000 t344 _ A4.out).mono ?_); rintro e w' ⟨rfl, ⟨nd, rfl⟩⟩))
  go_ret; exact ⟨eE, sW HB.out⟩
 ·
  obtain rfl := Option.some.inj H; go_enter Tryz.func69, Tryz.ntmps69
  go_wp2_with (first | ((with_reducible refine gt 1 rfl ?_); refine bx 1 #[.int .i64 a0_0, .int .i64 a0_1] 58 ?_; intro gb342 hg w7 hbox hb; have BK342 := aS (hbox); have GW342 := aS (gW hg (sW HB.out)); have GE342 := aS (gW hg (sW HB.out)); replace HB := lW HB hb; clear hb hbox hg; obtain ⟨hcz8_0, hcz8_1, hfz8_0, hfz8_1⟩ := z2 BK342.out) | ((with_reducible refine gk 47 rfl ?_); refine gC (some 5) rfl Tryz.func47 #[.int .i64 a0_0, .int .i64 1, .int .i64 1000000] (impl_within.calls a0_0 1 1000000 false _ A2.out) ?_; rintro e w' ⟨rfl, ⟨nd, rfl⟩⟩; refine ⟨_, rfl, ?_⟩))
  go_ret; exact ⟨eE, sW HB.out⟩

mutual
def impl_validLine.j0 : Nat → List (S47) → Bool → List (S58) → List Int → Option (Bool)
 | 0, _, _, _, _ => none
 | k + 1, x0, x28, x346000, x346001 => if x28 = true then (some false) else (impl_validLine.l0 k x0 x346000 (x346000.length : Int) 0 x346000 x346001)
def impl_validLine.l0 : Nat → List (S47) → List (S58) → Int → Int → List (S58) → List Int → Option (Bool)
 | 0, _, _, _, _, _, _ => none
 | k + 1, x0, x30, x31, x32, x346000, x346001 => if x32 < x31 then (if 0 ≤ x32 then (if x32 < (x30.length : Int) then ((impl_validPiece.f ((rd_T58 x30 x32).f0) ((rd_T58 x30 x32).f1)).bind fun t348 => (if t348 = true then (impl_validLine.l0 k x0 x30 x31 (wrap64 (x32 + 1)) x346000 x346001) else (some false))) else (none)) else (none)) else (impl_validLine.l1 k x0 x346001 (x346001.length : Int) 0 x346000 x346001)
def impl_validLine.l1 : Nat → List (S47) → List Int → Int → Int → List (S58) → List Int → Option (Bool)
 | 0, _, _, _, _, _, _ => none
 | k + 1, x0, x41, x42, x43, x346000, x346001 => if x43 < x42 then (if 0 ≤ x43 then (if x43 < (x41.length : Int) then ((impl_within.f (rd x41 x43) 0 (wrap64 ((x0.length : Int) - 1))).bind fun t350 => (if t350 = true then (impl_validLine.l1 k x0 x41 x42 (wrap64 (x43 + 1)) x346000 x346001) else (some false))) else (none)) else (none)) else ((impl_lineLength.f k x0 x346000 x346001).bind fun t351 => (some (decide (t351 ≥ 1))))
end
def impl_validLine.f (k : Nat) (l0 : List (S47)) (l1_0 : List (S58)) (l1_1 : List Int) : Option (Bool) := if (l1_0.length : Int) < 1 then (impl_validLine.j0 k l0 true l1_0 l1_1) else (if (l1_0.length : Int) > 12 then (impl_validLine.j0 k l0 true l1_0 l1_1) else (impl_validLine.j0 k l0 ((l1_1.length : Int) != (wrap64 ((l1_0.length : Int) - 1))) l1_0 l1_1))
theorem impl_validLine.calls (k : Nat) (A0 : Option Addr) (c0 : Nat) (l0 : List (S47)) (A1_0 : Option Addr) (c1_0 : Nat) (l1_0 : List (S58)) (A1_1 : Option Addr) (c1_1 : Nat) (l1_1 : List Int) (r : Bool) (w : World) (hr0 : Kd.C k47 w A0 l0.length l0) (hc0 : l0.length ≤ c0) (hr1_0 : Kd.C k58 w A1_0 l1_0.length l1_0) (hc1_0 : l1_0.length ≤ c1_0) (hr1_1 : Kd.C (Kd.int .i64) w A1_1 l1_1.length l1_1) (hc1_1 : l1_1.length ≤ c1_1) (h : impl_validLine.f k l0 l1_0 l1_1 = some r) :
  Calls Tryz.prog 32 #[.slice A0 l0.length c0, .agg #[.slice A1_0 l1_0.length c1_0, .slice A1_1 l1_1.length c1_1]] w fun e w' => e = .returned (.bool r) ∧ Below w.heap.size w w' := by
 have hu28 := Tryz.underlying28; have hu58 := Tryz.underlying58; have HR0 := aS hr0; have HC0 := aS hc0; clear hr0 hc0; have HR1_0 := aS hr1_0; have HC1_0 := aS hc1_0; clear hr1_0 hc1_0; have HR1_1 := aS hr1_1; have HC1_1 := aS hc1_1; clear hr1_1 hc1_1; have HB := aS (Below.refl w.heap.size w); have H := h; clear h; unfold impl_validLine.f at H; have HC3 := aS H; clear H; go_enter Tryz.func32, Tryz.ntmps32
 go_upto_region 1 with (first | ((with_reducible refine gt 3 rfl ?_); (try (refine gate_guard (by rfl) ?_; dsimp only)); refine bx 3 #[.slice A1_0 l1_0.length c1_0, .slice A1_1 l1_1.length c1_1] 28 ?_; intro gb345 hg w4 hbox hb; have BK345 := aS (hbox); have GW345 := aS (gW hg (sW HB.out)); have GE345 := aS (gW hg (sW HB.out)); replace HB := lW HB hb; clear hb hbox hg))
 (try simp only [Act.put, List.setIfInBounds_toArray, List.set_cons_zero, List.set_cons_succ])
 go_cut [28] (fun v28 wc => ∃ (kq : Nat) (x28_2 : Bool), v28 = .bool x28_2 ∧ Aside0 (impl_validLine.j0 kq l0 x28_2 l1_0 l1_1 = some r) ∧ Aside0 (kq ≤ k) ∧ Aside0 (wc.heap[gb345]? = some (.cells #[(.slice A1_0 l1_0.length c1_0), (.slice A1_1 l1_1.length c1_1)] 28 (0, 0))) ∧ Aside0 (Below w.heap.size w wc))
 case first =>
  have H := HC3.out; clear HC3; replace H := iE H; rcases H with ⟨c5, H⟩ | ⟨c5, H⟩
  ·
   have c5b0 := decide_eq_true c5; have c5b1 : decide (l1_0.length < 1) = true := decide_eq_true (by omega); clear c5; (first | rw [c5b0] | (simp only [i64_w, i32_w]; rw [c5b0]) | (rw [c5b2]; simp only [Bool.not_false, Bool.not_true]) | rw [c5b1] | skip); have H' := aS H; clear H; obtain ⟨hcz6_0, hcz6_1, hfz6_0, hfz6_1⟩ := z2 BK345.out; go_wp2; go_meet
   case rel => exact ⟨_, (true), eV, H', jL0, (aS (sB BK345.out)), (aS (sW HB.out))⟩
  ·
   have c5b0 := decide_eq_false c5; have c5b1 : decide (l1_0.length < 1) = false := decide_eq_false (by omega); clear c5; (first | rw [c5b0] | (simp only [i64_w, i32_w]; rw [c5b0]) | (rw [c5b2]; simp only [Bool.not_false, Bool.not_true]) | rw [c5b1] | skip); replace H := iE H; rcases H with ⟨c7, H⟩ | ⟨c7, H⟩
   ·
    have c7b0 : decide (12 < (l1_0.length : Int)) = true := decide_eq_true c7; have c7b1 : decide (12 < l1_0.length) = true := decide_eq_true (by omega); clear c7; have H' := aS H; clear H; obtain ⟨hcz8_0, hcz8_1, hfz8_0, hfz8_1⟩ := z2 BK345.out; go_wp2; go_meet
    case rel => exact ⟨_, (true), eV, H', jL0, (aS (sB BK345.out)), (aS (sW HB.out))⟩
   ·
    have c7b0 : decide (12 < (l1_0.length : Int)) = false := decide_eq_false c7; have c7b1 : decide (12 < l1_0.length) = false := decide_eq_false (by omega); clear c7; have H' := aS H; clear H; obtain ⟨hcz9_0, hcz9_1, hfz9_0, hfz9_1⟩ := z2 BK345.out; go_wp2; go_meet
    case rel => exact ⟨_, (((l1_1.length : Int) != (wrap64 ((l1_0.length : Int) - 1)))), eV, H', jL0, (aS (sB BK345.out)), (aS (sW HB.out))⟩
 case rest =>
  clear HC3; obtain ⟨kq, x28_2, rfl, HA, HJ2, BK345, HB⟩ := hcut; cases kq with
  | zero => exact absurd HA.out (by simp [impl_validLine.j0])
  | succ kj2 =>
   have H := HA.out; clear HA; simp only [impl_validLine.j0] at H; replace H := iZ H; rcases H with ⟨rfl, H⟩ | ⟨rfl, H⟩
   ·
    obtain rfl := Option.some.inj H; go_wp2; go_ret; exact ⟨eE, sW HB.out⟩
   ·
    have H' := aS H; clear H; obtain ⟨hcz11_0, hcz11_1, hfz11_0, hfz11_1⟩ := z2 BK345.out; go_wp2
    go_loopg [32] kj2 (fun kq v32 w' => ∃ (x32_2 : Int), v32 = .int .i64 x32_2 ∧ Aside0 (impl_validLine.l0 kq l0 l1_0 (l1_0.length : Int) x32_2 l1_0 l1_1 = some r) ∧ Aside0 (kq ≤ kj2) ∧ Aside0 (w'.heap[gb345]? = some (.cells #[(.slice A1_0 l1_0.length c1_0), (.slice A1_1 l1_1.length c1_1)] 28 (0, 0))) ∧ Aside0 (Below w.heap.size w w'))
    case atStart => exact ⟨(0), eV, H', ⟨Nat.le_refl _⟩, (aS (sB BK345.out)), (aS (sW HB.out))⟩
    case round =>
     clear H'; obtain ⟨x32_2, rfl, HA, HK2, BK345, HB⟩ := hrel; cases gk with
     | zero => exact absurd HA.out (by simp [impl_validLine.l0])
     | succ k2 =>
      have H := HA.out; clear HA; simp only [impl_validLine.l0] at H; replace H := iD H; rcases H with ⟨c12b0, H⟩ | ⟨c12b0, H⟩
      ·
       replace H := iE H; rcases H with ⟨c13, H⟩ | ⟨c13, H⟩
       ·
        have c13b0 := decide_eq_true c13; clear c13; replace H := iE H; rcases H with ⟨c14, H⟩ | ⟨c14, H⟩
        ·
         have c14b0 := decide_eq_true c14; clear c14; replace H := bE H; obtain ⟨t348, A15, H⟩ := H; try dsimp only at H
         have HC16 := aS H; clear H; have p346 : 0 ≤ (x32_2 : Int) := sD; have q346 : x32_2 < (l1_0.length : Int) := sD; obtain ⟨ad346, e346, hx346_0, hx346_1⟩ := at_T58 HR1_0.out x32_2 p346 q346; cases e346; replace hx346_0 := bC HB.out hx346_0; replace hx346_1 := bC HB.out hx346_1
         go_upto_if 38 with (first | ((with_reducible refine gt 6 rfl ?_); (try (refine gate_guard (by rfl) ?_; dsimp only)); refine bx 6 #[.int .i64 0, .int .i64 0] 58 ?_; intro gb347 hg w17 hbox hb; have BK347 := aS (hbox); have GW347 := aS (gW hg (sW HB.out)); have GE347 := aS (gW hg (sW HB.out)); replace HB := lW HB hb; have NB345_347 := aS (nL hg (sB BK345.out)); have NB347_345 := aS (nG hg (sB BK345.out)); replace BK345 := lB BK345 hb; clear hb hbox hg; obtain ⟨hnb18, hnc18⟩ := nD NB347_345; obtain ⟨hcz19_0, hcz19_1, hfz19_0, hfz19_1⟩ := z2 BK347.out) | ((with_reducible refine gk 69 rfl ?_); refine gC (some 37) rfl Tryz.func69 #[.agg #[.int .i64 ((rd_T58 l1_0 x32_2).f0), .int .i64 ((rd_T58 l1_0 x32_2).f1)]] (impl_validPiece.calls ((rd_T58 l1_0 x32_2).f0) ((rd_T58 l1_0 x32_2).f1) t348 _ A15.out) ?_; rintro e w20 ⟨rfl, hb⟩; refine ⟨_, rfl, ?_⟩; replace BK345 := aS (blk_below (sF BK345.out NB345_347.out) hb); replace BK347 := aS (blk_below (sB (put2 BK347.out)) hb); replace HB := lW HB hb))
         (try simp only [Act.put, List.setIfInBounds_toArray, List.set_cons_zero, List.set_cons_succ]); have H := HC16.out; clear HC16; replace H := iZ H; rcases H with ⟨rfl, H⟩ | ⟨rfl, H⟩
         ·
          have H' := aS H; clear H; go_wp2
          go_roundg k2
          case measure => have := HJ2.out; have := HK2.out; omega
          case rel => exact ⟨(wrap64 (x32_2 + 1)), eV, H', ⟨by have := HJ2.out; have := HK2.out; omega⟩, (aS (sB BK345.out)), (aS (sW HB.out))⟩
         ·
          obtain rfl := Option.some.inj H; go_wp2; go_ret; exact ⟨eE, sW HB.out⟩
        ·
         exact absurd H (by simp)
       ·
        exact absurd H (by simp)
      ·
       have H' := aS H; clear H; obtain ⟨hcz22_0, hcz22_1, hfz22_0, hfz22_1⟩ := z2 BK345.out; go_wp2
       go_loopg [43] k2 (fun kq v43 w' => ∃ (x43_3 : Int), v43 = .int .i64 x43_3 ∧ Aside0 (impl_validLine.l1 kq l0 l1_1 (l1_1.length : Int) x43_3 l1_0 l1_1 = some r) ∧ Aside0 (kq ≤ k2) ∧ Aside0 (w'.heap[gb345]? = some (.cells #[(.slice A1_0 l1_0.length c1_0), (.slice A1_1 l1_1.length c1_1)] 28 (0, 0))) ∧ Aside0 (Below w.heap.size w w'))
       case atStart => exact ⟨(0), eV, H', ⟨Nat.le_refl _⟩, (aS (sB BK345.out)), (aS (sW HB.out))⟩
       case round =>
        clear H'; (try clear hx3); (try clear hx346_0); (try clear hx346_1); obtain ⟨x43_3, rfl, HA, HK3, BK345, HB⟩ := hrel; cases gk with
        | zero => exact absurd HA.out (by simp [impl_validLine.l1])
        | succ k3 =>
         have H := HA.out; clear HA; simp only [impl_validLine.l1] at H; replace H := iD H; rcases H with ⟨c23b0, H⟩ | ⟨c23b0, H⟩
         ·
          replace H := iE H; rcases H with ⟨c24, H⟩ | ⟨c24, H⟩
          ·
           have c24b0 := decide_eq_true c24; clear c24; replace H := iE H; rcases H with ⟨c25, H⟩ | ⟨c25, H⟩
           ·
            have c25b0 := decide_eq_true c25; clear c25; replace H := bE H; obtain ⟨t350, A26, H⟩ := H; try dsimp only at H
            have HC27 := aS H; clear H; have p349 : 0 ≤ (x43_3 : Int) := sD; have q349 : x43_3 < (l1_1.length : Int) := sD; obtain ⟨ad349, e349, hx349_0⟩ := Kd.at_int HR1_1.out x43_3 p349 q349; cases e349; replace hx349_0 := bC HB.out hx349_0
            go_upto_if 52 with (first | ((with_reducible refine gk 47 rfl ?_); refine gC (some 51) rfl Tryz.func47 #[.int .i64 (rd l1_1 x43_3), .int .i64 0, .int .i64 (wrap64 ((l0.length : Int) - 1))] (impl_within.calls (rd l1_1 x43_3) 0 (wrap64 ((l0.length : Int) - 1)) t350 _ A26.out) ?_; rintro e w' ⟨rfl, ⟨nd, rfl⟩⟩; refine ⟨_, rfl, ?_⟩))
            (try simp only [Act.put, List.setIfInBounds_toArray, List.set_cons_zero, List.set_cons_succ]); have H := HC27.out; clear HC27; replace H := iZ H; rcases H with ⟨rfl, H⟩ | ⟨rfl, H⟩
            ·
             have H' := aS H; clear H; go_wp2
             go_roundg k3
             case measure => have := HJ2.out; have := HK2.out; have := HK3.out; omega
             case rel => exact ⟨(wrap64 (x43_3 + 1)), eV, H', ⟨by have := HJ2.out; have := HK2.out; have := HK3.out; omega⟩, (aS (sB BK345.out)), (aS (sW HB.out))⟩
            ·
             obtain rfl := Option.some.inj H; go_wp2; go_ret; exact ⟨eE, sW HB.out⟩
           ·
            exact absurd H (by simp)
          ·
           exact absurd H (by simp)
         ·
          replace H := bE H; obtain ⟨t351, A29, H⟩ := H; try dsimp only at H
          obtain rfl := Option.some.inj H; obtain ⟨hcz30_0, hcz30_1, hfz30_0, hfz30_1⟩ := z2 BK345.out
          go_wp2_with (first | ((with_reducible refine gk 37 rfl ?_); refine gC (some 56) rfl Tryz.func37 #[.slice A0 l0.length c0, .agg #[.slice A1_0 l1_0.length c1_0, .slice A1_1 l1_1.length c1_1]] (impl_lineLength.calls k3 _ _ l0 _ _ l1_0 _ _ l1_1 t351 _ (sC (Kd.C_below HR0.out HB.out)) HC0.out (sC (Kd.C_below HR1_0.out HB.out)) HC1_0.out (sC (Kd.C_below HR1_1.out HB.out)) HC1_1.out A29.out) ?_; rintro e w31 ⟨rfl, hb⟩; refine ⟨_, rfl, ?_⟩; replace BK345 := lB BK345 hb; replace HB := lW HB hb))
          go_ret; exact ⟨eE, sW HB.out⟩
mutual
def impl_gcd.j0 : Nat → Int → Int → Option (Int)
 | 0, _, _ => none
 | k + 1, x0, x1 => impl_gcd.l0 k x0 x1
def impl_gcd.l0 : Nat → Int → Int → Option (Int)
 | 0, _, _ => none
 | k + 1, x0, x1 => if x1 = 0 then (some x0) else (impl_gcd.l0 k x1 (Int.tmod x0 x1))
end
def impl_gcd.f (k : Nat) (a0 : Int) (a1 : Int) : Option (Int) := if a0 < 0 then (impl_gcd.j0 k (wrap64 (-a0)) a1) else (impl_gcd.j0 k a0 a1)
theorem impl_gcd.calls (k : Nat) (a0 : Int) (a1 : Int) (r : Int) (w : World) (h : impl_gcd.f k a0 a1 = some r) :
  Calls Tryz.prog 75 #[.int .i64 a0, .int .i64 a1] w fun e w' => e = .returned (.int .i64 r) ∧ Drawn0 w w' := by
 have H := h; clear h; unfold impl_gcd.f at H; have HC3 := aS H; clear H; go_enter Tryz.func75, Tryz.ntmps75
 go_upto_if 6 with (first | ((with_reducible refine gR ?_); go_quiet (fail)))
 go_cut [0] (fun v0 wc => ∃ (kq : Nat) (x0_2 : Int), v0 = .int .i64 x0_2 ∧ Aside0 (impl_gcd.j0 kq x0_2 a1 = some r) ∧ Aside0 (kq ≤ k) ∧ Drawn0 w wc)
 case first =>
  have H := HC3.out; clear HC3; replace H := iD H; rcases H with ⟨c4b0, H⟩ | ⟨c4b0, H⟩
  ·
   (first | rw [c4b0] | (simp only [i64_w, i32_w]; rw [c4b0]) | (rw [c4b2]; simp only [Bool.not_false, Bool.not_true]) | rw [c4b1] | skip); have H' := aS H; clear H; go_wp2
   repeat (go_quiet (fail); try go_wp2)
   go_meet
   case rel => exact ⟨_, (wrap64 (-a0)), eV, H', jL0, eD⟩
  ·
   (first | rw [c4b0] | (simp only [i64_w, i32_w]; rw [c4b0]) | (rw [c4b2]; simp only [Bool.not_false, Bool.not_true]) | rw [c4b1] | skip); have H' := aS H; clear H; go_wp2
   repeat (go_quiet (fail); try go_wp2)
   go_meet
   case rel => exact ⟨_, (a0), eV, H', jL0, eD⟩
 case rest =>
  clear HC3; obtain ⟨kq, x0_2, rfl, HA, HJ2, ⟨mc2, rfl⟩⟩ := hcut; cases kq with
  | zero => exact absurd HA.out (by simp [impl_gcd.j0])
  | succ kj2 =>
   have H := HA.out; clear HA; simp only [impl_gcd.j0] at H; have H' := aS H; clear H; go_wp2
   repeat (go_quiet (fail); try go_wp2)
   go_loopg [0, 1] kj2 (fun kq v0 v1 w' => ∃ (x0_2 : Int) (x1_2 : Int), v0 = .int .i64 x0_2 ∧ v1 = .int .i64 x1_2 ∧ Aside0 (impl_gcd.l0 kq x0_2 x1_2 = some r) ∧ Aside0 (kq ≤ kj2) ∧ Drawn0 w w')
   case atStart => exact ⟨(x0_2), (a1), eV, eV, H', ⟨Nat.le_refl _⟩, eD⟩
   case round =>
    clear H'; obtain ⟨x0_2, x1_2, rfl, rfl, HA, HK2, ⟨m2, rfl⟩⟩ := hrel; cases gk with
    | zero => exact absurd HA.out (by simp [impl_gcd.l0])
    | succ k2 =>
     have H := HA.out; clear HA; simp only [impl_gcd.l0] at H; replace H := iB H; rcases H with ⟨c5b0, c5b1, H⟩ | ⟨c5, c5b0, c5b1, H⟩
     ·
      obtain rfl := Option.some.inj H; go_wp2
      repeat (go_quiet (fail); try go_wp2)
      go_ret; exact ⟨eV, eD⟩
     ·
      have H' := aS H; clear H; go_wp2
      repeat (go_quiet (fail); try go_wp2)
      go_roundg k2
      case measure => have := HJ2.out; have := HK2.out; omega
      case rel => exact ⟨(x1_2), (Int.tmod x0_2 x1_2), eV, eV, H', ⟨by have := HJ2.out; have := HK2.out; omega⟩, eD⟩

def impl_fraction.j0 : Nat → Int → Int → Option (Int × Int)
 | 0, _, _ => none
 | k + 1, x0, x1 => (impl_gcd.f k x0 x1).bind fun t353 => (if t353 = 0 then (none) else (some (wrap64 (Int.tdiv x0 t353), wrap64 (Int.tdiv x1 t353))))
def impl_fraction.f (k : Nat) (a0 : Int) (a1 : Int) : Option (Int × Int) := if a1 < 0 then (impl_fraction.j0 k (wrap64 (-a0)) (wrap64 (-a1))) else (impl_fraction.j0 k a0 a1)
def impl_fraction.T4 : Bool × List (List Nat × List Nat) := (true,[([],[]),([],[]),([0,1],[0,1]),([],[]),([],[]),([3,4],[3,4]),([2,5],[2,5]),([6,0,1,2,3,4,5,6],[6])])
def impl_fraction.B4 : List Nat := [0,0,3,0,0,24,63,127]
theorem impl_fraction.tab4 : rtab .any (opsOf Tryz.f39 4) = impl_fraction.T4 := by kernel_rfl
theorem impl_fraction.bits4 : waitsOk impl_fraction.T4.2 impl_fraction.B4 = true := by kernel_rfl
theorem impl_fraction.calls (k : Nat) (a0 : Int) (a1 : Int) (r1 : Int) (r2 : Int) (w : World) (h : impl_fraction.f k a0 a1 = some (r1, r2)) :
  Calls Tryz.prog 39 #[.int .i64 a0, .int .i64 a1] w fun e w' => e = .returned (.agg #[.int .i64 r1, .int .i64 r2]) ∧ Below w.heap.size w w' := by
 have hu32 := Tryz.underlying32; have HB := aS (Below.refl w.heap.size w); have H := h; clear h; unfold impl_fraction.f at H; have HC3 := aS H; clear H; go_enter Tryz.func39, Tryz.ntmps39
 go_upto_if 7 with (first | ((with_reducible refine gt 4 rfl ?_); refine bx 4 #[.int .i64 0, .int .i64 0] 32 ?_; intro gb352 hg w4 hbox hb; have BK352 := aS (hbox); have GW352 := aS (gW hg (sW HB.out)); have GE352 := aS (gW hg (sW HB.out)); replace HB := lW HB hb; clear hb hbox hg))
 (try simp only [Act.put, List.setIfInBounds_toArray, List.set_cons_zero, List.set_cons_succ])
 go_cut [0, 1] (fun v0 v1 wc => ∃ (kq : Nat) (x0_2 : Int) (x1_2 : Int), v0 = .int .i64 x0_2 ∧ v1 = .int .i64 x1_2 ∧ Aside0 (impl_fraction.j0 kq x0_2 x1_2 = some (r1, r2)) ∧ Aside0 (kq ≤ k) ∧ Aside0 (wc.heap[gb352]? = some (.cells #[.int .i64 0, .int .i64 0] 32 (0, 0))) ∧ Aside0 (Below w.heap.size w wc))
 case first =>
  have H := HC3.out; clear HC3; replace H := iD H; rcases H with ⟨c5b0, H⟩ | ⟨c5b0, H⟩
  ·
   (first | rw [c5b0] | (simp only [i64_w, i32_w]; rw [c5b0]) | (rw [c5b2]; simp only [Bool.not_false, Bool.not_true]) | rw [c5b1] | skip); have H' := aS H; clear H; go_wp2; go_meet
   case rel => exact ⟨_, (wrap64 (-a0)), (wrap64 (-a1)), eV, eV, H', jL0, (aS (sB BK352.out)), (aS (sW HB.out))⟩
  ·
   (first | rw [c5b0] | (simp only [i64_w, i32_w]; rw [c5b0]) | (rw [c5b2]; simp only [Bool.not_false, Bool.not_true]) | rw [c5b1] | skip); have H' := aS H; clear H; go_wp2; go_meet
   case rel => exact ⟨_, (a0), (a1), eV, eV, H', jL0, (aS (sB BK352.out)), (aS (sW HB.out))⟩
 case rest =>
  clear HC3; obtain ⟨kq, x0_2, x1_2, rfl, rfl, HA, HJ2, BK352, HB⟩ := hcut; cases kq with
  | zero => exact absurd HA.out (by simp [impl_fraction.j0])
  | succ kj2 =>
   have H := HA.out; clear HA; simp only [impl_fraction.j0] at H; replace H := bE H; obtain ⟨t353, A6, H⟩ := H; try dsimp only at H
   replace H := iE H; rcases H with ⟨c7, H⟩ | ⟨c7, H⟩
   ·
    exact absurd H (by simp)
   ·
    have c7b0 := beq_eq_false_iff_ne.mpr c7; have c7b1 := bne_iff_ne.mpr c7; simp only [Option.some.injEq, Prod.mk.injEq] at H; obtain ⟨rfl, rfl⟩ := H
    try go_wp2_with (first | ((with_reducible refine gk 75 rfl ?_); refine gC (some 14) rfl Tryz.func75 #[.int .i64 x0_2, .int .i64 x1_2] (impl_gcd.calls kj2 x0_2 x1_2 t353 _ A6.out) ?_; rintro e w' ⟨rfl, ⟨nd, rfl⟩⟩; refine ⟨_, rfl, ?_⟩; (try (rw [drewN_self wc]; generalize hq_ : World.drewN wc _ = wc; have n0_ : Aside0 (wc.heap[gb352]? = some (.cells #[.int .i64 0, .int .i64 0] 32 (0, 0))) := ⟨by rw [← hq_]; exact (sB BK352.out)⟩; have n1_ : Aside0 (Below w.heap.size w wc) := ⟨by rw [← hq_]; exact (sW HB.out)⟩; clear BK352 HB hq_; have BK352 := n0_; have HB := n1_; clear n0_ n1_)); (try (have hcu8_0 : wc.cell? ⟨gb352, 0, none⟩ = some (.int .i64 0) := bq BK352.out 0; have hfu8_0 := blk_frozen BK352.out 0; have hcu8_1 : wc.cell? ⟨gb352, 1, none⟩ = some (.int .i64 0) := bq BK352.out 1; have hfu8_1 := blk_frozen BK352.out 1))))
    replace BK352 := aS (blk_drew BK352.out); replace HB := aS (below_drew1 HB.out); refine start_ (n := 8) (S := fun w' => True) (ds := []) _ (by kernel_rfl) rfl rfl trivial (fun hHeld => ?_); refine with_tabW impl_fraction.tab4 impl_fraction.bits4 (fun HT_ HW_ => ?_); generalize wc.drew = w9 at BK352 HB hHeld ⊢; refine pX 0 15 ?_; refine pX 1 16 ?_; refine pX 2 17 ?_; refine pX 3 18 ?_; refine pX 4 19 ?_; refine pX 5 20 ?_; refine pX 6 21 ?_; refine oX 7 none fun K hK => ?_
    have hs10 : w9.cell? ⟨gb352, 0, none⟩ = some (.int .i64 0) := bq BK352.out 0; have hfs10 := blk_frozen BK352.out 0; have hs11 : w9.cell? ⟨gb352, 1, none⟩ = some (.int .i64 0) := bq BK352.out 1; have hfs11 := blk_frozen BK352.out 1; refine skip_ (w1 := ?_) (by rfl) rfl ?_ ?_; rotate_left
    ·
     go_simp
     rfl
    refine hK.out _ _ trivial (fun hHeld => ?_); clear hK K; refine dX ?_
    try go_wp2
    refine bodyPost_ret (results_cell_row rfl _ _ gb352 32 #[.int .i64 (wrap64 (Int.tdiv x0_2 t353)), .int .i64 (wrap64 (Int.tdiv x1_2 t353))] (0, 0) _ rfl (sB (put2 BK352.out)) Tryz.underlying32 rfl (by kernel_rfl)) rfl ?_; exact ⟨eE, sW HB.out⟩

def impl_strengthAt.f (k : Nat) (l0 : List (S47)) (l1_0 : List (S58)) (l1_1 : List Int) (a2 : Int) : Option (Int × Int) := if 0 ≤ a2 then (if a2 < (l1_0.length : Int) then (if 0 ≤ (wrap64 (a2 + 1)) then (if (wrap64 (a2 + 1)) < (l1_0.length : Int) then (if a2 < (l1_1.length : Int) then (if 0 ≤ (rd l1_1 a2) then (if (rd l1_1 a2) < (l0.length : Int) then ((impl_fraction.f k (wrap64 ((mn ((rd_T58 l1_0 a2).f0) ((rd_T58 l1_0 (wrap64 (a2 + 1))).f0)) * ((rd_T47 l0 (rd l1_1 a2)).f1))) 1000).bind fun bt360 => (some (bt360.1, bt360.2))) else (none)) else (none)) else (none)) else (none)) else (none)) else (none)) else (none)
def impl_strengthAt.T1 : Bool × List (List Nat × List Nat) := (true,[([],[]),([0],[0]),([],[]),([1,2],[1,2]),([3],[3]),([4],[4]),([],[]),([6],[6]),([],[]),([8],[8]),([7,9],[7,9]),([10],[10]),([11],[11]),([5,12],[5,12]),([],[]),([],[]),([15],[15]),([],[]),([16,17],[16,17]),([18],[18]),([14,19],[14,19]),([20],[20]),([21],[21]),([13,22],[13,22]),([23],[23]),([24,24,0,1,2,3,4,5,6,7,8,9,10,11,12,13,14,15,16,17,18,19,20,21,22,23,24],[24])])
def impl_strengthAt.B1 : List Nat := [0,1,0,7,15,31,0,64,0,256,960,1984,4032,8191,0,0,32768,0,229376,491520,1032192,2080768,4177920,8388607,16777215,33554431]
theorem impl_strengthAt.tab1 : rtab .any (opsOf Tryz.f40 1) = impl_strengthAt.T1 := by kernel_rfl
theorem impl_strengthAt.bits1 : waitsOk impl_strengthAt.T1.2 impl_strengthAt.B1 = true := by kernel_rfl
theorem impl_strengthAt.calls (k : Nat) (A0 : Option Addr) (c0 : Nat) (l0 : List (S47)) (A1_0 : Option Addr) (c1_0 : Nat) (l1_0 : List (S58)) (A1_1 : Option Addr) (c1_1 : Nat) (l1_1 : List Int) (a2 : Int) (r1 : Int) (r2 : Int) (w : World) (hr0 : Kd.C k47 w A0 l0.length l0) (hc0 : l0.length ≤ c0) (hr1_0 : Kd.C k58 w A1_0 l1_0.length l1_0) (hc1_0 : l1_0.length ≤ c1_0) (hr1_1 : Kd.C (Kd.int .i64) w A1_1 l1_1.length l1_1) (hc1_1 : l1_1.length ≤ c1_1) (h : impl_strengthAt.f k l0 l1_0 l1_1 a2 = some (r1, r2)) :
  Calls Tryz.prog 40 #[.slice A0 l0.length c0, .agg #[.slice A1_0 l1_0.length c1_0, .slice A1_1 l1_1.length c1_1], .int .i64 a2] w fun e w' => e = .returned (.agg #[.int .i64 r1, .int .i64 r2]) ∧ Below w.heap.size w w' := by
 have hu28 := Tryz.underlying28; have hu32 := Tryz.underlying32; have HR0 := aS hr0; have HC0 := aS hc0; clear hr0 hc0; have HR1_0 := aS hr1_0; have HC1_0 := aS hc1_0; clear hr1_0 hc1_0; have HR1_1 := aS hr1_1; have HC1_1 := aS hc1_1; clear hr1_1 hc1_1; have HB := aS (Below.refl w.heap.size w); have H := h; clear h; unfold impl_strengthAt.f at H; replace H := iE H; rcases H with ⟨c4, H⟩ | ⟨c4, H⟩
 ·
  have c4b0 := decide_eq_true c4; clear c4; replace H := iE H; rcases H with ⟨c5, H⟩ | ⟨c5, H⟩
  ·
   have c5b0 := decide_eq_true c5; clear c5; obtain ⟨ji6, hji6⟩ : ∃ j_ : Int, (wrap64 (a2 + 1)) = j_ := ⟨_, rfl⟩; replace H : (if 0 ≤ (ji6) then (if (ji6) < (l1_0.length : Int) then (if a2 < (l1_1.length : Int) then (if 0 ≤ (rd l1_1 a2) then (if (rd l1_1 a2) < (l0.length : Int) then ((impl_fraction.f k (wrap64 ((mn ((rd_T58 l1_0 a2).f0) ((rd_T58 l1_0 (ji6)).f0)) * ((rd_T47 l0 (rd l1_1 a2)).f1))) 1000).bind fun bt360 => (some (bt360.1, bt360.2))) else (none)) else (none)) else (none)) else (none)) else (none)) = some (r1, r2) := by first | (rw [hji6] at H; exact H) | (simp only [hji6] at H ⊢; exact H)
   have hji6w : (IntKind.i64.wrap (a2 + 1)) = ji6 := (i64_w _).trans hji6; replace H := iE H; rcases H with ⟨c7, H⟩ | ⟨c7, H⟩
   ·
    have c7b0 := decide_eq_true c7; clear c7; replace H := iE H; rcases H with ⟨c8, H⟩ | ⟨c8, H⟩
    ·
     have c8b0 := decide_eq_true c8; clear c8; obtain ⟨ji9, hji9⟩ : ∃ j_ : Int, (mn ((rd_T58 l1_0 a2).f0) ((rd_T58 l1_0 (ji6)).f0)) = j_ := ⟨_, rfl⟩; replace H : (if a2 < (l1_1.length : Int) then (if 0 ≤ (rd l1_1 a2) then (if (rd l1_1 a2) < (l0.length : Int) then ((impl_fraction.f k (wrap64 ((ji9) * ((rd_T47 l0 (rd l1_1 a2)).f1))) 1000).bind fun bt360 => (some (bt360.1, bt360.2))) else (none)) else (none)) else (none)) = some (r1, r2) := by first | (rw [hji9] at H; exact H) | (simp only [hji9] at H ⊢; exact H)
     have hji9_ : (if ((rd_T58 l1_0 (ji6)).f0) < ((rd_T58 l1_0 a2).f0) then ((rd_T58 l1_0 (ji6)).f0) else ((rd_T58 l1_0 a2).f0)) = ji9 := hji9; replace H := iE H; rcases H with ⟨c10, H⟩ | ⟨c10, H⟩
     ·
      have c10b0 := decide_eq_true c10; clear c10; replace H := iE H; rcases H with ⟨c11, H⟩ | ⟨c11, H⟩
      ·
       have c11b0 := decide_eq_true c11; clear c11; replace H := iE H; rcases H with ⟨c12, H⟩ | ⟨c12, H⟩
       ·
        have c12b0 := decide_eq_true c12; clear c12; replace H := bE H; obtain ⟨⟨t360, t361⟩, A13, H⟩ := H; try dsimp only at H
        simp only [Option.some.injEq, Prod.mk.injEq] at H; obtain ⟨rfl, rfl⟩ := H; go_enter Tryz.func40, Tryz.ntmps40
        try go_wp2_with (first | ((with_reducible refine gt 4 rfl ?_); refine bx 4 #[.slice A1_0 l1_0.length c1_0, .slice A1_1 l1_1.length c1_1] 28 ?_; intro gb354 hg w14 hbox hb; have BK354 := aS (hbox); have GW354 := aS (gW hg (sW HB.out)); have GE354 := aS (gW hg (sW HB.out)); replace HB := lW HB hb; clear hb hbox hg) | ((with_reducible refine gt 6 rfl ?_); refine bx 6 #[.int .i64 0, .int .i64 0] 32 ?_; intro gb355 hg w15 hbox hb; have BK355 := aS (hbox); have GW355 := aS (gW hg (sW HB.out)); have GE355 := aS (gW hg (sW HB.out)); replace HB := lW HB hb; have NB354_355 := aS (nL hg (sB BK354.out)); have NB355_354 := aS (nG hg (sB BK354.out)); replace BK354 := lB BK354 hb; clear hb hbox hg))
        replace BK354 := aS (blk_drew BK354.out); replace BK355 := aS (blk_drew BK355.out); replace HB := aS (below_drew1 HB.out); have p356 : 0 ≤ (a2 : Int) := sD; have q356 : a2 < (l1_0.length : Int) := sD; obtain ⟨ad356, e356, hx356_0, hx356_1⟩ := at_T58 HR1_0.out a2 p356 q356; have hw356_1 := hx356_1; have hw356_0 := hx356_0; cases e356; replace hx356_0 := bC HB.out hx356_0; replace hx356_1 := bC HB.out hx356_1; have p357 : 0 ≤ ((ji6) : Int) := sD; have q357 : (ji6) < (l1_0.length : Int) := sD; obtain ⟨ad357, e357, hx357_0, hx357_1⟩ := at_T58 HR1_0.out (ji6) p357 q357; have hw357_1 := hx357_1; have hw357_0 := hx357_0; obtain rfl : ad356 = ad357 := (by injection e357); replace hx357_0 := bC HB.out hx357_0; replace hx357_1 := bC HB.out hx357_1; have p358 : 0 ≤ (a2 : Int) := sD; have q358 : a2 < (l1_1.length : Int) := sD; obtain ⟨ad358, e358, hx358_0⟩ := Kd.at_int HR1_1.out a2 p358 q358; have hw358_0 := hx358_0; cases e358; replace hx358_0 := bC HB.out hx358_0; have p359 : 0 ≤ ((rd l1_1 a2) : Int) := sD; have q359 : (rd l1_1 a2) < (l0.length : Int) := sD; obtain ⟨ad359, e359, hx359_0, hx359_1, hx359_2⟩ := at_T47 HR0.out (rd l1_1 a2) p359 q359; have hw359_2 := hx359_2; have hw359_1 := hx359_1; have hw359_0 := hx359_0; cases e359; replace hx359_0 := bC HB.out hx359_0; replace hx359_1 := bC HB.out hx359_1; replace hx359_2 := bC HB.out hx359_2; refine start_ (n := 26) (S := fun w' => w'.cell? ⟨gb354, 0, none⟩ = some (.slice (some ad356) l1_0.length c1_0) ∧ w'.cell? ⟨gb354, 1, none⟩ = some (.slice (some ad358) l1_1.length c1_1) ∧ w'.cell? (ad356.add ((a2).toNat * 2)) = some (.int .i64 ((rd_T58 l1_0 a2).f0)) ∧ w'.cell? ⟨(ad356.add ((a2).toNat * 2)).block, (ad356.add ((a2).toNat * 2)).off + 1, none⟩ = some (.int .i64 ((rd_T58 l1_0 a2).f1)) ∧ w'.cell? (ad356.add (((ji6)).toNat * 2)) = some (.int .i64 ((rd_T58 l1_0 (ji6)).f0)) ∧ w'.cell? ⟨(ad356.add (((ji6)).toNat * 2)).block, (ad356.add (((ji6)).toNat * 2)).off + 1, none⟩ = some (.int .i64 ((rd_T58 l1_0 (ji6)).f1)) ∧ w'.cell? (ad358.add (a2).toNat) = some (.int .i64 (rd l1_1 a2)) ∧ w'.cell? (ad359.add (((rd l1_1 a2)).toNat * 3)) = some (.string ((rd_T47 l0 (rd l1_1 a2)).f0)) ∧ w'.cell? ⟨(ad359.add (((rd l1_1 a2)).toNat * 3)).block, (ad359.add (((rd l1_1 a2)).toNat * 3)).off + 1, none⟩ = some (.int .i64 ((rd_T47 l0 (rd l1_1 a2)).f1)) ∧ w'.cell? ⟨(ad359.add (((rd l1_1 a2)).toNat * 3)).block, (ad359.add (((rd l1_1 a2)).toNat * 3)).off + 2, none⟩ = some (.int .i64 ((rd_T47 l0 (rd l1_1 a2)).f2))) (ds := []) _ (by kernel_rfl) rfl rfl ⟨bq BK354.out 0, bq BK354.out 1, ((HB.out.cell (World.block_lt_of_cell? w _ hw356_0)).trans hw356_0), ((HB.out.cell (World.block_lt_of_cell? w _ hw356_1)).trans hw356_1), ((HB.out.cell (World.block_lt_of_cell? w _ hw357_0)).trans hw357_0), ((HB.out.cell (World.block_lt_of_cell? w _ hw357_1)).trans hw357_1), ((HB.out.cell (World.block_lt_of_cell? w _ hw358_0)).trans hw358_0), ((HB.out.cell (World.block_lt_of_cell? w _ hw359_0)).trans hw359_0), ((HB.out.cell (World.block_lt_of_cell? w _ hw359_1)).trans hw359_1), ((HB.out.cell (World.block_lt_of_cell? w _ hw359_2)).trans hw359_2)⟩ (fun hHeld => ?_); refine with_tabW impl_strengthAt.tab1 impl_strengthAt.bits1 (fun HT_ HW_ => ?_); generalize w15.drew = w16 at BK354 BK355 HB hx356_0 hx356_1 hx357_0 hx357_1 hx358_0 hx359_0 hx359_1 hx359_2 hHeld ⊢; refine pX 0 7 ?_; refine pX 2 9 ?_; refine pX 6 13 ?_; refine pX 8 15 ?_; refine pX 9 16 ?_; refine pX 14 21 ?_; refine pX 15 22 ?_; refine pX 17 24 ?_; refine tX 1 8 ?_; refine pX 3 10 ?_; refine pX 4 11 ?_; refine tX 5 12 ?_; refine tX 7 14 ?_; refine pX 10 17 ?_; refine pX 11 18 ?_; refine tX 12 19 ?_; refine pX 13 20 ?_; refine tX 16 23 ?_; refine pX 18 25 ?_; refine tX 19 26 ?_; refine pX 20 27 ?_; refine pX 21 28 ?_; refine tX 22 29 ?_; refine pX 23 30 ?_; refine oX 24 (some 31) fun K hK => ?_
        refine goes_ Tryz.func39 (by kernel_rfl) rfl #[.int .i64 (wrap64 ((ji9) * ((rd_T47 l0 (rd l1_1 a2)).f1))), .int .i64 1000] (by rfl) rfl rfl (by (try simp only [List.map_toArray, List.map_cons, List.map_nil]); first | done | (simp only [hji9]; rfl) | rfl | (simp only [List.length_drop, List.length_take]; rfl)) ?_; with_reducible refine (impl_fraction.calls k (wrap64 ((ji9) * ((rd_T47 l0 (rd l1_1 a2)).f1))) 1000 t360 t361 _ A13.out).mono ?_
        rintro e w17 ⟨rfl, hb⟩; refine ⟨_, rfl, ?_⟩; replace BK354 := lB BK354 hb; replace BK355 := lB BK355 hb; replace HB := lW HB hb; refine hK.out _ _ ⟨bq BK354.out 0, bq BK354.out 1, ((HB.out.cell (World.block_lt_of_cell? w _ hw356_0)).trans hw356_0), ((HB.out.cell (World.block_lt_of_cell? w _ hw356_1)).trans hw356_1), ((HB.out.cell (World.block_lt_of_cell? w _ hw357_0)).trans hw357_0), ((HB.out.cell (World.block_lt_of_cell? w _ hw357_1)).trans hw357_1), ((HB.out.cell (World.block_lt_of_cell? w _ hw358_0)).trans hw358_0), ((HB.out.cell (World.block_lt_of_cell? w _ hw359_0)).trans hw359_0), ((HB.out.cell (World.block_lt_of_cell? w _ hw359_1)).trans hw359_1), ((HB.out.cell (World.block_lt_of_cell? w _ hw359_2)).trans hw359_2)⟩ (fun hHeld => ?_); clear hK K; refine nX 31 ?_; refine oX 25 none fun K hK => ?_
        have hs18 : w17.cell? ⟨gb355, 0, none⟩ = some (.int .i64 0) := bq BK355.out 0; have hfs18 := blk_frozen BK355.out 0; have hns18_0 := NB354_355.out; have hms18_0 := NB355_354.out; have hs19 : w17.cell? ⟨gb355, 1, none⟩ = some (.int .i64 0) := bq BK355.out 1; have hfs19 := blk_frozen BK355.out 1; have hns19_0 := NB354_355.out; have hms19_0 := NB355_354.out; refine skip_ (w1 := ?_) (by rfl) rfl ?_ ?_; rotate_left
        ·
         go_simp
         rfl
        refine hK.out _ _ ⟨((cell_far (p := ⟨gb355, _, none⟩) NB354_355.out _).trans (((cell_far (p := ⟨gb355, _, none⟩) NB354_355.out _).trans (hHeld.1)))), ((cell_far (p := ⟨gb355, _, none⟩) NB354_355.out _).trans (((cell_far (p := ⟨gb355, _, none⟩) NB354_355.out _).trans (hHeld.2.1)))), ((cell_far (p := ⟨gb355, _, none⟩) (nF hw356_0 GW355.out) _).trans (((cell_far (p := ⟨gb355, _, none⟩) (nF hw356_0 GW355.out) _).trans (hHeld.2.2.1)))), ((cell_far (p := ⟨gb355, _, none⟩) (nF hw356_1 GW355.out) _).trans (((cell_far (p := ⟨gb355, _, none⟩) (nF hw356_1 GW355.out) _).trans (hHeld.2.2.2.1)))), ((cell_far (p := ⟨gb355, _, none⟩) (nF hw357_0 GW355.out) _).trans (((cell_far (p := ⟨gb355, _, none⟩) (nF hw357_0 GW355.out) _).trans (hHeld.2.2.2.2.1)))), ((cell_far (p := ⟨gb355, _, none⟩) (nF hw357_1 GW355.out) _).trans (((cell_far (p := ⟨gb355, _, none⟩) (nF hw357_1 GW355.out) _).trans (hHeld.2.2.2.2.2.1)))), ((cell_far (p := ⟨gb355, _, none⟩) (nF hw358_0 GW355.out) _).trans (((cell_far (p := ⟨gb355, _, none⟩) (nF hw358_0 GW355.out) _).trans (hHeld.2.2.2.2.2.2.1)))), ((cell_far (p := ⟨gb355, _, none⟩) (nF hw359_0 GW355.out) _).trans (((cell_far (p := ⟨gb355, _, none⟩) (nF hw359_0 GW355.out) _).trans (hHeld.2.2.2.2.2.2.2.1)))), ((cell_far (p := ⟨gb355, _, none⟩) (nF hw359_1 GW355.out) _).trans (((cell_far (p := ⟨gb355, _, none⟩) (nF hw359_1 GW355.out) _).trans (hHeld.2.2.2.2.2.2.2.2.1)))), ((cell_far (p := ⟨gb355, _, none⟩) (nF hw359_2 GW355.out) _).trans (((cell_far (p := ⟨gb355, _, none⟩) (nF hw359_2 GW355.out) _).trans (hHeld.2.2.2.2.2.2.2.2.2))))⟩ (fun hHeld => ?_); clear hK K; refine dX ?_
        try go_wp2
        refine bodyPost_ret (results_cell_row rfl _ _ gb355 32 #[.int .i64 t360, .int .i64 t361] (0, 0) _ rfl (sB (put2 BK355.out)) Tryz.underlying32 rfl (by kernel_rfl)) rfl ?_; exact ⟨by first | rfl | (simp [errW_none, errW_some, i64_w]; done) | (simp [errW_none, errW_some] <;> rfl) | (simp only [← hji6, ← hji9]; first | rfl | (simp [errW_none, errW_some] <;> rfl)) | (simp [*, errW_none, errW_some] <;> rfl), sW HB.out⟩
       ·
        exact absurd H (by simp)
      ·
       exact absurd H (by simp)
     ·
      exact absurd H (by simp)
    ·
     exact absurd H (by simp)
   ·
    exact absurd H (by simp)
  ·
   exact absurd H (by simp)
 ·
  exact absurd H (by simp)

def cmp_Or_int.l0 : Nat → Int → List Int → Int → Int → Option (Int)
 | 0, _, _, _, _ => none
 | k + 1, x3, x6, x7, x8 => if x8 < x7 then (if 0 ≤ x8 then (if x8 < (x6.length : Int) then (if (rd x6 x8) = x3 then (cmp_Or_int.l0 k x3 x6 x7 (wrap64 (x8 + 1))) else (some (rd x6 x8))) else (none)) else (none)) else (some x3)
def cmp_Or_int.f (k : Nat) (l0 : List Int) : Option (Int) := cmp_Or_int.l0 k 0 l0 (l0.length : Int) 0
theorem cmp_Or_int.calls (k : Nat) (A0 : Option Addr) (c0 : Nat) (l0 : List Int) (r : Int) (w : World) (hr0 : Kd.C (Kd.int .i64) w A0 l0.length l0) (hc0 : l0.length ≤ c0) (h : cmp_Or_int.f k l0 = some r) :
  Calls Tryz.prog 91 #[.slice A0 l0.length c0] w fun e w' => e = .returned (.int .i64 r) ∧ Drawn0 w w' := by
 have HR0 := aS hr0; have HC0 := aS hc0; clear hr0 hc0; have H := h; clear h; unfold cmp_Or_int.f at H; have H' := aS H; clear H; go_enter Tryz.func91, Tryz.ntmps91; go_wp2
 go_loopg [8] k (fun kq v8 w' => ∃ (x8_1 : Int), v8 = .int .i64 x8_1 ∧ Aside0 (cmp_Or_int.l0 kq 0 l0 (l0.length : Int) x8_1 = some r) ∧ Aside0 (kq ≤ k) ∧ Drawn0 w w')
 case atStart => exact ⟨(0), eV, H', ⟨Nat.le_refl _⟩, eD⟩
 case round =>
  clear H'; obtain ⟨x8_1, rfl, HA, HK1, ⟨m1, rfl⟩⟩ := hrel; cases gk with
  | zero => exact absurd HA.out (by simp [cmp_Or_int.l0])
  | succ k1 =>
   have H := HA.out; clear HA; simp only [cmp_Or_int.l0] at H; replace H := iD H; rcases H with ⟨c2b0, H⟩ | ⟨c2b0, H⟩
   ·
    replace H := iE H; rcases H with ⟨c3, H⟩ | ⟨c3, H⟩
    ·
     have c3b0 := decide_eq_true c3; clear c3; replace H := iE H; rcases H with ⟨c4, H⟩ | ⟨c4, H⟩
     ·
      have c4b0 := decide_eq_true c4; clear c4; replace H := iB H; rcases H with ⟨c5b0, c5b1, H⟩ | ⟨c5, c5b0, c5b1, H⟩
      ·
       have H' := aS H; clear H; have p362 : 0 ≤ (x8_1 : Int) := sD; have q362 : x8_1 < (l0.length : Int) := sD; obtain ⟨ad362, e362, hx362_0⟩ := Kd.at_int HR0.out x8_1 p362 q362; cases e362; go_wp2
       go_roundg k1
       case measure => have := HK1.out; omega
       case rel => exact ⟨(wrap64 (x8_1 + 1)), eV, H', ⟨by have := HK1.out; omega⟩, eD⟩
      ·
       obtain rfl := Option.some.inj H; have p362 : 0 ≤ (x8_1 : Int) := sD; have q362 : x8_1 < (l0.length : Int) := sD; obtain ⟨ad362, e362, hx362_0⟩ := Kd.at_int HR0.out x8_1 p362 q362; cases e362; go_wp2; go_ret; exact ⟨eV, eD⟩
     ·
      exact absurd H (by simp)
    ·
     exact absurd H (by simp)
   ·
    obtain rfl := Option.some.inj H; go_wp2; go_ret; exact ⟨eV, eD⟩

def cmp_isNaN_int64.f (a0 : Int) : Option (Bool) := some (a0 != a0)
theorem cmp_isNaN_int64.calls (a0 : Int) (r : Bool) (w : World) (h : cmp_isNaN_int64.f a0 = some r) :
  Calls Tryz.prog 104 #[.int .i64 a0] w fun e w' => e = .returned (.bool r) ∧ Drawn0 w w' := by
 have H := h; clear h; unfold cmp_isNaN_int64.f at H; obtain rfl := Option.some.inj H; go_enter Tryz.func104, Tryz.ntmps104; go_wp2; go_ret; exact ⟨eV, eD⟩
def cmp_Compare_int64.f (a0 : Int) (a1 : Int) : Option (Int) := (cmp_isNaN_int64.f a0).bind fun t363 => ((cmp_isNaN_int64.f a1).bind fun t364 => (if t363 = true then (if t364 = true then (some 0) else (some (-1))) else (if t364 = true then (some 1) else (if a0 < a1 then (some (-1)) else (if a0 > a1 then (some 1) else (some 0))))))
theorem cmp_Compare_int64.calls (a0 : Int) (a1 : Int) (r : Int) (w : World) (h : cmp_Compare_int64.f a0 a1 = some r) :
  Calls Tryz.prog 92 #[.int .i64 a0, .int .i64 a1] w fun e w' => e = .returned (.int .i64 r) ∧ Drawn0 w w' := by
 have H := h; clear h; unfold cmp_Compare_int64.f at H; replace H := bE H; obtain ⟨t363, A3, H⟩ := H; try dsimp only at H
 replace H := bE H; obtain ⟨t364, A4, H⟩ := H; try dsimp only at H
 have HC5 := aS H; clear H; go_enter Tryz.func92, Tryz.ntmps92
 go_upto_if 11 with (first | ((with_reducible refine gk 104 rfl ?_); refine gC (some 8) rfl Tryz.func104 #[.int .i64 a0] (cmp_isNaN_int64.calls a0 t363 _ A3.out) ?_; rintro e w' ⟨rfl, ⟨nd, rfl⟩⟩; refine ⟨_, rfl, ?_⟩) | ((with_reducible refine gk 104 rfl ?_); refine gC (some 10) rfl Tryz.func104 #[.int .i64 a1] (cmp_isNaN_int64.calls a1 t364 _ A4.out) ?_; rintro e w' ⟨rfl, ⟨nd, rfl⟩⟩; refine ⟨_, rfl, ?_⟩))
 (try simp only [Act.put, List.setIfInBounds_toArray, List.set_cons_zero, List.set_cons_succ]); have H := HC5.out; clear HC5; replace H := iZ H; rcases H with ⟨rfl, H⟩ | ⟨rfl, H⟩
 ·
  replace H := iZ H; rcases H with ⟨rfl, H⟩ | ⟨rfl, H⟩
  ·
   obtain rfl := Option.some.inj H; go_wp2; go_ret; exact ⟨eV, eD⟩
  ·
   obtain rfl := Option.some.inj H; go_wp2; go_ret; exact ⟨eV, eD⟩
 ·
  replace H := iZ H; rcases H with ⟨rfl, H⟩ | ⟨rfl, H⟩
  ·
   obtain rfl := Option.some.inj H; go_wp2; go_ret; exact ⟨eV, eD⟩
  ·
   replace H := iD H; rcases H with ⟨c9b0, H⟩ | ⟨c9b0, H⟩
   ·
    (first | rw [c9b0] | (simp only [i64_w, i32_w]; rw [c9b0]) | (rw [c9b2]; simp only [Bool.not_false, Bool.not_true]) | rw [c9b1] | skip); obtain rfl := Option.some.inj H; go_wp2; go_ret; exact ⟨eV, eD⟩
   ·
    (first | rw [c9b0] | (simp only [i64_w, i32_w]; rw [c9b0]) | (rw [c9b2]; simp only [Bool.not_false, Bool.not_true]) | rw [c9b1] | skip); replace H := iE H; rcases H with ⟨c10, H⟩ | ⟨c10, H⟩
    ·
     have c10b0 : decide (a1 < a0) = true := decide_eq_true c10; clear c10; obtain rfl := Option.some.inj H; go_wp2; go_ret; exact ⟨eV, eD⟩
    ·
     have c10b0 : decide (a1 < a0) = false := decide_eq_false c10; clear c10; obtain rfl := Option.some.inj H; go_wp2; go_ret; exact ⟨eV, eD⟩

def impl_sign.f (a0 : Int) : Option (Int) := if a0 > 0 then (some 1) else (if a0 < 0 then (some (-1)) else (some 0))
theorem impl_sign.calls (a0 : Int) (r : Int) (w : World) (h : impl_sign.f a0 = some r) :
  Calls Tryz.prog 93 #[.int .i64 a0] w fun e w' => e = .returned (.int .i64 r) ∧ Drawn0 w w' := by
 have H := h; clear h; unfold impl_sign.f at H; replace H := iE H; rcases H with ⟨c2, H⟩ | ⟨c2, H⟩
 ·
  have c2b0 : decide (0 < a0) = true := decide_eq_true c2; clear c2; obtain rfl := Option.some.inj H; go_enter Tryz.func93, Tryz.ntmps93; go_wp2; go_ret; exact ⟨eV, eD⟩
 ·
  have c2b0 : decide (0 < a0) = false := decide_eq_false c2; clear c2; replace H := iD H; rcases H with ⟨c3b0, H⟩ | ⟨c3b0, H⟩
  ·
   obtain rfl := Option.some.inj H; go_enter Tryz.func93, Tryz.ntmps93; go_wp2; go_ret; exact ⟨eV, eD⟩
  ·
   obtain rfl := Option.some.inj H; go_enter Tryz.func93, Tryz.ntmps93; go_wp2; go_ret; exact ⟨eV, eD⟩

def bits_Mul64.f (a0 : Int) (a1 : Int) : Option (Int × Int) := some (IntKind.u64.wrap ((IntKind.u64.wrap ((IntKind.u64.wrap ((a0 / 4294967296) * (a1 / 4294967296))) + ((IntKind.u64.wrap ((IntKind.u64.wrap ((a0 / 4294967296) * (Go.bits .and .u64 a1 4294967295))) + ((IntKind.u64.wrap ((Go.bits .and .u64 a0 4294967295) * (Go.bits .and .u64 a1 4294967295))) / 4294967296))) / 4294967296))) + ((IntKind.u64.wrap ((Go.bits .and .u64 (IntKind.u64.wrap ((IntKind.u64.wrap ((a0 / 4294967296) * (Go.bits .and .u64 a1 4294967295))) + ((IntKind.u64.wrap ((Go.bits .and .u64 a0 4294967295) * (Go.bits .and .u64 a1 4294967295))) / 4294967296))) 4294967295) + (IntKind.u64.wrap ((Go.bits .and .u64 a0 4294967295) * (a1 / 4294967296))))) / 4294967296)), IntKind.u64.wrap (a0 * a1))
theorem bits_Mul64.calls (a0 : Int) (a1 : Int) (r1 : Int) (r2 : Int) (w : World) (h : bits_Mul64.f a0 a1 = some (r1, r2)) :
  Calls Tryz.prog 105 #[.int .u64 a0, .int .u64 a1] w fun e w' => e = .returned (.tuple #[.int .u64 r1, .int .u64 r2]) ∧ Drawn0 w w' := by
 have H := h; clear h; unfold bits_Mul64.f at H; simp only [Option.some.injEq, Prod.mk.injEq] at H; obtain ⟨rfl, rfl⟩ := H; go_enter Tryz.func105, Tryz.ntmps105; go_wp2
 go_ret2
 exact ⟨eV, eD⟩

def cmp_isNaN_uint64.f (a0 : Int) : Option (Bool) := some (a0 != a0)
theorem cmp_isNaN_uint64.calls (a0 : Int) (r : Bool) (w : World) (h : cmp_isNaN_uint64.f a0 = some r) :
  Calls Tryz.prog 116 #[.int .u64 a0] w fun e w' => e = .returned (.bool r) ∧ Drawn0 w w' := by
 have H := h; clear h; unfold cmp_isNaN_uint64.f at H; obtain rfl := Option.some.inj H; go_enter Tryz.func116, Tryz.ntmps116; go_wp2; go_ret; exact ⟨eV, eD⟩

def cmp_Compare_uint64.f (a0 : Int) (a1 : Int) : Option (Int) := (cmp_isNaN_uint64.f a0).bind fun t365 => ((cmp_isNaN_uint64.f a1).bind fun t366 => (if t365 = true then (if t366 = true then (some 0) else (some (-1))) else (if t366 = true then (some 1) else (if a0 < a1 then (some (-1)) else (if a0 > a1 then (some 1) else (some 0))))))
theorem cmp_Compare_uint64.calls (a0 : Int) (a1 : Int) (r : Int) (w : World) (h : cmp_Compare_uint64.f a0 a1 = some r) :
  Calls Tryz.prog 106 #[.int .u64 a0, .int .u64 a1] w fun e w' => e = .returned (.int .i64 r) ∧ Drawn0 w w' := by
 have H := h; clear h; unfold cmp_Compare_uint64.f at H; replace H := bE H; obtain ⟨t365, A3, H⟩ := H; try dsimp only at H
 replace H := bE H; obtain ⟨t366, A4, H⟩ := H; try dsimp only at H
 have HC5 := aS H; clear H; go_enter Tryz.func106, Tryz.ntmps106
 go_upto_if 11 with (first | ((with_reducible refine gk 116 rfl ?_); refine gC (some 8) rfl Tryz.func116 #[.int .u64 a0] (cmp_isNaN_uint64.calls a0 t365 _ A3.out) ?_; rintro e w' ⟨rfl, ⟨nd, rfl⟩⟩; refine ⟨_, rfl, ?_⟩) | ((with_reducible refine gk 116 rfl ?_); refine gC (some 10) rfl Tryz.func116 #[.int .u64 a1] (cmp_isNaN_uint64.calls a1 t366 _ A4.out) ?_; rintro e w' ⟨rfl, ⟨nd, rfl⟩⟩; refine ⟨_, rfl, ?_⟩))
 (try simp only [Act.put, List.setIfInBounds_toArray, List.set_cons_zero, List.set_cons_succ]); have H := HC5.out; clear HC5; replace H := iZ H; rcases H with ⟨rfl, H⟩ | ⟨rfl, H⟩
 ·
  replace H := iZ H; rcases H with ⟨rfl, H⟩ | ⟨rfl, H⟩
  ·
   obtain rfl := Option.some.inj H; go_wp2; go_ret; exact ⟨eV, eD⟩
  ·
   obtain rfl := Option.some.inj H; go_wp2; go_ret; exact ⟨eV, eD⟩
 ·
  replace H := iZ H; rcases H with ⟨rfl, H⟩ | ⟨rfl, H⟩
  ·
   obtain rfl := Option.some.inj H; go_wp2; go_ret; exact ⟨eV, eD⟩
  ·
   replace H := iD H; rcases H with ⟨c9b0, H⟩ | ⟨c9b0, H⟩
   ·
    (first | rw [c9b0] | (simp only [i64_w, i32_w]; rw [c9b0]) | (rw [c9b2]; simp only [Bool.not_false, Bool.not_true]) | rw [c9b1] | skip); obtain rfl := Option.some.inj H; go_wp2; go_ret; exact ⟨eV, eD⟩
   ·
    (first | rw [c9b0] | (simp only [i64_w, i32_w]; rw [c9b0]) | (rw [c9b2]; simp only [Bool.not_false, Bool.not_true]) | rw [c9b1] | skip); replace H := iE H; rcases H with ⟨c10, H⟩ | ⟨c10, H⟩
    ·
     have c10b0 : decide (a1 < a0) = true := decide_eq_true c10; clear c10; obtain rfl := Option.some.inj H; go_wp2; go_ret; exact ⟨eV, eD⟩
    ·
     have c10b0 : decide (a1 < a0) = false := decide_eq_false c10; clear c10; obtain rfl := Option.some.inj H; go_wp2; go_ret; exact ⟨eV, eD⟩

def impl_compareProducts.f (k : Nat) (a0 : Int) (a1 : Int) (a2 : Int) (a3 : Int) : Option (Int) := (bits_Mul64.f a0 a1).bind fun bt367 => ((bits_Mul64.f a2 a3).bind fun bt369 => ((cmp_Compare_uint64.f bt367.1 bt369.1).bind fun t371 => ((cmp_Compare_uint64.f bt367.2 bt369.2).bind fun t372 => ((cmp_Or_int.f k (([t371, t372] : List Int))).bind fun t376 => (some t376)))))
theorem impl_compareProducts.calls (k : Nat) (a0 : Int) (a1 : Int) (a2 : Int) (a3 : Int) (r : Int) (w : World) (h : impl_compareProducts.f k a0 a1 a2 a3 = some r) :
  Calls Tryz.prog 94 #[.int .u64 a0, .int .u64 a1, .int .u64 a2, .int .u64 a3] w fun e w' => e = .returned (.int .i64 r) ∧ Below w.heap.size w w' := by
 have HB := aS (Below.refl w.heap.size w); have H := h; clear h; unfold impl_compareProducts.f at H; replace H := bE H; obtain ⟨⟨t367, t368⟩, A5, H⟩ := H; try dsimp only at H
 replace H := bE H; obtain ⟨⟨t369, t370⟩, A6, H⟩ := H; try dsimp only at H
 replace H := bE H; obtain ⟨t371, A7, H⟩ := H; try dsimp only at H
 replace H := bE H; obtain ⟨t372, A8, H⟩ := H; try dsimp only at H
 obtain ⟨y373, hy373⟩ : ∃ y_ : List Int, y_ = (([t371, t372] : List Int)) := ⟨_, rfl⟩; replace H : ((cmp_Or_int.f k y373).bind fun t376 => (some t376)) = some r := by first | (rw [hy373]; with_reducible exact H) | (have H2_ := (Option.bind_some _ _).symm.trans H; rw [hy373]; with_reducible exact H2_) | (have H2_ := (Option.bind_some _ _).symm.trans H; with_reducible exact H2_) | with_reducible exact H | (rw [hy373]; exact H) | exact H
 have Ny373 := aS hy373; clear hy373; replace H := bE H; obtain ⟨t376, A9, H⟩ := H; try dsimp only at H
 obtain rfl := Option.some.inj H; go_enter Tryz.func94, Tryz.ntmps94
 go_wp2_with (first | ((with_reducible refine gk 105 rfl ?_); refine gC (some 16) rfl Tryz.func105 #[.int .u64 a0, .int .u64 a1] (bits_Mul64.calls a0 a1 t367 t368 _ A5.out) ?_; rintro e w' ⟨rfl, ⟨nd, rfl⟩⟩; refine ⟨_, rfl, ?_⟩) | ((with_reducible refine gk 105 rfl ?_); refine gC (some 22) rfl Tryz.func105 #[.int .u64 a2, .int .u64 a3] (bits_Mul64.calls a2 a3 t369 t370 _ A6.out) ?_; rintro e w' ⟨rfl, ⟨nd, rfl⟩⟩; refine ⟨_, rfl, ?_⟩) | ((with_reducible refine gk 106 rfl ?_); refine gC (some 27) rfl Tryz.func106 #[.int .u64 t367, .int .u64 t369] (cmp_Compare_uint64.calls t367 t369 t371 _ A7.out) ?_; rintro e w' ⟨rfl, ⟨nd, rfl⟩⟩; refine ⟨_, rfl, ?_⟩) | ((with_reducible refine gk 106 rfl ?_); refine gC (some 30) rfl Tryz.func106 #[.int .u64 t368, .int .u64 t370] (cmp_Compare_uint64.calls t368 t370 t372 _ A8.out) ?_; rintro e w' ⟨rfl, ⟨nd, rfl⟩⟩; refine ⟨_, rfl, ?_⟩) | ((with_reducible refine gt 31 rfl ?_); refine Kd.R_lit (Kd.int .i64) _ 3 ?hg (N := 31) ?hd (xs := ([t371, t372] : List Int)) (inner := [.int .i64 t371, .int .i64 t372]) (ok := fun _ => True) (okp := fun _ => True) ?hr ?hp (fun _ hk => hk) trivial (Below.refl _ _) (Nat.le_refl _) (by simp) ?_; (case hd => rfl); (case hg => rfl); (case hr => first | (go_simp; done) | (go_simp; rfl)); (case hp => exact (Reps.one (show Kd.M (Kd.int .i64) _ _ _ t371 [.int .i64 t371] from rfl) (Reps.one (show Kd.M (Kd.int .i64) _ _ _ t372 [.int .i64 t372] from rfl) (Reps.none _ _)))); intro v374 w10 ho11 hb hg_ hnew_; clear hg_ hnew_; (first | rw [← Ny373.out] at ho11 | (simp only [Int.reduceToNat] at ho11; rw [← Ny373.out] at ho11)); have HO375 := aS (Kd.R_lower ho11 (below_size (sW HB.out))); replace HB := lW HB hb; clear hb ho11; obtain ⟨Ao12, co12, eo12⟩ := Kd.R_slice HO375.out; subst eo12) | ((with_reducible refine gk 91 rfl ?_); refine gC (some 32) rfl Tryz.func91 #[.slice Ao12 y373.length co12] (cmp_Or_int.calls k _ _ y373 t376 _ (sC (Kd.R_reads' HO375.out).2.2) (uL HO375) A9.out) ?_; rintro e w' ⟨rfl, ⟨nd, rfl⟩⟩; refine ⟨_, rfl, ?_⟩))
 go_ret; exact ⟨eE, sW HB.out⟩

def impl_size.f (a0 : Int) : Option (Int) := if a0 < 0 then (some (IntKind.u64.wrap (wrap64 (-a0)))) else (some (IntKind.u64.wrap (a0)))
theorem impl_size.calls (a0 : Int) (r : Int) (w : World) (h : impl_size.f a0 = some r) :
  Calls Tryz.prog 95 #[.int .i64 a0] w fun e w' => e = .returned (.int .u64 r) ∧ Drawn0 w w' := by
 have H := h; clear h; unfold impl_size.f at H; replace H := iD H; rcases H with ⟨c2b0, H⟩ | ⟨c2b0, H⟩
 ·
  obtain rfl := Option.some.inj H; go_enter Tryz.func95, Tryz.ntmps95; go_wp2; go_ret; exact ⟨eV, eD⟩
 ·
  obtain rfl := Option.some.inj H; go_enter Tryz.func95, Tryz.ntmps95; go_wp2; go_ret; exact ⟨eV, eD⟩

def impl_compareFractions.f (k : Nat) (a0_0 : Int) (a0_1 : Int) (a1_0 : Int) (a1_1 : Int) : Option (Int) := (impl_sign.f a0_0).bind fun t379 => ((impl_sign.f a1_0).bind fun t380 => ((cmp_Compare_int64.f t379 t380).bind fun t381 => ((impl_sign.f a0_0).bind fun t382 => ((impl_size.f a0_0).bind fun t383 => ((impl_size.f a1_1).bind fun t384 => ((impl_size.f a1_0).bind fun t385 => ((impl_size.f a0_1).bind fun t386 => ((impl_compareProducts.f k t383 t384 t385 t386).bind fun t387 => ((cmp_Or_int.f k (([t381, wrap64 (t382 * t387)] : List Int))).bind fun t391 => (some t391))))))))))
def impl_compareFractions.T1 : Bool × List (List Nat × List Nat) := (true,[([],[]),([0],[0]),([1],[1]),([],[]),([3],[3]),([4,2],[4]),([2,5,5],[2,5]),([],[]),([7],[7]),([8,6],[8]),([],[]),([10],[10]),([11,9],[11]),([],[]),([13],[13]),([14,12],[14]),([],[]),([16],[16]),([17,15],[17]),([],[]),([19],[19]),([20,18],[20]),([12,15,18,21,21],[12,15,18,21]),([9,22],[9,22]),([6,23],[6,23]),([24,22],[24]),([25,25,0,1,2,3,4,5,6,7,8,9,10,11,12,13,14,15,16,17,18,19,20,21,22,23,24,25],[25])])
def impl_compareFractions.B1 : List Nat := [0,1,3,0,8,31,63,0,128,511,0,1024,4095,0,8192,32767,0,65536,262143,0,524288,2097151,4194303,8388607,16777215,33554431,67108863]
theorem impl_compareFractions.tab1 : rtab .any (opsOf Tryz.f70 1) = impl_compareFractions.T1 := by kernel_rfl
theorem impl_compareFractions.bits1 : waitsOk impl_compareFractions.T1.2 impl_compareFractions.B1 = true := by kernel_rfl
theorem impl_compareFractions.calls (k : Nat) (a0_0 : Int) (a0_1 : Int) (a1_0 : Int) (a1_1 : Int) (r : Int) (w : World) (h : impl_compareFractions.f k a0_0 a0_1 a1_0 a1_1 = some r) :
  Calls Tryz.prog 70 #[.agg #[.int .i64 a0_0, .int .i64 a0_1], .agg #[.int .i64 a1_0, .int .i64 a1_1]] w fun e w' => e = .returned (.int .i64 r) ∧ Below w.heap.size w w' := by
 have hu32 := Tryz.underlying32; have HB := aS (Below.refl w.heap.size w); have H := h; clear h; unfold impl_compareFractions.f at H; replace H := bE H; obtain ⟨t379, A3, H⟩ := H; try dsimp only at H
 replace H := bE H; obtain ⟨t380, A4, H⟩ := H; try dsimp only at H
 replace H := bE H; obtain ⟨t381, A5, H⟩ := H; try dsimp only at H
 replace H := bE H; obtain ⟨t382, A6, H⟩ := H; try dsimp only at H
 replace H := bE H; obtain ⟨t383, A7, H⟩ := H; try dsimp only at H
 replace H := bE H; obtain ⟨t384, A8, H⟩ := H; try dsimp only at H
 replace H := bE H; obtain ⟨t385, A9, H⟩ := H; try dsimp only at H
 replace H := bE H; obtain ⟨t386, A10, H⟩ := H; try dsimp only at H
 replace H := bE H; obtain ⟨t387, A11, H⟩ := H; try dsimp only at H
 obtain ⟨y388, hy388⟩ : ∃ y_ : List Int, y_ = (([t381, wrap64 (t382 * t387)] : List Int)) := ⟨_, rfl⟩; replace H : ((cmp_Or_int.f k y388).bind fun t391 => (some t391)) = some r := by first | (rw [hy388]; with_reducible exact H) | (have H2_ := (Option.bind_some _ _).symm.trans H; rw [hy388]; with_reducible exact H2_) | (have H2_ := (Option.bind_some _ _).symm.trans H; with_reducible exact H2_) | with_reducible exact H | (rw [hy388]; exact H) | exact H
 have Ny388 := aS hy388; clear hy388; replace H := bE H; obtain ⟨t391, A12, H⟩ := H; try dsimp only at H
 obtain rfl := Option.some.inj H; go_enter Tryz.func70, Tryz.ntmps70
 try go_wp2_with (first | ((with_reducible refine gt 2 rfl ?_); refine bx 2 #[.int .i64 a0_0, .int .i64 a0_1] 32 ?_; intro gb377 hg w13 hbox hb; have BK377 := aS (hbox); have GW377 := aS (gW hg (sW HB.out)); have GE377 := aS (gW hg (sW HB.out)); replace HB := lW HB hb; clear hb hbox hg) | ((with_reducible refine gt 3 rfl ?_); refine bx 3 #[.int .i64 a1_0, .int .i64 a1_1] 32 ?_; intro gb378 hg w14 hbox hb; have BK378 := aS (hbox); have GW378 := aS (gW hg (sW HB.out)); have GE378 := aS (gW hg (sW HB.out)); replace HB := lW HB hb; have NB377_378 := aS (nL hg (sB BK377.out)); have NB378_377 := aS (nG hg (sB BK377.out)); replace BK377 := lB BK377 hb; clear hb hbox hg))
 replace BK377 := aS (blk_drew BK377.out); replace BK378 := aS (blk_drew BK378.out); replace HB := aS (below_drew1 HB.out); refine start_ (n := 27) (S := fun w' => w'.cell? ⟨gb377, 0, none⟩ = some (.int .i64 a0_0) ∧ w'.cell? ⟨gb377, 1, none⟩ = some (.int .i64 a0_1) ∧ w'.cell? ⟨gb378, 0, none⟩ = some (.int .i64 a1_0) ∧ w'.cell? ⟨gb378, 1, none⟩ = some (.int .i64 a1_1)) (ds := []) _ (by kernel_rfl) rfl rfl ⟨bq BK377.out 0, bq BK377.out 1, bq BK378.out 0, bq BK378.out 1⟩ (fun hHeld => ?_); refine with_tabW impl_compareFractions.tab1 impl_compareFractions.bits1 (fun HT_ HW_ => ?_); generalize w14.drew = w15 at BK377 BK378 HB hHeld ⊢; refine pX 0 5 ?_; refine pX 3 8 ?_; refine pX 7 12 ?_; refine pX 10 15 ?_; refine pX 13 18 ?_; refine pX 16 21 ?_; refine pX 19 24 ?_; refine tX 1 6 ?_; refine tX 4 9 ?_; refine tX 8 13 ?_; refine tX 11 16 ?_; refine tX 14 19 ?_; refine tX 17 22 ?_; refine tX 20 25 ?_; refine oX 2 (some 7) fun K hK => ?_
 refine goes_ Tryz.func93 (by kernel_rfl) rfl #[.int .i64 a0_0] (by rfl) rfl rfl sG ?_; with_reducible refine (impl_sign.calls a0_0 t379 _ A3.out).mono ?_
 rintro e w' ⟨rfl, ⟨nd, rfl⟩⟩; refine ⟨_, rfl, ?_⟩; refine hK.out _ _ ⟨bq BK377.out 0, bq BK377.out 1, bq BK378.out 0, bq BK378.out 1⟩ (fun hHeld => ?_); clear hK K; refine nX 7 ?_; refine oX 5 (some 10) fun K hK => ?_
 refine goes_ Tryz.func93 (by kernel_rfl) rfl #[.int .i64 a1_0] (by rfl) rfl rfl sG ?_; with_reducible refine (impl_sign.calls a1_0 t380 _ A4.out).mono ?_
 rintro e w' ⟨rfl, ⟨nd, rfl⟩⟩; refine ⟨_, rfl, ?_⟩; refine hK.out _ _ ⟨bq BK377.out 0, bq BK377.out 1, bq BK378.out 0, bq BK378.out 1⟩ (fun hHeld => ?_); clear hK K; refine nX 10 ?_; refine oX 6 (some 11) fun K hK => ?_
 refine goes_ Tryz.func92 (by kernel_rfl) rfl #[.int .i64 t379, .int .i64 t380] (by rfl) rfl rfl sG ?_; with_reducible refine (cmp_Compare_int64.calls t379 t380 t381 _ A5.out).mono ?_
 rintro e w' ⟨rfl, ⟨nd, rfl⟩⟩; refine ⟨_, rfl, ?_⟩; refine hK.out _ _ ⟨bq BK377.out 0, bq BK377.out 1, bq BK378.out 0, bq BK378.out 1⟩ (fun hHeld => ?_); clear hK K; refine nX 11 ?_; refine oX 9 (some 14) fun K hK => ?_
 refine goes_ Tryz.func93 (by kernel_rfl) rfl #[.int .i64 a0_0] (by rfl) rfl rfl sG ?_; with_reducible refine (impl_sign.calls a0_0 t382 _ A6.out).mono ?_
 rintro e w' ⟨rfl, ⟨nd, rfl⟩⟩; refine ⟨_, rfl, ?_⟩; refine hK.out _ _ ⟨bq BK377.out 0, bq BK377.out 1, bq BK378.out 0, bq BK378.out 1⟩ (fun hHeld => ?_); clear hK K; refine nX 14 ?_; refine oX 12 (some 17) fun K hK => ?_
 refine goes_ Tryz.func95 (by kernel_rfl) rfl #[.int .i64 a0_0] (by rfl) rfl rfl sG ?_; with_reducible refine (impl_size.calls a0_0 t383 _ A7.out).mono ?_
 rintro e w' ⟨rfl, ⟨nd, rfl⟩⟩; refine ⟨_, rfl, ?_⟩; refine hK.out _ _ ⟨bq BK377.out 0, bq BK377.out 1, bq BK378.out 0, bq BK378.out 1⟩ (fun hHeld => ?_); clear hK K; refine nX 17 ?_; refine oX 15 (some 20) fun K hK => ?_
 refine goes_ Tryz.func95 (by kernel_rfl) rfl #[.int .i64 a1_1] (by rfl) rfl rfl sG ?_; with_reducible refine (impl_size.calls a1_1 t384 _ A8.out).mono ?_
 rintro e w' ⟨rfl, ⟨nd, rfl⟩⟩; refine ⟨_, rfl, ?_⟩; refine hK.out _ _ ⟨bq BK377.out 0, bq BK377.out 1, bq BK378.out 0, bq BK378.out 1⟩ (fun hHeld => ?_); clear hK K; refine nX 20 ?_; refine oX 18 (some 23) fun K hK => ?_
 refine goes_ Tryz.func95 (by kernel_rfl) rfl #[.int .i64 a1_0] (by rfl) rfl rfl sG ?_; with_reducible refine (impl_size.calls a1_0 t385 _ A9.out).mono ?_
 rintro e w' ⟨rfl, ⟨nd, rfl⟩⟩; refine ⟨_, rfl, ?_⟩; refine hK.out _ _ ⟨bq BK377.out 0, bq BK377.out 1, bq BK378.out 0, bq BK378.out 1⟩ (fun hHeld => ?_); clear hK K; refine nX 23 ?_; refine oX 21 (some 26) fun K hK => ?_
 refine goes_ Tryz.func95 (by kernel_rfl) rfl #[.int .i64 a0_1] (by rfl) rfl rfl sG ?_; with_reducible refine (impl_size.calls a0_1 t386 _ A10.out).mono ?_
 rintro e w' ⟨rfl, ⟨nd, rfl⟩⟩; refine ⟨_, rfl, ?_⟩; refine hK.out _ _ ⟨bq BK377.out 0, bq BK377.out 1, bq BK378.out 0, bq BK378.out 1⟩ (fun hHeld => ?_); clear hK K; refine nX 26 ?_; refine oX 22 (some 27) fun K hK => ?_
 refine goes_ Tryz.func94 (by kernel_rfl) rfl #[.int .u64 t383, .int .u64 t384, .int .u64 t385, .int .u64 t386] (by rfl) rfl rfl sG ?_; with_reducible refine (impl_compareProducts.calls k t383 t384 t385 t386 t387 _ A11.out).mono ?_
 rintro e w16 ⟨rfl, hb⟩; refine ⟨_, rfl, ?_⟩; replace BK377 := lB BK377 hb; replace BK378 := lB BK378 hb; replace HB := lW HB hb; refine hK.out _ _ ⟨bq BK377.out 0, bq BK377.out 1, bq BK378.out 0, bq BK378.out 1⟩ (fun hHeld => ?_); clear hK K; refine nX 27 ?_; refine pX 23 28 ?_; refine oX 24 (some 29) fun K hK => ?_
 refine Kd.R_lit_step (Kd.int .i64) _ 3 ?hg (N := 29) ?hd (xs := ([t381, wrap64 (t382 * t387)] : List Int)) (inner := [.int .i64 t381, .int .i64 (wrap64 (t382 * t387))]) (ok := fun _ => True) (okp := fun _ => True) ?hr ?hp (fun _ hk => hk) trivial (Below.refl _ _) (Nat.le_refl _) (by simp) ?_; (case hd => rfl); (case hg => rfl); (case hr => first | (go_simp; done) | (go_simp; rfl)); (case hp => exact (Reps.one (show Kd.M (Kd.int .i64) _ _ _ t381 [.int .i64 t381] from rfl) (Reps.one (show Kd.M (Kd.int .i64) _ _ _ (wrap64 (t382 * t387)) [.int .i64 (wrap64 (t382 * t387))] from rfl) (Reps.none _ _)))); intro v389 w17 ho18 hb hg_ hnew_; clear hg_ hnew_; (first | rw [← Ny388.out] at ho18 | (simp only [Int.reduceToNat] at ho18; rw [← Ny388.out] at ho18)); have HO390 := aS (Kd.R_lower ho18 (below_size (sW HB.out))); replace BK377 := lB BK377 hb; replace BK378 := lB BK378 hb; replace HB := lW HB hb; clear hb ho18; obtain ⟨Ao19, co19, eo19⟩ := Kd.R_slice HO390.out; (first | subst eo19 | (injection eo19 with f1_ f2_ f3_; have f4_ := f1_.symm; have f5_ := f3_.symm; clear f1_ f2_ f3_; subst f4_; subst f5_)); refine hK.out _ _ ⟨bq BK377.out 0, bq BK377.out 1, bq BK378.out 0, bq BK378.out 1⟩ (fun hHeld => ?_); clear hK K; refine nX 29 ?_; refine oX 25 (some 30) fun K hK => ?_
 refine goes_ Tryz.func91 (by kernel_rfl) rfl #[.slice Ao19 y388.length co19] (by rfl) rfl rfl sG ?_; with_reducible refine (cmp_Or_int.calls k _ _ y388 t391 _ ?side1 ?side2 A12.out).mono ?_
 (case side1 => exact sC (Kd.R_reads' HO390.out).2.2); (case side2 => exact (Kd.R_reads' HO390.out).2.1); rintro e w' ⟨rfl, ⟨nd, rfl⟩⟩; refine ⟨_, rfl, ?_⟩; refine hK.out _ _ ⟨bq BK377.out 0, bq BK377.out 1, bq BK378.out 0, bq BK378.out 1⟩ (fun hHeld => ?_); clear hK K; refine nX 30 ?_; refine pX 26 4 ?_; refine dX ?_
 try go_wp2
 go_ret; exact ⟨eE, sW HB.out⟩
mutual
def impl_lineStrength.l0 : Nat → List (S47) → List (S58) → Int → Int → List (S58) → List Int → Int → Int → Option (Int × Int)
 | 0, _, _, _, _, _, _, _, _ => none
 | k + 1, x0, x17, x18, x19, x393000, x393001, x398000, x398001 => if x19 < x18 then (if 0 ≤ x19 then (if x19 < (x17.length : Int) then ((impl_fraction.f k (mn x398000 ((rd_T58 x17 x19).f0)) 1).bind fun bt400 => (impl_lineStrength.l0 k x0 x17 x18 (wrap64 (x19 + 1)) x393000 x393001 bt400.1 bt400.2)) else (none)) else (none)) else (impl_lineStrength.l1 k x0 (x393001.length : Int) 0 x393000 x393001 x398000 x398001)
def impl_lineStrength.l1 : Nat → List (S47) → Int → Int → List (S58) → List Int → Int → Int → Option (Int × Int)
 | 0, _, _, _, _, _, _, _ => none
 | k + 1, x0, x32, x33, x393000, x393001, x398000, x398001 => if x33 < x32 then ((impl_strengthAt.f k x0 x393000 x393001 x33).bind fun bt402 => ((impl_compareFractions.f k bt402.1 bt402.2 x398000 x398001).bind fun t405 => (if t405 < 0 then (impl_lineStrength.l1 k x0 x32 (wrap64 (x33 + 1)) x393000 x393001 bt402.1 bt402.2) else (impl_lineStrength.l1 k x0 x32 (wrap64 (x33 + 1)) x393000 x393001 x398000 x398001)))) else (some (x398000, x398001))
end
def impl_lineStrength.f (k : Nat) (l0 : List (S47)) (l1_0 : List (S58)) (l1_1 : List Int) : Option (Int × Int) := if 0 < (l1_0.length : Int) then ((impl_fraction.f k ((rd_T58 l1_0 0).f0) 1).bind fun bt395 => (impl_lineStrength.l0 k l0 l1_0 (l1_0.length : Int) 0 l1_0 l1_1 bt395.1 bt395.2)) else (none)
theorem impl_lineStrength.calls (k : Nat) (A0 : Option Addr) (c0 : Nat) (l0 : List (S47)) (A1_0 : Option Addr) (c1_0 : Nat) (l1_0 : List (S58)) (A1_1 : Option Addr) (c1_1 : Nat) (l1_1 : List Int) (r1 : Int) (r2 : Int) (w : World) (hr0 : Kd.C k47 w A0 l0.length l0) (hc0 : l0.length ≤ c0) (hr1_0 : Kd.C k58 w A1_0 l1_0.length l1_0) (hc1_0 : l1_0.length ≤ c1_0) (hr1_1 : Kd.C (Kd.int .i64) w A1_1 l1_1.length l1_1) (hc1_1 : l1_1.length ≤ c1_1) (h : impl_lineStrength.f k l0 l1_0 l1_1 = some (r1, r2)) :
  Calls Tryz.prog 33 #[.slice A0 l0.length c0, .agg #[.slice A1_0 l1_0.length c1_0, .slice A1_1 l1_1.length c1_1]] w fun e w' => e = .returned (.agg #[.int .i64 r1, .int .i64 r2]) ∧ Below w.heap.size w w' := by
 have hu28 := Tryz.underlying28; have hu32 := Tryz.underlying32; have hu58 := Tryz.underlying58; have HR0 := aS hr0; have HC0 := aS hc0; clear hr0 hc0; have HR1_0 := aS hr1_0; have HC1_0 := aS hc1_0; clear hr1_0 hc1_0; have HR1_1 := aS hr1_1; have HC1_1 := aS hc1_1; clear hr1_1 hc1_1; have HB := aS (Below.refl w.heap.size w); have H := h; clear h; unfold impl_lineStrength.f at H; replace H := iE H; rcases H with ⟨c3, H⟩ | ⟨c3, H⟩
 ·
  have c3b0 := decide_eq_true c3; have c3b1 : decide (0 < l1_0.length) = true := decide_eq_true (by omega); clear c3; replace H := bE H; obtain ⟨⟨t395, t396⟩, A4, H⟩ := H; try dsimp only at H
  have H' := aS H; clear H; go_enter Tryz.func33, Tryz.ntmps33
  go_wp2_with (first | ((with_reducible refine gt 3 rfl ?_); refine bx 3 #[.slice A1_0 l1_0.length c1_0, .slice A1_1 l1_1.length c1_1] 28 ?_; intro gb392 hg w5 hbox hb; have BK392 := aS (hbox); have GW392 := aS (gW hg (sW HB.out)); have GE392 := aS (gW hg (sW HB.out)); replace HB := lW HB hb; clear hb hbox hg) | ((with_reducible refine gt 4 rfl ?_); refine bx 4 #[.int .i64 0, .int .i64 0] 32 ?_; intro gb393 hg w6 hbox hb; have BK393 := aS (hbox); have GW393 := aS (gW hg (sW HB.out)); have GE393 := aS (gW hg (sW HB.out)); replace HB := lW HB hb; have NB392_393 := aS (nL hg (sB BK392.out)); have NB393_392 := aS (nG hg (sB BK392.out)); replace BK392 := lB BK392 hb; clear hb hbox hg; obtain ⟨hnb7, hnc7⟩ := nD NB392_393; obtain ⟨hcz8_0, hcz8_1, hfz8_0, hfz8_1⟩ := z2 BK392.out; have p394 : 0 ≤ (0 : Int) := (by omega); have q394 : 0 < (l1_0.length : Int) := sD; obtain ⟨ad394, e394, hx394_0, hx394_1⟩ := at_T58 HR1_0.out 0 p394 q394; cases e394; have qi394 : (0 < l1_0.length) = True := eq_true (by omega); (try rw [show ((0 : Int)).toNat = 0 from rfl] at hx394_0); (try rw [show 0 * 2 = 0 from rfl] at hx394_0); (try rw [Addr.add_zero'] at hx394_0); (try rw [show ((0 : Int)).toNat = 0 from rfl] at hx394_1); (try rw [show 0 * 2 = 0 from rfl] at hx394_1); (try rw [Addr.add_zero'] at hx394_1); replace hx394_0 := bC HB.out hx394_0; replace hx394_1 := bC HB.out hx394_1) | ((with_reducible refine gk 39 rfl ?_); refine gC (some 15) rfl Tryz.func39 #[.int .i64 ((rd_T58 l1_0 0).f0), .int .i64 1] (impl_fraction.calls k ((rd_T58 l1_0 0).f0) 1 t395 t396 _ A4.out) ?_; rintro e w9 ⟨rfl, hb⟩; refine ⟨_, rfl, ?_⟩; replace BK392 := lB BK392 hb; replace BK393 := lB BK393 hb; replace HB := lW HB hb) | ((with_reducible refine gt 5 rfl ?_); refine bx 5 #[.int .i64 0, .int .i64 0] 32 ?_; intro gb397 hg w10 hbox hb; have BK397 := aS (hbox); have GW397 := aS (gW hg (sW HB.out)); have GE397 := aS (gW hg (sW HB.out)); replace HB := lW HB hb; have NB392_397 := aS (nL hg (sB BK392.out)); have NB397_392 := aS (nG hg (sB BK392.out)); replace BK392 := lB BK392 hb; have NB393_397 := aS (nL hg (sB BK393.out)); have NB397_393 := aS (nG hg (sB BK393.out)); replace BK393 := lB BK393 hb; clear hb hbox hg; obtain ⟨hnb11, hnc11⟩ := nD NB397_392; obtain ⟨hnb12, hnc12⟩ := nD NB397_393; obtain ⟨hcz13_0, hcz13_1, hfz13_0, hfz13_1⟩ := z2 BK397.out; obtain ⟨hcz14_0, hcz14_1, hfz14_0, hfz14_1⟩ := z2 BK392.out))
  (try simp only [Act.put, List.setIfInBounds_toArray, List.set_cons_zero, List.set_cons_succ])
  go_loopg [19] k (fun kq v19 w' => ∃ (x19_1 : Int) (x398000_1 : Int) (x398001_1 : Int), v19 = .int .i64 x19_1 ∧ Aside0 (impl_lineStrength.l0 kq l0 l1_0 (l1_0.length : Int) x19_1 l1_0 l1_1 x398000_1 x398001_1 = some (r1, r2)) ∧ Aside0 (kq ≤ k) ∧ Aside0 (w'.heap[gb392]? = some (.cells #[(.slice (some ad394) l1_0.length c1_0), (.slice A1_1 l1_1.length c1_1)] 28 (0, 0))) ∧ Aside0 (w'.heap[gb393]? = some (.cells #[.int .i64 0, .int .i64 0] 32 (0, 0))) ∧ Aside0 (w'.heap[gb397]? = some (.cells #[.int .i64 x398000_1, .int .i64 x398001_1] 32 (0, 0))) ∧ Aside0 (Below w.heap.size w w'))
  case atStart => exact ⟨(0), (t395), (t396), eV, H', ⟨Nat.le_refl _⟩, (aS (sF BK392.out NB392_397.out)), (aS (sF BK393.out NB393_397.out)), (aS (sB (put2 BK397.out))), (aS (sW HB.out))⟩
  case round =>
   clear H'; (try clear hx3); (try clear hx394_0); (try clear hx394_1); obtain ⟨x19_1, x398000_1, x398001_1, rfl, HA, HK1, BK392, BK393, BK397, HB⟩ := hrel; cases gk with
   | zero => exact absurd HA.out (by simp [impl_lineStrength.l0])
   | succ k1 =>
    have H := HA.out; clear HA; simp only [impl_lineStrength.l0] at H; replace H := iD H; rcases H with ⟨c15b0, H⟩ | ⟨c15b0, H⟩
    ·
     replace H := iE H; rcases H with ⟨c16, H⟩ | ⟨c16, H⟩
     ·
      have c16b0 := decide_eq_true c16; clear c16; replace H := iE H; rcases H with ⟨c17, H⟩ | ⟨c17, H⟩
      ·
       have c17b0 := decide_eq_true c17; clear c17; obtain ⟨ji18, hji18⟩ : ∃ j_ : Int, (mn x398000_1 ((rd_T58 l1_0 x19_1).f0)) = j_ := ⟨_, rfl⟩; replace H : ((impl_fraction.f k1 (ji18) 1).bind fun bt400 => (impl_lineStrength.l0 k1 l0 l1_0 (l1_0.length : Int) (wrap64 (x19_1 + 1)) l1_0 l1_1 bt400.1 bt400.2)) = some (r1, r2) := by first | (rw [hji18] at H; exact H) | (simp only [hji18] at H ⊢; exact H)
       have hji18_ : (if ((rd_T58 l1_0 x19_1).f0) < x398000_1 then ((rd_T58 l1_0 x19_1).f0) else x398000_1) = ji18 := hji18; replace H := bE H; obtain ⟨⟨t400, t401⟩, A19, H⟩ := H; try dsimp only at H
       have H' := aS H; clear H; have p398 : 0 ≤ (x19_1 : Int) := sD; have q398 : x19_1 < (l1_0.length : Int) := sD; obtain ⟨ad398, e398, hx398_0, hx398_1⟩ := at_T58 HR1_0.out x19_1 p398 q398; obtain rfl : ad394 = ad398 := (by injection e398); replace hx398_0 := bC HB.out hx398_0; replace hx398_1 := bC HB.out hx398_1
       go_wp2_with (first | ((with_reducible refine gt 7 rfl ?_); refine bx 7 #[.int .i64 0, .int .i64 0] 58 ?_; intro gb399 hg w20 hbox hb; have BK399 := aS (hbox); have GW399 := aS (gW hg (sW HB.out)); have GE399 := aS (gW hg (sW HB.out)); replace HB := lW HB hb; have NB392_399 := aS (nL hg (sB BK392.out)); have NB399_392 := aS (nG hg (sB BK392.out)); replace BK392 := lB BK392 hb; have NB393_399 := aS (nL hg (sB BK393.out)); have NB399_393 := aS (nG hg (sB BK393.out)); replace BK393 := lB BK393 hb; have NB397_399 := aS (nL hg (sB BK397.out)); have NB399_397 := aS (nG hg (sB BK397.out)); replace BK397 := lB BK397 hb; clear hb hbox hg; obtain ⟨hnb21, hnc21⟩ := nD NB399_392; obtain ⟨hnb22, hnc22⟩ := nD NB399_393; obtain ⟨hnb23, hnc23⟩ := nD NB399_397; obtain ⟨hcz24_0, hcz24_1, hfz24_0, hfz24_1⟩ := z2 BK399.out; obtain ⟨hnb25, hnc25⟩ := nD NB397_392; obtain ⟨hnb26, hnc26⟩ := nD NB397_393; obtain ⟨hcz27_0, hcz27_1, hfz27_0, hfz27_1⟩ := z2 BK397.out) | ((with_reducible refine gk 39 rfl ?_); refine goesL_ (some 28) rfl rfl Tryz.func39 (by kernel_rfl) rfl #[.int .i64 ji18, .int .i64 1] rfl (by (try simp only [List.map_toArray, List.map_cons, List.map_nil]); first | done | (simp only [hji18]; rfl) | rfl | (simp only [List.length_drop, List.length_take]; rfl)) ?_; (with_reducible refine (impl_fraction.calls k1 ji18 1 t400 t401 _ A19.out).mono ?_); rintro e w28 ⟨rfl, hb⟩; refine ⟨_, rfl, ?_⟩; replace BK392 := aS (blk_below (sF BK392.out NB392_399.out) hb); replace BK393 := aS (blk_below (sF BK393.out NB393_399.out) hb); replace BK397 := aS (blk_below (sF BK397.out NB397_399.out) hb); replace BK399 := aS (blk_below (sB (put2 BK399.out)) hb); replace HB := lW HB hb; (try clear hb); (try clear hb2); (try clear hk); (try clear hi); obtain ⟨hcz29_0, hcz29_1, hfz29_0, hfz29_1⟩ := z2 BK397.out))
       go_roundg k1
       case measure => have := HK1.out; omega
       case rel => exact ⟨(wrap64 (x19_1 + 1)), (t400), (t401), eV, H', ⟨by have := HK1.out; omega⟩, (aS (sF BK392.out NB392_397.out)), (aS (sF BK393.out NB393_397.out)), (aS (sB (put2 BK397.out))), (aS (sW HB.out))⟩
      ·
       exact absurd H (by simp)
     ·
      exact absurd H (by simp)
    ·
     have H' := aS H; clear H; obtain ⟨hnb30, hnc30⟩ := nD NB392_393; obtain ⟨hnb31, hnc31⟩ := nD NB392_397; obtain ⟨hcz32_0, hcz32_1, hfz32_0, hfz32_1⟩ := z2 BK392.out; go_wp2
     go_loopg [33] k1 (fun kq v33 w' => ∃ (x33_2 : Int) (x398000_2 : Int) (x398001_2 : Int), v33 = .int .i64 x33_2 ∧ Aside0 (impl_lineStrength.l1 kq l0 (l1_1.length : Int) x33_2 l1_0 l1_1 x398000_2 x398001_2 = some (r1, r2)) ∧ Aside0 (kq ≤ k1) ∧ Aside0 (w'.heap[gb392]? = some (.cells #[(.slice (some ad394) l1_0.length c1_0), (.slice A1_1 l1_1.length c1_1)] 28 (0, 0))) ∧ Aside0 (w'.heap[gb393]? = some (.cells #[.int .i64 0, .int .i64 0] 32 (0, 0))) ∧ Aside0 (w'.heap[gb397]? = some (.cells #[.int .i64 x398000_2, .int .i64 x398001_2] 32 (0, 0))) ∧ Aside0 (Below w.heap.size w w'))
     case atStart => exact ⟨(0), (x398000_1), (x398001_1), eV, H', ⟨Nat.le_refl _⟩, (aS (sB BK392.out)), (aS (sB BK393.out)), (aS (sB BK397.out)), (aS (sW HB.out))⟩
     case round =>
      clear H'; (try clear hx3); (try clear hx394_0); (try clear hx394_1); (try clear hx398_0); (try clear hx398_1); obtain ⟨x33_2, x398000_2, x398001_2, rfl, HA, HK2, BK392, BK393, BK397, HB⟩ := hrel; cases gk with
      | zero => exact absurd HA.out (by simp [impl_lineStrength.l1])
      | succ k2 =>
       have H := HA.out; clear HA; simp only [impl_lineStrength.l1] at H; replace H := iD H; rcases H with ⟨c33b0, H⟩ | ⟨c33b0, H⟩
       ·
        replace H := bE H; obtain ⟨⟨t402, t403⟩, A34, H⟩ := H; try dsimp only at H
        replace H := bE H; obtain ⟨t405, A35, H⟩ := H; try dsimp only at H
        have HC36 := aS H; clear H; obtain ⟨hnb37, hnc37⟩ := nD NB392_393; obtain ⟨hnb38, hnc38⟩ := nD NB392_397; obtain ⟨hcz39_0, hcz39_1, hfz39_0, hfz39_1⟩ := z2 BK392.out
        go_upto_if 43 with (first | ((with_reducible refine gk 40 rfl ?_); refine gC (some 39) rfl Tryz.func40 #[.slice A0 l0.length c0, .agg #[.slice (some ad394) l1_0.length c1_0, .slice A1_1 l1_1.length c1_1], .int .i64 x33_2] (impl_strengthAt.calls k2 _ _ l0 _ _ l1_0 _ _ l1_1 x33_2 t402 t403 _ (sC (Kd.C_below HR0.out HB.out)) HC0.out (sC (Kd.C_below HR1_0.out HB.out)) HC1_0.out (sC (Kd.C_below HR1_1.out HB.out)) HC1_1.out A34.out) ?_; rintro e w40 ⟨rfl, hb⟩; refine ⟨_, rfl, ?_⟩; replace BK392 := lB BK392 hb; replace BK393 := lB BK393 hb; replace BK397 := lB BK397 hb; replace HB := lW HB hb) | ((with_reducible refine gt 9 rfl ?_); refine bx 9 #[.int .i64 0, .int .i64 0] 32 ?_; intro gb404 hg w41 hbox hb; have BK404 := aS (hbox); have GW404 := aS (gW hg (sW HB.out)); have GE404 := aS (gW hg (sW HB.out)); replace HB := lW HB hb; have NB392_404 := aS (nL hg (sB BK392.out)); have NB404_392 := aS (nG hg (sB BK392.out)); replace BK392 := lB BK392 hb; have NB393_404 := aS (nL hg (sB BK393.out)); have NB404_393 := aS (nG hg (sB BK393.out)); replace BK393 := lB BK393 hb; have NB397_404 := aS (nL hg (sB BK397.out)); have NB404_397 := aS (nG hg (sB BK397.out)); replace BK397 := lB BK397 hb; clear hb hbox hg; obtain ⟨hnb42, hnc42⟩ := nD NB404_392; obtain ⟨hnb43, hnc43⟩ := nD NB404_393; obtain ⟨hnb44, hnc44⟩ := nD NB404_397; obtain ⟨hcz45_0, hcz45_1, hfz45_0, hfz45_1⟩ := z2 BK404.out; obtain ⟨hnb46, hnc46⟩ := nD NB397_393; obtain ⟨hcz47_0, hcz47_1, hfz47_0, hfz47_1⟩ := z2 BK397.out) | ((with_reducible refine gk 70 rfl ?_); refine gC (some 42) rfl Tryz.func70 #[.agg #[.int .i64 t402, .int .i64 t403], .agg #[.int .i64 x398000_2, .int .i64 x398001_2]] (impl_compareFractions.calls k2 t402 t403 x398000_2 x398001_2 t405 _ A35.out) ?_; rintro e w48 ⟨rfl, hb⟩; refine ⟨_, rfl, ?_⟩; replace BK392 := aS (blk_below (sF BK392.out NB392_404.out) hb); replace BK393 := aS (blk_below (sF BK393.out NB393_404.out) hb); replace BK397 := aS (blk_below (sF BK397.out NB397_404.out) hb); replace BK404 := aS (blk_below (sB (put2 BK404.out)) hb); replace HB := lW HB hb))
        (try simp only [Act.put, List.setIfInBounds_toArray, List.set_cons_zero, List.set_cons_succ]); have H := HC36.out; clear HC36; replace H := iD H; rcases H with ⟨c49b0, H⟩ | ⟨c49b0, H⟩
        ·
         (first | rw [c49b0] | (simp only [i64_w, i32_w]; rw [c49b0]) | (rw [c49b2]; simp only [Bool.not_false, Bool.not_true]) | rw [c49b1] | skip); have H' := aS H; clear H; obtain ⟨hnb50, hnc50⟩ := nD NB404_392; obtain ⟨hnb51, hnc51⟩ := nD NB404_393; obtain ⟨hnb52, hnc52⟩ := nD NB404_397; obtain ⟨hcz53_0, hcz53_1, hfz53_0, hfz53_1⟩ := z2 BK404.out; obtain ⟨hnb54, hnc54⟩ := nD NB397_392; obtain ⟨hnb55, hnc55⟩ := nD NB397_393; obtain ⟨hcz56_0, hcz56_1, hfz56_0, hfz56_1⟩ := z2 BK397.out; go_wp2
         go_roundg k2
         case measure => have := HK1.out; have := HK2.out; omega
         case rel => exact ⟨(wrap64 (x33_2 + 1)), (t402), (t403), eV, H', ⟨by have := HK1.out; have := HK2.out; omega⟩, (aS (sF BK392.out NB392_397.out)), (aS (sF BK393.out NB393_397.out)), (aS (sB (put2 BK397.out))), (aS (sW HB.out))⟩
        ·
         (first | rw [c49b0] | (simp only [i64_w, i32_w]; rw [c49b0]) | (rw [c49b2]; simp only [Bool.not_false, Bool.not_true]) | rw [c49b1] | skip); have H' := aS H; clear H; go_wp2
         go_roundg k2
         case measure => have := HK1.out; have := HK2.out; omega
         case rel => exact ⟨(wrap64 (x33_2 + 1)), (x398000_2), (x398001_2), eV, H', ⟨by have := HK1.out; have := HK2.out; omega⟩, (aS (sB BK392.out)), (aS (sB BK393.out)), (aS (sB BK397.out)), (aS (sW HB.out))⟩
       ·
        simp only [Option.some.injEq, Prod.mk.injEq] at H; obtain ⟨rfl, rfl⟩ := H; obtain ⟨hnb57, hnc57⟩ := nD NB397_392; obtain ⟨hnb58, hnc58⟩ := nD NB397_393; obtain ⟨hcz59_0, hcz59_1, hfz59_0, hfz59_1⟩ := z2 BK397.out; obtain ⟨hnb60, hnc60⟩ := nD NB393_392; obtain ⟨hcz61_0, hcz61_1, hfz61_0, hfz61_1⟩ := z2 BK393.out; go_wp2; refine bodyPost_ret (results_cell_row rfl _ _ gb393 32 #[.int .i64 x398000_2, .int .i64 x398001_2] (0, 0) _ rfl (sB (put2 BK393.out)) Tryz.underlying32 rfl (by kernel_rfl)) rfl ?_; exact ⟨eE, sW HB.out⟩
 ·
  exact absurd H (by simp)

def impl_LineStrength.f (k : Nat) (l0 : List (S47)) (l1_0 : List (S58)) (l1_1 : List Int) : Option (Int × Int × Int) := (impl_ValidJoins.f k l0).bind fun t408 => (if t408 = true then ((impl_validLine.f k l0 l1_0 l1_1).bind fun t409 => (if t409 = true then ((impl_lineStrength.f k l0 l1_0 l1_1).bind fun bt410 => (some (bt410.1, bt410.2, 0))) else (some (0, 0, 1)))) else (some (0, 0, 1)))
theorem impl_LineStrength.calls (k : Nat) (A0 : Option Addr) (c0 : Nat) (l0 : List (S47)) (A1_0 : Option Addr) (c1_0 : Nat) (l1_0 : List (S58)) (A1_1 : Option Addr) (c1_1 : Nat) (l1_1 : List Int) (r1 : Int) (r2 : Int) (r3 : Int) (w : World) (hr0 : Kd.C k47 w A0 l0.length l0) (hc0 : l0.length ≤ c0) (hr1_0 : Kd.C k58 w A1_0 l1_0.length l1_0) (hc1_0 : l1_0.length ≤ c1_0) (hr1_1 : Kd.C (Kd.int .i64) w A1_1 l1_1.length l1_1) (hc1_1 : l1_1.length ≤ c1_1) (h : impl_LineStrength.f k l0 l1_0 l1_1 = some (r1, r2, r3)) :
  Calls Tryz.prog 6 #[.slice A0 l0.length c0, .agg #[.slice A1_0 l1_0.length c1_0, .slice A1_1 l1_1.length c1_1]] w fun e w' => e = .returned (.tuple #[.agg #[.int .i64 r1, .int .i64 r2], .int .i64 r3]) ∧ Below w.heap.size w w' := by
 have hu28 := Tryz.underlying28; have hu32 := Tryz.underlying32; have HR0 := aS hr0; have HC0 := aS hc0; clear hr0 hc0; have HR1_0 := aS hr1_0; have HC1_0 := aS hc1_0; clear hr1_0 hc1_0; have HR1_1 := aS hr1_1; have HC1_1 := aS hc1_1; clear hr1_1 hc1_1; have HB := aS (Below.refl w.heap.size w); have H := h; clear h; unfold impl_LineStrength.f at H; replace H := bE H; obtain ⟨t408, A3, H⟩ := H; try dsimp only at H
 replace H := iZ H; rcases H with ⟨rfl, H⟩ | ⟨rfl, H⟩
 ·
  replace H := bE H; obtain ⟨t409, A5, H⟩ := H; try dsimp only at H
  have HC6 := aS H; clear H; go_enter Tryz.func6, Tryz.ntmps6
  go_upto_if 14 with (first | ((with_reducible refine gt 3 rfl ?_); refine bx 3 #[.slice A1_0 l1_0.length c1_0, .slice A1_1 l1_1.length c1_1] 28 ?_; intro gb406 hg w7 hbox hb; have BK406 := aS (hbox); have GW406 := aS (gW hg (sW HB.out)); have GE406 := aS (gW hg (sW HB.out)); replace HB := lW HB hb; clear hb hbox hg) | ((with_reducible refine gt 4 rfl ?_); refine bx 4 #[.int .i64 0, .int .i64 0] 32 ?_; intro gb407 hg w8 hbox hb; have BK407 := aS (hbox); have GW407 := aS (gW hg (sW HB.out)); have GE407 := aS (gW hg (sW HB.out)); replace HB := lW HB hb; have NB406_407 := aS (nL hg (sB BK406.out)); have NB407_406 := aS (nG hg (sB BK406.out)); replace BK406 := lB BK406 hb; clear hb hbox hg) | ((with_reducible refine gk 28 rfl ?_); refine gC (some 7) rfl Tryz.func28 #[.slice A0 l0.length c0] (impl_ValidJoins.calls k _ _ l0 true _ (sC (Kd.C_below HR0.out HB.out)) HC0.out A3.out) ?_; rintro e w9 ⟨rfl, hb⟩; refine ⟨_, rfl, ?_⟩; replace BK406 := lB BK406 hb; replace BK407 := lB BK407 hb; replace HB := lW HB hb; (try clear hb); (try clear hb2); (try clear hk); (try clear hi); obtain ⟨hnb10, hnc10⟩ := nD NB406_407; obtain ⟨hcz11_0, hcz11_1, hfz11_0, hfz11_1⟩ := z2 BK406.out) | (go_at_call 32; (with_reducible refine (impl_validLine.calls k _ _ l0 _ _ l1_0 _ _ l1_1 t409 _ ?side1 ?side2 ?side3 ?side4 ?side5 ?side6 A5.out).mono ?_); (case side1 => exact sC (Kd.C_below HR0.out HB.out)); (case side2 => exact HC0.out); (case side3 => exact sC (Kd.C_below HR1_0.out HB.out)); (case side4 => exact HC1_0.out); (case side5 => exact sC (Kd.C_below HR1_1.out HB.out)); (case side6 => exact HC1_1.out); rintro e w12 ⟨rfl, hb⟩; replace BK406 := lB BK406 hb; replace BK407 := lB BK407 hb; replace HB := lW HB hb))
  (try simp only [Act.put, List.setIfInBounds_toArray, List.set_cons_zero, List.set_cons_succ]); have H := HC6.out; clear HC6; replace H := iZ H; rcases H with ⟨rfl, H⟩ | ⟨rfl, H⟩
  ·
   replace H := bE H; obtain ⟨⟨t410, t411⟩, A14, H⟩ := H; try dsimp only at H
   simp only [Option.some.injEq, Prod.mk.injEq] at H; obtain ⟨rfl, rfl, rfl⟩ := H; obtain ⟨hnb15, hnc15⟩ := nD NB406_407; obtain ⟨hcz16_0, hcz16_1, hfz16_0, hfz16_1⟩ := z2 BK406.out
   go_wp2_with (first | ((with_reducible refine gk 33 rfl ?_); refine gC (some 18) rfl Tryz.func33 #[.slice A0 l0.length c0, .agg #[.slice A1_0 l1_0.length c1_0, .slice A1_1 l1_1.length c1_1]] (impl_lineStrength.calls k _ _ l0 _ _ l1_0 _ _ l1_1 t410 t411 _ (sC (Kd.C_below HR0.out HB.out)) HC0.out (sC (Kd.C_below HR1_0.out HB.out)) HC1_0.out (sC (Kd.C_below HR1_1.out HB.out)) HC1_1.out A14.out) ?_; rintro e w17 ⟨rfl, hb⟩; refine ⟨_, rfl, ?_⟩; replace BK406 := lB BK406 hb; replace BK407 := lB BK407 hb; replace HB := lW HB hb; (try clear hb); (try clear hb2); (try clear hk); (try clear hi); obtain ⟨hcz18_0, hcz18_1, hfz18_0, hfz18_1⟩ := z2 BK407.out))
   refine bodyPost_ret (results_ct rfl _ _ gb407 32 #[.int .i64 t410, .int .i64 t411] (0, 0) _ rfl (sB (put2 BK407.out)) Tryz.underlying32 rfl (by kernel_rfl)) rfl ?_; exact ⟨eE, sW HB.out⟩
  ·
   simp only [Option.some.injEq, Prod.mk.injEq] at H; obtain ⟨rfl, rfl, rfl⟩ := H; obtain ⟨hnb19, hnc19⟩ := nD NB407_406; obtain ⟨hcz20_0, hcz20_1, hfz20_0, hfz20_1⟩ := z2 BK407.out; go_wp2; refine bodyPost_ret (results_ct rfl _ _ gb407 32 #[.int .i64 0, .int .i64 0] (0, 0) _ rfl (sB (put2 BK407.out)) Tryz.underlying32 rfl (by kernel_rfl)) rfl ?_; exact ⟨eE, sW HB.out⟩
 ·
  simp only [Option.some.injEq, Prod.mk.injEq] at H; obtain ⟨rfl, rfl, rfl⟩ := H; go_enter Tryz.func6, Tryz.ntmps6
  go_wp2_with (first | ((with_reducible refine gt 3 rfl ?_); refine bx 3 #[.slice A1_0 l1_0.length c1_0, .slice A1_1 l1_1.length c1_1] 28 ?_; intro gb406 hg w21 hbox hb; have BK406 := aS (hbox); have GW406 := aS (gW hg (sW HB.out)); have GE406 := aS (gW hg (sW HB.out)); replace HB := lW HB hb; clear hb hbox hg) | ((with_reducible refine gt 4 rfl ?_); refine bx 4 #[.int .i64 0, .int .i64 0] 32 ?_; intro gb407 hg w22 hbox hb; have BK407 := aS (hbox); have GW407 := aS (gW hg (sW HB.out)); have GE407 := aS (gW hg (sW HB.out)); replace HB := lW HB hb; have NB406_407 := aS (nL hg (sB BK406.out)); have NB407_406 := aS (nG hg (sB BK406.out)); replace BK406 := lB BK406 hb; clear hb hbox hg) | ((with_reducible refine gk 28 rfl ?_); refine gC (some 7) rfl Tryz.func28 #[.slice A0 l0.length c0] (impl_ValidJoins.calls k _ _ l0 false _ (sC (Kd.C_below HR0.out HB.out)) HC0.out A3.out) ?_; rintro e w23 ⟨rfl, hb⟩; refine ⟨_, rfl, ?_⟩; replace BK406 := lB BK406 hb; replace BK407 := lB BK407 hb; replace HB := lW HB hb; (try clear hb); (try clear hb2); (try clear hk); (try clear hi); obtain ⟨hnb24, hnc24⟩ := nD NB407_406; obtain ⟨hcz25_0, hcz25_1, hfz25_0, hfz25_1⟩ := z2 BK407.out))
  refine bodyPost_ret (results_ct rfl _ _ gb407 32 #[.int .i64 0, .int .i64 0] (0, 0) _ rfl (sB (put2 BK407.out)) Tryz.underlying32 rfl (by kernel_rfl)) rfl ?_; exact ⟨eE, sW HB.out⟩

/-- A state of type 28 at block g of W; what its slices lead to came in by w0. -/
def IsS28 (w0 W : World) (g : Nat) (f0 : List (S58)) (f1 : List Int) : Prop := ∃ A0 c0, ∃ A1 c1, W.heap[g]? = some (.cells #[.slice A0 f0.length c0, .slice A1 f1.length c1] 28 (0, 0)) ∧ w0.heap.size ≤ g ∧ Kd.C k58 w0 A0 f0.length f0 ∧ Kd.C (Kd.int .i64) w0 A1 f1.length f1
theorem IsS28.grown {w0 W : World} {g : Nat} {f0 : List (S58)} {f1 : List Int} {W1 : World} {row : Option Nat} (h : IsS28 w0 W g f0 f1) (hw : W.grownBy W1 row) (hne : some g ≠ row) : IsS28 w0 W1 g f0 f1 := by
 obtain ⟨A0, c0, A1, c1, hb, hg, hr0, hr1⟩ := h; exact ⟨A0, c0, A1, c1, blk_grown hb hw hne, hg, hr0, hr1⟩
theorem IsS28.below {w0 W : World} {g : Nat} {f0 : List (S58)} {f1 : List Int} {W1 : World} (h : IsS28 w0 W g f0 f1) (hw : Below W.heap.size W W1) : IsS28 w0 W1 g f0 f1 := h.grown (grown_of_below hw none) (by simp)
theorem IsS28.alloc {w0 W : World} {g : Nat} {f0 : List (S58)} {f1 : List Int} (h : IsS28 w0 W g f0 f1) (o : Obj) : IsS28 w0 (W.alloc o) g f0 f1 := h.below (below_alloc (Below.refl _ _) o)
theorem IsS28.drewN {w0 W : World} {g : Nat} {f0 : List (S58)} {f1 : List Int} (h : IsS28 w0 W g f0 f1) (m : Nat) : IsS28 w0 (W.drewN m) g f0 f1 := h
theorem IsS28.drew {w0 W : World} {g : Nat} {f0 : List (S58)} {f1 : List Int} (h : IsS28 w0 W g f0 f1) : IsS28 w0 W.drew g f0 f1 := h
theorem IsS28.ge {w0 W : World} {g : Nat} {f0 : List (S58)} {f1 : List Int} (h : IsS28 w0 W g f0 f1) : w0.heap.size ≤ g := by
 obtain ⟨A0, c0, A1, c1, hb, hg, hr0, hr1⟩ := h; exact hg
theorem IsS28.far {w0 W : World} {g : Nat} {f0 : List (S58)} {f1 : List Int} {p : Addr} (h : IsS28 w0 W g f0 f1) (hne : g ≠ p.block) (u : Value) : IsS28 w0 (W.setCell p u) g f0 f1 := by
 obtain ⟨A0, c0, A1, c1, hb, hg, hr0, hr1⟩ := h; exact ⟨A0, c0, A1, c1, blk_far hb hne u, hg, hr0, hr1⟩
theorem cellS28_0 {W : World} {g : Nat} {A0 : Option Addr} {c0 : Nat} {A1 : Option Addr} {c1 : Nat} {f0 : List (S58)} {f1 : List Int} (h : W.heap[g]? = some (.cells #[.slice A0 f0.length c0, .slice A1 f1.length c1] 28 (0, 0))) : W.cell? ⟨g, 0, none⟩ = some (.slice A0 f0.length c0) := bq h 0
theorem cellS28_1 {W : World} {g : Nat} {A0 : Option Addr} {c0 : Nat} {A1 : Option Addr} {c1 : Nat} {f0 : List (S58)} {f1 : List Int} (h : W.heap[g]? = some (.cells #[.slice A0 f0.length c0, .slice A1 f1.length c1] 28 (0, 0))) : W.cell? ⟨g, 1, none⟩ = some (.slice A1 f1.length c1) := bq h 1
theorem IsS28.s {w0 W : World} {g : Nat} {f0 : List (S58)} {f1 : List Int} {p : Prop} (h : IsS28 w0 W g f0 f1) (k : IsS28 w0 W g f0 f1 → p := by (intro h; repeat (first | (with_reducible first | exact h | apply IsS28.alloc | apply IsS28.drewN | apply IsS28.drew) | refine IsS28.far ?_ (Aside0.out (by assumption)) _ | exact h))) : p := k h
mutual
def spec_l03Length.l0 : Nat → List (S47) → Int → Int → List (S58) → List Int → Option (Int)
 | 0, _, _, _, _, _ => none
 | k + 1, x0, x5, x6, x2000, x2001 => if x6 < (x2000.length : Int) then (if 0 ≤ x6 then (spec_l03Length.l0 k x0 (wrap64 (x5 + ((rd_T58 x2000 x6).f1))) (wrap64 (x6 + 1)) x2000 x2001) else (none)) else (spec_l03Length.l1 k x0 x5 0 x2000 x2001)
def spec_l03Length.l1 : Nat → List (S47) → Int → Int → List (S58) → List Int → Option (Int)
 | 0, _, _, _, _, _ => none
 | k + 1, x0, x5, x7, x2000, x2001 => if x7 < (x2001.length : Int) then (if 0 ≤ x7 then (if 0 ≤ (rd x2001 x7) then (if (rd x2001 x7) < (x0.length : Int) then (spec_l03Length.l1 k x0 (wrap64 (x5 - ((rd_T47 x0 (rd x2001 x7)).f2))) (wrap64 (x7 + 1)) x2000 x2001) else (none)) else (none)) else (none)) else (some x5)
end
def spec_l03Length.f (k : Nat) (l0 : List (S47)) (s1_0 : List (S58)) (s1_1 : List Int) : Option (Int) := spec_l03Length.l0 k l0 0 0 s1_0 s1_1
mutual
def spec_l03LengthAt.l0 : Nat → List (S47) → List (S28) → Int → Int → Option (Int)
 | 0, _, _, _, _ => none
 | k + 1, x0, x1, x5, x6 => if 0 < (x1.length : Int) then (if x6 < (((rd_T28 x1 0).f0).length : Int) then (if 0 ≤ x6 then (spec_l03LengthAt.l0 k x0 x1 (wrap64 (x5 + ((rd_T58 ((rd_T28 x1 0).f0) x6).f1))) (wrap64 (x6 + 1))) else (none)) else (spec_l03LengthAt.l1 k x0 x1 x5 0)) else (none)
def spec_l03LengthAt.l1 : Nat → List (S47) → List (S28) → Int → Int → Option (Int)
 | 0, _, _, _, _ => none
 | k + 1, x0, x1, x5, x7 => if 0 < (x1.length : Int) then (if x7 < (((rd_T28 x1 0).f1).length : Int) then (if 0 ≤ x7 then (if 0 ≤ (rd ((rd_T28 x1 0).f1) x7) then (if (rd ((rd_T28 x1 0).f1) x7) < (x0.length : Int) then (spec_l03LengthAt.l1 k x0 x1 (wrap64 (x5 - ((rd_T47 x0 (rd ((rd_T28 x1 0).f1) x7)).f2))) (wrap64 (x7 + 1))) else (none)) else (none)) else (none)) else (some x5)) else (none)
end
def spec_l03LengthAt.f (k : Nat) (l0 : List (S47)) (l1 : List (S28)) : Option (Int) := spec_l03LengthAt.l0 k l0 l1 0 0
theorem spec_l03LengthAt.calls (k : Nat) (A0 : Option Addr) (c0 : Nat) (l0 : List (S47)) (A1 : Option Addr) (c1 : Nat) (l1 : List (S28)) (r : Int) (w : World) (hr0 : Kd.C k47 w A0 l0.length l0) (hc0 : l0.length ≤ c0) (hr1 : Kd.C k28 w A1 l1.length l1) (hc1 : l1.length ≤ c1) (h : spec_l03LengthAt.f k l0 l1 = some r) :
  Calls Tryz.prog 38 #[.slice A0 l0.length c0, .pointer A1] w fun e w' => e = .returned (.int .i64 r) ∧ Drawn0 w w' := by
 have HR0 := aS hr0; have HC0 := aS hc0; clear hr0 hc0; have HR1 := aS hr1; have HC1 := aS hc1; clear hr1 hc1; have H := h; clear h; unfold spec_l03LengthAt.f at H; have H' := aS H; clear H; go_enter Tryz.func38, Tryz.ntmps38; go_wp2
 go_loopg [5, 6] k (fun kq v5 v6 w' => ∃ (x5_1 : Int) (x6_1 : Int), v5 = .int .i64 x5_1 ∧ v6 = .int .i64 x6_1 ∧ Aside0 (spec_l03LengthAt.l0 kq l0 l1 x5_1 x6_1 = some r) ∧ Aside0 (kq ≤ k) ∧ Drawn0 w w')
 case atStart => exact ⟨(0), (0), eV, eV, H', ⟨Nat.le_refl _⟩, eD⟩
 case round =>
  clear H'; obtain ⟨x5_1, x6_1, rfl, rfl, HA, HK1, ⟨m1, rfl⟩⟩ := hrel; cases gk with
  | zero => exact absurd HA.out (by simp [spec_l03LengthAt.l0])
  | succ k1 =>
   have H := HA.out; clear HA; simp only [spec_l03LengthAt.l0] at H; replace H := iE H; rcases H with ⟨c3, H⟩ | ⟨c3, H⟩
   ·
    have c3b0 := decide_eq_true c3; have c3b1 : decide (0 < l1.length) = true := decide_eq_true (by omega); clear c3; replace H := iD H; rcases H with ⟨c4b0, H⟩ | ⟨c4b0, H⟩
    ·
     replace H := iE H; rcases H with ⟨c5, H⟩ | ⟨c5, H⟩
     ·
      have c5b0 := decide_eq_true c5; clear c5; have H' := aS H; clear H; have p415 : 0 ≤ (0 : Int) := (by omega); have q415 : 0 < (l1.length : Int) := sD; obtain ⟨ad415, A415_0, c415_0, A415_1, c415_1, e415, hx415_0, hx415_1, hl415_0, hi415_0, hl415_1, hi415_1⟩ := at_T28 HR1.out 0 p415 q415; cases e415; have qi415 : (0 < l1.length) = True := eq_true (by omega); (try rw [show ((0 : Int)).toNat = 0 from rfl] at hx415_0); (try rw [show 0 * 2 = 0 from rfl] at hx415_0); (try rw [Addr.add_zero'] at hx415_0); (try rw [show ((0 : Int)).toNat = 0 from rfl] at hx415_1); (try rw [show 0 * 2 = 0 from rfl] at hx415_1); (try rw [Addr.add_zero'] at hx415_1); have HR415_0 := aS hi415_0; have HC415_0 := aS hl415_0; clear hi415_0 hl415_0; have HR415_1 := aS hi415_1; have HC415_1 := aS hl415_1; clear hi415_1 hl415_1; have p416 : 0 ≤ (0 : Int) := (by omega); have q416 : 0 < (l1.length : Int) := sD; obtain ⟨ad416, A416_0, c416_0, A416_1, c416_1, e416, hx416_0, hx416_1, hl416_0, hi416_0, hl416_1, hi416_1⟩ := at_T28 HR1.out 0 p416 q416; obtain rfl : ad415 = ad416 := (by injection e416); have qi416 : (0 < l1.length) = True := eq_true (by omega); (try rw [show ((0 : Int)).toNat = 0 from rfl] at hx416_0); (try rw [show 0 * 2 = 0 from rfl] at hx416_0); (try rw [Addr.add_zero'] at hx416_0); (try rw [show ((0 : Int)).toNat = 0 from rfl] at hx416_1); (try rw [show 0 * 2 = 0 from rfl] at hx416_1); (try rw [Addr.add_zero'] at hx416_1); have HR416_0 := aS hi416_0; have HC416_0 := aS hl416_0; clear hi416_0 hl416_0; have HR416_1 := aS hi416_1; have HC416_1 := aS hl416_1; clear hi416_1 hl416_1; have ea_ := Option.some.inj (hx415_0.symm.trans hx416_0)
      injection ea_ with ea_ en_ ec_
      subst ea_; subst ec_; clear en_; have ea_ := Option.some.inj (hx415_1.symm.trans hx416_1)
      injection ea_ with ea_ en_ ec_
      subst ea_; subst ec_; clear en_; have p417 : 0 ≤ (x6_1 : Int) := sD; have q417 : x6_1 < (((rd_T28 l1 0).f0).length : Int) := sD; obtain ⟨ad417, e417, hx417_0, hx417_1⟩ := at_T58 HR416_0.out x6_1 p417 q417; cases e417; go_wp2
      go_roundg k1
      case measure => have := HK1.out; omega
      case rel => exact ⟨(wrap64 (x5_1 + ((rd_T58 ((rd_T28 l1 0).f0) x6_1).f1))), (wrap64 (x6_1 + 1)), eV, eV, H', ⟨by have := HK1.out; omega⟩, eD⟩
     ·
      exact absurd H (by simp)
    ·
     have H' := aS H; clear H; have p415 : 0 ≤ (0 : Int) := (by omega); have q415 : 0 < (l1.length : Int) := sD; obtain ⟨ad415, A415_0, c415_0, A415_1, c415_1, e415, hx415_0, hx415_1, hl415_0, hi415_0, hl415_1, hi415_1⟩ := at_T28 HR1.out 0 p415 q415; cases e415; have qi415 : (0 < l1.length) = True := eq_true (by omega); (try rw [show ((0 : Int)).toNat = 0 from rfl] at hx415_0); (try rw [show 0 * 2 = 0 from rfl] at hx415_0); (try rw [Addr.add_zero'] at hx415_0); (try rw [show ((0 : Int)).toNat = 0 from rfl] at hx415_1); (try rw [show 0 * 2 = 0 from rfl] at hx415_1); (try rw [Addr.add_zero'] at hx415_1); have HR415_0 := aS hi415_0; have HC415_0 := aS hl415_0; clear hi415_0 hl415_0; have HR415_1 := aS hi415_1; have HC415_1 := aS hl415_1; clear hi415_1 hl415_1; go_wp2
     go_loopg [5, 7] k1 (fun kq v5 v7 w' => ∃ (x5_2 : Int) (x7_2 : Int), v5 = .int .i64 x5_2 ∧ v7 = .int .i64 x7_2 ∧ Aside0 (spec_l03LengthAt.l1 kq l0 l1 x5_2 x7_2 = some r) ∧ Aside0 (kq ≤ k1) ∧ Drawn0 w w')
     case atStart => exact ⟨(x5_1), (0), eV, eV, H', ⟨Nat.le_refl _⟩, eD⟩
     case round =>
      clear H'; (try clear hx4); (try clear hx415_0); (try clear hx415_1); (try clear hx416_0); (try clear hx416_1); (try clear hx417_0); (try clear hx417_1); obtain ⟨x5_2, x7_2, rfl, rfl, HA, HK2, ⟨m2, rfl⟩⟩ := hrel; cases gk with
      | zero => exact absurd HA.out (by simp [spec_l03LengthAt.l1])
      | succ k2 =>
       have H := HA.out; clear HA; simp only [spec_l03LengthAt.l1] at H; replace H := iE H; rcases H with ⟨c6, H⟩ | ⟨c6, H⟩
       ·
        have c6b0 := decide_eq_true c6; have c6b1 : decide (0 < l1.length) = true := decide_eq_true (by omega); clear c6; replace H := iD H; rcases H with ⟨c7b0, H⟩ | ⟨c7b0, H⟩
        ·
         replace H := iE H; rcases H with ⟨c8, H⟩ | ⟨c8, H⟩
         ·
          have c8b0 := decide_eq_true c8; clear c8; replace H := iE H; rcases H with ⟨c9, H⟩ | ⟨c9, H⟩
          ·
           have c9b0 := decide_eq_true c9; clear c9; replace H := iE H; rcases H with ⟨c10, H⟩ | ⟨c10, H⟩
           ·
            have c10b0 := decide_eq_true c10; clear c10; have H' := aS H; clear H; have p418 : 0 ≤ (0 : Int) := (by omega); have q418 : 0 < (l1.length : Int) := sD; obtain ⟨ad418, A418_0, c418_0, A418_1, c418_1, e418, hx418_0, hx418_1, hl418_0, hi418_0, hl418_1, hi418_1⟩ := at_T28 HR1.out 0 p418 q418; obtain rfl : ad415 = ad418 := (by injection e418); have qi418 : (0 < l1.length) = True := eq_true (by omega); (try rw [show ((0 : Int)).toNat = 0 from rfl] at hx418_0); (try rw [show 0 * 2 = 0 from rfl] at hx418_0); (try rw [Addr.add_zero'] at hx418_0); (try rw [show ((0 : Int)).toNat = 0 from rfl] at hx418_1); (try rw [show 0 * 2 = 0 from rfl] at hx418_1); (try rw [Addr.add_zero'] at hx418_1); have HR418_0 := aS hi418_0; have HC418_0 := aS hl418_0; clear hi418_0 hl418_0; have HR418_1 := aS hi418_1; have HC418_1 := aS hl418_1; clear hi418_1 hl418_1; have p419 : 0 ≤ (0 : Int) := (by omega); have q419 : 0 < (l1.length : Int) := sD; obtain ⟨ad419, A419_0, c419_0, A419_1, c419_1, e419, hx419_0, hx419_1, hl419_0, hi419_0, hl419_1, hi419_1⟩ := at_T28 HR1.out 0 p419 q419; obtain rfl : ad415 = ad419 := (by injection e419); have qi419 : (0 < l1.length) = True := eq_true (by omega); (try rw [show ((0 : Int)).toNat = 0 from rfl] at hx419_0); (try rw [show 0 * 2 = 0 from rfl] at hx419_0); (try rw [Addr.add_zero'] at hx419_0); (try rw [show ((0 : Int)).toNat = 0 from rfl] at hx419_1); (try rw [show 0 * 2 = 0 from rfl] at hx419_1); (try rw [Addr.add_zero'] at hx419_1); have HR419_0 := aS hi419_0; have HC419_0 := aS hl419_0; clear hi419_0 hl419_0; have HR419_1 := aS hi419_1; have HC419_1 := aS hl419_1; clear hi419_1 hl419_1; have ea_ := Option.some.inj (hx418_0.symm.trans hx419_0)
            injection ea_ with ea_ en_ ec_
            subst ea_; subst ec_; clear en_; have ea_ := Option.some.inj (hx418_1.symm.trans hx419_1)
            injection ea_ with ea_ en_ ec_
            subst ea_; subst ec_; clear en_; have p420 : 0 ≤ (x7_2 : Int) := sD; have q420 : x7_2 < (((rd_T28 l1 0).f1).length : Int) := sD; obtain ⟨ad420, e420, hx420_0⟩ := Kd.at_int HR419_1.out x7_2 p420 q420; cases e420; have p421 : 0 ≤ ((rd ((rd_T28 l1 0).f1) x7_2) : Int) := sD; have q421 : (rd ((rd_T28 l1 0).f1) x7_2) < (l0.length : Int) := sD; obtain ⟨ad421, e421, hx421_0, hx421_1, hx421_2⟩ := at_T47 HR0.out (rd ((rd_T28 l1 0).f1) x7_2) p421 q421; cases e421; go_wp2
            go_roundg k2
            case measure => have := HK1.out; have := HK2.out; omega
            case rel => exact ⟨(wrap64 (x5_2 - ((rd_T47 l0 (rd ((rd_T28 l1 0).f1) x7_2)).f2))), (wrap64 (x7_2 + 1)), eV, eV, H', ⟨by have := HK1.out; have := HK2.out; omega⟩, eD⟩
           ·
            exact absurd H (by simp)
          ·
           exact absurd H (by simp)
         ·
          exact absurd H (by simp)
        ·
         obtain rfl := Option.some.inj H; have p418 : 0 ≤ (0 : Int) := (by omega); have q418 : 0 < (l1.length : Int) := sD; obtain ⟨ad418, A418_0, c418_0, A418_1, c418_1, e418, hx418_0, hx418_1, hl418_0, hi418_0, hl418_1, hi418_1⟩ := at_T28 HR1.out 0 p418 q418; obtain rfl : ad415 = ad418 := (by injection e418); have qi418 : (0 < l1.length) = True := eq_true (by omega); (try rw [show ((0 : Int)).toNat = 0 from rfl] at hx418_0); (try rw [show 0 * 2 = 0 from rfl] at hx418_0); (try rw [Addr.add_zero'] at hx418_0); (try rw [show ((0 : Int)).toNat = 0 from rfl] at hx418_1); (try rw [show 0 * 2 = 0 from rfl] at hx418_1); (try rw [Addr.add_zero'] at hx418_1); have HR418_0 := aS hi418_0; have HC418_0 := aS hl418_0; clear hi418_0 hl418_0; have HR418_1 := aS hi418_1; have HC418_1 := aS hl418_1; clear hi418_1 hl418_1; go_wp2; go_ret; exact ⟨eV, eD⟩
       ·
        exact absurd H (by simp)
   ·
    exact absurd H (by simp)

def spec_l00In.f (a0 : Int) (a1 : Int) (a2 : Int) : Option (Bool) := if a0 ≥ a1 then (some (decide (a0 ≤ a2))) else (some false)
theorem spec_l00In.calls (a0 : Int) (a1 : Int) (a2 : Int) (r : Bool) (w : World) (h : spec_l00In.f a0 a1 a2 = some r) :
  Calls Tryz.prog 48 #[.int .i64 a0, .int .i64 a1, .int .i64 a2] w fun e w' => e = .returned (.bool r) ∧ Drawn0 w w' := by
 have H := h; clear h; unfold spec_l00In.f at H; replace H := iE H; rcases H with ⟨c4, H⟩ | ⟨c4, H⟩
 ·
  have c4b0 : decide (a1 ≤ a0) = true := decide_eq_true c4; clear c4; obtain rfl := Option.some.inj H; go_enter Tryz.func48, Tryz.ntmps48; go_wp2; go_ret; exact ⟨eV, eD⟩
 ·
  have c4b0 : decide (a1 ≤ a0) = false := decide_eq_false c4; clear c4; obtain rfl := Option.some.inj H; go_enter Tryz.func48, Tryz.ntmps48; go_wp2; go_ret; exact ⟨eV, eD⟩

def spec_l01Digit.f (a0 : Int) : Option (Bool) := if a0 ≥ 48 then (some (decide (a0 ≤ 57))) else (some false)
theorem spec_l01Digit.calls (a0 : Int) (r : Bool) (w : World) (h : spec_l01Digit.f a0 = some r) :
  Calls Tryz.prog 88 #[.int .u8 a0] w fun e w' => e = .returned (.bool r) ∧ Drawn0 w w' := by
 have H := h; clear h; unfold spec_l01Digit.f at H; replace H := iE H; rcases H with ⟨c2, H⟩ | ⟨c2, H⟩
 ·
  have c2b0 : decide (48 ≤ a0) = true := decide_eq_true c2; clear c2; obtain rfl := Option.some.inj H; go_enter Tryz.func88, Tryz.ntmps88; go_wp2; go_ret; exact ⟨eV, eD⟩
 ·
  have c2b0 : decide (48 ≤ a0) = false := decide_eq_false c2; clear c2; obtain rfl := Option.some.inj H; go_enter Tryz.func88, Tryz.ntmps88; go_wp2; go_ret; exact ⟨eV, eD⟩

def spec_l01Small.f (a0 : Int) : Option (Bool) := if a0 ≥ 97 then (some (decide (a0 ≤ 122))) else (some false)
theorem spec_l01Small.calls (a0 : Int) (r : Bool) (w : World) (h : spec_l01Small.f a0 = some r) :
  Calls Tryz.prog 103 #[.int .u8 a0] w fun e w' => e = .returned (.bool r) ∧ Drawn0 w w' := by
 have H := h; clear h; unfold spec_l01Small.f at H; replace H := iE H; rcases H with ⟨c2, H⟩ | ⟨c2, H⟩
 ·
  have c2b0 : decide (97 ≤ a0) = true := decide_eq_true c2; clear c2; obtain rfl := Option.some.inj H; go_enter Tryz.func103, Tryz.ntmps103; go_wp2; go_ret; exact ⟨eV, eD⟩
 ·
  have c2b0 : decide (97 ≤ a0) = false := decide_eq_false c2; clear c2; obtain rfl := Option.some.inj H; go_enter Tryz.func103, Tryz.ntmps103; go_wp2; go_ret; exact ⟨eV, eD⟩

mutual
def spec_IsName.j0 : Nat → ByteArray → Bool → Option (Bool)
 | 0, _, _ => none
 | k + 1, x0, x16 => if x16 = true then (some false) else (spec_IsName.l0 k x0 0)
def spec_IsName.l0 : Nat → ByteArray → Int → Option (Bool)
 | 0, _, _ => none
 | k + 1, x0, x3 => if x3 < (x0.size : Int) then (if 0 ≤ x3 then ((spec_l01Small.f (bt x0 x3)).bind fun t423 => (if t423 = true then (spec_IsName.j2 k x0 x3 false) else ((spec_l01Digit.f (bt x0 x3)).bind fun t424 => (if t424 = true then (spec_IsName.j2 k x0 x3 false) else (spec_IsName.j2 k x0 x3 ((bt x0 x3) != 45)))))) else (none)) else (some true)
def spec_IsName.j2 : Nat → ByteArray → Int → Bool → Option (Bool)
 | 0, _, _, _ => none
 | k + 1, x0, x3, x40 => if x40 = true then (some false) else (spec_IsName.l0 k x0 (wrap64 (x3 + 1)))
end
def spec_IsName.f (k : Nat) (a0 : ByteArray) : Option (Bool) := if a0.toList = ([] : List UInt8) then (spec_IsName.j0 k a0 true) else (if (a0.size : Int) > 12 then (spec_IsName.j0 k a0 true) else (if 0 < (a0.size : Int) then ((spec_l01Small.f (bt a0 0)).bind fun t422 => (spec_IsName.j0 k a0 (!t422))) else (none)))
theorem spec_IsName.calls (k : Nat) (a0 : ByteArray) (r : Bool) (w : World) (h : spec_IsName.f k a0 = some r) :
  Calls Tryz.prog 89 #[.string a0] w fun e w' => e = .returned (.bool r) ∧ Drawn0 w w' := by
 have H := h; clear h; unfold spec_IsName.f at H; have HC2 := aS H; clear H; go_enter Tryz.func89, Tryz.ntmps89
 go_upto_region 1 with (fail)
 go_cut [16] (fun v16 wc => ∃ (kq : Nat) (x16_1 : Bool), v16 = .bool x16_1 ∧ Aside0 (spec_IsName.j0 kq a0 x16_1 = some r) ∧ Aside0 (kq ≤ k) ∧ Drawn0 w wc)
 case first =>
  have H := HC2.out; clear HC2; replace H := iB H; rcases H with ⟨c3b0, c3b1, H⟩ | ⟨c3, c3b0, c3b1, H⟩
  ·
   (first | rw [c3b0] | (simp only [i64_w, i32_w]; rw [c3b0]) | (rw [c3b2]; simp only [Bool.not_false, Bool.not_true]) | rw [c3b1] | skip); have H' := aS H; clear H; go_wp2; go_meet
   case rel => exact ⟨_, (true), eV, H', jL0, eD⟩
  ·
   (first | rw [c3b0] | (simp only [i64_w, i32_w]; rw [c3b0]) | (rw [c3b2]; simp only [Bool.not_false, Bool.not_true]) | rw [c3b1] | skip); replace H := iE H; rcases H with ⟨c4, H⟩ | ⟨c4, H⟩
   ·
    have c4b0 : decide (12 < (a0.size : Int)) = true := decide_eq_true c4; have c4b1 : decide (12 < a0.size) = true := decide_eq_true (by omega); clear c4; have H' := aS H; clear H; go_wp2; go_meet
    case rel => exact ⟨_, (true), eV, H', jL0, eD⟩
   ·
    have c4b0 : decide (12 < (a0.size : Int)) = false := decide_eq_false c4; have c4b1 : decide (12 < a0.size) = false := decide_eq_false (by omega); clear c4; replace H := iE H; rcases H with ⟨c5, H⟩ | ⟨c5, H⟩
    ·
     have c5b0 := decide_eq_true c5; have c5b1 : decide (0 < a0.size) = true := decide_eq_true (by omega); clear c5; replace H := bE H; obtain ⟨t422, A7, H⟩ := H; try dsimp only at H
     have H' := aS H; clear H; have p6 : 0 ≤ (0 : Int) := (by omega); have q6 : 0 < a0.size := (by have : (0 : Int) < (a0.size : Int) := sD; omega); have hx6 : ∀ h : 0 < a0.size, ((a0[0]'h).toNat : Int) = bt a0 0 := bt_at a0 0; clear p6; have qi6 : (0 < (a0.size : Int)) = True := eq_true (sD)
     go_wp2_with (first | (go_at_call 103; (with_reducible refine (spec_l01Small.calls (bt a0 0) t422 _ A7.out).mono ?_); rintro e w' ⟨rfl, ⟨nd, rfl⟩⟩))
     go_meet
     case rel => exact ⟨_, (!t422), eV, H', jL0, eD⟩
    ·
     exact absurd H (by simp)
 case rest =>
  clear HC2; (try clear hx6); obtain ⟨kq, x16_1, rfl, HA, HJ1, ⟨mc1, rfl⟩⟩ := hcut; cases kq with
  | zero => exact absurd HA.out (by simp [spec_IsName.j0])
  | succ kj1 =>
   have H := HA.out; clear HA; simp only [spec_IsName.j0] at H; replace H := iZ H; rcases H with ⟨rfl, H⟩ | ⟨rfl, H⟩
   ·
    obtain rfl := Option.some.inj H; go_wp2; go_ret; exact ⟨eV, eD⟩
   ·
    have H' := aS H; clear H; go_wp2
    go_loopg [3] kj1 (fun kq v3 w' => ∃ (x3_2 : Int), v3 = .int .i64 x3_2 ∧ Aside0 (spec_IsName.l0 kq a0 x3_2 = some r) ∧ Aside0 (kq ≤ kj1) ∧ Drawn0 w w')
    case atStart => exact ⟨(0), eV, H', ⟨Nat.le_refl _⟩, eD⟩
    case round =>
     clear H'; (try clear hx6); obtain ⟨x3_2, rfl, HA, HK2, ⟨m2, rfl⟩⟩ := hrel; cases gk with
     | zero => exact absurd HA.out (by simp [spec_IsName.l0])
     | succ k2 =>
      have H := HA.out; clear HA; simp only [spec_IsName.l0] at H; replace H := iD H; rcases H with ⟨c9b0, H⟩ | ⟨c9b0, H⟩
      ·
       have HC10 := aS H; clear H
       go_upto_region 6 with (fail)
       go_cut [40] (fun v40 wc => ∃ (kq : Nat) (x40_9 : Bool), v40 = .bool x40_9 ∧ Aside0 (spec_IsName.j2 kq a0 x3_2 x40_9 = some r) ∧ Aside0 (kq ≤ k2) ∧ Drawn0 w wc)
       case first =>
        have H := HC10.out; clear HC10; replace H := iE H; rcases H with ⟨c11, H⟩ | ⟨c11, H⟩
        ·
         have c11b0 := decide_eq_true c11; clear c11; (first | rw [c11b0] | (simp only [i64_w, i32_w]; rw [c11b0]) | (rw [c11b2]; simp only [Bool.not_false, Bool.not_true]) | rw [c11b1] | skip); replace H := bE H; obtain ⟨t423, A13, H⟩ := H; try dsimp only at H
         replace H := iZ H; rcases H with ⟨rfl, H⟩ | ⟨rfl, H⟩
         ·
          have H' := aS H; clear H; have p12 : 0 ≤ (x3_2 : Int) := sD; have q12 : x3_2 < (a0.size : Int) := sD; have hx12 := bt_at a0 x3_2
          go_wp2_with (first | ((with_reducible refine gk 103 rfl ?_); refine gC (some 26) rfl Tryz.func103 #[.int .u8 (bt a0 x3_2)] (spec_l01Small.calls (bt a0 x3_2) true _ A13.out) ?_; rintro e w' ⟨rfl, ⟨nd, rfl⟩⟩; refine ⟨_, rfl, ?_⟩))
          go_meet
          case rel => exact ⟨_, (false), eV, H', (jL2 HJ1 HK2), eD⟩
         ·
          replace H := bE H; obtain ⟨t424, A16, H⟩ := H; try dsimp only at H
          replace H := iZ H; rcases H with ⟨rfl, H⟩ | ⟨rfl, H⟩
          ·
           have H' := aS H; clear H; have p12 : 0 ≤ (x3_2 : Int) := sD; have q12 : x3_2 < (a0.size : Int) := sD; have hx12 := bt_at a0 x3_2
           go_wp2_with (first | ((with_reducible refine gk 103 rfl ?_); refine gC (some 26) rfl Tryz.func103 #[.int .u8 (bt a0 x3_2)] (spec_l01Small.calls (bt a0 x3_2) false _ A13.out) ?_; rintro e w' ⟨rfl, ⟨nd, rfl⟩⟩; refine ⟨_, rfl, ?_⟩; have p15 : 0 ≤ (x3_2 : Int) := sD; have q15 : x3_2 < (a0.size : Int) := sD; have hx15 := bt_at a0 x3_2) | (go_at_call 88; (with_reducible refine (spec_l01Digit.calls (bt a0 x3_2) true _ A16.out).mono ?_); rintro e w' ⟨rfl, ⟨nd, rfl⟩⟩))
           go_meet
           case rel => exact ⟨_, (false), eV, H', (jL2 HJ1 HK2), eD⟩
          ·
           have H' := aS H; clear H; have p12 : 0 ≤ (x3_2 : Int) := sD; have q12 : x3_2 < (a0.size : Int) := sD; have hx12 := bt_at a0 x3_2
           go_wp2_with (first | ((with_reducible refine gk 103 rfl ?_); refine gC (some 26) rfl Tryz.func103 #[.int .u8 (bt a0 x3_2)] (spec_l01Small.calls (bt a0 x3_2) false _ A13.out) ?_; rintro e w' ⟨rfl, ⟨nd, rfl⟩⟩; refine ⟨_, rfl, ?_⟩; have p15 : 0 ≤ (x3_2 : Int) := sD; have q15 : x3_2 < (a0.size : Int) := sD; have hx15 := bt_at a0 x3_2) | (go_at_call 88; (with_reducible refine (spec_l01Digit.calls (bt a0 x3_2) false _ A16.out).mono ?_); rintro e w' ⟨rfl, ⟨nd, rfl⟩⟩; have p18 : 0 ≤ (x3_2 : Int) := sD; have q18 : x3_2 < (a0.size : Int) := sD; have hx18 := bt_at a0 x3_2))
           go_meet
           case rel => exact ⟨_, (((bt a0 x3_2) != 45)), eV, H', (jL2 HJ1 HK2), eD⟩
        ·
         exact absurd H (by simp)
       case rest =>
        clear HC10; (try clear hx1); (try clear hx6); (try clear hx12); (try clear hx15); (try clear hx18); obtain ⟨kq, x40_9, rfl, HA, HJ9, ⟨mc9, rfl⟩⟩ := hcut; cases kq with
        | zero => exact absurd HA.out (by simp [spec_IsName.j2])
        | succ kj9 =>
         have H := HA.out; clear HA; simp only [spec_IsName.j2] at H; replace H := iZ H; rcases H with ⟨rfl, H⟩ | ⟨rfl, H⟩
         ·
          obtain rfl := Option.some.inj H; go_wp2; go_ret; exact ⟨eV, eD⟩
         ·
          have H' := aS H; clear H; go_wp2
          go_roundg kj9
          case measure => have := HJ1.out; have := HK2.out; have := HJ9.out; omega
          case rel => exact ⟨(wrap64 (x3_2 + 1)), eV, H', ⟨by have := HJ1.out; have := HK2.out; have := HJ9.out; omega⟩, eD⟩
      ·
       obtain rfl := Option.some.inj H; go_wp2; go_ret; exact ⟨eV, eD⟩
end Go.Proofs.YtginmioklkcgbaaGreatDoor.QFnLines

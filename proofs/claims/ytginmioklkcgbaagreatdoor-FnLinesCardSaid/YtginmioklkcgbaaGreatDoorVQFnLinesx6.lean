/- What the Go functions of this law compute, each as a Lean function, and that each call comes to that answer; written by a program of this session. No condition. -/
import Derived.Test.YtginmioklkcgbaaGreatDoorVShn
import Derived.Test.YtginmioklkcgbaaGreatDoorVQFnLinesx0
import Derived.Test.YtginmioklkcgbaaGreatDoorVQFnLinesx1
import Derived.Test.YtginmioklkcgbaaGreatDoorVQFnLinesx2
import Derived.Test.YtginmioklkcgbaaGreatDoorVQFnLinesx3
import Derived.Test.YtginmioklkcgbaaGreatDoorVQFnLinesx4
import Derived.Test.YtginmioklkcgbaaGreatDoorVQFnLinesx5
namespace Go.Proofs.YtginmioklkcgbaaGreatDoor.QFnLines
open Go.RowKit Go.Proofs.YtginmioklkcgbaaGreatDoorW.PrintWords Go.Proofs.YtginmioklkcgbaaGreatDoorW.PrintLast Go.Proofs.YtginmioklkcgbaaGreatDoorW.PrintMore
attribute [local go_sem] max2_int min2_int max_two min_two max_three min_three max_four min_four   -- for this text's walks alone
set_option linter.unusedVariables false
set_option linter.unusedSimpArgs false
set_option maxHeartbeats 8000000
set_option maxRecDepth 100000
def spec_l03TextAt.f (k : Nat) (l0 : List (S47)) : Option (ByteArray) := if 0 < (l0.length : Int) then (if ((rd_T47 l0 0).f0).size + 1 ≤ 9223372036854775807 then ((spec_l01Dec.f k ((rd_T47 l0 0).f1)).bind fun t772 => (if (((rd_T47 l0 0).f0) ++ (⟨#[32]⟩ : ByteArray)).size + t772.size ≤ 9223372036854775807 then (if ((((rd_T47 l0 0).f0) ++ (⟨#[32]⟩ : ByteArray)) ++ t772).size + 12 ≤ 9223372036854775807 then ((spec_l01Dec.f k ((rd_T47 l0 0).f2)).bind fun t774 => (if (((((rd_T47 l0 0).f0) ++ (⟨#[32]⟩ : ByteArray)) ++ t772) ++ (⟨#[47, 49, 48, 48, 48, 32, 116, 97, 107, 101, 115, 32]⟩ : ByteArray)).size + t774.size ≤ 9223372036854775807 then (some ((((((rd_T47 l0 0).f0) ++ (⟨#[32]⟩ : ByteArray)) ++ t772) ++ (⟨#[47, 49, 48, 48, 48, 32, 116, 97, 107, 101, 115, 32]⟩ : ByteArray)) ++ t774)) else (none))) else (none)) else (none))) else (none)) else (none)
def spec_l03TextAt.T1 : Bool × List (List Nat × List Nat) := (true,[([],[]),([0],[0]),([1],[1]),([2],[2]),([3],[3]),([],[]),([5],[5]),([6],[6]),([7],[7]),([8],[8]),([4,9],[4,9]),([10],[10]),([],[]),([12],[12]),([13],[13]),([14],[14]),([15,9],[15]),([11,16],[11,16]),([17,16,0,1,2,3,4,5,6,7,8,9,10,11,12,13,14,15,16,17],[17])])
def spec_l03TextAt.B1 : List Nat := [0,1,3,7,15,0,32,96,224,480,1023,2047,0,4096,12288,28672,62432,131071,262143]
theorem spec_l03TextAt.tab1 : rtab .any (opsOf Tryz.f57 1) = spec_l03TextAt.T1 := by kernel_rfl
theorem spec_l03TextAt.bits1 : waitsOk spec_l03TextAt.T1.2 spec_l03TextAt.B1 = true := by kernel_rfl
theorem spec_l03TextAt.calls (k : Nat) (A0 : Option Addr) (c0 : Nat) (l0 : List (S47)) (r : ByteArray) (w : World) (hr0 : Kd.C k47 w A0 l0.length l0) (hc0 : l0.length ≤ c0) (h : spec_l03TextAt.f k l0 = some r) :
  Calls Tryz.prog 57 #[.pointer A0] w fun e w' => e = .returned (.string r) ∧ Below w.heap.size w w' := by
 have HR0 := aS hr0; have HC0 := aS hc0; clear hr0 hc0; have HB := aS (Below.refl w.heap.size w); have H := h; clear h; unfold spec_l03TextAt.f at H; replace H := iE H; rcases H with ⟨c2, H⟩ | ⟨c2, H⟩
 ·
  have c2b0 := decide_eq_true c2; have c2b1 : decide (0 < l0.length) = true := decide_eq_true (by omega); clear c2; replace H := iE H; rcases H with ⟨c3, H⟩ | ⟨c3, H⟩
  ·
   have c3b0 := eq_true c3; have c3b1 := decide_eq_true c3
   try have c3b2 : (9223372036854775807 < ((rd_T47 l0 0).f0).size + 1) = False := eq_false (Nat.not_lt.2 c3)
   replace H := bE H; obtain ⟨t772, A4, H⟩ := H; try dsimp only at H
   replace H := iE H; rcases H with ⟨c5, H⟩ | ⟨c5, H⟩
   ·
    have c5b0 := eq_true c5; have c5b1 := decide_eq_true c5
    try have c5b3 : (9223372036854775807 < ((rd_T47 l0 0).f0).size + 1 + t772.size) = False := eq_false (by have h_ := c5; simp only [ByteArray.size_append, show ByteArray.size (⟨#[32]⟩ : ByteArray) = 1 from rfl] at h_; omega)
    try have c5b2 : (9223372036854775807 < (((rd_T47 l0 0).f0) ++ (⟨#[32]⟩ : ByteArray)).size + t772.size) = False := eq_false (Nat.not_lt.2 c5)
    replace H := iE H; rcases H with ⟨c6, H⟩ | ⟨c6, H⟩
    ·
     have c6b0 := eq_true c6; have c6b1 := decide_eq_true c6
     try have c6b3 : (9223372036854775807 < ((rd_T47 l0 0).f0).size + 1 + t772.size + 12) = False := eq_false (by have h_ := c6; simp only [ByteArray.size_append, show ByteArray.size (⟨#[32]⟩ : ByteArray) = 1 from rfl] at h_; omega)
     try have c6b2 : (9223372036854775807 < ((((rd_T47 l0 0).f0) ++ (⟨#[32]⟩ : ByteArray)) ++ t772).size + 12) = False := eq_false (Nat.not_lt.2 c6)
     replace H := bE H; obtain ⟨t774, A7, H⟩ := H; try dsimp only at H
     replace H := iE H; rcases H with ⟨c8, H⟩ | ⟨c8, H⟩
     ·
      have c8b0 := eq_true c8; have c8b1 := decide_eq_true c8
      try have c8b3 : (9223372036854775807 < ((rd_T47 l0 0).f0).size + 1 + t772.size + 12 + t774.size) = False := eq_false (by have h_ := c8; simp only [ByteArray.size_append, show ByteArray.size (⟨#[32]⟩ : ByteArray) = 1 from rfl, show ByteArray.size (⟨#[47, 49, 48, 48, 48, 32, 116, 97, 107, 101, 115, 32]⟩ : ByteArray) = 12 from rfl] at h_; omega)
      try have c8b2 : (9223372036854775807 < (((((rd_T47 l0 0).f0) ++ (⟨#[32]⟩ : ByteArray)) ++ t772) ++ (⟨#[47, 49, 48, 48, 48, 32, 116, 97, 107, 101, 115, 32]⟩ : ByteArray)).size + t774.size) = False := eq_false (Nat.not_lt.2 c8)
      obtain rfl := Option.some.inj H; go_enter Tryz.func57, Tryz.ntmps57
      try go_wp2
      replace HB := aS (below_drew1 HB.out); have p770 : 0 ≤ (0 : Int) := (by omega); have q770 : 0 < (l0.length : Int) := sD; obtain ⟨ad770, e770, hx770_0, hx770_1, hx770_2⟩ := at_T47 HR0.out 0 p770 q770; have hw770_2 := hx770_2; (try rw [show ((0 : Int)).toNat = 0 from rfl] at hw770_2); (try rw [show 0 * 3 = 0 from rfl] at hw770_2); (try rw [Addr.add_zero'] at hw770_2); have hw770_1 := hx770_1; (try rw [show ((0 : Int)).toNat = 0 from rfl] at hw770_1); (try rw [show 0 * 3 = 0 from rfl] at hw770_1); (try rw [Addr.add_zero'] at hw770_1); have hw770_0 := hx770_0; (try rw [show ((0 : Int)).toNat = 0 from rfl] at hw770_0); (try rw [show 0 * 3 = 0 from rfl] at hw770_0); (try rw [Addr.add_zero'] at hw770_0); cases e770; have qi770 : (0 < l0.length) = True := eq_true (by omega); (try rw [show ((0 : Int)).toNat = 0 from rfl] at hx770_0); (try rw [show 0 * 3 = 0 from rfl] at hx770_0); (try rw [Addr.add_zero'] at hx770_0); (try rw [show ((0 : Int)).toNat = 0 from rfl] at hx770_1); (try rw [show 0 * 3 = 0 from rfl] at hx770_1); (try rw [Addr.add_zero'] at hx770_1); (try rw [show ((0 : Int)).toNat = 0 from rfl] at hx770_2); (try rw [show 0 * 3 = 0 from rfl] at hx770_2); (try rw [Addr.add_zero'] at hx770_2); replace hx770_0 := bC HB.out hx770_0; replace hx770_1 := bC HB.out hx770_1; replace hx770_2 := bC HB.out hx770_2; have p771 : 0 ≤ (0 : Int) := (by omega); have q771 : 0 < (l0.length : Int) := sD; obtain ⟨ad771, e771, hx771_0, hx771_1, hx771_2⟩ := at_T47 HR0.out 0 p771 q771; have hw771_2 := hx771_2; (try rw [show ((0 : Int)).toNat = 0 from rfl] at hw771_2); (try rw [show 0 * 3 = 0 from rfl] at hw771_2); (try rw [Addr.add_zero'] at hw771_2); have hw771_1 := hx771_1; (try rw [show ((0 : Int)).toNat = 0 from rfl] at hw771_1); (try rw [show 0 * 3 = 0 from rfl] at hw771_1); (try rw [Addr.add_zero'] at hw771_1); have hw771_0 := hx771_0; (try rw [show ((0 : Int)).toNat = 0 from rfl] at hw771_0); (try rw [show 0 * 3 = 0 from rfl] at hw771_0); (try rw [Addr.add_zero'] at hw771_0); obtain rfl : ad770 = ad771 := (by injection e771); have qi771 : (0 < l0.length) = True := eq_true (by omega); (try rw [show ((0 : Int)).toNat = 0 from rfl] at hx771_0); (try rw [show 0 * 3 = 0 from rfl] at hx771_0); (try rw [Addr.add_zero'] at hx771_0); (try rw [show ((0 : Int)).toNat = 0 from rfl] at hx771_1); (try rw [show 0 * 3 = 0 from rfl] at hx771_1); (try rw [Addr.add_zero'] at hx771_1); (try rw [show ((0 : Int)).toNat = 0 from rfl] at hx771_2); (try rw [show 0 * 3 = 0 from rfl] at hx771_2); (try rw [Addr.add_zero'] at hx771_2); replace hx771_0 := bC HB.out hx771_0; replace hx771_1 := bC HB.out hx771_1; replace hx771_2 := bC HB.out hx771_2; have p773 : 0 ≤ (0 : Int) := (by omega); have q773 : 0 < (l0.length : Int) := sD; obtain ⟨ad773, e773, hx773_0, hx773_1, hx773_2⟩ := at_T47 HR0.out 0 p773 q773; have hw773_2 := hx773_2; (try rw [show ((0 : Int)).toNat = 0 from rfl] at hw773_2); (try rw [show 0 * 3 = 0 from rfl] at hw773_2); (try rw [Addr.add_zero'] at hw773_2); have hw773_1 := hx773_1; (try rw [show ((0 : Int)).toNat = 0 from rfl] at hw773_1); (try rw [show 0 * 3 = 0 from rfl] at hw773_1); (try rw [Addr.add_zero'] at hw773_1); have hw773_0 := hx773_0; (try rw [show ((0 : Int)).toNat = 0 from rfl] at hw773_0); (try rw [show 0 * 3 = 0 from rfl] at hw773_0); (try rw [Addr.add_zero'] at hw773_0); obtain rfl : ad770 = ad773 := (by injection e773); have qi773 : (0 < l0.length) = True := eq_true (by omega); (try rw [show ((0 : Int)).toNat = 0 from rfl] at hx773_0); (try rw [show 0 * 3 = 0 from rfl] at hx773_0); (try rw [Addr.add_zero'] at hx773_0); (try rw [show ((0 : Int)).toNat = 0 from rfl] at hx773_1); (try rw [show 0 * 3 = 0 from rfl] at hx773_1); (try rw [Addr.add_zero'] at hx773_1); (try rw [show ((0 : Int)).toNat = 0 from rfl] at hx773_2); (try rw [show 0 * 3 = 0 from rfl] at hx773_2); (try rw [Addr.add_zero'] at hx773_2); replace hx773_0 := bC HB.out hx773_0; replace hx773_1 := bC HB.out hx773_1; replace hx773_2 := bC HB.out hx773_2; refine start_ (n := 19) (S := fun w' => w'.cell? ad770 = some (.string ((rd_T47 l0 0).f0)) ∧ w'.cell? ⟨ad770.block, ad770.off + 1, none⟩ = some (.int .i64 ((rd_T47 l0 0).f1)) ∧ w'.cell? ⟨ad770.block, ad770.off + 2, none⟩ = some (.int .i64 ((rd_T47 l0 0).f2)) ∧ w'.cell? ad770 = some (.string ((rd_T47 l0 0).f0)) ∧ w'.cell? ⟨ad770.block, ad770.off + 1, none⟩ = some (.int .i64 ((rd_T47 l0 0).f1)) ∧ w'.cell? ⟨ad770.block, ad770.off + 2, none⟩ = some (.int .i64 ((rd_T47 l0 0).f2)) ∧ w'.cell? ad770 = some (.string ((rd_T47 l0 0).f0)) ∧ w'.cell? ⟨ad770.block, ad770.off + 1, none⟩ = some (.int .i64 ((rd_T47 l0 0).f1)) ∧ w'.cell? ⟨ad770.block, ad770.off + 2, none⟩ = some (.int .i64 ((rd_T47 l0 0).f2))) (ds := []) _ (by kernel_rfl) rfl rfl ⟨((HB.out.cell (World.block_lt_of_cell? w _ hw770_0)).trans hw770_0), ((HB.out.cell (World.block_lt_of_cell? w _ hw770_1)).trans hw770_1), ((HB.out.cell (World.block_lt_of_cell? w _ hw770_2)).trans hw770_2), ((HB.out.cell (World.block_lt_of_cell? w _ hw771_0)).trans hw771_0), ((HB.out.cell (World.block_lt_of_cell? w _ hw771_1)).trans hw771_1), ((HB.out.cell (World.block_lt_of_cell? w _ hw771_2)).trans hw771_2), ((HB.out.cell (World.block_lt_of_cell? w _ hw773_0)).trans hw773_0), ((HB.out.cell (World.block_lt_of_cell? w _ hw773_1)).trans hw773_1), ((HB.out.cell (World.block_lt_of_cell? w _ hw773_2)).trans hw773_2)⟩ (fun hHeld => ?_); refine with_tabW spec_l03TextAt.tab1 spec_l03TextAt.bits1 (fun HT_ HW_ => ?_)
      generalize w.drew = w9 at HB hx770_0 hx770_1 hx770_2 hx771_0 hx771_1 hx771_2 hx773_0 hx773_1 hx773_2 hHeld ⊢; refine pX 0 3 ?_; refine pX 1 4 ?_; refine pX 2 5 ?_; refine pX 5 8 ?_; refine pX 6 9 ?_; refine pX 7 10 ?_; refine pX 12 15 ?_; refine pX 13 16 ?_; refine pX 14 17 ?_; refine tX 3 6 ?_; refine pX 4 7 ?_; refine tX 8 11 ?_; refine tX 15 18 ?_; refine oX 9 (some 12) fun K hK => ?_
      refine goes_ Tryz.func87 (by kernel_rfl) rfl #[.int .i64 ((rd_T47 l0 0).f1)] (by rfl) rfl rfl sG ?_; with_reducible refine (spec_l01Dec.calls k ((rd_T47 l0 0).f1) t772 _ A4.out).mono ?_
      rintro e w10 ⟨rfl, hb⟩; refine ⟨_, rfl, ?_⟩; replace HB := lW HB hb; refine hK.out _ _ ⟨((HB.out.cell (World.block_lt_of_cell? w _ hw770_0)).trans hw770_0), ((HB.out.cell (World.block_lt_of_cell? w _ hw770_1)).trans hw770_1), ((HB.out.cell (World.block_lt_of_cell? w _ hw770_2)).trans hw770_2), ((HB.out.cell (World.block_lt_of_cell? w _ hw771_0)).trans hw771_0), ((HB.out.cell (World.block_lt_of_cell? w _ hw771_1)).trans hw771_1), ((HB.out.cell (World.block_lt_of_cell? w _ hw771_2)).trans hw771_2), ((HB.out.cell (World.block_lt_of_cell? w _ hw773_0)).trans hw773_0), ((HB.out.cell (World.block_lt_of_cell? w _ hw773_1)).trans hw773_1), ((HB.out.cell (World.block_lt_of_cell? w _ hw773_2)).trans hw773_2)⟩ (fun hHeld => ?_); clear hK K; refine nX 12 ?_; refine pX 10 13 ?_; refine pX 11 14 ?_; refine oX 16 (some 19) fun K hK => ?_
      refine goes_ Tryz.func87 (by kernel_rfl) rfl #[.int .i64 ((rd_T47 l0 0).f2)] (by rfl) rfl rfl sG ?_; with_reducible refine (spec_l01Dec.calls k ((rd_T47 l0 0).f2) t774 _ A7.out).mono ?_
      rintro e w11 ⟨rfl, hb⟩; refine ⟨_, rfl, ?_⟩; replace HB := lW HB hb; refine hK.out _ _ ⟨((HB.out.cell (World.block_lt_of_cell? w _ hw770_0)).trans hw770_0), ((HB.out.cell (World.block_lt_of_cell? w _ hw770_1)).trans hw770_1), ((HB.out.cell (World.block_lt_of_cell? w _ hw770_2)).trans hw770_2), ((HB.out.cell (World.block_lt_of_cell? w _ hw771_0)).trans hw771_0), ((HB.out.cell (World.block_lt_of_cell? w _ hw771_1)).trans hw771_1), ((HB.out.cell (World.block_lt_of_cell? w _ hw771_2)).trans hw771_2), ((HB.out.cell (World.block_lt_of_cell? w _ hw773_0)).trans hw773_0), ((HB.out.cell (World.block_lt_of_cell? w _ hw773_1)).trans hw773_1), ((HB.out.cell (World.block_lt_of_cell? w _ hw773_2)).trans hw773_2)⟩ (fun hHeld => ?_); clear hK K; refine nX 19 ?_; refine pX 17 20 ?_; refine pX 18 2 ?_; refine dX ?_
      try go_wp2
      go_ret; exact ⟨eE, sW HB.out⟩
     ·
      exact absurd H (by simp)
    ·
     exact absurd H (by simp)
   ·
    exact absurd H (by simp)
  ·
   exact absurd H (by simp)
 ·
  exact absurd H (by simp)

def spec_l01Spoil.f (s0_0 : List Int) (s0_1 : Int) (s0_2 : Int) (a1 : ByteArray) : Option (ByteArray × Int × Int) := (spec_l00Src_pick.f s0_0 s0_1 s0_2 5).bind fun bt775 => (if bt775.1 = 0 then ((spec_l00Src_pick.f s0_0 bt775.2.1 bt775.2.2 (wrap64 ((a1.size : Int) + 1))).bind fun bt778 => (if 0 ≤ bt778.1 then (if bt778.1 ≤ (a1.size : Int) then ((spec_l00Src_text.f s0_0 bt778.2.1 bt778.2.2 (([(⟨#[32]⟩ : ByteArray), (⟨#[48]⟩ : ByteArray), (⟨#[45]⟩ : ByteArray), (⟨#[120]⟩ : ByteArray), (⟨#[49]⟩ : ByteArray), (⟨#[57]⟩ : ByteArray), (⟨#[46]⟩ : ByteArray)] : List ByteArray))).bind fun bt784 => (if (a1.extract 0 (bt778.1 : Int).toNat).size + bt784.1.size ≤ 9223372036854775807 then (if ((a1.extract 0 (bt778.1 : Int).toNat) ++ bt784.1).size + (a1.extract (bt778.1 : Int).toNat a1.size).size ≤ 9223372036854775807 then (some (((a1.extract 0 (bt778.1 : Int).toNat) ++ bt784.1) ++ (a1.extract (bt778.1 : Int).toNat a1.size), bt784.2.1, bt784.2.2)) else (none)) else (none))) else (none)) else (none))) else (if bt775.1 = 1 then (if a1.toList = ([] : List UInt8) then (some (a1, bt775.2.1, bt775.2.2)) else ((spec_l00Src_pick.f s0_0 bt775.2.1 bt775.2.2 (a1.size : Int)).bind fun bt787 => (if 0 ≤ bt787.1 then (if bt787.1 ≤ (a1.size : Int) then (if 0 ≤ (wrap64 (bt787.1 + 1)) then (if (wrap64 (bt787.1 + 1)) ≤ (a1.size : Int) then (if (a1.extract 0 (bt787.1 : Int).toNat).size + (a1.extract ((wrap64 (bt787.1 + 1)) : Int).toNat a1.size).size ≤ 9223372036854775807 then (some ((a1.extract 0 (bt787.1 : Int).toNat) ++ (a1.extract ((wrap64 (bt787.1 + 1)) : Int).toNat a1.size), bt787.2.1, bt787.2.2)) else (none)) else (none)) else (none)) else (none)) else (none)))) else (some (a1, bt775.2.1, bt775.2.2))))
def spec_l01Spoil.T4 : Bool × List (List Nat × List Nat) := (true,[([],[]),([],[]),([0,1],[0,1]),([],[]),([],[]),([3,4],[3,4]),([2,5],[2,5]),([],[]),([],[]),([7,8],[7,8]),([6,9],[6,9]),([10,5,0,1,2,3,4,5,6,7,8,9,10],[0,7,10])])
def spec_l01Spoil.B4 : List Nat := [0,0,3,0,0,24,63,0,0,384,1023,2047]
theorem spec_l01Spoil.tab4 : rtab .any (opsOf Tryz.f59 4) = spec_l01Spoil.T4 := by kernel_rfl
theorem spec_l01Spoil.bits4 : waitsOk spec_l01Spoil.T4.2 spec_l01Spoil.B4 = true := by kernel_rfl
def spec_l01Spoil.T8 : Bool × List (List Nat × List Nat) := (true,[([],[]),([],[]),([0,1],[0,1]),([],[]),([],[]),([4],[4]),([3,5],[3,5]),([2,6],[2,6]),([7,0,1,2,3,4,5,6,7],[0,3,7])])
def spec_l01Spoil.B8 : List Nat := [0,0,3,0,0,16,56,127,255]
theorem spec_l01Spoil.tab8 : rtab .any (opsOf Tryz.f59 8) = spec_l01Spoil.T8 := by kernel_rfl
theorem spec_l01Spoil.bits8 : waitsOk spec_l01Spoil.T8.2 spec_l01Spoil.B8 = true := by kernel_rfl
theorem spec_l01Spoil.calls (g : Nat) (s0_0 : List Int) (s0_1 : Int) (s0_2 : Int) (a1 : ByteArray) (r1 : ByteArray) (r2 : Int) (r3 : Int) (w0 w : World) (hI : IsS100 w0 w g s0_0 s0_1 s0_2) (hB : Below w0.heap.size w0 w) (h : spec_l01Spoil.f s0_0 s0_1 s0_2 a1 = some (r1, r2, r3)) :
  Calls Tryz.prog 59 #[.pointer (some ⟨g, 0, none⟩), .string a1] w fun e w' => e = .returned (.string r1) ∧ IsS100 w0 w' g s0_0 r2 r3 ∧ Below w0.heap.size w0 w' ∧ KeepBut w w' g none := by
 have HI0 := aS hI; have HK := aS (KeepBut.refl w g none); have HL := aS hB.size; clear hI; have HW0 := aS hB.size; have HB := aS hB; clear hB; have H := h; clear h; unfold spec_l01Spoil.f at H; replace H := bE H; obtain ⟨⟨t775, t776, t777⟩, A3, H⟩ := H; try dsimp only at H
 have HC4 := aS H; clear H; go_enter Tryz.func59, Tryz.ntmps59
 go_upto_if 9 with (first | ((with_reducible refine gk 46 rfl ?_); refine gC (some 8) rfl Tryz.func46 #[.pointer (some ⟨g, 0, none⟩), .int .i64 5] (spec_l00Src_pick.calls g s0_0 s0_1 s0_2 5 t775 t776 t777 w0 _ (IsS100.s HI0.out) (sWg HB.out (IsS100.ge HI0.out)) A3.out) ?_; rintro e w5 ⟨rfl, hi, hb, hk⟩; refine ⟨_, rfl, ?_⟩; replace HK := aS (kT (sK HK.out) hk); replace HB := aS (hb); replace HI0 := aS (hi)))
 (try simp only [Act.put, List.setIfInBounds_toArray, List.set_cons_zero, List.set_cons_succ]); have H := HC4.out; clear HC4; replace H := iB H; rcases H with ⟨c6b0, c6b1, H⟩ | ⟨c6, c6b0, c6b1, H⟩
 ·
  (first | rw [c6b0] | (simp only [i64_w, i32_w]; rw [c6b0]) | (rw [c6b2]; simp only [Bool.not_false, Bool.not_true]) | rw [c6b1] | skip); replace H := bE H; obtain ⟨⟨t778, t779, t780⟩, A7, H⟩ := H; try dsimp only at H
  replace H := iE H; rcases H with ⟨c8, H⟩ | ⟨c8, H⟩
  ·
   have c8b0 := eq_true c8; have c8b1 := decide_eq_true c8; clear c8; replace H := iE H; rcases H with ⟨c9, H⟩ | ⟨c9, H⟩
   ·
    have c9b0 := eq_true c9; have c9b1 := decide_eq_true c9; clear c9; obtain ⟨y781, hy781⟩ : ∃ y_ : List ByteArray, y_ = (([(⟨#[32]⟩ : ByteArray), (⟨#[48]⟩ : ByteArray), (⟨#[45]⟩ : ByteArray), (⟨#[120]⟩ : ByteArray), (⟨#[49]⟩ : ByteArray), (⟨#[57]⟩ : ByteArray), (⟨#[46]⟩ : ByteArray)] : List ByteArray)) := ⟨_, rfl⟩; replace H : ((spec_l00Src_text.f s0_0 t779 t780 y781).bind fun bt784 => (if (a1.extract 0 (t778 : Int).toNat).size + bt784.1.size ≤ 9223372036854775807 then (if ((a1.extract 0 (t778 : Int).toNat) ++ bt784.1).size + (a1.extract (t778 : Int).toNat a1.size).size ≤ 9223372036854775807 then (some (((a1.extract 0 (t778 : Int).toNat) ++ bt784.1) ++ (a1.extract (t778 : Int).toNat a1.size), bt784.2.1, bt784.2.2)) else (none)) else (none))) = some (r1, r2, r3) := by first | (rw [hy781]; with_reducible exact H) | (have H2_ := (Option.bind_some _ _).symm.trans H; rw [hy781]; with_reducible exact H2_) | (have H2_ := (Option.bind_some _ _).symm.trans H; with_reducible exact H2_) | with_reducible exact H | (rw [hy781]; exact H) | exact H
    have Ny781 := aS hy781; clear hy781; replace H := bE H; obtain ⟨⟨t784, t785, t786⟩, A10, H⟩ := H; try dsimp only at H
    replace H := iE H; rcases H with ⟨c11, H⟩ | ⟨c11, H⟩
    ·
     have c11b0 := eq_true c11; have c11b1 := decide_eq_true c11
     try have c11b3 : (9223372036854775807 < t778.toNat + t784.size) = False := eq_false (by have h_ := c11; simp only [ByteArray.size_append, ByteArray.size_extract] at h_; (try have q0_ : t778 ≤ (a1.size : Int) := of_eq_true (by assumption)); (try have r0_ : 0 ≤ t778 := of_eq_true (by assumption)); omega)
     try have c11b2 : (9223372036854775807 < (a1.extract 0 (t778 : Int).toNat).size + t784.size) = False := eq_false (Nat.not_lt.2 c11)
     have c12b0 := eq_true (sD : 0 ≤ t778); have c13b0 := eq_true (sD : t778 ≤ (a1.size : Int)); replace H := iE H; rcases H with ⟨c14, H⟩ | ⟨c14, H⟩
     ·
      have c14b0 := eq_true c14; have c14b1 := decide_eq_true c14
      try have c14b3 : (9223372036854775807 < t778.toNat + t784.size + (a1.size - t778.toNat)) = False := eq_false (by have h_ := c14; simp only [ByteArray.size_append, ByteArray.size_extract] at h_; (try have q0_ : t778 ≤ (a1.size : Int) := of_eq_true (by assumption)); (try have r0_ : 0 ≤ t778 := of_eq_true (by assumption)); omega)
      try have c14b2 : (9223372036854775807 < ((a1.extract 0 (t778 : Int).toNat) ++ t784).size + (a1.extract (t778 : Int).toNat a1.size).size) = False := eq_false (Nat.not_lt.2 c14)
      simp only [Option.some.injEq, Prod.mk.injEq] at H; obtain ⟨rfl, rfl, rfl⟩ := H
      try go_wp2_with (first | ((with_reducible refine gk 46 rfl ?_); refine gC (some 15) rfl Tryz.func46 #[.pointer (some ⟨g, 0, none⟩), .int .i64 (wrap64 ((a1.size : Int) + 1))] (spec_l00Src_pick.calls g s0_0 t776 t777 (wrap64 ((a1.size : Int) + 1)) t778 t779 t780 w0 _ (IsS100.s HI0.out) (sWg HB.out (IsS100.ge HI0.out)) A7.out) ?_; rintro e w15 ⟨rfl, hi, hb, hk⟩; refine ⟨_, rfl, ?_⟩; replace HK := aS (kT (sK HK.out) hk); replace HB := aS (hb); replace HI0 := aS (hi)))
      replace HI0 := aS (IsS100.drew HI0.out); replace HK := aS (keep_drew HK.out); replace HB := aS (below_drew1 HB.out); refine start_ (n := 12) (S := fun w' => True) (ds := []) _ (by kernel_rfl) rfl rfl trivial (fun hHeld => ?_); refine with_tabW spec_l01Spoil.tab4 spec_l01Spoil.bits4 (fun HT_ HW_ => ?_); generalize w15.drew = w16 at HI0 HK HB hHeld ⊢; refine pX 0 16 ?_; refine pX 1 17 ?_; refine pX 2 18 ?_; refine pX 3 19 ?_; refine pX 7 23 ?_; refine pX 8 24 ?_; refine pX 9 25 ?_; refine oX 4 (some 20) fun K hK => ?_
      refine Kd.R_lit_step Kd.string _ 9 ?hg (N := 20) ?hd (xs := ([(⟨#[32]⟩ : ByteArray), (⟨#[48]⟩ : ByteArray), (⟨#[45]⟩ : ByteArray), (⟨#[120]⟩ : ByteArray), (⟨#[49]⟩ : ByteArray), (⟨#[57]⟩ : ByteArray), (⟨#[46]⟩ : ByteArray)] : List ByteArray)) (inner := [.string (⟨#[32]⟩ : ByteArray), .string (⟨#[48]⟩ : ByteArray), .string (⟨#[45]⟩ : ByteArray), .string (⟨#[120]⟩ : ByteArray), .string (⟨#[49]⟩ : ByteArray), .string (⟨#[57]⟩ : ByteArray), .string (⟨#[46]⟩ : ByteArray)]) (ok := fun _ => True) (okp := fun _ => True) ?hr ?hp (fun _ hk => hk) trivial (Below.refl _ _) (Nat.le_refl _) (by simp) ?_; (case hd => rfl); (case hg => rfl); (case hr => first | (go_simp; done) | (go_simp; rfl)); (case hp => exact (Reps.one (show Kd.M Kd.string _ _ _ (⟨#[32]⟩ : ByteArray) [.string (⟨#[32]⟩ : ByteArray)] from rfl) (Reps.one (show Kd.M Kd.string _ _ _ (⟨#[48]⟩ : ByteArray) [.string (⟨#[48]⟩ : ByteArray)] from rfl) (Reps.one (show Kd.M Kd.string _ _ _ (⟨#[45]⟩ : ByteArray) [.string (⟨#[45]⟩ : ByteArray)] from rfl) (Reps.one (show Kd.M Kd.string _ _ _ (⟨#[120]⟩ : ByteArray) [.string (⟨#[120]⟩ : ByteArray)] from rfl) (Reps.one (show Kd.M Kd.string _ _ _ (⟨#[49]⟩ : ByteArray) [.string (⟨#[49]⟩ : ByteArray)] from rfl) (Reps.one (show Kd.M Kd.string _ _ _ (⟨#[57]⟩ : ByteArray) [.string (⟨#[57]⟩ : ByteArray)] from rfl) (Reps.one (show Kd.M Kd.string _ _ _ (⟨#[46]⟩ : ByteArray) [.string (⟨#[46]⟩ : ByteArray)] from rfl) (Reps.none _ _))))))))); intro v782 w17 ho18 hb hg_ hnew_; clear hg_ hnew_; (first | rw [← Ny781.out] at ho18 | (simp only [Int.reduceToNat] at ho18; rw [← Ny781.out] at ho18)); have HO783 := aS (Kd.R_lower ho18 (keep_size (w := w) (g := g) (row := none) (sK HK.out))); replace HK := aS (KeepBut.trans (sK HK.out) (KeepBut.of_below hb g none) (.inl rfl)); replace HB := aS (below_step (sWg HB.out (IsS100.ge HI0.out)) hb); replace HI0 := aS (IsS100.below (IsS100.s HI0.out) hb); clear hb ho18; obtain ⟨Ao19, co19, eo19⟩ := Kd.R_slice HO783.out; (first | subst eo19 | (injection eo19 with f1_ f2_ f3_; have f4_ := f1_.symm; have f5_ := f3_.symm; clear f1_ f2_ f3_; subst f4_; subst f5_)); refine hK.out _ _ trivial (fun hHeld => ?_); clear hK K; refine nX 20 ?_; refine oX 5 (some 21) fun K hK => ?_
      refine goes_ Tryz.func76 (by kernel_rfl) rfl #[.pointer (some ⟨g, 0, none⟩), .slice Ao19 y781.length co19] (by rfl) rfl rfl sG ?_; with_reducible refine (spec_l00Src_text.calls g s0_0 t779 t780 _ _ y781 t784 t785 t786 w0 _ ?side1 ?side2 ?side3 ?side4 ?side5 A10.out).mono ?_
      (case side1 => exact IsS100.s HI0.out); (case side2 => exact sWg HB.out (IsS100.ge HI0.out)); (case side3 => exact sC (Kd.R_reads' HO783.out).2.2); (case side4 => exact (Kd.R_reads' HO783.out).2.1); (case side5 => exact far_slice (IsS100.own_ne HI0.out HO783.out (by decide))); rintro e w20 ⟨rfl, hi, hb, hk⟩; refine ⟨_, rfl, ?_⟩; replace HO783 := aS (Kd.R_mono (Kd.R_keep (IsS100.apart (show IsS100 w0 _ g s0_0 t779 t780 from IsS100.s HI0.out) (sR HO783.out) (by decide)) hk (fun _ h => h.2)) (fun _ h => h.1)); replace HK := aS (kT (sK HK.out) hk); replace HB := aS (hb); replace HI0 := aS (hi); refine hK.out _ _ trivial (fun hHeld => ?_); clear hK K; refine nX 21 ?_; refine pX 6 22 ?_; refine pX 10 26 ?_; refine pX 11 1 ?_; refine dX ?_
      try go_wp2
      go_ret; exact ⟨eE, IsS100.s HI0.out, sWg HB.out (IsS100.ge HI0.out), sK HK.out⟩
     ·
      exact absurd H (by simp)
    ·
     exact absurd H (by simp)
   ·
    exact absurd H (by simp)
  ·
   exact absurd H (by simp)
 ·
  (first | rw [c6b0] | (simp only [i64_w, i32_w]; rw [c6b0]) | (rw [c6b2]; simp only [Bool.not_false, Bool.not_true]) | rw [c6b1] | skip); replace H := iB H; rcases H with ⟨c21b0, c21b1, H⟩ | ⟨c21, c21b0, c21b1, H⟩
  ·
   replace H := iB H; rcases H with ⟨c22b0, c22b1, H⟩ | ⟨c22, c22b0, c22b1, H⟩
   ·
    simp only [Option.some.injEq, Prod.mk.injEq] at H; obtain ⟨rfl, rfl, rfl⟩ := H; go_wp2; go_ret; exact ⟨eE, IsS100.s HI0.out, sWg HB.out (IsS100.ge HI0.out), sK HK.out⟩
   ·
    replace H := bE H; obtain ⟨⟨t787, t788, t789⟩, A23, H⟩ := H; try dsimp only at H
    replace H := iE H; rcases H with ⟨c24, H⟩ | ⟨c24, H⟩
    ·
     have c24b0 := eq_true c24; have c24b1 := decide_eq_true c24; clear c24; replace H := iE H; rcases H with ⟨c25, H⟩ | ⟨c25, H⟩
     ·
      have c25b0 := eq_true c25; have c25b1 := decide_eq_true c25; clear c25; obtain ⟨ji26, hji26⟩ : ∃ j_ : Int, (wrap64 (t787 + 1)) = j_ := ⟨_, rfl⟩; replace H : (if 0 ≤ (ji26) then (if (ji26) ≤ (a1.size : Int) then (if (a1.extract 0 (t787 : Int).toNat).size + (a1.extract ((ji26) : Int).toNat a1.size).size ≤ 9223372036854775807 then (some ((a1.extract 0 (t787 : Int).toNat) ++ (a1.extract ((ji26) : Int).toNat a1.size), t788, t789)) else (none)) else (none)) else (none)) = some (r1, r2, r3) := by first | (rw [hji26] at H; exact H) | (simp only [hji26] at H ⊢; exact H)
      (try rw [hji26] at A23); have hji26w : (IntKind.i64.wrap (t787 + 1)) = ji26 := (i64_w _).trans hji26; replace H := iE H; rcases H with ⟨c27, H⟩ | ⟨c27, H⟩
      ·
       have c27b0 := eq_true c27; have c27b1 := decide_eq_true c27; clear c27; replace H := iE H; rcases H with ⟨c28, H⟩ | ⟨c28, H⟩
       ·
        have c28b0 := eq_true c28; have c28b1 := decide_eq_true c28; clear c28; replace H := iE H; rcases H with ⟨c29, H⟩ | ⟨c29, H⟩
        ·
         have c29b0 := eq_true c29; have c29b1 := decide_eq_true c29
         try have c29b3 : (9223372036854775807 < t787.toNat + (a1.size - (ji26).toNat)) = False := eq_false (by have h_ := c29; simp only [ByteArray.size_append, ByteArray.size_extract] at h_; (try have q0_ : t787 ≤ (a1.size : Int) := of_eq_true (by assumption)); (try have r0_ : 0 ≤ t787 := of_eq_true (by assumption)); (try have q1_ : (ji26) ≤ (a1.size : Int) := of_eq_true (by assumption)); (try have r1_ : 0 ≤ (ji26) := of_eq_true (by assumption)); omega)
         try have c29b2 : (9223372036854775807 < (a1.extract 0 (t787 : Int).toNat).size + (a1.extract ((ji26) : Int).toNat a1.size).size) = False := eq_false (Nat.not_lt.2 c29)
         simp only [Option.some.injEq, Prod.mk.injEq] at H; obtain ⟨rfl, rfl, rfl⟩ := H
         try go_wp2_with (first | ((with_reducible refine gk 46 rfl ?_); refine gC (some 34) rfl Tryz.func46 #[.pointer (some ⟨g, 0, none⟩), .int .i64 (a1.size : Int)] (spec_l00Src_pick.calls g s0_0 t776 t777 (a1.size : Int) t787 t788 t789 w0 _ (IsS100.s HI0.out) (sWg HB.out (IsS100.ge HI0.out)) A23.out) ?_; rintro e w30 ⟨rfl, hi, hb, hk⟩; refine ⟨_, rfl, ?_⟩; replace HK := aS (kT (sK HK.out) hk); replace HB := aS (hb); replace HI0 := aS (hi)))
         replace HI0 := aS (IsS100.drew HI0.out); replace HK := aS (keep_drew HK.out); replace HB := aS (below_drew1 HB.out); refine start_ (n := 9) (S := fun w' => True) (ds := []) _ (by kernel_rfl) rfl rfl trivial (fun hHeld => ?_); refine with_tabW spec_l01Spoil.tab8 spec_l01Spoil.bits8 (fun HT_ HW_ => ?_); generalize w30.drew = w31 at HI0 HK HB hHeld ⊢; refine pX 0 35 ?_; refine pX 1 36 ?_; refine pX 2 37 ?_; refine pX 3 38 ?_; refine pX 4 39 ?_; refine pX 5 40 ?_; refine pX 6 41 ?_; refine pX 7 42 ?_; refine pX 8 1 ?_; refine dX ?_
         try go_wp2
         go_ret; exact ⟨by first | rfl | (simp [errW_none, errW_some, i64_w]; done) | (simp [errW_none, errW_some] <;> rfl) | (simp only [← hji26]; first | rfl | (simp [errW_none, errW_some] <;> rfl)) | (simp [*, errW_none, errW_some] <;> rfl), IsS100.s HI0.out, sWg HB.out (IsS100.ge HI0.out), sK HK.out⟩
        ·
         exact absurd H (by simp)
       ·
        exact absurd H (by simp)
      ·
       exact absurd H (by simp)
     ·
      exact absurd H (by simp)
    ·
     exact absurd H (by simp)
  ·
   simp only [Option.some.injEq, Prod.mk.injEq] at H; obtain ⟨rfl, rfl, rfl⟩ := H; go_wp2; go_ret; exact ⟨eE, IsS100.s HI0.out, sWg HB.out (IsS100.ge HI0.out), sK HK.out⟩

def spec_DrawReadJoin.f (k : Nat) (l0 : List Int) : Option (ByteArray) := (spec_l00From.f l0).bind fun bt790 => ((spec_l03New.f bt790.1 bt790.2.1 bt790.2.2 (⟨#[101, 121, 101]⟩ : ByteArray)).bind fun bt794 => ((spec_l03TextAt.f k [(⟨bt794.1, bt794.2.1, bt794.2.2.1⟩ : S47)]).bind fun t800 => ((spec_l00Src_one.f bt790.1 bt794.2.2.2.1 bt794.2.2.2.2 3).bind fun bt801 => (if bt801.1 = true then ((spec_l01Spoil.f bt790.1 bt801.2.1 bt801.2.2 t800).bind fun bt804 => (some bt804.1)) else (some t800)))))
theorem spec_DrawReadJoin.calls (k : Nat) (A0 : Option Addr) (c0 : Nat) (l0 : List Int) (r : ByteArray) (w : World) (hr0 : Kd.C (Kd.int .u8) w A0 l0.length l0) (hc0 : l0.length ≤ c0) (h : spec_DrawReadJoin.f k l0 = some r) :
  Calls Tryz.prog 21 #[.slice A0 l0.length c0] w fun e w' => e = .returned (.string r) ∧ Below w.heap.size w w' := by
 have hu47 := Tryz.underlying47; have HR0 := aS hr0; have HC0 := aS hc0; clear hr0 hc0; have HB := aS (Below.refl w.heap.size w); have H := h; clear h; unfold spec_DrawReadJoin.f at H; replace H := bE H; obtain ⟨⟨t790, t791, t792⟩, A2, H⟩ := H; try dsimp only at H
 replace H := bE H; obtain ⟨⟨t794, t795, t796, t797, t798⟩, A3, H⟩ := H; try dsimp only at H
 replace H := bE H; obtain ⟨t800, A4, H⟩ := H; try dsimp only at H
 replace H := bE H; obtain ⟨⟨t801, t802, t803⟩, A5, H⟩ := H; try dsimp only at H
 have HC6 := aS H; clear H; go_enter Tryz.func21, Tryz.ntmps21
 go_upto_if 12 with (first | ((with_reducible refine gk 43 rfl ?_); refine gC (some 7) rfl Tryz.func43 #[.slice A0 l0.length c0] (spec_l00From.calls _ _ l0 t790 t791 t792 w _ (sW HB.out) HR0.out HC0.out A2.out) ?_; rintro e w7 ⟨g793, rfl, hi, hb, hb2⟩; refine ⟨_, rfl, ?_⟩; replace HB := aS (hb); have HI793 := aS (hi)) | ((with_reducible refine gk 56 rfl ?_); refine gC (some 9) rfl Tryz.func56 #[.pointer (some ⟨g793, 0, none⟩), .string (⟨#[101, 121, 101]⟩ : ByteArray)] (spec_l03New.calls g793 t790 t791 t792 (⟨#[101, 121, 101]⟩ : ByteArray) t794 t795 t796 t797 t798 w _ (IsS100.s HI793.out) (sWg HB.out (IsS100.ge HI793.out)) A3.out) ?_; rintro e w8 ⟨rfl, hi, hb, hk⟩; refine ⟨_, rfl, ?_⟩; replace HB := aS (hb); replace HI793 := aS (hi)) | ((with_reducible refine gt 4 rfl ?_); refine bx 4 #[.string (⟨#[]⟩ : ByteArray), .int .i64 0, .int .i64 0] 47 ?_; intro gb799 hg w9 hbox hb; have BK799 := aS (hbox); have GW799 := aS ((by rw [hg]; exact (below_size (sWg HB.out (IsS100.ge HI793.out))) : w.heap.size ≤ gb799)); have GE799 := aS ((by rw [hg]; exact (below_size (sWg HB.out (IsS100.ge HI793.out))) : w.heap.size ≤ gb799)); replace HB := aS (below_step (sWg HB.out (IsS100.ge HI793.out)) hb); have NB793_799 := aS ((by rw [hg]; exact Nat.ne_of_lt (IsS100.lt (show IsS100 w _ g793 t790 t797 t798 from IsS100.s HI793.out)) : g793 ≠ gb799)); have NB799_793 := aS ((by rw [hg]; exact Nat.ne_of_gt (IsS100.lt (show IsS100 w _ g793 t790 t797 t798 from IsS100.s HI793.out)) : gb799 ≠ g793)); replace HI793 := aS (IsS100.below (IsS100.s HI793.out) hb); clear hb hbox hg; obtain ⟨hnb10, hnc10⟩ := nD NB799_793; obtain ⟨hcz11_0, hcz11_1, hcz11_2, hfz11_0, hfz11_1, hfz11_2⟩ := z3 BK799.out) | ((with_reducible refine gk 57 rfl ?_); refine gC (some 10) rfl Tryz.func57 #[.pointer (some ⟨gb799, 0, none⟩)] (spec_l03TextAt.calls k _ 1 [(⟨t794, t795, t796⟩ : S47)] t800 _ ?side1 (Nat.le_refl _) A4.out) ?_; (case side1 => exact box_C (show (_ : World).heap[_]? = some (Obj.cells #[.string t794, .int .i64 t795, .int .i64 t796] 47 (0, 0)) from by (with_reducible repeat (first | refine blk_drewN ?_ _ | refine blk_drew ?_ | refine blk_alloc ?_ _)); refine blk_put (cs := #[.string t794, .int .i64 t795, .int .i64 0]) ?_ 2 _ rfl; (with_reducible repeat (first | refine blk_drewN ?_ _ | refine blk_drew ?_ | refine blk_alloc ?_ _)); refine blk_put (cs := #[.string t794, .int .i64 0, .int .i64 0]) ?_ 1 _ rfl; (with_reducible repeat (first | refine blk_drewN ?_ _ | refine blk_drew ?_ | refine blk_alloc ?_ _)); refine blk_put (cs := #[.string (⟨#[]⟩ : ByteArray), .int .i64 0, .int .i64 0]) ?_ 0 _ rfl; (with_reducible repeat (first | refine blk_drewN ?_ _ | refine blk_drew ?_ | refine blk_alloc ?_ _)); exact BK799.out) (k47_mk _ _ )); rintro e w12 ⟨rfl, hb⟩; refine ⟨_, rfl, ?_⟩; replace BK799 := aS (blk_below (g := gb799) (o := .cells #[.string t794, .int .i64 t795, .int .i64 t796] 47 (0, 0)) (by exact sZ BK799.out) hb); replace HB := aS (below_step (sWg HB.out (IsS100.ge HI793.out)) hb); replace HI793 := aS (IsS100.below (show IsS100 w (((w9.setCell ⟨gb799, 0, none⟩ (.string t794)).setCell ⟨gb799, 1, none⟩ (.int .i64 t795)).setCell ⟨gb799, 2, none⟩ (.int .i64 t796)) g793 t790 t797 t798 from IsS100.s HI793.out) hb)) | ((with_reducible refine gk 58 rfl ?_); refine gC (some 12) rfl Tryz.func58 #[.pointer (some ⟨g793, 0, none⟩), .int .i64 3] (spec_l00Src_one.calls g793 t790 t797 t798 3 t801 t802 t803 w _ (IsS100.s HI793.out) (sWg HB.out (IsS100.ge HI793.out)) A5.out) ?_; rintro e w13 ⟨rfl, hi, hb, hk⟩; refine ⟨_, rfl, ?_⟩; replace BK799 := aS (kB hk (sB BK799.out) NB799_793.out); replace HB := aS (hb); replace HI793 := aS (hi)))
 (try simp only [Act.put, List.setIfInBounds_toArray, List.set_cons_zero, List.set_cons_succ]); have H := HC6.out; clear HC6; replace H := iZ H; rcases H with ⟨rfl, H⟩ | ⟨rfl, H⟩
 ·
  replace H := bE H; obtain ⟨⟨t804, t805, t806⟩, A15, H⟩ := H; try dsimp only at H
  obtain rfl := Option.some.inj H
  go_wp2_with (first | ((with_reducible refine gk 59 rfl ?_); refine gC (some 15) rfl Tryz.func59 #[.pointer (some ⟨g793, 0, none⟩), .string t800] (spec_l01Spoil.calls g793 t790 t802 t803 t800 t804 t805 t806 w _ (IsS100.s HI793.out) (sWg HB.out (IsS100.ge HI793.out)) A15.out) ?_; rintro e w16 ⟨rfl, hi, hb, hk⟩; refine ⟨_, rfl, ?_⟩; replace HB := aS (hb); replace HI793 := aS (hi)))
  go_ret; exact ⟨eE, sWg HB.out (IsS100.ge HI793.out)⟩
 ·
  obtain rfl := Option.some.inj H; go_wp2; go_ret; exact ⟨eE, sWg HB.out (IsS100.ge HI793.out)⟩
def spec_l01Split.l0 : Nat → ByteArray → Int → List ByteArray → Int → Int → Option (List ByteArray)
 | 0, _, _, _, _, _ => none
 | k + 1, x0, x1, x5, x6, x7 => if x7 < (x0.size : Int) then (if 0 ≤ x7 then (if (bt x0 x7) = x1 then (if 0 ≤ x6 then (if x6 ≤ x7 then (if x7 ≤ (x0.size : Int) then (if x5.length < 8796093022208 then (spec_l01Split.l0 k x0 x1 (x5 ++ [x0.extract (x6 : Int).toNat (x7 : Int).toNat]) (wrap64 (x7 + 1)) (wrap64 (x7 + 1))) else (none)) else (none)) else (none)) else (none)) else (spec_l01Split.l0 k x0 x1 x5 x6 (wrap64 (x7 + 1)))) else (none)) else (if 0 ≤ x6 then (if x6 ≤ (x0.size : Int) then (if x5.length < 8796093022208 then (some (x5 ++ [x0.extract (x6 : Int).toNat x0.size])) else (none)) else (none)) else (none))
def spec_l01Split.f (k : Nat) (a0 : ByteArray) (a1 : Int) : Option (List ByteArray) := spec_l01Split.l0 k a0 a1 (([] : List ByteArray)) 0 0
theorem spec_l01Split.calls (k : Nat) (a0 : ByteArray) (a1 : Int) (r : List ByteArray) (w : World) (h : spec_l01Split.f k a0 a1 = some r) :
  Calls Tryz.prog 60 #[.string a0, .int .u8 a1] w fun e w' => ∃ v0_ : Value, e = .returned (v0_) ∧ Kd.R Kd.string 9 w' w.heap.size (fun _ => True) v0_ r ∧ Below w.heap.size w w' := by
 have HB := aS (Below.refl w.heap.size w); have H := h; clear h; unfold spec_l01Split.f at H; obtain ⟨y807, hy807⟩ : ∃ y_ : List ByteArray, y_ = (([] : List ByteArray)) := ⟨_, rfl⟩; replace H : (spec_l01Split.l0 k a0 a1 y807 0 0) = some r := by first | (rw [hy807]; with_reducible exact H) | (have H2_ := (Option.bind_some _ _).symm.trans H; rw [hy807]; with_reducible exact H2_) | (have H2_ := (Option.bind_some _ _).symm.trans H; with_reducible exact H2_) | with_reducible exact H | (rw [hy807]; exact H) | exact H
 have Ny807 := aS hy807; clear hy807; have H' := aS H; clear H; go_enter Tryz.func60, Tryz.ntmps60
 go_wp2_with (first | ((with_reducible refine gt 8 rfl ?_); refine Kd.R_lit Kd.string _ 9 ?hg (N := 8) ?hd (xs := ([] : List ByteArray)) (inner := []) (ok := fun _ => True) (okp := fun _ => True) ?hr ?hp (fun _ hk => hk) trivial (Below.refl _ _) (Nat.le_refl _) (by simp) ?_; (case hd => rfl); (case hg => rfl); (case hr => first | (go_simp; done) | (go_simp; rfl)); (case hp => exact (Reps.none _ _)); intro v808 w3 ho4 hb hg_ hnew_; clear hg_ hnew_; (first | rw [← Ny807.out] at ho4 | (simp only [Int.reduceToNat] at ho4; rw [← Ny807.out] at ho4)); have HO809 := aS (Kd.R_lower ho4 (below_size (sW HB.out))); replace HB := lW HB hb; clear hb ho4))
 go_loopg [5, 6, 7] k (fun kq v5 v6 v7 w' => ∃ (x5_1 : List ByteArray) (x6_1 : Int) (x7_1 : Int), v6 = .int .i64 x6_1 ∧ v7 = .int .i64 x7_1 ∧ Aside0 (spec_l01Split.l0 kq a0 a1 x5_1 x6_1 x7_1 = some r) ∧ Aside0 (kq ≤ k) ∧ Aside0 (Kd.R Kd.string 9 w' w.heap.size (fun _ => True) v5 x5_1) ∧ Aside0 (Below w.heap.size w w'))
 case atStart => exact ⟨(y807), (0), (0), eV, eV, H', ⟨Nat.le_refl _⟩, (aS (sR HO809.out)), (aS (sW HB.out))⟩
 case round =>
  clear H'; obtain ⟨x5_1, x6_1, x7_1, rfl, rfl, HA, HK1, HO_5, HB⟩ := hrel; cases gk with
  | zero => exact absurd HA.out (by simp [spec_l01Split.l0])
  | succ k1 =>
   have H := HA.out; clear HA; simp only [spec_l01Split.l0] at H; replace H := iD H; rcases H with ⟨c5b0, H⟩ | ⟨c5b0, H⟩
   ·
    replace H := iE H; rcases H with ⟨c6, H⟩ | ⟨c6, H⟩
    ·
     have c6b0 := decide_eq_true c6; clear c6; replace H := iB H; rcases H with ⟨c8b0, c8b1, H⟩ | ⟨c8, c8b0, c8b1, H⟩
     ·
      replace H := iE H; rcases H with ⟨c9, H⟩ | ⟨c9, H⟩
      ·
       have c9b0 := eq_true c9; have c9b1 := decide_eq_true c9; clear c9; replace H := iE H; rcases H with ⟨c10, H⟩ | ⟨c10, H⟩
       ·
        have c10b0 := eq_true c10; have c10b1 := decide_eq_true c10; clear c10; replace H := iE H; rcases H with ⟨c11, H⟩ | ⟨c11, H⟩
        ·
         have c11b0 := eq_true c11; have c11b1 := decide_eq_true c11; clear c11; replace H := iE H; rcases H with ⟨c12, H⟩ | ⟨c12, H⟩
         ·
          have LMc12 := aS c12; clear c12; obtain ⟨y810, hy810⟩ : ∃ y_ : List ByteArray, y_ = (x5_1 ++ [a0.extract (x6_1 : Int).toNat (x7_1 : Int).toNat]) := ⟨_, rfl⟩; replace H : (spec_l01Split.l0 k1 a0 a1 y810 (wrap64 (x7_1 + 1)) (wrap64 (x7_1 + 1))) = some r := by first | (rw [hy810]; with_reducible exact H) | (have H2_ := (Option.bind_some _ _).symm.trans H; rw [hy810]; with_reducible exact H2_) | (have H2_ := (Option.bind_some _ _).symm.trans H; with_reducible exact H2_) | with_reducible exact H | (rw [hy810]; exact H) | exact H
          have Ny810 := aS hy810; clear hy810; have H' := aS H; clear H; have p7 : 0 ≤ (x7_1 : Int) := sD; have q7 : x7_1 < (a0.size : Int) := sD; have hx7 := bt_at a0 x7_1
          go_wp2_with (first | ((with_reducible refine gate_builtin (b := .append) (xs := #[.tmp 20, .tmp 25]) rfl ?_); at_builtin; refine Kd.R_append Kd.string (w0 := w) w.heap.size rfl (.tmp 20) (.tmp 25) 78 9 (.string ⟨#[]⟩) 16 rfl Tryz.underlying78 info9 rfl (by decide) (by omega) u5 x5_1 (a0.extract (x6_1 : Int).toNat (x7_1 : Int).toNat) [.string (a0.extract (x6_1 : Int).toNat (x7_1 : Int).toNat)] (fun _ => True) (fun _ => False) rfl rfl ?aP (fun _ hk => hk.elim) ?aF ?aO ?aB ?aS ?aL ?_; (case aP => exact rfl); (case aB => exact (sW HB.out)); (case aF => exact (fun _ _ => trivial)); (case aO => exact (sR HO_5.out)); (case aS => exact (below_size (sW HB.out))); (case aL => have := LMc12.out; omega); intro v811 w13 ho hb hg hat; rw [← Ny810.out] at ho; replace HB := aS (hb); have HO812 := aS (ho); clear HO_5; clear ho hb hg hat))
          go_roundg k1
          case measure => have := HK1.out; omega
          case rel => exact ⟨(y810), (wrap64 (x7_1 + 1)), (wrap64 (x7_1 + 1)), eV, eV, H', ⟨by have := HK1.out; omega⟩, (aS (sR HO812.out)), (aS (sW HB.out))⟩
         ·
          exact absurd H (by simp)
        ·
         exact absurd H (by simp)
       ·
        exact absurd H (by simp)
      ·
       exact absurd H (by simp)
     ·
      have H' := aS H; clear H; have p7 : 0 ≤ (x7_1 : Int) := sD; have q7 : x7_1 < (a0.size : Int) := sD; have hx7 := bt_at a0 x7_1; go_wp2
      go_roundg k1
      case measure => have := HK1.out; omega
      case rel => exact ⟨(x5_1), (x6_1), (wrap64 (x7_1 + 1)), eV, eV, H', ⟨by have := HK1.out; omega⟩, (aS (sR HO_5.out)), (aS (sW HB.out))⟩
    ·
     exact absurd H (by simp)
   ·
    replace H := iE H; rcases H with ⟨c14, H⟩ | ⟨c14, H⟩
    ·
     have c14b0 := eq_true c14; have c14b1 := decide_eq_true c14; clear c14; replace H := iE H; rcases H with ⟨c15, H⟩ | ⟨c15, H⟩
     ·
      have c15b0 := eq_true c15; have c15b1 := decide_eq_true c15; clear c15; replace H := iE H; rcases H with ⟨c16, H⟩ | ⟨c16, H⟩
      ·
       have LMc16 := aS c16; clear c16; obtain ⟨y813, hy813⟩ : ∃ y_ : List ByteArray, y_ = (x5_1 ++ [a0.extract (x6_1 : Int).toNat a0.size]) := ⟨_, rfl⟩; replace H : (some y813) = some r := by first | (rw [hy813]; with_reducible exact H) | (have H2_ := (Option.bind_some _ _).symm.trans H; rw [hy813]; with_reducible exact H2_) | (have H2_ := (Option.bind_some _ _).symm.trans H; with_reducible exact H2_) | with_reducible exact H | (rw [hy813]; exact H) | exact H
       have Ny813 := aS hy813; clear hy813; obtain rfl := Option.some.inj H
       go_wp2_with (first | ((with_reducible refine gate_builtin (b := .append) (xs := #[.tmp 29, .tmp 33]) rfl ?_); at_builtin; refine Kd.R_append Kd.string (w0 := w) w.heap.size rfl (.tmp 29) (.tmp 33) 78 9 (.string ⟨#[]⟩) 16 rfl Tryz.underlying78 info9 rfl (by decide) (by omega) u5 x5_1 (a0.extract (x6_1 : Int).toNat a0.size) [.string (a0.extract (x6_1 : Int).toNat a0.size)] (fun _ => True) (fun _ => False) rfl rfl ?aP (fun _ hk => hk.elim) ?aF ?aO ?aB ?aS ?aL ?_; (case aP => exact rfl); (case aB => exact (sW HB.out)); (case aF => exact (fun _ _ => trivial)); (case aO => exact (sR HO_5.out)); (case aS => exact (below_size (sW HB.out))); (case aL => have := LMc16.out; omega); intro v814 w17 ho hb hg hat; rw [← Ny813.out] at ho; replace HB := aS (hb); have HO815 := aS (ho); clear HO_5; clear ho hb hg hat))
       go_ret; exact ⟨_, eE, sR HO815.out, sW HB.out⟩
      ·
       exact absurd H (by simp)
     ·
      exact absurd H (by simp)
    ·
     exact absurd H (by simp)

mutual
def spec_l01Number.j0 : Nat → ByteArray → ByteArray → Bool → Option (Int × Bool)
 | 0, _, _, _ => none
 | k + 1, x0, x4, x14 => if x14 = true then (if 1 ≤ (x4.size : Int) then (spec_l01Number.j1 k x0 (x4.extract 1 x4.size)) else (none)) else (spec_l01Number.j1 k x0 x4)
def spec_l01Number.j1 : Nat → ByteArray → ByteArray → Option (Int × Bool)
 | 0, _, _ => none
 | k + 1, x0, x4 => if (x4.size : Int) < 1 then (spec_l01Number.j2 k x0 x4 true) else (spec_l01Number.j2 k x0 x4 (decide ((x4.size : Int) > 18)))
def spec_l01Number.j2 : Nat → ByteArray → ByteArray → Bool → Option (Int × Bool)
 | 0, _, _, _ => none
 | k + 1, x0, x4, x24 => if x24 = true then (some (0, false)) else (spec_l01Number.l0 k x0 x4 0 0)
def spec_l01Number.l0 : Nat → ByteArray → ByteArray → Int → Int → Option (Int × Bool)
 | 0, _, _, _, _ => none
 | k + 1, x0, x4, x5, x6 => if x6 < (x4.size : Int) then (if 0 ≤ x6 then ((spec_l01Digit.f (bt x4 x6)).bind fun t816 => (if t816 = true then (spec_l01Number.l0 k x0 x4 (wrap64 ((wrap64 (10 * x5)) + (((bt x4 x6) - 48) % 256))) (wrap64 (x6 + 1))) else (some (0, false)))) else (none)) else (if (x4.size : Int) < (x0.size : Int) then ((spec_l01Dec.f k (wrap64 (-x5))).bind fun t817 => (if t817.toList = x0.toList then (some (wrap64 (-x5), true)) else (some (0, false)))) else ((spec_l01Dec.f k x5).bind fun t818 => (if t818.toList = x0.toList then (some (x5, true)) else (some (0, false)))))
end
def spec_l01Number.f (k : Nat) (a0 : ByteArray) : Option (Int × Bool) := if a0.toList = ([] : List UInt8) then (spec_l01Number.j0 k a0 a0 false) else (if 0 < (a0.size : Int) then (spec_l01Number.j0 k a0 a0 ((bt a0 0) == 45)) else (none))
theorem spec_l01Number.calls (k : Nat) (a0 : ByteArray) (r1 : Int) (r2 : Bool) (w : World) (h : spec_l01Number.f k a0 = some (r1, r2)) :
  Calls Tryz.prog 61 #[.string a0] w fun e w' => e = .returned (.tuple #[.int .i64 r1, .bool r2]) ∧ Below w.heap.size w w' := by
 have HB := aS (Below.refl w.heap.size w); have H := h; clear h; unfold spec_l01Number.f at H; have HC2 := aS H; clear H; go_enter Tryz.func61, Tryz.ntmps61
 go_upto_region 2 with (fail)
 go_cut [14] (fun v14 wc => ∃ (kq : Nat) (x14_1 : Bool), v14 = .bool x14_1 ∧ Aside0 (spec_l01Number.j0 kq a0 a0 x14_1 = some (r1, r2)) ∧ Aside0 (kq ≤ k) ∧ Aside0 (Below w.heap.size w wc))
 case first =>
  have H := HC2.out; clear HC2; replace H := iB H; rcases H with ⟨c3b0, c3b1, H⟩ | ⟨c3, c3b0, c3b1, H⟩
  ·
   (first | rw [c3b0] | (simp only [i64_w, i32_w]; rw [c3b0]) | (rw [c3b2]; simp only [Bool.not_false, Bool.not_true]) | rw [c3b1] | skip); have H' := aS H; clear H; go_wp2; go_meet
   case rel => exact ⟨_, (false), eV, H', jL0, (aS (sW HB.out))⟩
  ·
   (first | rw [c3b0] | (simp only [i64_w, i32_w]; rw [c3b0]) | (rw [c3b2]; simp only [Bool.not_false, Bool.not_true]) | rw [c3b1] | skip); replace H := iE H; rcases H with ⟨c4, H⟩ | ⟨c4, H⟩
   ·
    have c4b0 := decide_eq_true c4; have c4b1 : decide (0 < a0.size) = true := decide_eq_true (by omega); clear c4; have H' := aS H; clear H; have p5 : 0 ≤ (0 : Int) := (by omega); have q5 : 0 < a0.size := (by have : (0 : Int) < (a0.size : Int) := sD; omega); have hx5 : ∀ h : 0 < a0.size, ((a0[0]'h).toNat : Int) = bt a0 0 := bt_at a0 0; clear p5; have qi5 : (0 < (a0.size : Int)) = True := eq_true (sD); go_wp2; go_meet
    case rel => exact ⟨_, (((bt a0 0) == 45)), eV, H', jL0, (aS (sW HB.out))⟩
   ·
    exact absurd H (by simp)
 case rest =>
  clear HC2; (try clear hx5); obtain ⟨kq, x14_1, rfl, HA, HJ1, HB⟩ := hcut; cases kq with
  | zero => exact absurd HA.out (by simp [spec_l01Number.j0])
  | succ kj1 =>
   have H := HA.out; clear HA; simp only [spec_l01Number.j0] at H; have HC6 := aS H; clear H
   go_upto_if 14 with (fail)
   go_cut [4] (fun v4 wc => ∃ (kq : Nat) (x4_5 : ByteArray), v4 = .string x4_5 ∧ Aside0 (spec_l01Number.j1 kq a0 x4_5 = some (r1, r2)) ∧ Aside0 (kq ≤ kj1) ∧ Aside0 (Below w.heap.size w wc))
   case first =>
    have H := HC6.out; clear HC6; replace H := iZ H; rcases H with ⟨rfl, H⟩ | ⟨rfl, H⟩
    ·
     replace H := iE H; rcases H with ⟨c8, H⟩ | ⟨c8, H⟩
     ·
      have c8b0 := eq_true c8; have c8b1 := decide_eq_true c8; clear c8; have H' := aS H; clear H; go_wp2; go_meet
      case rel => exact ⟨_, (a0.extract 1 a0.size), eV, H', (jL1 HJ1), (aS (sW HB.out))⟩
     ·
      exact absurd H (by simp)
    ·
     have H' := aS H; clear H; go_wp2; go_meet
     case rel => exact ⟨_, (a0), eV, H', (jL1 HJ1), (aS (sW HB.out))⟩
   case rest =>
    clear HC6; (try clear hx5); obtain ⟨kq, x4_5, rfl, HA, HJ5, HB⟩ := hcut; cases kq with
    | zero => exact absurd HA.out (by simp [spec_l01Number.j1])
    | succ kj5 =>
     have H := HA.out; clear HA; simp only [spec_l01Number.j1] at H; have HC9 := aS H; clear H
     go_upto_region 4 with (fail)
     go_cut [24] (fun v24 wc => ∃ (kq : Nat) (x24_8 : Bool), v24 = .bool x24_8 ∧ Aside0 (spec_l01Number.j2 kq a0 x4_5 x24_8 = some (r1, r2)) ∧ Aside0 (kq ≤ kj5) ∧ Aside0 (Below w.heap.size w wc))
     case first =>
      have H := HC9.out; clear HC9; replace H := iE H; rcases H with ⟨c10, H⟩ | ⟨c10, H⟩
      ·
       have c10b0 := decide_eq_true c10; have c10b1 : decide (x4_5.size < 1) = true := decide_eq_true (by omega); clear c10; (first | rw [c10b0] | (simp only [i64_w, i32_w]; rw [c10b0]) | (rw [c10b2]; simp only [Bool.not_false, Bool.not_true]) | rw [c10b1] | skip); have H' := aS H; clear H; go_wp2; go_meet
       case rel => exact ⟨_, (true), eV, H', (jL2 HJ1 HJ5), (aS (sW HB.out))⟩
      ·
       have c10b0 := decide_eq_false c10; have c10b1 : decide (x4_5.size < 1) = false := decide_eq_false (by omega); clear c10; (first | rw [c10b0] | (simp only [i64_w, i32_w]; rw [c10b0]) | (rw [c10b2]; simp only [Bool.not_false, Bool.not_true]) | rw [c10b1] | skip); have H' := aS H; clear H; go_wp2; go_meet
       case rel => exact ⟨_, (decide ((x4_5.size : Int) > 18)), eV, H', (jL2 HJ1 HJ5), (aS (sW HB.out))⟩
     case rest =>
      clear HC9; (try clear hx5); obtain ⟨kq, x24_8, rfl, HA, HJ8, HB⟩ := hcut; cases kq with
      | zero => exact absurd HA.out (by simp [spec_l01Number.j2])
      | succ kj8 =>
       have H := HA.out; clear HA; simp only [spec_l01Number.j2] at H; replace H := iZ H; rcases H with ⟨rfl, H⟩ | ⟨rfl, H⟩
       ·
        simp only [Option.some.injEq, Prod.mk.injEq] at H; obtain ⟨rfl, rfl⟩ := H; go_wp2
        go_ret2
        exact ⟨eE, sW HB.out⟩
       ·
        have H' := aS H; clear H; go_wp2
        go_loopg [5, 6] kj8 (fun kq v5 v6 w' => ∃ (x5_4 : Int) (x6_4 : Int), v5 = .int .i64 x5_4 ∧ v6 = .int .i64 x6_4 ∧ Aside0 (spec_l01Number.l0 kq a0 x4_5 x5_4 x6_4 = some (r1, r2)) ∧ Aside0 (kq ≤ kj8) ∧ Aside0 (Below w.heap.size w w'))
        case atStart => exact ⟨(0), (0), eV, eV, H', ⟨Nat.le_refl _⟩, (aS (sW HB.out))⟩
        case round =>
         clear H'; (try clear hx5); obtain ⟨x5_4, x6_4, rfl, rfl, HA, HK4, HB⟩ := hrel; cases gk with
         | zero => exact absurd HA.out (by simp [spec_l01Number.l0])
         | succ k4 =>
          have H := HA.out; clear HA; simp only [spec_l01Number.l0] at H; replace H := iD H; rcases H with ⟨c12b0, H⟩ | ⟨c12b0, H⟩
          ·
           replace H := iE H; rcases H with ⟨c13, H⟩ | ⟨c13, H⟩
           ·
            have c13b0 := decide_eq_true c13; clear c13; replace H := bE H; obtain ⟨t816, A15, H⟩ := H; try dsimp only at H
            have HC16 := aS H; clear H; have p14 : 0 ≤ (x6_4 : Int) := sD; have q14 : x6_4 < (x4_5.size : Int) := sD; have hx14 := bt_at x4_5 x6_4
            go_upto_if 35 with (first | ((with_reducible refine gk 88 rfl ?_); refine gC (some 34) rfl Tryz.func88 #[.int .u8 (bt x4_5 x6_4)] (spec_l01Digit.calls (bt x4_5 x6_4) t816 _ A15.out) ?_; rintro e w' ⟨rfl, ⟨nd, rfl⟩⟩; refine ⟨_, rfl, ?_⟩))
            (try simp only [Act.put, List.setIfInBounds_toArray, List.set_cons_zero, List.set_cons_succ]); have H := HC16.out; clear HC16; replace H := iZ H; rcases H with ⟨rfl, H⟩ | ⟨rfl, H⟩
            ·
             have H' := aS H; clear H; have p18 : 0 ≤ (x6_4 : Int) := sD; have q18 : x6_4 < (x4_5.size : Int) := sD; have hx18 := bt_at x4_5 x6_4; go_wp2
             go_roundg k4
             case measure => have := HJ1.out; have := HJ5.out; have := HJ8.out; have := HK4.out; omega
             case rel => exact ⟨(wrap64 ((wrap64 (10 * x5_4)) + (((bt x4_5 x6_4) - 48) % 256))), (wrap64 (x6_4 + 1)), eV, eV, H', ⟨by have := HJ1.out; have := HJ5.out; have := HJ8.out; have := HK4.out; omega⟩, (aS (sW HB.out))⟩
            ·
             simp only [Option.some.injEq, Prod.mk.injEq] at H; obtain ⟨rfl, rfl⟩ := H; go_wp2
             go_ret2
             exact ⟨eE, sW HB.out⟩
           ·
            exact absurd H (by simp)
          ·
           replace H := iE H; rcases H with ⟨c19, H⟩ | ⟨c19, H⟩
           ·
            have c19b0 := decide_eq_true c19; have c19b1 : decide (x4_5.size < a0.size) = true := decide_eq_true (Int.ofNat_lt.mp c19); clear c19; replace H := bE H; obtain ⟨t817, A20, H⟩ := H; try dsimp only at H
            have HC21 := aS H; clear H
            go_upto_if 54 with (first | ((with_reducible refine gk 87 rfl ?_); refine gC (some 52) rfl Tryz.func87 #[.int .i64 (wrap64 (-x5_4))] (spec_l01Dec.calls k4 (wrap64 (-x5_4)) t817 _ A20.out) ?_; rintro e w22 ⟨rfl, hb⟩; refine ⟨_, rfl, ?_⟩; replace HB := lW HB hb))
            (try simp only [Act.put, List.setIfInBounds_toArray, List.set_cons_zero, List.set_cons_succ]); have H := HC21.out; clear HC21; replace H := iB H; rcases H with ⟨c23b0, c23b1, H⟩ | ⟨c23, c23b0, c23b1, H⟩
            ·
             (first | rw [c23b0] | (simp only [i64_w, i32_w]; rw [c23b0]) | (rw [c23b2]; simp only [Bool.not_false, Bool.not_true]) | rw [c23b1] | skip); simp only [Option.some.injEq, Prod.mk.injEq] at H; obtain ⟨rfl, rfl⟩ := H; go_wp2
             go_ret2
             exact ⟨eE, sW HB.out⟩
            ·
             (first | rw [c23b0] | (simp only [i64_w, i32_w]; rw [c23b0]) | (rw [c23b2]; simp only [Bool.not_false, Bool.not_true]) | rw [c23b1] | skip); simp only [Option.some.injEq, Prod.mk.injEq] at H; obtain ⟨rfl, rfl⟩ := H; go_wp2
             go_ret2
             exact ⟨eE, sW HB.out⟩
           ·
            have c19b0 := decide_eq_false c19; have c19b1 : decide (x4_5.size < a0.size) = false := decide_eq_false (fun h => c19 (Int.ofNat_lt.mpr h)); clear c19; replace H := bE H; obtain ⟨t818, A24, H⟩ := H; try dsimp only at H
            have HC25 := aS H; clear H
            go_upto_if 54 with (first | ((with_reducible refine gk 87 rfl ?_); refine gC (some 52) rfl Tryz.func87 #[.int .i64 x5_4] (spec_l01Dec.calls k4 x5_4 t818 _ A24.out) ?_; rintro e w26 ⟨rfl, hb⟩; refine ⟨_, rfl, ?_⟩; replace HB := lW HB hb))
            (try simp only [Act.put, List.setIfInBounds_toArray, List.set_cons_zero, List.set_cons_succ]); have H := HC25.out; clear HC25; replace H := iB H; rcases H with ⟨c27b0, c27b1, H⟩ | ⟨c27, c27b0, c27b1, H⟩
            ·
             (first | rw [c27b0] | (simp only [i64_w, i32_w]; rw [c27b0]) | (rw [c27b2]; simp only [Bool.not_false, Bool.not_true]) | rw [c27b1] | skip); simp only [Option.some.injEq, Prod.mk.injEq] at H; obtain ⟨rfl, rfl⟩ := H; go_wp2
             go_ret2
             exact ⟨eE, sW HB.out⟩
            ·
             (first | rw [c27b0] | (simp only [i64_w, i32_w]; rw [c27b0]) | (rw [c27b2]; simp only [Bool.not_false, Bool.not_true]) | rw [c27b1] | skip); simp only [Option.some.injEq, Prod.mk.injEq] at H; obtain ⟨rfl, rfl⟩ := H; go_wp2
             go_ret2
             exact ⟨eE, sW HB.out⟩
mutual
def spec_ReadJoin.j0 : Nat → List ByteArray → Bool → Option (ByteArray × Int × Int × Bool)
 | 0, _, _ => none
 | k + 1, x4, x21 => if x21 = true then (some ((⟨#[]⟩ : ByteArray), 0, 0, false)) else (if 1 < (x4.length : Int) then ((spec_l01Split.f k (rdOf ByteArray.empty x4 1) 47).bind fun t825 => (if (t825.length : Int) = 2 then (if 1 < (t825.length : Int) then (spec_ReadJoin.j1 k x4 t825 ((rdOf ByteArray.empty t825 1).toList != ([49, 48, 48, 48] : List UInt8))) else (none)) else (spec_ReadJoin.j1 k x4 t825 true))) else (none))
def spec_ReadJoin.j1 : Nat → List ByteArray → List ByteArray → Bool → Option (ByteArray × Int × Int × Bool)
 | 0, _, _, _ => none
 | k + 1, x4, x5, x35 => if x35 = true then (some ((⟨#[]⟩ : ByteArray), 0, 0, false)) else (if 0 < (x5.length : Int) then ((spec_l01Number.f k (rdOf ByteArray.empty x5 0)).bind fun bt830 => (if 3 < (x4.length : Int) then ((spec_l01Number.f k (rdOf ByteArray.empty x4 3)).bind fun bt833 => (if 0 < (x4.length : Int) then (if bt830.2 = true then (if bt833.2 = true then ((spec_l03One.f k (rdOf ByteArray.empty x4 0) bt830.1 bt833.1).bind fun bt837 => (spec_ReadJoin.j2 k (!bt837.1) bt837.2.1 bt837.2.2.1 bt837.2.2.2)) else (spec_ReadJoin.j2 k true (rdOf ByteArray.empty x4 0) bt830.1 bt833.1)) else (spec_ReadJoin.j2 k true (rdOf ByteArray.empty x4 0) bt830.1 bt833.1)) else (none))) else (none))) else (none))
def spec_ReadJoin.j2 : Nat → Bool → ByteArray → Int → Int → Option (ByteArray × Int × Int × Bool)
 | 0, _, _, _, _ => none
 | k + 1, x66, x837000, x837001, x837002 => if x66 = true then (some ((⟨#[]⟩ : ByteArray), 0, 0, false)) else (some (x837000, x837001, x837002, true))
end
def spec_ReadJoin.f (k : Nat) (a0 : ByteArray) : Option (ByteArray × Int × Int × Bool) := (spec_l01Split.f k a0 32).bind fun t820 => (if (t820.length : Int) = 4 then (if 2 < (t820.length : Int) then (spec_ReadJoin.j0 k t820 ((rdOf ByteArray.empty t820 2).toList != ([116, 97, 107, 101, 115] : List UInt8))) else (none)) else (spec_ReadJoin.j0 k t820 true))
theorem spec_ReadJoin.calls (k : Nat) (a0 : ByteArray) (r1 : ByteArray) (r2 : Int) (r3 : Int) (r4 : Bool) (w : World) (h : spec_ReadJoin.f k a0 = some (r1, r2, r3, r4)) :
  Calls Tryz.prog 22 #[.string a0] w fun e w' => e = .returned (.tuple #[.agg #[.string r1, .int .i64 r2, .int .i64 r3], .bool r4]) ∧ Below w.heap.size w w' := by
 have hu47 := Tryz.underlying47; have HB := aS (Below.refl w.heap.size w); have H := h; clear h; unfold spec_ReadJoin.f at H; replace H := bE H; obtain ⟨t820, A2, H⟩ := H; try dsimp only at H
 have HC3 := aS H; clear H; go_enter Tryz.func22, Tryz.ntmps22
 go_upto_region 2 with (first | ((with_reducible refine gt 2 rfl ?_); refine bx 2 #[.string (⟨#[]⟩ : ByteArray), .int .i64 0, .int .i64 0] 47 ?_; intro gb819 hg w4 hbox hb; have BK819 := aS (hbox); have GW819 := aS (gW hg (sW HB.out)); have GE819 := aS (gW hg (sW HB.out)); replace HB := lW HB hb; clear hb hbox hg) | ((with_reducible refine gk 60 rfl ?_); refine gC (some 12) rfl Tryz.func60 #[.string a0, .int .u8 32] (spec_l01Split.calls k a0 32 t820 _ A2.out) ?_; rintro e w5 ⟨v821, rfl, ho0, hb⟩; refine ⟨_, rfl, ?_⟩; have HO822 := aS (Kd.R_lower ho0 (below_size (sW HB.out))); replace BK819 := lB BK819 hb; replace HB := lW HB hb))
 (try simp only [Act.put, List.setIfInBounds_toArray, List.set_cons_zero, List.set_cons_succ])
 go_cut [21] (fun v21 wc => ∃ (kq : Nat) (x21_2 : Bool), v21 = .bool x21_2 ∧ Aside0 (spec_ReadJoin.j0 kq t820 x21_2 = some (r1, r2, r3, r4)) ∧ Aside0 (kq ≤ k) ∧ Aside0 (Kd.R Kd.string 9 wc w.heap.size (fun _ => True) v821 t820) ∧ Aside0 (wc.heap[gb819]? = some (.cells #[.string (⟨#[]⟩ : ByteArray), .int .i64 0, .int .i64 0] 47 (0, 0))) ∧ Aside0 (Below w.heap.size w wc))
 case first =>
  have H := HC3.out; clear HC3; replace H := iB H; rcases H with ⟨c6b0, c6b1, H⟩ | ⟨c6, c6b0, c6b1, H⟩
  ·
   (first | rw [c6b0] | (simp only [i64_w, i32_w]; rw [c6b0]) | (rw [c6b2]; simp only [Bool.not_false, Bool.not_true]) | rw [c6b1] | skip); replace H := iE H; rcases H with ⟨c7, H⟩ | ⟨c7, H⟩
   ·
    have c7b0 := decide_eq_true c7; have c7b1 : decide (2 < t820.length) = true := decide_eq_true (by omega); clear c7; have H' := aS H; clear H; obtain ⟨Ao8, co8, eo8⟩ := Kd.R_slice HO822.out; subst eo8; have p823 : 0 ≤ (2 : Int) := (by omega); have q823 : 2 < (t820.length : Int) := sD; obtain ⟨ad823, e823, hx823_0⟩ := Kd.at_string (Kd.R_reads' HO822.out).2.2 2 p823 q823; cases e823; (try simp only [show (2 : Int).toNat = 2 from rfl, Nat.reduceMul, Nat.reduceEqDiff, Go.Addr.add, ↓reduceIte] at hx823_0); have qi823 : (2 < t820.length) = True := eq_true (by omega); (try rw [show ((2 : Int)).toNat = 2 from rfl] at hx823_0); go_wp2; go_meet
    case rel => exact ⟨_, (((rdOf ByteArray.empty t820 2).toList != ([116, 97, 107, 101, 115] : List UInt8))), eV, H', jL0, (aS (sR HO822.out)), (aS (sB BK819.out)), (aS (sW HB.out))⟩
   ·
    exact absurd H (by simp)
  ·
   (first | rw [c6b0] | (simp only [i64_w, i32_w]; rw [c6b0]) | (rw [c6b2]; simp only [Bool.not_false, Bool.not_true]) | rw [c6b1] | skip); have H' := aS H; clear H; obtain ⟨Ao9, co9, eo9⟩ := Kd.R_slice HO822.out; subst eo9; go_wp2; go_meet
   case rel => exact ⟨_, (true), eV, H', jL0, (aS (sR HO822.out)), (aS (sB BK819.out)), (aS (sW HB.out))⟩
 case rest =>
  clear HC3; (try clear hx8); (try clear hx823_0); obtain ⟨kq, x21_2, rfl, HA, HJ2, HO_4, BK819, HB⟩ := hcut; cases kq with
  | zero => exact absurd HA.out (by simp [spec_ReadJoin.j0])
  | succ kj2 =>
   have H := HA.out; clear HA; simp only [spec_ReadJoin.j0] at H; replace H := iZ H; rcases H with ⟨rfl, H⟩ | ⟨rfl, H⟩
   ·
    simp only [Option.some.injEq, Prod.mk.injEq] at H; obtain ⟨rfl, rfl, rfl, rfl⟩ := H; obtain ⟨hcz11_0, hcz11_1, hcz11_2, hfz11_0, hfz11_1, hfz11_2⟩ := z3 BK819.out; go_wp2; refine bodyPost_ret (results_ct rfl _ _ gb819 47 #[.string (⟨#[]⟩ : ByteArray), .int .i64 0, .int .i64 0] (0, 0) _ rfl (by exact sZ BK819.out) Tryz.underlying47 rfl (by kernel_rfl)) rfl ?_; exact ⟨eE, sW HB.out⟩
   ·
    replace H := iE H; rcases H with ⟨c12, H⟩ | ⟨c12, H⟩
    ·
     have c12b0 := decide_eq_true c12; have c12b1 : decide (1 < t820.length) = true := decide_eq_true (by omega); clear c12; replace H := bE H; obtain ⟨t825, A13, H⟩ := H; try dsimp only at H
     have HC14 := aS H; clear H; obtain ⟨Ao15, co15, eo15⟩ := Kd.R_slice HO_4.out; subst eo15; have p824 : 0 ≤ (1 : Int) := (by omega); have q824 : 1 < (t820.length : Int) := sD; obtain ⟨ad824, e824, hx824_0⟩ := Kd.at_string (Kd.R_reads' HO_4.out).2.2 1 p824 q824; cases e824; (try simp only [show (1 : Int).toNat = 1 from rfl, Nat.reduceMul, Nat.reduceEqDiff, Go.Addr.add, ↓reduceIte] at hx824_0); have qi824 : (1 < t820.length) = True := eq_true (by omega); (try rw [show ((1 : Int)).toNat = 1 from rfl] at hx824_0)
     go_upto_region 5 with (first | ((with_reducible refine gk 60 rfl ?_); refine gC (some 26) rfl Tryz.func60 #[.string (rdOf ByteArray.empty t820 1), .int .u8 47] (spec_l01Split.calls kj2 (rdOf ByteArray.empty t820 1) 47 t825 _ A13.out) ?_; rintro e w16 ⟨v826, rfl, ho0, hb⟩; refine ⟨_, rfl, ?_⟩; have HO827 := aS (Kd.R_lower (Kd.R_new' ho0 (Kd.R_lt (sR HO_4.out))) (below_size (sW HB.out))); replace HO_4 := aS (Kd.R_elder' (sR HO_4.out) (Kd.R_base ho0) hb); replace BK819 := lB BK819 hb; replace HB := lW HB hb))
     (try simp only [Act.put, List.setIfInBounds_toArray, List.set_cons_zero, List.set_cons_succ])
     go_cut [35] (fun v35 wc => ∃ (kq : Nat) (x35_13 : Bool), v35 = .bool x35_13 ∧ Aside0 (spec_ReadJoin.j1 kq t820 t825 x35_13 = some (r1, r2, r3, r4)) ∧ Aside0 (kq ≤ kj2) ∧ Aside0 (Kd.R Kd.string 9 wc w.heap.size (fun k_ => some k_ ≠ (v826 : Value).ownBlock) (.slice (some ad824) t820.length co15) t820) ∧ Aside0 (Kd.R Kd.string 9 wc w.heap.size (fun k_ => some k_ ≠ ((.slice (some ad824) t820.length co15) : Value).ownBlock) v826 t825) ∧ Aside0 (wc.heap[gb819]? = some (.cells #[.string (⟨#[]⟩ : ByteArray), .int .i64 0, .int .i64 0] 47 (0, 0))) ∧ Aside0 (Below w.heap.size w wc))
     case first =>
      have H := HC14.out; clear HC14; replace H := iB H; rcases H with ⟨c17b0, c17b1, H⟩ | ⟨c17, c17b0, c17b1, H⟩
      ·
       (first | rw [c17b0] | (simp only [i64_w, i32_w]; rw [c17b0]) | (rw [c17b2]; simp only [Bool.not_false, Bool.not_true]) | rw [c17b1] | skip); replace H := iE H; rcases H with ⟨c18, H⟩ | ⟨c18, H⟩
       ·
        have c18b0 := decide_eq_true c18; have c18b1 : decide (1 < t825.length) = true := decide_eq_true (by omega); clear c18; have H' := aS H; clear H; obtain ⟨Ao19, co19, eo19⟩ := Kd.R_slice HO827.out; subst eo19; have p828 : 0 ≤ (1 : Int) := (by omega); have q828 : 1 < (t825.length : Int) := sD; obtain ⟨ad828, e828, hx828_0⟩ := Kd.at_string (Kd.R_reads' HO827.out).2.2 1 p828 q828; cases e828; (try simp only [show (1 : Int).toNat = 1 from rfl, Nat.reduceMul, Nat.reduceEqDiff, Go.Addr.add, ↓reduceIte] at hx828_0); have qi828 : (1 < t825.length) = True := eq_true (by omega); (try rw [show ((1 : Int)).toNat = 1 from rfl] at hx828_0); go_wp2; go_meet
        case rel => exact ⟨_, (((rdOf ByteArray.empty t825 1).toList != ([49, 48, 48, 48] : List UInt8))), eV, H', (jL1 HJ2), (aS (sR (Kd.R_mono HO_4.out (fun _ hk => hk.2)))), (aS (sR (Kd.R_mono HO827.out (fun _ hk => hk.2)))), (aS (sB BK819.out)), (aS (sW HB.out))⟩
       ·
        exact absurd H (by simp)
      ·
       (first | rw [c17b0] | (simp only [i64_w, i32_w]; rw [c17b0]) | (rw [c17b2]; simp only [Bool.not_false, Bool.not_true]) | rw [c17b1] | skip); have H' := aS H; clear H; obtain ⟨Ao20, co20, eo20⟩ := Kd.R_slice HO827.out; subst eo20; go_wp2; go_meet
       case rel => exact ⟨_, (true), eV, H', (jL1 HJ2), (aS (sR (Kd.R_mono HO_4.out (fun _ hk => hk.2)))), (aS (sR (Kd.R_mono HO827.out (fun _ hk => hk.2)))), (aS (sB BK819.out)), (aS (sW HB.out))⟩
     case rest =>
      clear HC14; (try clear hx8); (try clear hx823_0); (try clear hx824_0); (try clear hx828_0); obtain ⟨kq, x35_13, rfl, HA, HJ13, HO_4, HO_5, BK819, HB⟩ := hcut; cases kq with
      | zero => exact absurd HA.out (by simp [spec_ReadJoin.j1])
      | succ kj13 =>
       have H := HA.out; clear HA; simp only [spec_ReadJoin.j1] at H; replace H := iZ H; rcases H with ⟨rfl, H⟩ | ⟨rfl, H⟩
       ·
        simp only [Option.some.injEq, Prod.mk.injEq] at H; obtain ⟨rfl, rfl, rfl, rfl⟩ := H; obtain ⟨hcz22_0, hcz22_1, hcz22_2, hfz22_0, hfz22_1, hfz22_2⟩ := z3 BK819.out; go_wp2; refine bodyPost_ret (results_ct rfl _ _ gb819 47 #[.string (⟨#[]⟩ : ByteArray), .int .i64 0, .int .i64 0] (0, 0) _ rfl (by exact sZ BK819.out) Tryz.underlying47 rfl (by kernel_rfl)) rfl ?_; exact ⟨eE, sW HB.out⟩
       ·
        replace H := iE H; rcases H with ⟨c23, H⟩ | ⟨c23, H⟩
        ·
         have c23b0 := decide_eq_true c23; have c23b1 : decide (0 < t825.length) = true := decide_eq_true (by omega); clear c23; replace H := bE H; obtain ⟨⟨t830, t831⟩, A24, H⟩ := H; try dsimp only at H
         replace H := iE H; rcases H with ⟨c25, H⟩ | ⟨c25, H⟩
         ·
          have c25b0 := decide_eq_true c25; have c25b1 : decide (3 < t820.length) = true := decide_eq_true (by omega); clear c25; replace H := bE H; obtain ⟨⟨t833, t834⟩, A26, H⟩ := H; try dsimp only at H
          replace H := iE H; rcases H with ⟨c27, H⟩ | ⟨c27, H⟩
          ·
           have c27b0 := decide_eq_true c27; have c27b1 : decide (0 < t820.length) = true := decide_eq_true (by omega); clear c27; have HC28 := aS H; clear H; obtain ⟨Ao29, co29, eo29⟩ := Kd.R_slice HO_5.out; subst eo29; have p829 : 0 ≤ (0 : Int) := (by omega); have q829 : 0 < (t825.length : Int) := sD; obtain ⟨ad829, e829, hx829_0⟩ := Kd.at_string (Kd.R_reads' HO_5.out).2.2 0 p829 q829; cases e829; have qi829 : (0 < t825.length) = True := eq_true (by omega); (try rw [show ((0 : Int)).toNat = 0 from rfl] at hx829_0); (try rw [Addr.add_zero'] at hx829_0)
           go_upto_region 10 with (first | ((with_reducible refine gk 61 rfl ?_); refine gC (some 41) rfl Tryz.func61 #[.string (rdOf ByteArray.empty t825 0)] (spec_l01Number.calls kj13 (rdOf ByteArray.empty t825 0) t830 t831 _ A24.out) ?_; rintro e w30 ⟨rfl, hb⟩; refine ⟨_, rfl, ?_⟩; replace HO_4 := lR HO_4 hb; replace HO_5 := lR HO_5 hb; replace BK819 := lB BK819 hb; replace HB := lW HB hb; (try clear hb); (try clear hb2); (try clear hk); (try clear hi); have p832 : 0 ≤ (3 : Int) := (by omega); have q832 : 3 < (t820.length : Int) := sD; obtain ⟨ad832, e832, hx832_0⟩ := Kd.at_string (Kd.R_reads' HO_4.out).2.2 3 p832 q832; obtain rfl : ad824 = ad832 := (by injection e832); (try simp only [show (3 : Int).toNat = 3 from rfl, Nat.reduceMul, Nat.reduceEqDiff, Go.Addr.add, ↓reduceIte] at hx832_0); have qi832 : (3 < t820.length) = True := eq_true (by omega); (try rw [show ((3 : Int)).toNat = 3 from rfl] at hx832_0)) | ((with_reducible refine gk 61 rfl ?_); refine gC (some 48) rfl Tryz.func61 #[.string (rdOf ByteArray.empty t820 3)] (spec_l01Number.calls kj13 (rdOf ByteArray.empty t820 3) t833 t834 _ A26.out) ?_; rintro e w31 ⟨rfl, hb⟩; refine ⟨_, rfl, ?_⟩; replace HO_4 := lR HO_4 hb; replace HO_5 := lR HO_5 hb; replace BK819 := lB BK819 hb; replace HB := lW HB hb; (try clear hb); (try clear hb2); (try clear hk); (try clear hi); have p835 : 0 ≤ (0 : Int) := (by omega); have q835 : 0 < (t820.length : Int) := sD; obtain ⟨ad835, e835, hx835_0⟩ := Kd.at_string (Kd.R_reads' HO_4.out).2.2 0 p835 q835; obtain rfl : ad824 = ad835 := (by injection e835); have qi835 : (0 < t820.length) = True := eq_true (by omega); (try rw [show ((0 : Int)).toNat = 0 from rfl] at hx835_0); (try rw [Addr.add_zero'] at hx835_0)) | ((with_reducible refine gt 10 rfl ?_); refine bx 10 #[.string (⟨#[]⟩ : ByteArray), .int .i64 0, .int .i64 0] 47 ?_; intro gb836 hg w32 hbox hb; replace HO_4 := lR HO_4 hb; replace HO_5 := lR HO_5 hb; have BK836 := aS (hbox); have GW836 := aS (gW hg (sW HB.out)); have GE836 := aS (gW hg (sW HB.out)); replace HB := lW HB hb; have NB819_836 := aS ((by rw [hg]; exact Nat.ne_of_lt (blk_lt (g := gb819) (o := .cells #[.string (⟨#[]⟩ : ByteArray), .int .i64 0, .int .i64 0] 47 (0, 0)) (sB BK819.out)) : gb819 ≠ gb836)); have NB836_819 := aS ((by rw [hg]; exact Nat.ne_of_gt (blk_lt (g := gb819) (o := .cells #[.string (⟨#[]⟩ : ByteArray), .int .i64 0, .int .i64 0] 47 (0, 0)) (sB BK819.out)) : gb836 ≠ gb819)); replace BK819 := lB BK819 hb; clear hb hbox hg; obtain ⟨hnb33, hnc33⟩ := nD NB836_819; obtain ⟨hcz34_0, hcz34_1, hcz34_2, hfz34_0, hfz34_1, hfz34_2⟩ := z3 BK836.out))
           (try simp only [Act.put, List.setIfInBounds_toArray, List.set_cons_zero, List.set_cons_succ])
           go_cut [66] (fun v66 wc => ∃ (kq : Nat) (x66_27 : Bool) (x837000_27 : ByteArray) (x837001_27 : Int) (x837002_27 : Int), v66 = .bool x66_27 ∧ Aside0 (spec_ReadJoin.j2 kq x66_27 x837000_27 x837001_27 x837002_27 = some (r1, r2, r3, r4)) ∧ Aside0 (kq ≤ kj13) ∧ Aside0 (wc.heap[gb819]? = some (.cells #[.string (⟨#[]⟩ : ByteArray), .int .i64 0, .int .i64 0] 47 (0, 0))) ∧ Aside0 (wc.heap[gb836]? = some (.cells #[.string x837000_27, .int .i64 x837001_27, .int .i64 x837002_27] 47 (0, 0))) ∧ Aside0 (Below w.heap.size w wc))
           case first =>
            have H := HC28.out; clear HC28; replace H := iZ H; rcases H with ⟨rfl, H⟩ | ⟨rfl, H⟩
            ·
             replace H := iZ H; rcases H with ⟨rfl, H⟩ | ⟨rfl, H⟩
             ·
              replace H := bE H; obtain ⟨⟨t837, t838, t839, t840⟩, A37, H⟩ := H; try dsimp only at H
              have H' := aS H; clear H
              go_wp2_with (first | (go_at_call 62; (with_reducible refine (spec_l03One.calls kj13 gb836 (rdOf ByteArray.empty t820 0) t830 t833 t837 t838 t839 t840 w _ ?side1 ?side2 A37.out).mono ?_); (case side1 => exact ⟨(by exact sZ BK836.out), GW836.out⟩); (case side2 => exact sW HB.out); rintro e w38 ⟨rfl, hi, hb, hk⟩; replace HO_4 := aS (Kd.R_mono (Kd.R_keep (Kd.R_types (sR (Kd.R_mono (Kd.R_far (p := ⟨gb836, 2, none⟩) (rG (g := gb836) (Kd.R_types HO_4.out BK836.out (by decide)) (fun _ hk => hk.2)) (fun _ hk => hk.2) (.int .i64 t833)) (fun _ h_ => h_.1))) (show (_ : World).heap[_]? = some (Obj.cells _ 47 (0, 0)) from by (with_reducible repeat (first | refine blk_drewN ?_ _ | refine blk_drew ?_ | refine blk_alloc ?_ _)); refine blk_put (cs := #[.string (rdOf ByteArray.empty t820 0), .int .i64 t830, .int .i64 0]) ?_ 2 _ rfl; (with_reducible repeat (first | refine blk_drewN ?_ _ | refine blk_drew ?_ | refine blk_alloc ?_ _)); refine blk_put (cs := #[.string (rdOf ByteArray.empty t820 0), .int .i64 0, .int .i64 0]) ?_ 1 _ rfl; (with_reducible repeat (first | refine blk_drewN ?_ _ | refine blk_drew ?_ | refine blk_alloc ?_ _)); refine blk_put (cs := #[.string (⟨#[]⟩ : ByteArray), .int .i64 0, .int .i64 0]) ?_ 0 _ rfl; (with_reducible repeat (first | refine blk_drewN ?_ _ | refine blk_drew ?_ | refine blk_alloc ?_ _)); exact BK836.out) (by decide)) hk (fun _ h => h.2)) (fun _ h => h.1)); replace HO_5 := aS (Kd.R_mono (Kd.R_keep (Kd.R_types (sR (Kd.R_mono (Kd.R_far (p := ⟨gb836, 2, none⟩) (rG (g := gb836) (Kd.R_types HO_5.out BK836.out (by decide)) (fun _ hk => hk.2)) (fun _ hk => hk.2) (.int .i64 t833)) (fun _ h_ => h_.1))) (show (_ : World).heap[_]? = some (Obj.cells _ 47 (0, 0)) from by (with_reducible repeat (first | refine blk_drewN ?_ _ | refine blk_drew ?_ | refine blk_alloc ?_ _)); refine blk_put (cs := #[.string (rdOf ByteArray.empty t820 0), .int .i64 t830, .int .i64 0]) ?_ 2 _ rfl; (with_reducible repeat (first | refine blk_drewN ?_ _ | refine blk_drew ?_ | refine blk_alloc ?_ _)); refine blk_put (cs := #[.string (rdOf ByteArray.empty t820 0), .int .i64 0, .int .i64 0]) ?_ 1 _ rfl; (with_reducible repeat (first | refine blk_drewN ?_ _ | refine blk_drew ?_ | refine blk_alloc ?_ _)); refine blk_put (cs := #[.string (⟨#[]⟩ : ByteArray), .int .i64 0, .int .i64 0]) ?_ 0 _ rfl; (with_reducible repeat (first | refine blk_drewN ?_ _ | refine blk_drew ?_ | refine blk_alloc ?_ _)); exact BK836.out) (by decide)) hk (fun _ h => h.2)) (fun _ h => h.1)); replace BK819 := aS (kB hk (sF BK819.out NB819_836.out) NB819_836.out); replace HB := aS (hb); replace BK836 := aS (hi.1)))
              go_meet
              case rel => exact ⟨_, (!t837), (t838), (t839), (t840), eV, H', (jL2 HJ2 HJ13), (aS (sB BK819.out)), (aS (sB BK836.out)), (aS (sW HB.out))⟩
             ·
              have H' := aS H; clear H; go_wp2; go_meet
              case rel => exact ⟨_, (true), (rdOf ByteArray.empty t820 0), (t830), (t833), eV, H', (jL2 HJ2 HJ13), (aS (sF BK819.out NB819_836.out)), (aS (sZ BK836.out)), (aS (sW HB.out))⟩
            ·
             have H' := aS H; clear H; go_wp2; go_meet
             case rel => exact ⟨_, (true), (rdOf ByteArray.empty t820 0), (t830), (t833), eV, H', (jL2 HJ2 HJ13), (aS (sF BK819.out NB819_836.out)), (aS (sZ BK836.out)), (aS (sW HB.out))⟩
           case rest =>
            clear HC28; (try clear hx8); (try clear hx823_0); (try clear hx824_0); (try clear hx828_0); (try clear hx829_0); (try clear hx832_0); (try clear hx835_0); obtain ⟨kq, x66_27, x837000_27, x837001_27, x837002_27, rfl, HA, HJ27, BK819, BK836, HB⟩ := hcut; cases kq with
            | zero => exact absurd HA.out (by simp [spec_ReadJoin.j2])
            | succ kj27 =>
             have H := HA.out; clear HA; simp only [spec_ReadJoin.j2] at H; replace H := iZ H; rcases H with ⟨rfl, H⟩ | ⟨rfl, H⟩
             ·
              simp only [Option.some.injEq, Prod.mk.injEq] at H; obtain ⟨rfl, rfl, rfl, rfl⟩ := H; obtain ⟨hnb40, hnc40⟩ := nD NB819_836; obtain ⟨hcz41_0, hcz41_1, hcz41_2, hfz41_0, hfz41_1, hfz41_2⟩ := z3 BK819.out; go_wp2; refine bodyPost_ret (results_ct rfl _ _ gb819 47 #[.string (⟨#[]⟩ : ByteArray), .int .i64 0, .int .i64 0] (0, 0) _ rfl (by exact sZ BK819.out) Tryz.underlying47 rfl (by kernel_rfl)) rfl ?_; exact ⟨eE, sW HB.out⟩
             ·
              simp only [Option.some.injEq, Prod.mk.injEq] at H; obtain ⟨rfl, rfl, rfl, rfl⟩ := H; obtain ⟨hnb42, hnc42⟩ := nD NB836_819; obtain ⟨hcz43_0, hcz43_1, hcz43_2, hfz43_0, hfz43_1, hfz43_2⟩ := z3 BK836.out; obtain ⟨hcz44_0, hcz44_1, hcz44_2, hfz44_0, hfz44_1, hfz44_2⟩ := z3 BK819.out; go_wp2; refine bodyPost_ret (results_ct rfl _ _ gb819 47 #[.string x837000_27, .int .i64 x837001_27, .int .i64 x837002_27] (0, 0) _ rfl (by exact sZ BK819.out) Tryz.underlying47 rfl (by kernel_rfl)) rfl ?_; exact ⟨eE, sW HB.out⟩
          ·
           exact absurd H (by simp)
         ·
          exact absurd H (by simp)
        ·
         exact absurd H (by simp)
    ·
     exact absurd H (by simp)

def spec_l00Same.l0 : Nat → List Int → List Int → Int → Option (Bool)
 | 0, _, _, _ => none
 | k + 1, x0, x1, x5 => if x5 < (x0.length : Int) then (if 0 ≤ x5 then (if x5 < (x1.length : Int) then (if (rd x0 x5) = (rd x1 x5) then (spec_l00Same.l0 k x0 x1 (wrap64 (x5 + 1))) else (some false)) else (none)) else (none)) else (some true)
def spec_l00Same.f (k : Nat) (l0 : List Int) (l1 : List Int) : Option (Bool) := if (l0.length : Int) = (l1.length : Int) then (spec_l00Same.l0 k l0 l1 0) else (some false)
theorem spec_l00Same.calls (k : Nat) (A0 : Option Addr) (c0 : Nat) (l0 : List Int) (A1 : Option Addr) (c1 : Nat) (l1 : List Int) (r : Bool) (w : World) (hr0 : Kd.C (Kd.int .i64) w A0 l0.length l0) (hc0 : l0.length ≤ c0) (hr1 : Kd.C (Kd.int .i64) w A1 l1.length l1) (hc1 : l1.length ≤ c1) (h : spec_l00Same.f k l0 l1 = some r) :
  Calls Tryz.prog 63 #[.slice A0 l0.length c0, .slice A1 l1.length c1] w fun e w' => e = .returned (.bool r) ∧ Drawn0 w w' := by
 have HR0 := aS hr0; have HC0 := aS hc0; clear hr0 hc0; have HR1 := aS hr1; have HC1 := aS hc1; clear hr1 hc1; have H := h; clear h; unfold spec_l00Same.f at H; replace H := iE H; rcases H with ⟨c3, H⟩ | ⟨c3, H⟩
 ·
  have c3b0 := beq_iff_eq.mpr c3; have c3b1 := bne_eq_false_iff_eq.mpr c3; have c3b2 : (l0.length == l1.length) = true := by first | simpa using c3 | (simp at c3 ⊢; omega)
  clear c3; have H' := aS H; clear H; go_enter Tryz.func63, Tryz.ntmps63; go_wp2
  repeat (go_quiet (fail); try go_wp2)
  go_loopg [5] k (fun kq v5 w' => ∃ (x5_1 : Int), v5 = .int .i64 x5_1 ∧ Aside0 (spec_l00Same.l0 kq l0 l1 x5_1 = some r) ∧ Aside0 (kq ≤ k) ∧ Drawn0 w w')
  case atStart => exact ⟨(0), eV, H', ⟨Nat.le_refl _⟩, eD⟩
  case round =>
   clear H'; obtain ⟨x5_1, rfl, HA, HK1, ⟨m1, rfl⟩⟩ := hrel; cases gk with
   | zero => exact absurd HA.out (by simp [spec_l00Same.l0])
   | succ k1 =>
    have H := HA.out; clear HA; simp only [spec_l00Same.l0] at H; replace H := iD H; rcases H with ⟨c4b0, H⟩ | ⟨c4b0, H⟩
    ·
     replace H := iE H; rcases H with ⟨c5, H⟩ | ⟨c5, H⟩
     ·
      have c5b0 := decide_eq_true c5; clear c5; replace H := iE H; rcases H with ⟨c6, H⟩ | ⟨c6, H⟩
      ·
       have c6b0 := decide_eq_true c6; clear c6; replace H := iB H; rcases H with ⟨c7b0, c7b1, H⟩ | ⟨c7, c7b0, c7b1, H⟩
       ·
        have H' := aS H; clear H; have p841 : 0 ≤ (x5_1 : Int) := sD; have q841 : x5_1 < (l0.length : Int) := sD; obtain ⟨ad841, e841, hx841_0⟩ := Kd.at_int HR0.out x5_1 p841 q841; cases e841; have p842 : 0 ≤ (x5_1 : Int) := sD; have q842 : x5_1 < (l1.length : Int) := sD; obtain ⟨ad842, e842, hx842_0⟩ := Kd.at_int HR1.out x5_1 p842 q842; cases e842; go_wp2
        repeat (go_quiet (fail); try go_wp2)
        go_roundg k1
        case measure => have := HK1.out; omega
        case rel => exact ⟨(wrap64 (x5_1 + 1)), eV, H', ⟨by have := HK1.out; omega⟩, eD⟩
       ·
        obtain rfl := Option.some.inj H; have p841 : 0 ≤ (x5_1 : Int) := sD; have q841 : x5_1 < (l0.length : Int) := sD; obtain ⟨ad841, e841, hx841_0⟩ := Kd.at_int HR0.out x5_1 p841 q841; cases e841; have p842 : 0 ≤ (x5_1 : Int) := sD; have q842 : x5_1 < (l1.length : Int) := sD; obtain ⟨ad842, e842, hx842_0⟩ := Kd.at_int HR1.out x5_1 p842 q842; cases e842; go_wp2
        repeat (go_quiet (fail); try go_wp2)
        go_ret; exact ⟨eV, eD⟩
      ·
       exact absurd H (by simp)
     ·
      exact absurd H (by simp)
    ·
     obtain rfl := Option.some.inj H; go_wp2
     repeat (go_quiet (fail); try go_wp2)
     go_ret; exact ⟨eV, eD⟩
 ·
  have c3b0 := beq_eq_false_iff_ne.mpr c3; have c3b1 := bne_iff_ne.mpr c3; have c3b2 : (l0.length == l1.length) = false := by first | simpa using c3 | (simp at c3 ⊢; omega)
  obtain rfl := Option.some.inj H; go_enter Tryz.func63, Tryz.ntmps63; go_wp2
  repeat (go_quiet (fail); try go_wp2)
  go_ret; exact ⟨eV, eD⟩
section
attribute [local go_sem high] eqA58
mutual
def spec_SameLine.j0 : Nat → Bool → List (S58) → List Int → List (S58) → List Int → Option (Bool)
 | 0, _, _, _, _, _ => none
 | k + 1, x20, x844000, x844001, x845000, x845001 => if x20 = true then (some false) else (spec_SameLine.l0 k 0 x844000 x844001 x845000 x845001)
def spec_SameLine.l0 : Nat → Int → List (S58) → List Int → List (S58) → List Int → Option (Bool)
 | 0, _, _, _, _, _ => none
 | k + 1, x5, x844000, x844001, x845000, x845001 => if x5 < (x844000.length : Int) then (if 0 ≤ x5 then (if x5 < (x845000.length : Int) then (if (!(((rd_T58 x844000 x5).f0) == ((rd_T58 x845000 x5).f0)) || (!(((rd_T58 x844000 x5).f1) == ((rd_T58 x845000 x5).f1)))) = true then (some false) else (spec_SameLine.l0 k (wrap64 (x5 + 1)) x844000 x844001 x845000 x845001)) else (none)) else (none)) else (some true)
end
def spec_SameLine.f (k : Nat) (l0_0 : List (S58)) (l0_1 : List Int) (l1_0 : List (S58)) (l1_1 : List Int) : Option (Bool) := if (l0_0.length : Int) = (l1_0.length : Int) then ((spec_l00Same.f k l0_1 l1_1).bind fun t845 => (spec_SameLine.j0 k (!t845) l0_0 l0_1 l1_0 l1_1)) else (spec_SameLine.j0 k true l0_0 l0_1 l1_0 l1_1)
theorem spec_SameLine.calls (k : Nat) (A0_0 : Option Addr) (c0_0 : Nat) (l0_0 : List (S58)) (A0_1 : Option Addr) (c0_1 : Nat) (l0_1 : List Int) (A1_0 : Option Addr) (c1_0 : Nat) (l1_0 : List (S58)) (A1_1 : Option Addr) (c1_1 : Nat) (l1_1 : List Int) (r : Bool) (w : World) (hr0_0 : Kd.C k58 w A0_0 l0_0.length l0_0) (hc0_0 : l0_0.length ≤ c0_0) (hr0_1 : Kd.C (Kd.int .i64) w A0_1 l0_1.length l0_1) (hc0_1 : l0_1.length ≤ c0_1) (hr1_0 : Kd.C k58 w A1_0 l1_0.length l1_0) (hc1_0 : l1_0.length ≤ c1_0) (hr1_1 : Kd.C (Kd.int .i64) w A1_1 l1_1.length l1_1) (hc1_1 : l1_1.length ≤ c1_1) (h : spec_SameLine.f k l0_0 l0_1 l1_0 l1_1 = some r) :
  Calls Tryz.prog 23 #[.agg #[.slice A0_0 l0_0.length c0_0, .slice A0_1 l0_1.length c0_1], .agg #[.slice A1_0 l1_0.length c1_0, .slice A1_1 l1_1.length c1_1]] w fun e w' => e = .returned (.bool r) ∧ Below w.heap.size w w' := by
 have hu28 := Tryz.underlying28; have hu58 := Tryz.underlying58; have HR0_0 := aS hr0_0; have HC0_0 := aS hc0_0; clear hr0_0 hc0_0; have HR0_1 := aS hr0_1; have HC0_1 := aS hc0_1; clear hr0_1 hc0_1; have HR1_0 := aS hr1_0; have HC1_0 := aS hc1_0; clear hr1_0 hc1_0; have HR1_1 := aS hr1_1; have HC1_1 := aS hc1_1; clear hr1_1 hc1_1; have HB := aS (Below.refl w.heap.size w); have H := h; clear h; unfold spec_SameLine.f at H; have HC3 := aS H; clear H; go_enter Tryz.func23, Tryz.ntmps23
 go_upto_region 1 with (first | ((with_reducible refine gt 2 rfl ?_); refine bx 2 #[.slice A0_0 l0_0.length c0_0, .slice A0_1 l0_1.length c0_1] 28 ?_; intro gb843 hg w4 hbox hb; have BK843 := aS (hbox); have GW843 := aS (gW hg (sW HB.out)); have GE843 := aS (gW hg (sW HB.out)); replace HB := lW HB hb; clear hb hbox hg) | ((with_reducible refine gt 3 rfl ?_); refine bx 3 #[.slice A1_0 l1_0.length c1_0, .slice A1_1 l1_1.length c1_1] 28 ?_; intro gb844 hg w5 hbox hb; have BK844 := aS (hbox); have GW844 := aS (gW hg (sW HB.out)); have GE844 := aS (gW hg (sW HB.out)); replace HB := lW HB hb; have NB843_844 := aS (nL hg (sB BK843.out)); have NB844_843 := aS (nG hg (sB BK843.out)); replace BK843 := lB BK843 hb; clear hb hbox hg) | ((with_reducible refine gR ?_); go_quiet (fail)))
 (try simp only [Act.put, List.setIfInBounds_toArray, List.set_cons_zero, List.set_cons_succ])
 go_cut [20] (fun v20 wc => ∃ (kq : Nat) (x20_2 : Bool), v20 = .bool x20_2 ∧ Aside0 (spec_SameLine.j0 kq x20_2 l0_0 l0_1 l1_0 l1_1 = some r) ∧ Aside0 (kq ≤ k) ∧ Aside0 (wc.heap[gb843]? = some (.cells #[(.slice A0_0 l0_0.length c0_0), (.slice A0_1 l0_1.length c0_1)] 28 (0, 0))) ∧ Aside0 (wc.heap[gb844]? = some (.cells #[(.slice A1_0 l1_0.length c1_0), (.slice A1_1 l1_1.length c1_1)] 28 (0, 0))) ∧ Aside0 (Below w.heap.size w wc))
 case first =>
  have H := HC3.out; clear HC3; replace H := iE H; rcases H with ⟨c6, H⟩ | ⟨c6, H⟩
  ·
   have c6b0 := beq_iff_eq.mpr c6; have c6b1 := bne_eq_false_iff_eq.mpr c6; have c6b2 : (l0_0.length == l1_0.length) = true := by first | simpa using c6 | (simp at c6 ⊢; omega)
   clear c6; (first | rw [c6b0] | (simp only [i64_w, i32_w]; rw [c6b0]) | (rw [c6b2]; simp only [Bool.not_false, Bool.not_true]) | rw [c6b1] | skip); replace H := bE H; obtain ⟨t845, A7, H⟩ := H; try dsimp only at H
   have H' := aS H; clear H; obtain ⟨hnb8, hnc8⟩ := nD NB843_844; obtain ⟨hcz9_0, hcz9_1, hfz9_0, hfz9_1⟩ := z2 BK843.out; obtain ⟨hcz10_0, hcz10_1, hfz10_0, hfz10_1⟩ := z2 BK844.out
   go_wp2_with (first | (go_at_call 63; (with_reducible refine (spec_l00Same.calls k _ _ l0_1 _ _ l1_1 t845 _ ?side1 ?side2 ?side3 ?side4 A7.out).mono ?_); (case side1 => exact sC (Kd.C_below HR0_1.out HB.out)); (case side2 => exact HC0_1.out); (case side3 => exact sC (Kd.C_below HR1_1.out HB.out)); (case side4 => exact HC1_1.out); rintro e w' ⟨rfl, ⟨nd, rfl⟩⟩; (try exact eW)) | ((with_reducible refine gR ?_); go_quiet (first | (go_at_call 63; (with_reducible refine (spec_l00Same.calls k _ _ l0_1 _ _ l1_1 t845 _ ?side1 ?side2 ?side3 ?side4 A7.out).mono ?_); (case side1 => exact sC (Kd.C_below HR0_1.out HB.out)); (case side2 => exact HC0_1.out); (case side3 => exact sC (Kd.C_below HR1_1.out HB.out)); (case side4 => exact HC1_1.out); rintro e w' ⟨rfl, ⟨nd, rfl⟩⟩; (try exact eW)))))
   go_meet
   case rel => exact ⟨_, (!t845), eV, H', jL0, (aS (sB BK843.out)), (aS (sB BK844.out)), (aS (sW HB.out))⟩
  ·
   have c6b0 := beq_eq_false_iff_ne.mpr c6; have c6b1 := bne_iff_ne.mpr c6; have c6b2 : (l0_0.length == l1_0.length) = false := by first | simpa using c6 | (simp at c6 ⊢; omega)
   (first | rw [c6b0] | (simp only [i64_w, i32_w]; rw [c6b0]) | (rw [c6b2]; simp only [Bool.not_false, Bool.not_true]) | rw [c6b1] | skip); have H' := aS H; clear H; obtain ⟨hnb11, hnc11⟩ := nD NB843_844; obtain ⟨hcz12_0, hcz12_1, hfz12_0, hfz12_1⟩ := z2 BK843.out; obtain ⟨hcz13_0, hcz13_1, hfz13_0, hfz13_1⟩ := z2 BK844.out; go_wp2
   repeat (go_quiet (fail); try go_wp2)
   go_meet
   case rel => exact ⟨_, (true), eV, H', jL0, (aS (sB BK843.out)), (aS (sB BK844.out)), (aS (sW HB.out))⟩
 case rest =>
  clear HC3; obtain ⟨kq, x20_2, rfl, HA, HJ2, BK843, BK844, HB⟩ := hcut; cases kq with
  | zero => exact absurd HA.out (by simp [spec_SameLine.j0])
  | succ kj2 =>
   have H := HA.out; clear HA; simp only [spec_SameLine.j0] at H; replace H := iZ H; rcases H with ⟨rfl, H⟩ | ⟨rfl, H⟩
   ·
    obtain rfl := Option.some.inj H; go_wp2
    repeat (go_quiet (fail); try go_wp2)
    go_ret; exact ⟨eE, sW HB.out⟩
   ·
    have H' := aS H; clear H; go_wp2
    repeat (go_quiet (fail); try go_wp2)
    go_loopg [5] kj2 (fun kq v5 w' => ∃ (x5_2 : Int), v5 = .int .i64 x5_2 ∧ Aside0 (spec_SameLine.l0 kq x5_2 l0_0 l0_1 l1_0 l1_1 = some r) ∧ Aside0 (kq ≤ kj2) ∧ Aside0 (w'.heap[gb843]? = some (.cells #[(.slice A0_0 l0_0.length c0_0), (.slice A0_1 l0_1.length c0_1)] 28 (0, 0))) ∧ Aside0 (w'.heap[gb844]? = some (.cells #[(.slice A1_0 l1_0.length c1_0), (.slice A1_1 l1_1.length c1_1)] 28 (0, 0))) ∧ Aside0 (Below w.heap.size w w'))
    case atStart => exact ⟨(0), eV, H', ⟨Nat.le_refl _⟩, (aS (sB BK843.out)), (aS (sB BK844.out)), (aS (sW HB.out))⟩
    case round =>
     clear H'; obtain ⟨x5_2, rfl, HA, HK2, BK843, BK844, HB⟩ := hrel; cases gk with
     | zero => exact absurd HA.out (by simp [spec_SameLine.l0])
     | succ k2 =>
      have H := HA.out; clear HA; simp only [spec_SameLine.l0] at H; replace H := iD H; rcases H with ⟨c15b0, H⟩ | ⟨c15b0, H⟩
      ·
       replace H := iE H; rcases H with ⟨c16, H⟩ | ⟨c16, H⟩
       ·
        have c16b0 := decide_eq_true c16; clear c16; replace H := iE H; rcases H with ⟨c17, H⟩ | ⟨c17, H⟩
        ·
         have c17b0 := decide_eq_true c17; clear c17; replace H := iE H; rcases H with ⟨c18, H⟩ | ⟨c18, H⟩
         ·
          have c18b0 : (!(((rd_T58 l0_0 x5_2).f0) == ((rd_T58 l1_0 x5_2).f0)) || (!(((rd_T58 l0_0 x5_2).f1) == ((rd_T58 l1_0 x5_2).f1)))) = true := c18; clear c18; obtain rfl := Option.some.inj H; obtain ⟨hnb19, hnc19⟩ := nD NB843_844; obtain ⟨hcz20_0, hcz20_1, hfz20_0, hfz20_1⟩ := z2 BK843.out; have p846 : 0 ≤ (x5_2 : Int) := sD; have q846 : x5_2 < (l0_0.length : Int) := sD; obtain ⟨ad846, e846, hx846_0, hx846_1⟩ := at_T58 HR0_0.out x5_2 p846 q846; cases e846; replace hx846_0 := bC HB.out hx846_0; replace hx846_1 := bC HB.out hx846_1; obtain ⟨hcz21_0, hcz21_1, hfz21_0, hfz21_1⟩ := z2 BK844.out; have p847 : 0 ≤ (x5_2 : Int) := sD; have q847 : x5_2 < (l1_0.length : Int) := sD; obtain ⟨ad847, e847, hx847_0, hx847_1⟩ := at_T58 HR1_0.out x5_2 p847 q847; cases e847; replace hx847_0 := bC HB.out hx847_0; replace hx847_1 := bC HB.out hx847_1; go_wp2
          repeat (go_quiet (fail); try go_wp2)
          go_ret; exact ⟨eE, sW HB.out⟩
         ·
          have c18b0 : (!(((rd_T58 l0_0 x5_2).f0) == ((rd_T58 l1_0 x5_2).f0)) || (!(((rd_T58 l0_0 x5_2).f1) == ((rd_T58 l1_0 x5_2).f1)))) = false := by simpa using c18
          clear c18; have H' := aS H; clear H; obtain ⟨hnb22, hnc22⟩ := nD NB843_844; obtain ⟨hcz23_0, hcz23_1, hfz23_0, hfz23_1⟩ := z2 BK843.out; have p846 : 0 ≤ (x5_2 : Int) := sD; have q846 : x5_2 < (l0_0.length : Int) := sD; obtain ⟨ad846, e846, hx846_0, hx846_1⟩ := at_T58 HR0_0.out x5_2 p846 q846; cases e846; replace hx846_0 := bC HB.out hx846_0; replace hx846_1 := bC HB.out hx846_1; obtain ⟨hcz24_0, hcz24_1, hfz24_0, hfz24_1⟩ := z2 BK844.out; have p847 : 0 ≤ (x5_2 : Int) := sD; have q847 : x5_2 < (l1_0.length : Int) := sD; obtain ⟨ad847, e847, hx847_0, hx847_1⟩ := at_T58 HR1_0.out x5_2 p847 q847; cases e847; replace hx847_0 := bC HB.out hx847_0; replace hx847_1 := bC HB.out hx847_1; go_wp2
          repeat (go_quiet (fail); try go_wp2)
          go_roundg k2
          case measure => have := HJ2.out; have := HK2.out; omega
          case rel => exact ⟨(wrap64 (x5_2 + 1)), eV, H', ⟨by have := HJ2.out; have := HK2.out; omega⟩, (aS (sB BK843.out)), (aS (sB BK844.out)), (aS (sW HB.out))⟩
        ·
         exact absurd H (by simp)
       ·
        exact absurd H (by simp)
      ·
       obtain rfl := Option.some.inj H; obtain ⟨hnb25, hnc25⟩ := nD NB843_844; obtain ⟨hcz26_0, hcz26_1, hfz26_0, hfz26_1⟩ := z2 BK843.out; go_wp2
       repeat (go_quiet (fail); try go_wp2)
       go_ret; exact ⟨eE, sW HB.out⟩

def impl_LinePiece_64.l0 : Nat → List (S58) → List (S58) → Int → Int → Option (Bool)
 | 0, _, _, _, _ => none
 | k + 1, x0, x1, x12, x13 => if x13 < x12 then (if 0 ≤ x13 then (if x13 < (x0.length : Int) then (if x13 < (x1.length : Int) then (if (!(((rd_T58 x0 x13).f0) == ((rd_T58 x1 x13).f0)) || (!(((rd_T58 x0 x13).f1) == ((rd_T58 x1 x13).f1)))) = true then (some false) else (impl_LinePiece_64.l0 k x0 x1 x12 (wrap64 (x13 + 1)))) else (none)) else (none)) else (none)) else (some true)
def impl_LinePiece_64.f (k : Nat) (l0 : List (S58)) (l1 : List (S58)) : Option (Bool) := if (l0.length : Int) = (l1.length : Int) then (impl_LinePiece_64.l0 k l0 l1 (l0.length : Int) 0) else (some false)
theorem impl_LinePiece_64.calls (k : Nat) (A0 : Option Addr) (c0 : Nat) (l0 : List (S58)) (A1 : Option Addr) (c1 : Nat) (l1 : List (S58)) (r : Bool) (w : World) (hr0 : Kd.C k58 w A0 l0.length l0) (hc0 : l0.length ≤ c0) (hr1 : Kd.C k58 w A1 l1.length l1) (hc1 : l1.length ≤ c1) (h : impl_LinePiece_64.f k l0 l1 = some r) :
  Calls Tryz.prog 64 #[.slice A0 l0.length c0, .slice A1 l1.length c1] w fun e w' => e = .returned (.bool r) ∧ Drawn0 w w' := by
 have hu58 := Tryz.underlying58; have HR0 := aS hr0; have HC0 := aS hc0; clear hr0 hc0; have HR1 := aS hr1; have HC1 := aS hc1; clear hr1 hc1; have H := h; clear h; unfold impl_LinePiece_64.f at H; replace H := iE H; rcases H with ⟨c3, H⟩ | ⟨c3, H⟩
 ·
  have c3b0 := beq_iff_eq.mpr c3; have c3b1 := bne_eq_false_iff_eq.mpr c3; have c3b2 : (l0.length == l1.length) = true := by first | simpa using c3 | (simp at c3 ⊢; omega)
  clear c3; have H' := aS H; clear H; go_enter Tryz.func64, Tryz.ntmps64; go_wp2
  repeat (go_quiet (fail); try go_wp2)
  go_loopg [13] k (fun kq v13 w' => ∃ (x13_1 : Int), v13 = .int .i64 x13_1 ∧ Aside0 (impl_LinePiece_64.l0 kq l0 l1 (l0.length : Int) x13_1 = some r) ∧ Aside0 (kq ≤ k) ∧ Drawn0 w w')
  case atStart => exact ⟨(0), eV, H', ⟨Nat.le_refl _⟩, eD⟩
  case round =>
   clear H'; obtain ⟨x13_1, rfl, HA, HK1, ⟨m1, rfl⟩⟩ := hrel; cases gk with
   | zero => exact absurd HA.out (by simp [impl_LinePiece_64.l0])
   | succ k1 =>
    have H := HA.out; clear HA; simp only [impl_LinePiece_64.l0] at H; replace H := iD H; rcases H with ⟨c4b0, H⟩ | ⟨c4b0, H⟩
    ·
     replace H := iE H; rcases H with ⟨c5, H⟩ | ⟨c5, H⟩
     ·
      have c5b0 := decide_eq_true c5; clear c5; replace H := iE H; rcases H with ⟨c6, H⟩ | ⟨c6, H⟩
      ·
       have c6b0 := decide_eq_true c6; clear c6; replace H := iE H; rcases H with ⟨c7, H⟩ | ⟨c7, H⟩
       ·
        have c7b0 := decide_eq_true c7; clear c7; replace H := iE H; rcases H with ⟨c8, H⟩ | ⟨c8, H⟩
        ·
         have c8b0 : (!(((rd_T58 l0 x13_1).f0) == ((rd_T58 l1 x13_1).f0)) || (!(((rd_T58 l0 x13_1).f1) == ((rd_T58 l1 x13_1).f1)))) = true := c8; clear c8; obtain rfl := Option.some.inj H; have p848 : 0 ≤ (x13_1 : Int) := sD; have q848 : x13_1 < (l0.length : Int) := sD; obtain ⟨ad848, e848, hx848_0, hx848_1⟩ := at_T58 HR0.out x13_1 p848 q848; cases e848; have p849 : 0 ≤ (x13_1 : Int) := sD; have q849 : x13_1 < (l1.length : Int) := sD; obtain ⟨ad849, e849, hx849_0, hx849_1⟩ := at_T58 HR1.out x13_1 p849 q849; cases e849; go_wp2
         repeat (go_quiet (fail); try go_wp2)
         go_ret; exact ⟨eV, eD⟩
        ·
         have c8b0 : (!(((rd_T58 l0 x13_1).f0) == ((rd_T58 l1 x13_1).f0)) || (!(((rd_T58 l0 x13_1).f1) == ((rd_T58 l1 x13_1).f1)))) = false := by simpa using c8
         clear c8; have H' := aS H; clear H; have p848 : 0 ≤ (x13_1 : Int) := sD; have q848 : x13_1 < (l0.length : Int) := sD; obtain ⟨ad848, e848, hx848_0, hx848_1⟩ := at_T58 HR0.out x13_1 p848 q848; cases e848; have p849 : 0 ≤ (x13_1 : Int) := sD; have q849 : x13_1 < (l1.length : Int) := sD; obtain ⟨ad849, e849, hx849_0, hx849_1⟩ := at_T58 HR1.out x13_1 p849 q849; cases e849; go_wp2
         repeat (go_quiet (fail); try go_wp2)
         go_roundg k1
         case measure => have := HK1.out; omega
         case rel => exact ⟨(wrap64 (x13_1 + 1)), eV, H', ⟨by have := HK1.out; omega⟩, eD⟩
       ·
        exact absurd H (by simp)
      ·
       exact absurd H (by simp)
     ·
      exact absurd H (by simp)
    ·
     obtain rfl := Option.some.inj H; go_wp2
     repeat (go_quiet (fail); try go_wp2)
     go_ret; exact ⟨eV, eD⟩
 ·
  have c3b0 := beq_eq_false_iff_ne.mpr c3; have c3b1 := bne_iff_ne.mpr c3; have c3b2 : (l0.length == l1.length) = false := by first | simpa using c3 | (simp at c3 ⊢; omega)
  obtain rfl := Option.some.inj H; go_enter Tryz.func64, Tryz.ntmps64; go_wp2
  repeat (go_quiet (fail); try go_wp2)
  go_ret; exact ⟨eV, eD⟩

def slices_Equal_int64_int64.l0 : Nat → List Int → List Int → Int → Int → Option (Bool)
 | 0, _, _, _, _ => none
 | k + 1, x0, x1, x12, x13 => if x13 < x12 then (if 0 ≤ x13 then (if x13 < (x0.length : Int) then (if x13 < (x1.length : Int) then (if (rd x0 x13) = (rd x1 x13) then (slices_Equal_int64_int64.l0 k x0 x1 x12 (wrap64 (x13 + 1))) else (some false)) else (none)) else (none)) else (none)) else (some true)
def slices_Equal_int64_int64.f (k : Nat) (l0 : List Int) (l1 : List Int) : Option (Bool) := if (l0.length : Int) = (l1.length : Int) then (slices_Equal_int64_int64.l0 k l0 l1 (l0.length : Int) 0) else (some false)
theorem slices_Equal_int64_int64.calls (k : Nat) (A0 : Option Addr) (c0 : Nat) (l0 : List Int) (A1 : Option Addr) (c1 : Nat) (l1 : List Int) (r : Bool) (w : World) (hr0 : Kd.C (Kd.int .i64) w A0 l0.length l0) (hc0 : l0.length ≤ c0) (hr1 : Kd.C (Kd.int .i64) w A1 l1.length l1) (hc1 : l1.length ≤ c1) (h : slices_Equal_int64_int64.f k l0 l1 = some r) :
  Calls Tryz.prog 65 #[.slice A0 l0.length c0, .slice A1 l1.length c1] w fun e w' => e = .returned (.bool r) ∧ Drawn0 w w' := by
 have HR0 := aS hr0; have HC0 := aS hc0; clear hr0 hc0; have HR1 := aS hr1; have HC1 := aS hc1; clear hr1 hc1; have H := h; clear h; unfold slices_Equal_int64_int64.f at H; replace H := iE H; rcases H with ⟨c3, H⟩ | ⟨c3, H⟩
 ·
  have c3b0 := beq_iff_eq.mpr c3; have c3b1 := bne_eq_false_iff_eq.mpr c3; have c3b2 : (l0.length == l1.length) = true := by first | simpa using c3 | (simp at c3 ⊢; omega)
  clear c3; have H' := aS H; clear H; go_enter Tryz.func65, Tryz.ntmps65; go_wp2
  repeat (go_quiet (fail); try go_wp2)
  go_loopg [13] k (fun kq v13 w' => ∃ (x13_1 : Int), v13 = .int .i64 x13_1 ∧ Aside0 (slices_Equal_int64_int64.l0 kq l0 l1 (l0.length : Int) x13_1 = some r) ∧ Aside0 (kq ≤ k) ∧ Drawn0 w w')
  case atStart => exact ⟨(0), eV, H', ⟨Nat.le_refl _⟩, eD⟩
  case round =>
   clear H'; obtain ⟨x13_1, rfl, HA, HK1, ⟨m1, rfl⟩⟩ := hrel; cases gk with
   | zero => exact absurd HA.out (by simp [slices_Equal_int64_int64.l0])
   | succ k1 =>
    have H := HA.out; clear HA; simp only [slices_Equal_int64_int64.l0] at H; replace H := iD H; rcases H with ⟨c4b0, H⟩ | ⟨c4b0, H⟩
    ·
     replace H := iE H; rcases H with ⟨c5, H⟩ | ⟨c5, H⟩
     ·
      have c5b0 := decide_eq_true c5; clear c5; replace H := iE H; rcases H with ⟨c6, H⟩ | ⟨c6, H⟩
      ·
       have c6b0 := decide_eq_true c6; clear c6; replace H := iE H; rcases H with ⟨c7, H⟩ | ⟨c7, H⟩
       ·
        have c7b0 := decide_eq_true c7; clear c7; replace H := iB H; rcases H with ⟨c8b0, c8b1, H⟩ | ⟨c8, c8b0, c8b1, H⟩
        ·
         have H' := aS H; clear H; have p850 : 0 ≤ (x13_1 : Int) := sD; have q850 : x13_1 < (l0.length : Int) := sD; obtain ⟨ad850, e850, hx850_0⟩ := Kd.at_int HR0.out x13_1 p850 q850; cases e850; have p851 : 0 ≤ (x13_1 : Int) := sD; have q851 : x13_1 < (l1.length : Int) := sD; obtain ⟨ad851, e851, hx851_0⟩ := Kd.at_int HR1.out x13_1 p851 q851; cases e851; go_wp2
         repeat (go_quiet (fail); try go_wp2)
         go_roundg k1
         case measure => have := HK1.out; omega
         case rel => exact ⟨(wrap64 (x13_1 + 1)), eV, H', ⟨by have := HK1.out; omega⟩, eD⟩
        ·
         obtain rfl := Option.some.inj H; have p850 : 0 ≤ (x13_1 : Int) := sD; have q850 : x13_1 < (l0.length : Int) := sD; obtain ⟨ad850, e850, hx850_0⟩ := Kd.at_int HR0.out x13_1 p850 q850; cases e850; have p851 : 0 ≤ (x13_1 : Int) := sD; have q851 : x13_1 < (l1.length : Int) := sD; obtain ⟨ad851, e851, hx851_0⟩ := Kd.at_int HR1.out x13_1 p851 q851; cases e851; go_wp2
         repeat (go_quiet (fail); try go_wp2)
         go_ret; exact ⟨eV, eD⟩
       ·
        exact absurd H (by simp)
      ·
       exact absurd H (by simp)
     ·
      exact absurd H (by simp)
    ·
     obtain rfl := Option.some.inj H; go_wp2
     repeat (go_quiet (fail); try go_wp2)
     go_ret; exact ⟨eV, eD⟩
 ·
  have c3b0 := beq_eq_false_iff_ne.mpr c3; have c3b1 := bne_iff_ne.mpr c3; have c3b2 : (l0.length == l1.length) = false := by first | simpa using c3 | (simp at c3 ⊢; omega)
  obtain rfl := Option.some.inj H; go_enter Tryz.func65, Tryz.ntmps65; go_wp2
  repeat (go_quiet (fail); try go_wp2)
  go_ret; exact ⟨eV, eD⟩

def impl_SameLine.f (k : Nat) (l0_0 : List (S58)) (l0_1 : List Int) (l1_0 : List (S58)) (l1_1 : List Int) : Option (Bool) := (impl_LinePiece_64.f k l0_0 l1_0).bind fun t854 => (if t854 = true then ((slices_Equal_int64_int64.f k l0_1 l1_1).bind fun t855 => (some t855)) else (some false))
theorem impl_SameLine.calls (k : Nat) (A0_0 : Option Addr) (c0_0 : Nat) (l0_0 : List (S58)) (A0_1 : Option Addr) (c0_1 : Nat) (l0_1 : List Int) (A1_0 : Option Addr) (c1_0 : Nat) (l1_0 : List (S58)) (A1_1 : Option Addr) (c1_1 : Nat) (l1_1 : List Int) (r : Bool) (w : World) (hr0_0 : Kd.C k58 w A0_0 l0_0.length l0_0) (hc0_0 : l0_0.length ≤ c0_0) (hr0_1 : Kd.C (Kd.int .i64) w A0_1 l0_1.length l0_1) (hc0_1 : l0_1.length ≤ c0_1) (hr1_0 : Kd.C k58 w A1_0 l1_0.length l1_0) (hc1_0 : l1_0.length ≤ c1_0) (hr1_1 : Kd.C (Kd.int .i64) w A1_1 l1_1.length l1_1) (hc1_1 : l1_1.length ≤ c1_1) (h : impl_SameLine.f k l0_0 l0_1 l1_0 l1_1 = some r) :
  Calls Tryz.prog 24 #[.agg #[.slice A0_0 l0_0.length c0_0, .slice A0_1 l0_1.length c0_1], .agg #[.slice A1_0 l1_0.length c1_0, .slice A1_1 l1_1.length c1_1]] w fun e w' => e = .returned (.bool r) ∧ Below w.heap.size w w' := by
 have hu28 := Tryz.underlying28; have HR0_0 := aS hr0_0; have HC0_0 := aS hc0_0; clear hr0_0 hc0_0; have HR0_1 := aS hr0_1; have HC0_1 := aS hc0_1; clear hr0_1 hc0_1; have HR1_0 := aS hr1_0; have HC1_0 := aS hc1_0; clear hr1_0 hc1_0; have HR1_1 := aS hr1_1; have HC1_1 := aS hc1_1; clear hr1_1 hc1_1; have HB := aS (Below.refl w.heap.size w); have H := h; clear h; unfold impl_SameLine.f at H; replace H := bE H; obtain ⟨t854, A3, H⟩ := H; try dsimp only at H
 replace H := iZ H; rcases H with ⟨rfl, H⟩ | ⟨rfl, H⟩
 ·
  replace H := bE H; obtain ⟨t855, A5, H⟩ := H; try dsimp only at H
  obtain rfl := Option.some.inj H; go_enter Tryz.func24, Tryz.ntmps24
  go_wp2_with (first | ((with_reducible refine gt 2 rfl ?_); refine bx 2 #[.slice A0_0 l0_0.length c0_0, .slice A0_1 l0_1.length c0_1] 28 ?_; intro gb852 hg w6 hbox hb; have BK852 := aS (hbox); have GW852 := aS (gW hg (sW HB.out)); have GE852 := aS (gW hg (sW HB.out)); replace HB := lW HB hb; clear hb hbox hg) | ((with_reducible refine gt 3 rfl ?_); refine bx 3 #[.slice A1_0 l1_0.length c1_0, .slice A1_1 l1_1.length c1_1] 28 ?_; intro gb853 hg w7 hbox hb; have BK853 := aS (hbox); have GW853 := aS (gW hg (sW HB.out)); have GE853 := aS (gW hg (sW HB.out)); replace HB := lW HB hb; have NB852_853 := aS (nL hg (sB BK852.out)); have NB853_852 := aS (nG hg (sB BK852.out)); replace BK852 := lB BK852 hb; clear hb hbox hg; obtain ⟨hnb8, hnc8⟩ := nD NB852_853; obtain ⟨hcz9_0, hcz9_1, hfz9_0, hfz9_1⟩ := z2 BK852.out; obtain ⟨hcz10_0, hcz10_1, hfz10_0, hfz10_1⟩ := z2 BK853.out) | ((with_reducible refine gk 64 rfl ?_); refine gC (some 9) rfl Tryz.func64 #[.slice A0_0 l0_0.length c0_0, .slice A1_0 l1_0.length c1_0] (impl_LinePiece_64.calls k _ _ l0_0 _ _ l1_0 true _ (sC (Kd.C_below HR0_0.out HB.out)) HC0_0.out (sC (Kd.C_below HR1_0.out HB.out)) HC1_0.out A3.out) ?_; rintro e w' ⟨rfl, ⟨nd, rfl⟩⟩; refine ⟨_, rfl, ?_⟩) | (go_at_call 65; (with_reducible refine (slices_Equal_int64_int64.calls k _ _ l0_1 _ _ l1_1 t855 _ ?side1 ?side2 ?side3 ?side4 A5.out).mono ?_); (case side1 => exact sC (Kd.C_below HR0_1.out (sW HB.out))); (case side2 => exact HC0_1.out); (case side3 => exact sC (Kd.C_below HR1_1.out (sW HB.out))); (case side4 => exact HC1_1.out); rintro e w' ⟨rfl, ⟨nd, rfl⟩⟩))
  go_ret; exact ⟨eE, sW HB.out⟩
 ·
  obtain rfl := Option.some.inj H; go_enter Tryz.func24, Tryz.ntmps24
  go_wp2_with (first | ((with_reducible refine gt 2 rfl ?_); refine bx 2 #[.slice A0_0 l0_0.length c0_0, .slice A0_1 l0_1.length c0_1] 28 ?_; intro gb852 hg w11 hbox hb; have BK852 := aS (hbox); have GW852 := aS (gW hg (sW HB.out)); have GE852 := aS (gW hg (sW HB.out)); replace HB := lW HB hb; clear hb hbox hg) | ((with_reducible refine gt 3 rfl ?_); refine bx 3 #[.slice A1_0 l1_0.length c1_0, .slice A1_1 l1_1.length c1_1] 28 ?_; intro gb853 hg w12 hbox hb; have BK853 := aS (hbox); have GW853 := aS (gW hg (sW HB.out)); have GE853 := aS (gW hg (sW HB.out)); replace HB := lW HB hb; have NB852_853 := aS (nL hg (sB BK852.out)); have NB853_852 := aS (nG hg (sB BK852.out)); replace BK852 := lB BK852 hb; clear hb hbox hg; obtain ⟨hnb13, hnc13⟩ := nD NB852_853; obtain ⟨hcz14_0, hcz14_1, hfz14_0, hfz14_1⟩ := z2 BK852.out; obtain ⟨hcz15_0, hcz15_1, hfz15_0, hfz15_1⟩ := z2 BK853.out) | ((with_reducible refine gk 64 rfl ?_); refine gC (some 9) rfl Tryz.func64 #[.slice A0_0 l0_0.length c0_0, .slice A1_0 l1_0.length c1_0] (impl_LinePiece_64.calls k _ _ l0_0 _ _ l1_0 false _ (sC (Kd.C_below HR0_0.out HB.out)) HC0_0.out (sC (Kd.C_below HR1_0.out HB.out)) HC1_0.out A3.out) ?_; rintro e w' ⟨rfl, ⟨nd, rfl⟩⟩; refine ⟨_, rfl, ?_⟩))
  go_ret; exact ⟨eE, sW HB.out⟩

def spec_JoinText.f (k : Nat) (a0_0 : ByteArray) (a0_1 : Int) (a0_2 : Int) : Option (ByteArray) := (spec_l03One.f k a0_0 a0_1 a0_2).bind fun bt857 => (if bt857.1 = true then ((spec_l03TextAt.f k [(⟨bt857.2.1, bt857.2.2.1, bt857.2.2.2⟩ : S47)]).bind fun t861 => (some t861)) else (some (⟨#[]⟩ : ByteArray)))
theorem spec_JoinText.calls (k : Nat) (a0_0 : ByteArray) (a0_1 : Int) (a0_2 : Int) (r : ByteArray) (w : World) (h : spec_JoinText.f k a0_0 a0_1 a0_2 = some r) :
  Calls Tryz.prog 25 #[.agg #[.string a0_0, .int .i64 a0_1, .int .i64 a0_2]] w fun e w' => e = .returned (.string r) ∧ Below w.heap.size w w' := by
 have hu47 := Tryz.underlying47; have HB := aS (Below.refl w.heap.size w); have H := h; clear h; unfold spec_JoinText.f at H; replace H := bE H; obtain ⟨⟨t857, t858, t859, t860⟩, A2, H⟩ := H; try dsimp only at H
 have HC3 := aS H; clear H; go_enter Tryz.func25, Tryz.ntmps25
 go_upto_if 4 with (first | ((with_reducible refine gt 1 rfl ?_); refine bx 1 #[.string a0_0, .int .i64 a0_1, .int .i64 a0_2] 47 ?_; intro gb856 hg w4 hbox hb; have BK856 := aS (hbox); have GW856 := aS (gW hg (sW HB.out)); have GE856 := aS (gW hg (sW HB.out)); replace HB := lW HB hb; clear hb hbox hg) | ((with_reducible refine gk 62 rfl ?_); refine gC (some 3) rfl Tryz.func62 #[.pointer (some ⟨gb856, 0, none⟩)] (spec_l03One.calls k gb856 a0_0 a0_1 a0_2 t857 t858 t859 t860 w _ ?side1 (sW HB.out) A2.out) ?_; (case side1 => exact ⟨(sB BK856.out), GW856.out⟩); rintro e w5 ⟨rfl, hi, hb, hk⟩; refine ⟨_, rfl, ?_⟩; replace HB := aS (hb); replace BK856 := aS (hi.1)))
 (try simp only [Act.put, List.setIfInBounds_toArray, List.set_cons_zero, List.set_cons_succ]); have H := HC3.out; clear HC3; replace H := iZ H; rcases H with ⟨rfl, H⟩ | ⟨rfl, H⟩
 ·
  replace H := bE H; obtain ⟨t861, A7, H⟩ := H; try dsimp only at H
  obtain rfl := Option.some.inj H
  go_wp2_with (first | ((with_reducible refine gk 57 rfl ?_); refine gC (some 5) rfl Tryz.func57 #[.pointer (some ⟨gb856, 0, none⟩)] (spec_l03TextAt.calls k _ 1 [(⟨t858, t859, t860⟩ : S47)] t861 _ ?side1 (Nat.le_refl _) A7.out) ?_; (case side1 => exact box_C (show (_ : World).heap[_]? = some (Obj.cells #[.string t858, .int .i64 t859, .int .i64 t860] 47 (0, 0)) from by (with_reducible repeat (first | refine blk_drewN ?_ _ | refine blk_drew ?_ | refine blk_alloc ?_ _)); exact BK856.out) (k47_mk _ _ )); rintro e w8 ⟨rfl, hb⟩; refine ⟨_, rfl, ?_⟩; replace BK856 := lB BK856 hb; replace HB := lW HB hb))
  go_ret; exact ⟨eE, sW HB.out⟩
 ·
  obtain rfl := Option.some.inj H; go_wp2; go_ret; exact ⟨eE, sW HB.out⟩

def impl_ValidLine.f (k : Nat) (l0 : List (S47)) (l1_0 : List (S58)) (l1_1 : List Int) : Option (Bool) := (impl_ValidJoins.f k l0).bind fun t863 => (if t863 = true then ((impl_validLine.f k l0 l1_0 l1_1).bind fun t864 => (some t864)) else (some false))
theorem impl_ValidLine.calls (k : Nat) (A0 : Option Addr) (c0 : Nat) (l0 : List (S47)) (A1_0 : Option Addr) (c1_0 : Nat) (l1_0 : List (S58)) (A1_1 : Option Addr) (c1_1 : Nat) (l1_1 : List Int) (r : Bool) (w : World) (hr0 : Kd.C k47 w A0 l0.length l0) (hc0 : l0.length ≤ c0) (hr1_0 : Kd.C k58 w A1_0 l1_0.length l1_0) (hc1_0 : l1_0.length ≤ c1_0) (hr1_1 : Kd.C (Kd.int .i64) w A1_1 l1_1.length l1_1) (hc1_1 : l1_1.length ≤ c1_1) (h : impl_ValidLine.f k l0 l1_0 l1_1 = some r) :
  Calls Tryz.prog 26 #[.slice A0 l0.length c0, .agg #[.slice A1_0 l1_0.length c1_0, .slice A1_1 l1_1.length c1_1]] w fun e w' => e = .returned (.bool r) ∧ Below w.heap.size w w' := by
 have hu28 := Tryz.underlying28; have HR0 := aS hr0; have HC0 := aS hc0; clear hr0 hc0; have HR1_0 := aS hr1_0; have HC1_0 := aS hc1_0; clear hr1_0 hc1_0; have HR1_1 := aS hr1_1; have HC1_1 := aS hc1_1; clear hr1_1 hc1_1; have HB := aS (Below.refl w.heap.size w); have H := h; clear h; unfold impl_ValidLine.f at H; replace H := bE H; obtain ⟨t863, A3, H⟩ := H; try dsimp only at H
 replace H := iZ H; rcases H with ⟨rfl, H⟩ | ⟨rfl, H⟩
 ·
  replace H := bE H; obtain ⟨t864, A5, H⟩ := H; try dsimp only at H
  obtain rfl := Option.some.inj H; go_enter Tryz.func26, Tryz.ntmps26
  go_wp2_with (first | ((with_reducible refine gt 3 rfl ?_); refine bx 3 #[.slice A1_0 l1_0.length c1_0, .slice A1_1 l1_1.length c1_1] 28 ?_; intro gb862 hg w6 hbox hb; have BK862 := aS (hbox); have GW862 := aS (gW hg (sW HB.out)); have GE862 := aS (gW hg (sW HB.out)); replace HB := lW HB hb; clear hb hbox hg) | ((with_reducible refine gk 28 rfl ?_); refine gC (some 6) rfl Tryz.func28 #[.slice A0 l0.length c0] (impl_ValidJoins.calls k _ _ l0 true _ (sC (Kd.C_below HR0.out HB.out)) HC0.out A3.out) ?_; rintro e w7 ⟨rfl, hb⟩; refine ⟨_, rfl, ?_⟩; replace BK862 := lB BK862 hb; replace HB := lW HB hb; (try clear hb); (try clear hb2); (try clear hk); (try clear hi); obtain ⟨hcz8_0, hcz8_1, hfz8_0, hfz8_1⟩ := z2 BK862.out) | (go_at_call 32; (with_reducible refine (impl_validLine.calls k _ _ l0 _ _ l1_0 _ _ l1_1 t864 _ ?side1 ?side2 ?side3 ?side4 ?side5 ?side6 A5.out).mono ?_); (case side1 => exact sC (Kd.C_below HR0.out HB.out)); (case side2 => exact HC0.out); (case side3 => exact sC (Kd.C_below HR1_0.out HB.out)); (case side4 => exact HC1_0.out); (case side5 => exact sC (Kd.C_below HR1_1.out HB.out)); (case side6 => exact HC1_1.out); rintro e w9 ⟨rfl, hb⟩; replace BK862 := lB BK862 hb; replace HB := lW HB hb))
  go_ret; exact ⟨eE, sW HB.out⟩
 ·
  obtain rfl := Option.some.inj H; go_enter Tryz.func26, Tryz.ntmps26
  go_wp2_with (first | ((with_reducible refine gt 3 rfl ?_); refine bx 3 #[.slice A1_0 l1_0.length c1_0, .slice A1_1 l1_1.length c1_1] 28 ?_; intro gb862 hg w10 hbox hb; have BK862 := aS (hbox); have GW862 := aS (gW hg (sW HB.out)); have GE862 := aS (gW hg (sW HB.out)); replace HB := lW HB hb; clear hb hbox hg) | ((with_reducible refine gk 28 rfl ?_); refine gC (some 6) rfl Tryz.func28 #[.slice A0 l0.length c0] (impl_ValidJoins.calls k _ _ l0 false _ (sC (Kd.C_below HR0.out HB.out)) HC0.out A3.out) ?_; rintro e w11 ⟨rfl, hb⟩; refine ⟨_, rfl, ?_⟩; replace BK862 := lB BK862 hb; replace HB := lW HB hb))
  go_ret; exact ⟨eE, sW HB.out⟩

def spec_ValidLine.f (k : Nat) (l0 : List (S47)) (l1_0 : List (S58)) (l1_1 : List Int) : Option (Bool) := (spec_l03LineAt.f k l0 [(⟨l1_0, l1_1⟩ : S28)]).bind fun t866 => (some t866)
theorem spec_ValidLine.calls (k : Nat) (A0 : Option Addr) (c0 : Nat) (l0 : List (S47)) (A1_0 : Option Addr) (c1_0 : Nat) (l1_0 : List (S58)) (A1_1 : Option Addr) (c1_1 : Nat) (l1_1 : List Int) (r : Bool) (w : World) (hr0 : Kd.C k47 w A0 l0.length l0) (hc0 : l0.length ≤ c0) (hr1_0 : Kd.C k58 w A1_0 l1_0.length l1_0) (hc1_0 : l1_0.length ≤ c1_0) (hr1_1 : Kd.C (Kd.int .i64) w A1_1 l1_1.length l1_1) (hc1_1 : l1_1.length ≤ c1_1) (h : spec_ValidLine.f k l0 l1_0 l1_1 = some r) :
  Calls Tryz.prog 27 #[.slice A0 l0.length c0, .agg #[.slice A1_0 l1_0.length c1_0, .slice A1_1 l1_1.length c1_1]] w fun e w' => e = .returned (.bool r) ∧ Below w.heap.size w w' := by
 have hu28 := Tryz.underlying28; have HR0 := aS hr0; have HC0 := aS hc0; clear hr0 hc0; have HR1_0 := aS hr1_0; have HC1_0 := aS hc1_0; clear hr1_0 hc1_0; have HR1_1 := aS hr1_1; have HC1_1 := aS hc1_1; clear hr1_1 hc1_1; have HB := aS (Below.refl w.heap.size w); have H := h; clear h; unfold spec_ValidLine.f at H; replace H := bE H; obtain ⟨t866, A3, H⟩ := H; try dsimp only at H
 obtain rfl := Option.some.inj H; go_enter Tryz.func27, Tryz.ntmps27
 go_wp2_with (first | ((with_reducible refine gt 3 rfl ?_); refine bx 3 #[.slice A1_0 l1_0.length c1_0, .slice A1_1 l1_1.length c1_1] 28 ?_; intro gb865 hg w4 hbox hb; have BK865 := aS (hbox); have GW865 := aS (gW hg (sW HB.out)); have GE865 := aS (gW hg (sW HB.out)); replace HB := lW HB hb; clear hb hbox hg) | ((with_reducible refine gk 34 rfl ?_); refine gC (some 6) rfl Tryz.func34 #[.slice A0 l0.length c0, .pointer (some ⟨gb865, 0, none⟩)] (spec_l03LineAt.calls k _ _ l0 _ 1 [(⟨l1_0, l1_1⟩ : S28)] t866 _ (sC (Kd.C_below HR0.out HB.out)) HC0.out ?side3 (Nat.le_refl _) A3.out) ?_; (case side3 => exact box_C (show (_ : World).heap[_]? = some (Obj.cells #[.slice A1_0 l1_0.length c1_0, .slice A1_1 l1_1.length c1_1] 28 (0, 0)) from by (with_reducible repeat (first | refine blk_drewN ?_ _ | refine blk_drew ?_ | refine blk_alloc ?_ _)); exact BK865.out) (k28_mk _ _ (by exact HC1_0.out) (by repeat (first | exact (Kd.C_below HR1_0.out HB.out) | (with_reducible refine Kd.C_alloc ?_ _) | (with_reducible refine Kd.C_drewN ?_ _) | (with_reducible refine Kd.C_drew ?_))) (by exact HC1_1.out) (by repeat (first | exact (Kd.C_below HR1_1.out HB.out) | (with_reducible refine Kd.C_alloc ?_ _) | (with_reducible refine Kd.C_drewN ?_ _) | (with_reducible refine Kd.C_drew ?_))))); rintro e w5 ⟨rfl, hb⟩; refine ⟨_, rfl, ?_⟩; replace BK865 := lB BK865 hb; replace HB := lW HB hb))
 go_ret; exact ⟨eE, sW HB.out⟩
end
def spec_ValidJoins.f (k : Nat) (l0 : List (S47)) : Option (Bool) := (spec_l03Ok.f k l0).bind fun t867 => (some t867)
theorem spec_ValidJoins.calls (k : Nat) (A0 : Option Addr) (c0 : Nat) (l0 : List (S47)) (r : Bool) (w : World) (hr0 : Kd.C k47 w A0 l0.length l0) (hc0 : l0.length ≤ c0) (h : spec_ValidJoins.f k l0 = some r) :
  Calls Tryz.prog 29 #[.slice A0 l0.length c0] w fun e w' => e = .returned (.bool r) ∧ Below w.heap.size w w' := by
 have HR0 := aS hr0; have HC0 := aS hc0; clear hr0 hc0; have HB := aS (Below.refl w.heap.size w); have H := h; clear h; unfold spec_ValidJoins.f at H; replace H := bE H; obtain ⟨t867, A2, H⟩ := H; try dsimp only at H
 obtain rfl := Option.some.inj H; go_enter Tryz.func29, Tryz.ntmps29
 go_wp2_with (first | ((with_reducible refine gk 68 rfl ?_); refine gC (some 4) rfl Tryz.func68 #[.slice A0 l0.length c0] (spec_l03Ok.calls k _ _ l0 t867 _ (sC HR0.out) HC0.out A2.out) ?_; rintro e w3 ⟨rfl, hb⟩; refine ⟨_, rfl, ?_⟩; replace HB := lW HB hb))
 go_ret; exact ⟨eE, sW HB.out⟩

def impl_StrengthAt.j0 : Nat → List (S47) → Int → Bool → List (S58) → List Int → Option (Int × Int × Int)
 | 0, _, _, _, _, _ => none
 | k + 1, x0, x2, x16, x869000, x869001 => if x16 = true then (some (0, 0, 1)) else ((impl_within.f x2 0 (wrap64 ((x869001.length : Int) - 1))).bind fun t872 => (if t872 = true then ((impl_strengthAt.f k x0 x869000 x869001 x2).bind fun bt873 => (some (bt873.1, bt873.2, 0))) else (some (0, 0, 2))))
def impl_StrengthAt.f (k : Nat) (l0 : List (S47)) (l1_0 : List (S58)) (l1_1 : List Int) (a2 : Int) : Option (Int × Int × Int) := (impl_ValidJoins.f k l0).bind fun t870 => (if t870 = true then ((impl_validLine.f k l0 l1_0 l1_1).bind fun t871 => (impl_StrengthAt.j0 k l0 a2 (!t871) l1_0 l1_1)) else (impl_StrengthAt.j0 k l0 a2 true l1_0 l1_1))
theorem impl_StrengthAt.calls (k : Nat) (A0 : Option Addr) (c0 : Nat) (l0 : List (S47)) (A1_0 : Option Addr) (c1_0 : Nat) (l1_0 : List (S58)) (A1_1 : Option Addr) (c1_1 : Nat) (l1_1 : List Int) (a2 : Int) (r1 : Int) (r2 : Int) (r3 : Int) (w : World) (hr0 : Kd.C k47 w A0 l0.length l0) (hc0 : l0.length ≤ c0) (hr1_0 : Kd.C k58 w A1_0 l1_0.length l1_0) (hc1_0 : l1_0.length ≤ c1_0) (hr1_1 : Kd.C (Kd.int .i64) w A1_1 l1_1.length l1_1) (hc1_1 : l1_1.length ≤ c1_1) (h : impl_StrengthAt.f k l0 l1_0 l1_1 a2 = some (r1, r2, r3)) :
  Calls Tryz.prog 30 #[.slice A0 l0.length c0, .agg #[.slice A1_0 l1_0.length c1_0, .slice A1_1 l1_1.length c1_1], .int .i64 a2] w fun e w' => e = .returned (.tuple #[.agg #[.int .i64 r1, .int .i64 r2], .int .i64 r3]) ∧ Below w.heap.size w w' := by
 have hu28 := Tryz.underlying28; have hu32 := Tryz.underlying32; have HR0 := aS hr0; have HC0 := aS hc0; clear hr0 hc0; have HR1_0 := aS hr1_0; have HC1_0 := aS hc1_0; clear hr1_0 hc1_0; have HR1_1 := aS hr1_1; have HC1_1 := aS hc1_1; clear hr1_1 hc1_1; have HB := aS (Below.refl w.heap.size w); have H := h; clear h; unfold impl_StrengthAt.f at H; have HC4 := aS H; clear H; go_enter Tryz.func30, Tryz.ntmps30
 go_upto_region 1 with (first | ((with_reducible refine gt 4 rfl ?_); refine bx 4 #[.slice A1_0 l1_0.length c1_0, .slice A1_1 l1_1.length c1_1] 28 ?_; intro gb868 hg w5 hbox hb; have BK868 := aS (hbox); have GW868 := aS (gW hg (sW HB.out)); have GE868 := aS (gW hg (sW HB.out)); replace HB := lW HB hb; clear hb hbox hg) | ((with_reducible refine gt 6 rfl ?_); refine bx 6 #[.int .i64 0, .int .i64 0] 32 ?_; intro gb869 hg w6 hbox hb; have BK869 := aS (hbox); have GW869 := aS (gW hg (sW HB.out)); have GE869 := aS (gW hg (sW HB.out)); replace HB := lW HB hb; have NB868_869 := aS (nL hg (sB BK868.out)); have NB869_868 := aS (nG hg (sB BK868.out)); replace BK868 := lB BK868 hb; clear hb hbox hg))
 (try simp only [Act.put, List.setIfInBounds_toArray, List.set_cons_zero, List.set_cons_succ])
 go_cut [16] (fun v16 wc => ∃ (kq : Nat) (x16_3 : Bool), v16 = .bool x16_3 ∧ Aside0 (impl_StrengthAt.j0 kq l0 a2 x16_3 l1_0 l1_1 = some (r1, r2, r3)) ∧ Aside0 (kq ≤ k) ∧ Aside0 (wc.heap[gb868]? = some (.cells #[(.slice A1_0 l1_0.length c1_0), (.slice A1_1 l1_1.length c1_1)] 28 (0, 0))) ∧ Aside0 (wc.heap[gb869]? = some (.cells #[.int .i64 0, .int .i64 0] 32 (0, 0))) ∧ Aside0 (Below w.heap.size w wc))
 case first =>
  have H := HC4.out; clear HC4; replace H := bE H; obtain ⟨t870, A7, H⟩ := H; try dsimp only at H
  replace H := iZ H; rcases H with ⟨rfl, H⟩ | ⟨rfl, H⟩
  ·
   replace H := bE H; obtain ⟨t871, A9, H⟩ := H; try dsimp only at H
   have H' := aS H; clear H
   go_wp2_with (first | ((with_reducible refine gk 28 rfl ?_); refine gC (some 9) rfl Tryz.func28 #[.slice A0 l0.length c0] (impl_ValidJoins.calls k _ _ l0 true _ (sC (Kd.C_below HR0.out HB.out)) HC0.out A7.out) ?_; rintro e w10 ⟨rfl, hb⟩; refine ⟨_, rfl, ?_⟩; replace BK868 := lB BK868 hb; replace BK869 := lB BK869 hb; replace HB := lW HB hb; (try clear hb); (try clear hb2); (try clear hk); (try clear hi); obtain ⟨hnb11, hnc11⟩ := nD NB868_869; obtain ⟨hcz12_0, hcz12_1, hfz12_0, hfz12_1⟩ := z2 BK868.out) | (go_at_call 32; (with_reducible refine (impl_validLine.calls k _ _ l0 _ _ l1_0 _ _ l1_1 t871 _ ?side1 ?side2 ?side3 ?side4 ?side5 ?side6 A9.out).mono ?_); (case side1 => exact sC (Kd.C_below HR0.out HB.out)); (case side2 => exact HC0.out); (case side3 => exact sC (Kd.C_below HR1_0.out HB.out)); (case side4 => exact HC1_0.out); (case side5 => exact sC (Kd.C_below HR1_1.out HB.out)); (case side6 => exact HC1_1.out); rintro e w13 ⟨rfl, hb⟩; replace BK868 := lB BK868 hb; replace BK869 := lB BK869 hb; replace HB := lW HB hb))
   go_meet
   case rel => exact ⟨_, (!t871), eV, H', jL0, (aS (sB BK868.out)), (aS (sB BK869.out)), (aS (sW HB.out))⟩
  ·
   have H' := aS H; clear H
   go_wp2_with (first | ((with_reducible refine gk 28 rfl ?_); refine gC (some 9) rfl Tryz.func28 #[.slice A0 l0.length c0] (impl_ValidJoins.calls k _ _ l0 false _ (sC (Kd.C_below HR0.out HB.out)) HC0.out A7.out) ?_; rintro e w14 ⟨rfl, hb⟩; refine ⟨_, rfl, ?_⟩; replace BK868 := lB BK868 hb; replace BK869 := lB BK869 hb; replace HB := lW HB hb))
   go_meet
   case rel => exact ⟨_, (true), eV, H', jL0, (aS (sB BK868.out)), (aS (sB BK869.out)), (aS (sW HB.out))⟩
 case rest =>
  clear HC4; obtain ⟨kq, x16_3, rfl, HA, HJ3, BK868, BK869, HB⟩ := hcut; cases kq with
  | zero => exact absurd HA.out (by simp [impl_StrengthAt.j0])
  | succ kj3 =>
   have H := HA.out; clear HA; simp only [impl_StrengthAt.j0] at H; replace H := iZ H; rcases H with ⟨rfl, H⟩ | ⟨rfl, H⟩
   ·
    simp only [Option.some.injEq, Prod.mk.injEq] at H; obtain ⟨rfl, rfl, rfl⟩ := H; obtain ⟨hnb16, hnc16⟩ := nD NB869_868; obtain ⟨hcz17_0, hcz17_1, hfz17_0, hfz17_1⟩ := z2 BK869.out; go_wp2; refine bodyPost_ret (results_ct rfl _ _ gb869 32 #[.int .i64 0, .int .i64 0] (0, 0) _ rfl (sB (put2 BK869.out)) Tryz.underlying32 rfl (by kernel_rfl)) rfl ?_; exact ⟨eE, sW HB.out⟩
   ·
    replace H := bE H; obtain ⟨t872, A18, H⟩ := H; try dsimp only at H
    have HC19 := aS H; clear H; obtain ⟨hnb20, hnc20⟩ := nD NB868_869; obtain ⟨hcz21_0, hcz21_1, hfz21_0, hfz21_1⟩ := z2 BK868.out
    go_upto_if 24 with (first | ((with_reducible refine gk 47 rfl ?_); refine gC (some 23) rfl Tryz.func47 #[.int .i64 a2, .int .i64 0, .int .i64 (wrap64 ((l1_1.length : Int) - 1))] (impl_within.calls a2 0 (wrap64 ((l1_1.length : Int) - 1)) t872 _ A18.out) ?_; rintro e w' ⟨rfl, ⟨nd, rfl⟩⟩; refine ⟨_, rfl, ?_⟩))
    (try simp only [Act.put, List.setIfInBounds_toArray, List.set_cons_zero, List.set_cons_succ]); have H := HC19.out; clear HC19; replace H := iZ H; rcases H with ⟨rfl, H⟩ | ⟨rfl, H⟩
    ·
     replace H := bE H; obtain ⟨⟨t873, t874⟩, A23, H⟩ := H; try dsimp only at H
     simp only [Option.some.injEq, Prod.mk.injEq] at H; obtain ⟨rfl, rfl, rfl⟩ := H; obtain ⟨hnb24, hnc24⟩ := nD NB868_869; obtain ⟨hcz25_0, hcz25_1, hfz25_0, hfz25_1⟩ := z2 BK868.out
     go_wp2_with (first | ((with_reducible refine gk 40 rfl ?_); refine gC (some 29) rfl Tryz.func40 #[.slice A0 l0.length c0, .agg #[.slice A1_0 l1_0.length c1_0, .slice A1_1 l1_1.length c1_1], .int .i64 a2] (impl_strengthAt.calls kj3 _ _ l0 _ _ l1_0 _ _ l1_1 a2 t873 t874 _ (sC (Kd.C_below HR0.out HB.out)) HC0.out (sC (Kd.C_below HR1_0.out HB.out)) HC1_0.out (sC (Kd.C_below HR1_1.out HB.out)) HC1_1.out A23.out) ?_; rintro e w26 ⟨rfl, hb⟩; refine ⟨_, rfl, ?_⟩; replace BK868 := lB BK868 hb; replace BK869 := lB BK869 hb; replace HB := lW HB hb; (try clear hb); (try clear hb2); (try clear hk); (try clear hi); obtain ⟨hcz27_0, hcz27_1, hfz27_0, hfz27_1⟩ := z2 BK869.out))
     refine bodyPost_ret (results_ct rfl _ _ gb869 32 #[.int .i64 t873, .int .i64 t874] (0, 0) _ rfl (sB (put2 BK869.out)) Tryz.underlying32 rfl (by kernel_rfl)) rfl ?_; exact ⟨eE, sW HB.out⟩
    ·
     simp only [Option.some.injEq, Prod.mk.injEq] at H; obtain ⟨rfl, rfl, rfl⟩ := H; obtain ⟨hnb28, hnc28⟩ := nD NB869_868; obtain ⟨hcz29_0, hcz29_1, hfz29_0, hfz29_1⟩ := z2 BK869.out; go_wp2; refine bodyPost_ret (results_ct rfl _ _ gb869 32 #[.int .i64 0, .int .i64 0] (0, 0) _ rfl (sB (put2 BK869.out)) Tryz.underlying32 rfl (by kernel_rfl)) rfl ?_; exact ⟨eE, sW HB.out⟩
section
attribute [local go_sem high] eqA32 eqA47
mutual
def laws_FnLines.j0 : Nat → List (S47) → Int → Int → ByteArray → Int → List (S47) → Int → Bool → List (S58) → List Int → Int → Int → List (S58) → List Int → List (S58) → List Int → List (S58) → List Int → Option (Bool)
 | 0, _, _, _, _, _, _, _, _, _, _, _, _, _, _, _, _, _, _ => none
 | k + 1, x3, x6, x11, x16, x17, x23, x28, x267, x893000, x893001, x901000, x901001, x919000, x919001, x944000, x944001, x953000, x953001 => if x267 = true then (some false) else (if x28 = 0 then ((impl_LineStrength.f k x23 x944000 x944001).bind fun bt1009 => ((impl_LineStrength.f k x23 x953000 x953001).bind fun bt1013 => (if bt1009.2.2 = 0 then (if bt1013.2.2 = 0 then (if bt1013.2.1 < 1 then (some false) else (if bt1009.2.1 < 1 then (some false) else (if bt1013.2.1 > 1000 then (some false) else (if bt1009.2.1 > 1000 then (some false) else (if bt1013.1 > 1000000000 then (some false) else (if bt1009.1 > 1000000000 then (some false) else (if (wrap64 (bt1013.1 * bt1009.2.1)) > (wrap64 (bt1009.1 * bt1013.2.1)) then (some false) else (laws_FnLines.j1 k x3 x6 x11 x16 x17 x893000 x893001 x901000 x901001 x919000 x919001)))))))) else (some false)) else (some false)))) else (laws_FnLines.j1 k x3 x6 x11 x16 x17 x893000 x893001 x901000 x901001 x919000 x919001))
def laws_FnLines.j1 : Nat → List (S47) → Int → Int → ByteArray → Int → List (S58) → List Int → Int → Int → List (S58) → List Int → Option (Bool)
 | 0, _, _, _, _, _, _, _, _, _, _, _ => none
 | k + 1, x3, x6, x11, x16, x17, x893000, x893001, x901000, x901001, x919000, x919001 => if x6 = 0 then ((impl_LineStrength.f k x3 x919000 x919001).bind fun bt1017 => ((impl_LineLength.f k x3 x919000 x919001).bind fun bt1021 => (if bt1017.2.2 = 0 then (if (!(bt1017.1 == x901000) || (!(bt1017.2.1 == x901001))) = true then (laws_FnLines.j2 k x3 x16 x17 true x893000 x893001 x901000 x901001) else (if bt1021.2 = 0 then (laws_FnLines.j2 k x3 x16 x17 (bt1021.1 != x11) x893000 x893001 x901000 x901001) else (laws_FnLines.j2 k x3 x16 x17 true x893000 x893001 x901000 x901001))) else (laws_FnLines.j2 k x3 x16 x17 true x893000 x893001 x901000 x901001)))) else (some true)
def laws_FnLines.j2 : Nat → List (S47) → ByteArray → Int → Bool → List (S58) → List Int → Int → Int → Option (Bool)
 | 0, _, _, _, _, _, _, _, _ => none
 | k + 1, x3, x16, x17, x360, x893000, x893001, x901000, x901001 => if x360 = true then (some false) else (if x16.toList = ([106, 111, 105, 110] : List UInt8) then ((impl_StrengthAt.f k x3 x893000 x893001 x17).bind fun bt1023 => (if bt1023.2.2 = 0 then (some (bt1023.1 == x901000 && (bt1023.2.1 == x901001))) else (some false))) else (if x901001 = 1 then (if 0 ≤ x17 then (if x17 < (x893000.length : Int) then (some (x901000 == ((rd_T58 x893000 x17).f0))) else (none)) else (none)) else (some false)))
end
def laws_FnLines.f (k : Nat) (l0 : List Int) : Option (Bool) := (laws_f6big.f l0).bind fun t882 => (if t882 = true then (some true) else ((spec_DrawLineStrength.f k l0).bind fun bt883 => ((impl_LineStrength.f k bt883.1 bt883.2.1 bt883.2.2).bind fun bt893 => ((spec_LineStrength.f k bt883.1 bt883.2.1 bt883.2.2).bind fun bt897 => ((impl_LineLength.f k bt883.1 bt883.2.1 bt883.2.2).bind fun bt901 => ((spec_LineLength.f k bt883.1 bt883.2.1 bt883.2.2).bind fun bt903 => ((impl_WeakestPlace.f k bt883.1 bt883.2.1 bt883.2.2).bind fun bt905 => ((spec_WeakestPlace.f k bt883.1 bt883.2.1 bt883.2.2).bind fun bt908 => ((impl_TurnLine.f k bt883.1 bt883.2.1 bt883.2.2).bind fun bt911 => ((spec_TurnLine.f k bt883.1 bt883.2.1 bt883.2.2).bind fun bt919 => ((spec_DrawJoinLines.f k l0).bind fun bt927 => ((impl_JoinLines.f k bt927.1 bt927.2.1 bt927.2.2.1 bt927.2.2.2.1 bt927.2.2.2.2.1 bt927.2.2.2.2.2).bind fun bt945 => ((spec_JoinLines.f k bt927.1 bt927.2.1 bt927.2.2.1 bt927.2.2.2.1 bt927.2.2.2.2.1 bt927.2.2.2.2.2).bind fun bt953 => ((spec_DrawSameLine.f k l0).bind fun bt961 => ((spec_DrawJoinText.f k l0).bind fun bt975 => ((impl_JoinText.f k bt975.1 bt975.2.1 bt975.2.2).bind fun t979 => ((impl_ReadJoin.f k t979).bind fun bt980 => ((spec_DrawReadJoin.f k l0).bind fun t985 => ((impl_ReadJoin.f k t985).bind fun bt986 => ((spec_ReadJoin.f k t985).bind fun bt991 => (if bt893.2.2 = bt897.2.2 then (if (!(bt893.1 == bt897.1) || (!(bt893.2.1 == bt897.2.1))) = true then (laws_FnLines.j0 k bt883.1 bt893.2.2 bt903.1 bt908.1 bt908.2.1 bt927.1 bt945.2.2 true bt883.2.1 bt883.2.2 bt897.1 bt897.2.1 bt911.1 bt911.2.1 bt927.2.1 bt927.2.2.1 bt945.1 bt945.2.1) else (if bt901.2 = bt903.2 then (if bt901.1 = bt903.1 then (if bt905.2.2 = bt908.2.2 then (if bt905.1.toList = bt908.1.toList then (if bt905.2.1 = bt908.2.1 then (if bt911.2.2 = bt919.2.2 then ((spec_SameLine.f k bt911.1 bt911.2.1 bt919.1 bt919.2.1).bind fun t996 => (if t996 = true then (if bt945.2.2 = bt953.2.2 then ((spec_SameLine.f k bt945.1 bt945.2.1 bt953.1 bt953.2.1).bind fun t997 => (if t997 = true then ((impl_SameLine.f k bt961.1 bt961.2.1 bt961.2.2.1 bt961.2.2.2).bind fun t998 => ((spec_SameLine.f k bt961.1 bt961.2.1 bt961.2.2.1 bt961.2.2.2).bind fun t999 => (if (t998 != t999) = true then (laws_FnLines.j0 k bt883.1 bt893.2.2 bt903.1 bt908.1 bt908.2.1 bt927.1 bt945.2.2 true bt883.2.1 bt883.2.2 bt897.1 bt897.2.1 bt911.1 bt911.2.1 bt927.2.1 bt927.2.2.1 bt945.1 bt945.2.1) else ((spec_JoinText.f k bt975.1 bt975.2.1 bt975.2.2).bind fun t1000 => (if t979.toList = t1000.toList then (if (bt980.2.2.2 != (t979.toList != ([] : List UInt8))) = true then (laws_FnLines.j0 k bt883.1 bt893.2.2 bt903.1 bt908.1 bt908.2.1 bt927.1 bt945.2.2 true bt883.2.1 bt883.2.2 bt897.1 bt897.2.1 bt911.1 bt911.2.1 bt927.2.1 bt927.2.2.1 bt945.1 bt945.2.1) else (if bt980.2.2.2 = true then (if (!(bt980.1.toList == bt975.1.toList) || (!(bt980.2.1 == bt975.2.1) || (!(bt980.2.2.1 == bt975.2.2)))) = true then (laws_FnLines.j0 k bt883.1 bt893.2.2 bt903.1 bt908.1 bt908.2.1 bt927.1 bt945.2.2 true bt883.2.1 bt883.2.2 bt897.1 bt897.2.1 bt911.1 bt911.2.1 bt927.2.1 bt927.2.2.1 bt945.1 bt945.2.1) else (if (bt986.2.2.2 != bt991.2.2.2) = true then (laws_FnLines.j0 k bt883.1 bt893.2.2 bt903.1 bt908.1 bt908.2.1 bt927.1 bt945.2.2 true bt883.2.1 bt883.2.2 bt897.1 bt897.2.1 bt911.1 bt911.2.1 bt927.2.1 bt927.2.2.1 bt945.1 bt945.2.1) else (if (!(bt986.1.toList == bt991.1.toList) || (!(bt986.2.1 == bt991.2.1) || (!(bt986.2.2.1 == bt991.2.2.1)))) = true then (laws_FnLines.j0 k bt883.1 bt893.2.2 bt903.1 bt908.1 bt908.2.1 bt927.1 bt945.2.2 true bt883.2.1 bt883.2.2 bt897.1 bt897.2.1 bt911.1 bt911.2.1 bt927.2.1 bt927.2.2.1 bt945.1 bt945.2.1) else ((impl_ValidLine.f k bt883.1 bt883.2.1 bt883.2.2).bind fun t1001 => ((spec_ValidLine.f k bt883.1 bt883.2.1 bt883.2.2).bind fun t1002 => (if (t1001 != t1002) = true then (laws_FnLines.j0 k bt883.1 bt893.2.2 bt903.1 bt908.1 bt908.2.1 bt927.1 bt945.2.2 true bt883.2.1 bt883.2.2 bt897.1 bt897.2.1 bt911.1 bt911.2.1 bt927.2.1 bt927.2.2.1 bt945.1 bt945.2.1) else ((impl_ValidJoins.f k bt883.1).bind fun t1003 => ((spec_ValidJoins.f k bt883.1).bind fun t1004 => (laws_FnLines.j0 k bt883.1 bt893.2.2 bt903.1 bt908.1 bt908.2.1 bt927.1 bt945.2.2 (t1003 != t1004) bt883.2.1 bt883.2.2 bt897.1 bt897.2.1 bt911.1 bt911.2.1 bt927.2.1 bt927.2.2.1 bt945.1 bt945.2.1))))))))) else (if (bt986.2.2.2 != bt991.2.2.2) = true then (laws_FnLines.j0 k bt883.1 bt893.2.2 bt903.1 bt908.1 bt908.2.1 bt927.1 bt945.2.2 true bt883.2.1 bt883.2.2 bt897.1 bt897.2.1 bt911.1 bt911.2.1 bt927.2.1 bt927.2.2.1 bt945.1 bt945.2.1) else (if (!(bt986.1.toList == bt991.1.toList) || (!(bt986.2.1 == bt991.2.1) || (!(bt986.2.2.1 == bt991.2.2.1)))) = true then (laws_FnLines.j0 k bt883.1 bt893.2.2 bt903.1 bt908.1 bt908.2.1 bt927.1 bt945.2.2 true bt883.2.1 bt883.2.2 bt897.1 bt897.2.1 bt911.1 bt911.2.1 bt927.2.1 bt927.2.2.1 bt945.1 bt945.2.1) else ((impl_ValidLine.f k bt883.1 bt883.2.1 bt883.2.2).bind fun t1005 => ((spec_ValidLine.f k bt883.1 bt883.2.1 bt883.2.2).bind fun t1006 => (if (t1005 != t1006) = true then (laws_FnLines.j0 k bt883.1 bt893.2.2 bt903.1 bt908.1 bt908.2.1 bt927.1 bt945.2.2 true bt883.2.1 bt883.2.2 bt897.1 bt897.2.1 bt911.1 bt911.2.1 bt927.2.1 bt927.2.2.1 bt945.1 bt945.2.1) else ((impl_ValidJoins.f k bt883.1).bind fun t1007 => ((spec_ValidJoins.f k bt883.1).bind fun t1008 => (laws_FnLines.j0 k bt883.1 bt893.2.2 bt903.1 bt908.1 bt908.2.1 bt927.1 bt945.2.2 (t1007 != t1008) bt883.2.1 bt883.2.2 bt897.1 bt897.2.1 bt911.1 bt911.2.1 bt927.2.1 bt927.2.2.1 bt945.1 bt945.2.1)))))))))) else (laws_FnLines.j0 k bt883.1 bt893.2.2 bt903.1 bt908.1 bt908.2.1 bt927.1 bt945.2.2 true bt883.2.1 bt883.2.2 bt897.1 bt897.2.1 bt911.1 bt911.2.1 bt927.2.1 bt927.2.2.1 bt945.1 bt945.2.1)))))) else (laws_FnLines.j0 k bt883.1 bt893.2.2 bt903.1 bt908.1 bt908.2.1 bt927.1 bt945.2.2 true bt883.2.1 bt883.2.2 bt897.1 bt897.2.1 bt911.1 bt911.2.1 bt927.2.1 bt927.2.2.1 bt945.1 bt945.2.1))) else (laws_FnLines.j0 k bt883.1 bt893.2.2 bt903.1 bt908.1 bt908.2.1 bt927.1 bt945.2.2 true bt883.2.1 bt883.2.2 bt897.1 bt897.2.1 bt911.1 bt911.2.1 bt927.2.1 bt927.2.2.1 bt945.1 bt945.2.1)) else (laws_FnLines.j0 k bt883.1 bt893.2.2 bt903.1 bt908.1 bt908.2.1 bt927.1 bt945.2.2 true bt883.2.1 bt883.2.2 bt897.1 bt897.2.1 bt911.1 bt911.2.1 bt927.2.1 bt927.2.2.1 bt945.1 bt945.2.1))) else (laws_FnLines.j0 k bt883.1 bt893.2.2 bt903.1 bt908.1 bt908.2.1 bt927.1 bt945.2.2 true bt883.2.1 bt883.2.2 bt897.1 bt897.2.1 bt911.1 bt911.2.1 bt927.2.1 bt927.2.2.1 bt945.1 bt945.2.1)) else (laws_FnLines.j0 k bt883.1 bt893.2.2 bt903.1 bt908.1 bt908.2.1 bt927.1 bt945.2.2 true bt883.2.1 bt883.2.2 bt897.1 bt897.2.1 bt911.1 bt911.2.1 bt927.2.1 bt927.2.2.1 bt945.1 bt945.2.1)) else (laws_FnLines.j0 k bt883.1 bt893.2.2 bt903.1 bt908.1 bt908.2.1 bt927.1 bt945.2.2 true bt883.2.1 bt883.2.2 bt897.1 bt897.2.1 bt911.1 bt911.2.1 bt927.2.1 bt927.2.2.1 bt945.1 bt945.2.1)) else (laws_FnLines.j0 k bt883.1 bt893.2.2 bt903.1 bt908.1 bt908.2.1 bt927.1 bt945.2.2 true bt883.2.1 bt883.2.2 bt897.1 bt897.2.1 bt911.1 bt911.2.1 bt927.2.1 bt927.2.2.1 bt945.1 bt945.2.1)) else (laws_FnLines.j0 k bt883.1 bt893.2.2 bt903.1 bt908.1 bt908.2.1 bt927.1 bt945.2.2 true bt883.2.1 bt883.2.2 bt897.1 bt897.2.1 bt911.1 bt911.2.1 bt927.2.1 bt927.2.2.1 bt945.1 bt945.2.1)) else (laws_FnLines.j0 k bt883.1 bt893.2.2 bt903.1 bt908.1 bt908.2.1 bt927.1 bt945.2.2 true bt883.2.1 bt883.2.2 bt897.1 bt897.2.1 bt911.1 bt911.2.1 bt927.2.1 bt927.2.2.1 bt945.1 bt945.2.1))) else (laws_FnLines.j0 k bt883.1 bt893.2.2 bt903.1 bt908.1 bt908.2.1 bt927.1 bt945.2.2 true bt883.2.1 bt883.2.2 bt897.1 bt897.2.1 bt911.1 bt911.2.1 bt927.2.1 bt927.2.2.1 bt945.1 bt945.2.1))))))))))))))))))))))

/-- THE ONE PURE STATEMENT of laws_FnLines. -/
def laws_FnLines.Pure : Prop := ∀ (l0 : List Int), (l0.length * 1 ≤ 140737488351232 ∧ l0.length ≤ maxLen ∧ (∀ y0 ∈ l0, (Lit.int .u8 y0).wf = true)) → ∃ k, laws_FnLines.f k l0 = some true
theorem laws_FnLines.walk : True := trivial
end
end Go.Proofs.YtginmioklkcgbaaGreatDoor.QFnLines

/- What the Go functions of this law compute, each as a Lean function, and that each call comes to that answer; written by a program of this session. No condition. -/
import Derived.Test.YtginmioklkcgbaaVShn
import Derived.Test.YtginmioklkcgbaaVQFnBestJoinsx0
namespace Go.Proofs.Ytginmioklkcgbaa.QFnBestJoins
open Go.RowKit Go.Proofs.YtginmioklkcgbaaW.PrintWords Go.Proofs.YtginmioklkcgbaaW.PrintLast Go.Proofs.YtginmioklkcgbaaW.PrintMore
attribute [local go_sem] max2_int min2_int max_two min_two max_three min_three max_four min_four   -- for this text's walks alone
set_option linter.unusedVariables false
set_option linter.unusedSimpArgs false

/-! ### laws_f6big: function 20 -/
def laws_f6big.f (l0 : List Int) : Option (Bool) := some (decide ((l0.length : Int) > 4096))
set_option maxHeartbeats 8000000 in
set_option maxRecDepth 100000 in
theorem laws_f6big.calls (A0 : Option Addr) (c0 : Nat) (l0 : List Int) (r : Bool) (w : World) (hr0 : Kd.C (Kd.int .u8) w A0 l0.length l0) (hc0 : l0.length ≤ c0) (h : laws_f6big.f l0 = some r) :
  Calls Try.prog 20 #[.slice A0 l0.length c0] w fun e w' => e = .returned (.bool r) ∧ Drawn0 w w' := by
 have HR0 := aS hr0
 have HC0 := aS hc0
 clear hr0 hc0
 have H := h
 clear h
 unfold laws_f6big.f at H
 obtain rfl := Option.some.inj H
 go_enter Try.func20, Try.ntmps20
 go_wp2
 go_ret
 exact ⟨eV, eD⟩

/-- A state of type 127 at block g of W; what its slices lead to came in by w0. -/
def IsS127 (w0 W : World) (g : Nat) (f0 : List Int) (f1 : Int) (f2 : Int) : Prop := ∃ A0 c0, W.heap[g]? = some (.cells #[.slice A0 f0.length c0, .int .i64 f1, .int .u64 f2] 127 (0, 0)) ∧ w0.heap.size ≤ g ∧ Kd.C (Kd.int .u8) w0 A0 f0.length f0
theorem IsS127.grown {w0 W : World} {g : Nat} {f0 : List Int} {f1 : Int} {f2 : Int} {W1 : World} {row : Option Nat} (h : IsS127 w0 W g f0 f1 f2) (hw : W.grownBy W1 row) (hne : some g ≠ row) : IsS127 w0 W1 g f0 f1 f2 := by
 obtain ⟨A0, c0, hb, hg, hr0⟩ := h
 exact ⟨A0, c0, blk_grown hb hw hne, hg, hr0⟩
theorem IsS127.own_neN {w0 W : World} {g : Nat} {f0 : List Int} {f1 : Int} {f2 : Int} {α : Type} {d : Kd α} {e : Nat} {base : Nat} {ok : Nat → Prop} {v : Value} {xs : List α} (h : IsS127 w0 W g f0 f1 f2) (ho : Kd.N d e W base ok v xs) (ht : e ≠ 127) : some g ≠ v.ownBlock := by
 obtain ⟨A0, c0, hb, hg, hr0⟩ := h
 exact Kd.N_ne ho hb ht
theorem IsS127.fresh {w0 W : World} {g : Nat} {f0 : List Int} {f1 : Int} {f2 : Int} (h : IsS127 w0 W g f0 f1 f2) : ∀ k, W.heap.size ≤ k → k ≠ g := by
 obtain ⟨A0, c0, hb, hg, hr0⟩ := h
 exact Kd.freshB hb
theorem IsS127.kept {w0 W : World} {g : Nat} {f0 : List Int} {f1 : Int} {f2 : Int} {W1 : World} {S : Nat → Prop} (h : IsS127 w0 W g f0 f1 f2) (hk : Kept W W1 S) (hne : ¬ S g) : IsS127 w0 W1 g f0 f1 f2 := by
 obtain ⟨A0, c0, hb, hg, hr0⟩ := h
 exact ⟨A0, c0, blk_kept hb hk hne, hg, hr0⟩
theorem IsS127.below {w0 W : World} {g : Nat} {f0 : List Int} {f1 : Int} {f2 : Int} {W1 : World} (h : IsS127 w0 W g f0 f1 f2) (hw : Below W.heap.size W W1) : IsS127 w0 W1 g f0 f1 f2 := h.grown (grown_of_below hw none) (by simp)
theorem IsS127.alloc {w0 W : World} {g : Nat} {f0 : List Int} {f1 : Int} {f2 : Int} (h : IsS127 w0 W g f0 f1 f2) (o : Obj) : IsS127 w0 (W.alloc o) g f0 f1 f2 := h.below (below_alloc (Below.refl _ _) o)
theorem IsS127.drewN {w0 W : World} {g : Nat} {f0 : List Int} {f1 : Int} {f2 : Int} (h : IsS127 w0 W g f0 f1 f2) (m : Nat) : IsS127 w0 (W.drewN m) g f0 f1 f2 := h
theorem IsS127.drew {w0 W : World} {g : Nat} {f0 : List Int} {f1 : Int} {f2 : Int} (h : IsS127 w0 W g f0 f1 f2) : IsS127 w0 W.drew g f0 f1 f2 := h
theorem IsS127.at_ {w0 W : World} {g : Nat} {f0 : List Int} {f1 : Int} {f2 : Int} {w' : World} {m : Nat} (hq : W.drewN m = w') (h : IsS127 w0 W g f0 f1 f2) : IsS127 w0 w' g f0 f1 f2 := by subst hq; exact IsS127.drewN h m
theorem IsS127.apart {w0 W : World} {g : Nat} {f0 : List Int} {f1 : Int} {f2 : Int} {α : Type} {d : Kd α} {e : Nat} {base : Nat} {ok : Nat → Prop} {v : Value} {xs : List α} (h : IsS127 w0 W g f0 f1 f2) (ho : d.R e W base ok v xs) (ht : ∀ q, q ∈ e :: d.E → q ≠ 127) : d.R e W base (fun k => ok k ∧ k ≠ g) v xs := by
 obtain ⟨A0, c0, hb, hg, hr0⟩ := h
 exact Kd.R_types ho hb ht
theorem IsS127.own_ne {w0 W : World} {g : Nat} {f0 : List Int} {f1 : Int} {f2 : Int} {α : Type} {d : Kd α} {e : Nat} {base : Nat} {ok : Nat → Prop} {v : Value} {xs : List α} (h : IsS127 w0 W g f0 f1 f2) (ho : d.R e W base ok v xs) (ht : e ≠ 127) : some g ≠ v.ownBlock := by
 obtain ⟨A0, c0, hb, hg, hr0⟩ := h
 exact Kd.R_ne ho hb ht
theorem IsS127.apartQ {w0 W : World} {g : Nat} {f0 : List Int} {f1 : Int} {f2 : Int} {α : Type} {d : Kd α} {e : Nat} {base : Nat} {ok : Nat → Prop} {v : Value} {xs : List α} (h : IsS127 w0 W g f0 f1 f2) (ho : d.Q e W base ok v xs) (ht : ∀ q, q ∈ e :: d.E → q ≠ 127) : d.Q e W base (fun k => ok k ∧ k ≠ g) v xs := by
 obtain ⟨A0, c0, hb, hg, hr0⟩ := h
 exact Kd.Q_types ho hb ht
theorem IsS127.own_neQ {w0 W : World} {g : Nat} {f0 : List Int} {f1 : Int} {f2 : Int} {α : Type} {d : Kd α} {e : Nat} {base : Nat} {ok : Nat → Prop} {v : Value} {xs : List α} (h : IsS127 w0 W g f0 f1 f2) (ho : d.Q e W base ok v xs) (ht : e ≠ 127) : some g ≠ v.ownBlock := by
 obtain ⟨A0, c0, hb, hg, hr0⟩ := h
 exact Kd.Q_ne ho hb ht
theorem IsS127.apartS {w0 W : World} {g : Nat} {f0 : List Int} {f1 : Int} {f2 : Int} {α : Type} {d : Kd α} {e : Nat} {base : Nat} {ok : Nat → Prop} {v : Value} {xs : List α} (h : IsS127 w0 W g f0 f1 f2) (ho : d.S e W base ok v xs) (ht : ∀ q, q ∈ e :: d.E → q ≠ 127) : d.S e W base (fun k => ok k ∧ k ≠ g) v xs := by
 obtain ⟨A0, c0, hb, hg, hr0⟩ := h
 exact Kd.S_types ho hb ht
theorem IsS127.own_neS {w0 W : World} {g : Nat} {f0 : List Int} {f1 : Int} {f2 : Int} {α : Type} {d : Kd α} {e : Nat} {base : Nat} {ok : Nat → Prop} {v : Value} {xs : List α} (h : IsS127 w0 W g f0 f1 f2) (ho : d.S e W base ok v xs) (ht : e ≠ 127) : some g ≠ v.ownBlock := by
 obtain ⟨A0, c0, hb, hg, hr0⟩ := h
 exact Kd.S_ne ho hb ht
theorem IsS127.lt {w0 W : World} {g : Nat} {f0 : List Int} {f1 : Int} {f2 : Int} (h : IsS127 w0 W g f0 f1 f2) : g < W.heap.size := by
 obtain ⟨A0, c0, hb, hg, hr0⟩ := h
 exact blk_lt hb
theorem IsS127.ge {w0 W : World} {g : Nat} {f0 : List Int} {f1 : Int} {f2 : Int} (h : IsS127 w0 W g f0 f1 f2) : w0.heap.size ≤ g := by
 obtain ⟨A0, c0, hb, hg, hr0⟩ := h
 exact hg
theorem IsS127.ne_blk {w0 W : World} {g : Nat} {f0 : List Int} {f1 : Int} {f2 : Int} {a : Nat} {cs : Array Value} {t : TypeId} {fr : Nat × Nat} (h : IsS127 w0 W g f0 f1 f2) (hb2 : W.heap[a]? = some (.cells cs t fr)) (ht : t ≠ 127) : g ≠ a := by
 obtain ⟨A0, c0, hb, hg, hr0⟩ := h
 rintro rfl
 rw [hb] at hb2
 injection hb2 with hb2
 injection hb2 with _ ht2
 exact ht ht2.symm
theorem IsS127.far {w0 W : World} {g : Nat} {f0 : List Int} {f1 : Int} {f2 : Int} {p : Addr} (h : IsS127 w0 W g f0 f1 f2) (hne : g ≠ p.block) (u : Value) : IsS127 w0 (W.setCell p u) g f0 f1 f2 := by
 obtain ⟨A0, c0, hb, hg, hr0⟩ := h
 exact ⟨A0, c0, blk_far hb hne u, hg, hr0⟩
theorem cellS127_0 {W : World} {g : Nat} {A0 : Option Addr} {c0 : Nat} {f0 : List Int} {f1 : Int} {f2 : Int} (h : W.heap[g]? = some (.cells #[.slice A0 f0.length c0, .int .i64 f1, .int .u64 f2] 127 (0, 0))) : W.cell? ⟨g, 0, none⟩ = some (.slice A0 f0.length c0) := bq h 0
theorem cellS127_1 {W : World} {g : Nat} {A0 : Option Addr} {c0 : Nat} {f0 : List Int} {f1 : Int} {f2 : Int} (h : W.heap[g]? = some (.cells #[.slice A0 f0.length c0, .int .i64 f1, .int .u64 f2] 127 (0, 0))) : W.cell? ⟨g, 1, none⟩ = some (.int .i64 f1) := bq h 1
theorem IsS127.set_1 {w0 W : World} {g : Nat} {f0 : List Int} {f1 : Int} {f2 : Int} (h : IsS127 w0 W g f0 f1 f2) (x : Int) : IsS127 w0 (W.setCell ⟨g, 1, none⟩ (.int .i64 x)) g f0 x f2 := by
 obtain ⟨A0, c0, hb, hg, hr0⟩ := h
 exact ⟨A0, c0, by simpa using blk_set hb 1 (.int .i64 x), hg, hr0⟩
theorem cellS127_2 {W : World} {g : Nat} {A0 : Option Addr} {c0 : Nat} {f0 : List Int} {f1 : Int} {f2 : Int} (h : W.heap[g]? = some (.cells #[.slice A0 f0.length c0, .int .i64 f1, .int .u64 f2] 127 (0, 0))) : W.cell? ⟨g, 2, none⟩ = some (.int .u64 f2) := bq h 2
theorem IsS127.set_2 {w0 W : World} {g : Nat} {f0 : List Int} {f1 : Int} {f2 : Int} (h : IsS127 w0 W g f0 f1 f2) (x : Int) : IsS127 w0 (W.setCell ⟨g, 2, none⟩ (.int .u64 x)) g f0 f1 x := by
 obtain ⟨A0, c0, hb, hg, hr0⟩ := h
 exact ⟨A0, c0, by simpa using blk_set hb 2 (.int .u64 x), hg, hr0⟩
theorem IsS127.new (w0 W : World) (A0 : Option Addr) (c0 : Nat) (f0 : List Int) (f1 : Int) (f2 : Int) (hB : Below w0.heap.size w0 W) (hr0 : Kd.C (Kd.int .u8) w0 A0 f0.length f0) : IsS127 w0 (W.alloc (.cells #[.slice A0 f0.length c0, .int .i64 f1, .int .u64 f2] 127)) W.heap.size f0 f1 f2 := ⟨A0, c0, by simpa using heap_alloc_new W _, hB.size, hr0⟩

theorem IsS127.s {w0 W : World} {g : Nat} {f0 : List Int} {f1 : Int} {f2 : Int} {p : Prop} (h : IsS127 w0 W g f0 f1 f2) (k : IsS127 w0 W g f0 f1 f2 → p := by (intro h; repeat (first | (with_reducible first | exact h | apply IsS127.alloc | apply IsS127.drewN | apply IsS127.drew | apply IsS127.set_1 | apply IsS127.set_2) | refine IsS127.far ?_ (Aside0.out (by assumption)) _ | exact h))) : p := k h
/-! ### spec_l00From: function 63 -/
def spec_l00From.f (l0 : List Int) : Option (List Int × Int × Int) := some (l0, 0, 0)
set_option maxHeartbeats 8000000 in
set_option maxRecDepth 100000 in
theorem spec_l00From.calls (A0 : Option Addr) (c0 : Nat) (l0 : List Int) (r1 : List Int) (r2 : Int) (r3 : Int) (w0 w : World) (hB : Below w0.heap.size w0 w) (hr0 : Kd.C (Kd.int .u8) w0 A0 l0.length l0) (hc0 : l0.length ≤ c0) (h : spec_l00From.f l0 = some (r1, r2, r3)) :
  Calls Try.prog 63 #[.slice A0 l0.length c0] w fun e w' => ∃ g_ : Nat, e = .returned (.pointer (some ⟨g_, 0, none⟩)) ∧ IsS127 w0 w' g_ r1 r2 r3 ∧ Below w0.heap.size w0 w' ∧ Below w.heap.size w w' := by
 have hu127 := Try.underlying127
 have HR0 := aS hr0
 have HC0 := aS hc0
 clear hr0 hc0
 have HBW := aS (Below.refl w.heap.size w)
 have HW0 := aS hB.size
 have HB := aS hB
 clear hB
 have H := h
 clear h
 unfold spec_l00From.f at H
 simp only [Option.some.injEq, Prod.mk.injEq] at H
 obtain ⟨rfl, rfl, rfl⟩ := H
 go_enter Try.func63, Try.ntmps63
 go_wp2_with (first | ((with_reducible refine gate_dst (N := 5) rfl ?_); refine bx 5 #[.slice A0 l0.length c0, .int .i64 0, .int .u64 0] 127 ?_; intro gb274 hg w2 hbox hb; replace HB := aS (below_step (sW HB.out) hb); have BK274 := aS (hbox); have GW274 := aS (gW hg (sW HBW.out)); have GE274 := aS ((Nat.le_trans HW0.out (gW hg (sW HBW.out)) : w0.heap.size ≤ gb274)); replace HBW := aS (below_step HBW.out hb); clear hb hbox hg))
 go_ret
 exact ⟨_, rfl, (show IsS127 w0 _ gb274 l0 0 0 from ⟨_, _, sB BK274.out, GE274.out, HR0.out⟩), sW HB.out, sW HBW.out⟩

/-! ### spec_l00Src_next: function 98 -/
def spec_l00Src_next.f (s0_0 : List Int) (s0_1 : Int) (s0_2 : Int) : Option (Int × Int × Int) := if s0_1 < (s0_0.length : Int) then (if 0 ≤ s0_1 then (if (wrap64 (s0_1 + 1)) ≤ (s0_0.length : Int) then (some (wrap64 (rd s0_0 s0_1), wrap64 (s0_1 + 1), IntKind.u64.wrap ((IntKind.u64.wrap ((IntKind.u64.wrap (s0_2 * 6364136223846793005)) + (IntKind.u64.wrap (wrap64 (rd s0_0 s0_1))))) + 1442695040888963407))) else (some (wrap64 (Go.bits .and .u64 ((IntKind.u64.wrap ((IntKind.u64.wrap ((IntKind.u64.wrap (s0_2 * 6364136223846793005)) + (IntKind.u64.wrap (wrap64 (rd s0_0 s0_1))))) + 1442695040888963407)) / 1099511627776) 255), wrap64 (s0_1 + 1), IntKind.u64.wrap ((IntKind.u64.wrap ((IntKind.u64.wrap (s0_2 * 6364136223846793005)) + (IntKind.u64.wrap (wrap64 (rd s0_0 s0_1))))) + 1442695040888963407)))) else (none)) else (if (wrap64 (s0_1 + 1)) ≤ (s0_0.length : Int) then (some (0, wrap64 (s0_1 + 1), IntKind.u64.wrap ((IntKind.u64.wrap ((IntKind.u64.wrap (s0_2 * 6364136223846793005)) + 0)) + 1442695040888963407))) else (some (wrap64 (Go.bits .and .u64 ((IntKind.u64.wrap ((IntKind.u64.wrap ((IntKind.u64.wrap (s0_2 * 6364136223846793005)) + 0)) + 1442695040888963407)) / 1099511627776) 255), wrap64 (s0_1 + 1), IntKind.u64.wrap ((IntKind.u64.wrap ((IntKind.u64.wrap (s0_2 * 6364136223846793005)) + 0)) + 1442695040888963407))))
set_option maxHeartbeats 8000000 in
set_option maxRecDepth 100000 in
theorem spec_l00Src_next.calls (g : Nat) (s0_0 : List Int) (s0_1 : Int) (s0_2 : Int) (r1 : Int) (r2 : Int) (r3 : Int) (w0 w : World) (hI : IsS127 w0 w g s0_0 s0_1 s0_2) (hB : Below w0.heap.size w0 w) (h : spec_l00Src_next.f s0_0 s0_1 s0_2 = some (r1, r2, r3)) :
  Calls Try.prog 98 #[.pointer (some ⟨g, 0, none⟩)] w fun e w' => e = .returned (.int .i64 r1) ∧ IsS127 w0 w' g s0_0 r2 r3 ∧ Below w0.heap.size w0 w' ∧ KeepBut w w' g none := by
 have HI0 := aS hI
 have HK := aS (KeepBut.refl w g none)
 have HL := aS hB.size
 clear hI
 have HW0 := aS hB.size
 have HB := aS hB
 clear hB
 have H := h
 clear h
 unfold spec_l00Src_next.f at H
 replace H := iE H; rcases H with ⟨c2, H⟩ | ⟨c2, H⟩
 ·
  have c2b0 := decide_eq_true c2
  clear c2
  replace H := iE H; rcases H with ⟨c3, H⟩ | ⟨c3, H⟩
  ·
   have c3b0 := decide_eq_true c3
   clear c3
   replace H := iE H; rcases H with ⟨c4, H⟩ | ⟨c4, H⟩
   ·
    have c4b0 := decide_eq_true c4
    clear c4
    simp only [Option.some.injEq, Prod.mk.injEq] at H
    obtain ⟨rfl, rfl, rfl⟩ := H
    obtain ⟨ASz5_0, cSz5_0, HGz5, hgz5, HSz5_0⟩ := HI0.out
    have hcz5_0 := cellS127_0 HGz5
    have hcz5_1 := cellS127_1 HGz5
    have hcz5_2 := cellS127_2 HGz5
    have hfz5_1 := blk_frozen HGz5 1
    have hfz5_2 := blk_frozen HGz5 2
    clear HGz5 hgz5
    have p275 : 0 ≤ (s0_1 : Int) := sD
    have q275 : s0_1 < (s0_0.length : Int) := sD
    obtain ⟨ad275, e275, hx275_0⟩ := Kd.at_int HSz5_0 s0_1 p275 q275
    cases e275
    replace hx275_0 := pw_cell_below HB.out hx275_0
    replace p275 := eq_true p275
    replace q275 := eq_true q275
    go_enter Try.func98, Try.ntmps98
    go_wp2
    repeat (go_quiet (fail); try go_wp2)
    go_ret
    exact ⟨eE, IsS127.s HI0.out, sWg HB.out (IsS127.ge HI0.out), sK HK.out⟩
   ·
    have c4b0 := decide_eq_false c4
    clear c4
    simp only [Option.some.injEq, Prod.mk.injEq] at H
    obtain ⟨rfl, rfl, rfl⟩ := H
    obtain ⟨ASz6_0, cSz6_0, HGz6, hgz6, HSz6_0⟩ := HI0.out
    have hcz6_0 := cellS127_0 HGz6
    have hcz6_1 := cellS127_1 HGz6
    have hcz6_2 := cellS127_2 HGz6
    have hfz6_1 := blk_frozen HGz6 1
    have hfz6_2 := blk_frozen HGz6 2
    clear HGz6 hgz6
    have p275 : 0 ≤ (s0_1 : Int) := sD
    have q275 : s0_1 < (s0_0.length : Int) := sD
    obtain ⟨ad275, e275, hx275_0⟩ := Kd.at_int HSz6_0 s0_1 p275 q275
    cases e275
    replace hx275_0 := pw_cell_below HB.out hx275_0
    replace p275 := eq_true p275
    replace q275 := eq_true q275
    go_enter Try.func98, Try.ntmps98
    go_wp2
    repeat (go_quiet (fail); try go_wp2)
    go_ret
    exact ⟨eE, IsS127.s HI0.out, sWg HB.out (IsS127.ge HI0.out), sK HK.out⟩
  ·
   exact absurd H (by simp)
 ·
  have c2b0 := decide_eq_false c2
  clear c2
  replace H := iE H; rcases H with ⟨c7, H⟩ | ⟨c7, H⟩
  ·
   have c7b0 := decide_eq_true c7
   clear c7
   simp only [Option.some.injEq, Prod.mk.injEq] at H
   obtain ⟨rfl, rfl, rfl⟩ := H
   obtain ⟨ASz8_0, cSz8_0, HGz8, hgz8, HSz8_0⟩ := HI0.out
   have hcz8_0 := cellS127_0 HGz8
   have hcz8_1 := cellS127_1 HGz8
   have hcz8_2 := cellS127_2 HGz8
   have hfz8_1 := blk_frozen HGz8 1
   have hfz8_2 := blk_frozen HGz8 2
   clear HGz8 hgz8
   go_enter Try.func98, Try.ntmps98
   go_wp2
   repeat (go_quiet (fail); try go_wp2)
   go_ret
   exact ⟨eE, by (try simp only [Int.add_zero]); exact IsS127.s HI0.out, sWg HB.out (IsS127.ge HI0.out), sK HK.out⟩
  ·
   have c7b0 := decide_eq_false c7
   clear c7
   simp only [Option.some.injEq, Prod.mk.injEq] at H
   obtain ⟨rfl, rfl, rfl⟩ := H
   obtain ⟨ASz9_0, cSz9_0, HGz9, hgz9, HSz9_0⟩ := HI0.out
   have hcz9_0 := cellS127_0 HGz9
   have hcz9_1 := cellS127_1 HGz9
   have hcz9_2 := cellS127_2 HGz9
   have hfz9_1 := blk_frozen HGz9 1
   have hfz9_2 := blk_frozen HGz9 2
   clear HGz9 hgz9
   go_enter Try.func98, Try.ntmps98
   go_wp2
   repeat (go_quiet (fail); try go_wp2)
   go_ret
   exact ⟨eE, by (try simp only [Int.add_zero]); exact IsS127.s HI0.out, sWg HB.out (IsS127.ge HI0.out), sK HK.out⟩

/-! ### spec_l00Src_pick: function 70 -/
def spec_l00Src_pick.f (s0_0 : List Int) (s0_1 : Int) (s0_2 : Int) (a1 : Int) : Option (Int × Int × Int) := if a1 ≤ 1 then (some (0, s0_1, s0_2)) else ((spec_l00Src_next.f s0_0 s0_1 s0_2).bind fun bt283 => (if a1 > 200 then ((spec_l00Src_next.f s0_0 bt283.2.1 bt283.2.2).bind fun bt286 => (if a1 = 0 then (none) else (some (Int.tmod (wrap64 ((wrap64 (bt283.1 * 256)) + bt286.1)) a1, bt286.2.1, bt286.2.2)))) else (if a1 = 0 then (none) else (some (Int.tmod bt283.1 a1, bt283.2.1, bt283.2.2)))))
set_option maxHeartbeats 8000000 in
set_option maxRecDepth 100000 in
theorem spec_l00Src_pick.calls (g : Nat) (s0_0 : List Int) (s0_1 : Int) (s0_2 : Int) (a1 : Int) (r1 : Int) (r2 : Int) (r3 : Int) (w0 w : World) (hI : IsS127 w0 w g s0_0 s0_1 s0_2) (hB : Below w0.heap.size w0 w) (h : spec_l00Src_pick.f s0_0 s0_1 s0_2 a1 = some (r1, r2, r3)) :
  Calls Try.prog 70 #[.pointer (some ⟨g, 0, none⟩), .int .i64 a1] w fun e w' => e = .returned (.int .i64 r1) ∧ IsS127 w0 w' g s0_0 r2 r3 ∧ Below w0.heap.size w0 w' ∧ KeepBut w w' g none := by
 have HI0 := aS hI
 have HK := aS (KeepBut.refl w g none)
 have HL := aS hB.size
 clear hI
 have HW0 := aS hB.size
 have HB := aS hB
 clear hB
 have H := h
 clear h
 unfold spec_l00Src_pick.f at H
 replace H := iE H; rcases H with ⟨c3, H⟩ | ⟨c3, H⟩
 ·
  have c3b0 := decide_eq_true c3
  clear c3
  simp only [Option.some.injEq, Prod.mk.injEq] at H
  obtain ⟨rfl, rfl, rfl⟩ := H
  go_enter Try.func70, Try.ntmps70
  go_wp2
  go_ret
  exact ⟨eE, IsS127.s HI0.out, sWg HB.out (IsS127.ge HI0.out), sK HK.out⟩
 ·
  have c3b0 := decide_eq_false c3
  clear c3
  replace H := Option.bind_eq_some_iff.mp H
  obtain ⟨⟨t283, t284, t285⟩, A40, H⟩ := H
  replace H : (if a1 > 200 then ((spec_l00Src_next.f s0_0 t284 t285).bind fun bt286 => (if a1 = 0 then (none) else (some (Int.tmod (wrap64 ((wrap64 (t283 * 256)) + bt286.1)) a1, bt286.2.1, bt286.2.2)))) else (if a1 = 0 then (none) else (some (Int.tmod t283 a1, t284, t285)))) = some (r1, r2, r3) := H
  have A4 := aS A40
  clear A40
  have HC5 := aS H
  clear H
  go_enter Try.func70, Try.ntmps70
  go_upto_if 11 with (first | ((with_reducible refine gate_callee (f := 98) rfl ?_); refine goesL_ (some 9) rfl rfl Try.func98 (by kernel_rfl) rfl #[.pointer (some ⟨g, 0, none⟩)] rfl sG ?_; (with_reducible refine (spec_l00Src_next.calls g s0_0 s0_1 s0_2 t283 t284 t285 w0 _ ?side1 ?side2 A4.out).mono ?_); (case side1 => exact IsS127.s HI0.out); (case side2 => exact sWg HB.out (IsS127.ge HI0.out)); rintro e w6 ⟨rfl, hi, hb, hk⟩; refine ⟨_, rfl, ?_⟩; replace HK := aS (kT (sK HK.out) hk); replace HB := aS (hb); replace HI0 := aS (hi)))
  (try simp only [Act.put, List.setIfInBounds_toArray, List.set_cons_zero, List.set_cons_succ])
  have H := HC5.out
  clear HC5
  replace H := iE H; rcases H with ⟨c7, H⟩ | ⟨c7, H⟩
  ·
   have c7b0 : decide (200 < a1) = true := decide_eq_true c7
   clear c7
   (first | rw [c7b0] | (simp only [i64_w, i32_w]; rw [c7b0]) | (rw [c7b2]; simp only [Bool.not_false, Bool.not_true]) | skip)
   replace H := Option.bind_eq_some_iff.mp H
   obtain ⟨⟨t286, t287, t288⟩, A80, H⟩ := H
   replace H : (if a1 = 0 then (none) else (some (Int.tmod (wrap64 ((wrap64 (t283 * 256)) + t286)) a1, t287, t288))) = some (r1, r2, r3) := H
   have A8 := aS A80
   clear A80
   replace H := iE H; rcases H with ⟨c9, H⟩ | ⟨c9, H⟩
   ·
    exact absurd H (by simp)
   ·
    have c9b0 := beq_eq_false_iff_ne.mpr c9
    have c9b1 := bne_iff_ne.mpr c9
    simp only [Option.some.injEq, Prod.mk.injEq] at H
    obtain ⟨rfl, rfl, rfl⟩ := H
    go_wp2_with (first | ((with_reducible refine gate_callee (f := 98) rfl ?_); refine goesL_ (some 15) rfl rfl Try.func98 (by kernel_rfl) rfl #[.pointer (some ⟨g, 0, none⟩)] rfl sG ?_; (with_reducible refine (spec_l00Src_next.calls g s0_0 t284 t285 t286 t287 t288 w0 _ ?side1 ?side2 A8.out).mono ?_); (case side1 => exact IsS127.s HI0.out); (case side2 => exact sWg HB.out (IsS127.ge HI0.out)); rintro e w10 ⟨rfl, hi, hb, hk⟩; refine ⟨_, rfl, ?_⟩; replace HK := aS (kT (sK HK.out) hk); replace HB := aS (hb); replace HI0 := aS (hi)))
    go_ret
    exact ⟨eE, IsS127.s HI0.out, sWg HB.out (IsS127.ge HI0.out), sK HK.out⟩
  ·
   have c7b0 : decide (200 < a1) = false := decide_eq_false c7
   clear c7
   (first | rw [c7b0] | (simp only [i64_w, i32_w]; rw [c7b0]) | (rw [c7b2]; simp only [Bool.not_false, Bool.not_true]) | skip)
   replace H := iE H; rcases H with ⟨c11, H⟩ | ⟨c11, H⟩
   ·
    exact absurd H (by simp)
   ·
    have c11b0 := beq_eq_false_iff_ne.mpr c11
    have c11b1 := bne_iff_ne.mpr c11
    simp only [Option.some.injEq, Prod.mk.injEq] at H
    obtain ⟨rfl, rfl, rfl⟩ := H
    go_wp2
    go_ret
    exact ⟨eE, IsS127.s HI0.out, sWg HB.out (IsS127.ge HI0.out), sK HK.out⟩

/-! ### spec_l00Src_one: function 66 -/
def spec_l00Src_one.f (s0_0 : List Int) (s0_1 : Int) (s0_2 : Int) (a1 : Int) : Option (Bool × Int × Int) := (spec_l00Src_pick.f s0_0 s0_1 s0_2 a1).bind fun bt289 => (some ((bt289.1 == 0), bt289.2.1, bt289.2.2))
set_option maxHeartbeats 8000000 in
set_option maxRecDepth 100000 in
theorem spec_l00Src_one.calls (g : Nat) (s0_0 : List Int) (s0_1 : Int) (s0_2 : Int) (a1 : Int) (r1 : Bool) (r2 : Int) (r3 : Int) (w0 w : World) (hI : IsS127 w0 w g s0_0 s0_1 s0_2) (hB : Below w0.heap.size w0 w) (h : spec_l00Src_one.f s0_0 s0_1 s0_2 a1 = some (r1, r2, r3)) :
  Calls Try.prog 66 #[.pointer (some ⟨g, 0, none⟩), .int .i64 a1] w fun e w' => e = .returned (.bool r1) ∧ IsS127 w0 w' g s0_0 r2 r3 ∧ Below w0.heap.size w0 w' ∧ KeepBut w w' g none := by
 have HI0 := aS hI
 have HK := aS (KeepBut.refl w g none)
 have HL := aS hB.size
 clear hI
 have HW0 := aS hB.size
 have HB := aS hB
 clear hB
 have H := h
 clear h
 unfold spec_l00Src_one.f at H
 replace H := Option.bind_eq_some_iff.mp H
 obtain ⟨⟨t289, t290, t291⟩, A30, H⟩ := H
 replace H : (some ((t289 == 0), t290, t291)) = some (r1, r2, r3) := H
 have A3 := aS A30
 clear A30
 simp only [Option.some.injEq, Prod.mk.injEq] at H
 obtain ⟨rfl, rfl, rfl⟩ := H
 go_enter Try.func66, Try.ntmps66
 go_wp2_with (first | ((with_reducible refine gate_callee (f := 70) rfl ?_); refine goesL_ (some 7) rfl rfl Try.func70 (by kernel_rfl) rfl #[.pointer (some ⟨g, 0, none⟩), .int .i64 a1] rfl sG ?_; (with_reducible refine (spec_l00Src_pick.calls g s0_0 s0_1 s0_2 a1 t289 t290 t291 w0 _ ?side1 ?side2 A3.out).mono ?_); (case side1 => exact IsS127.s HI0.out); (case side2 => exact sWg HB.out (IsS127.ge HI0.out)); rintro e w4 ⟨rfl, hi, hb, hk⟩; refine ⟨_, rfl, ?_⟩; replace HK := aS (kT (sK HK.out) hk); replace HB := aS (hb); replace HI0 := aS (hi)))
 go_ret
 exact ⟨eE, IsS127.s HI0.out, sWg HB.out (IsS127.ge HI0.out), sK HK.out⟩

/-! ### spec_l03New: function 94 -/
def spec_l03New.f (s0_0 : List Int) (s0_1 : Int) (s0_2 : Int) (a1 : ByteArray) : Option (ByteArray × Int × Int × Int × Int) := (spec_l00Src_pick.f s0_0 s0_1 s0_2 13).bind fun bt293 => ((spec_l00Src_pick.f s0_0 bt293.2.1 bt293.2.2 12).bind fun bt297 => (some (a1, wrap64 (400 + (wrap64 (50 * bt293.1))), wrap64 (10 * bt297.1), bt297.2.1, bt297.2.2)))
set_option maxHeartbeats 8000000 in
set_option maxRecDepth 100000 in
theorem spec_l03New.calls (g : Nat) (s0_0 : List Int) (s0_1 : Int) (s0_2 : Int) (a1 : ByteArray) (r1 : ByteArray) (r2 : Int) (r3 : Int) (r4 : Int) (r5 : Int) (w0 w : World) (hI : IsS127 w0 w g s0_0 s0_1 s0_2) (hB : Below w0.heap.size w0 w) (h : spec_l03New.f s0_0 s0_1 s0_2 a1 = some (r1, r2, r3, r4, r5)) :
  Calls Try.prog 94 #[.pointer (some ⟨g, 0, none⟩), .string a1] w fun e w' => e = .returned (.agg #[.string r1, .int .i64 r2, .int .i64 r3]) ∧ IsS127 w0 w' g s0_0 r4 r5 ∧ Below w0.heap.size w0 w' ∧ KeepBut w w' g none := by
 have hu61 := Try.underlying61
 have HI0 := aS hI
 have HK := aS (KeepBut.refl w g none)
 have HL := aS hB.size
 clear hI
 have HW0 := aS hB.size
 have HB := aS hB
 clear hB
 have H := h
 clear h
 unfold spec_l03New.f at H
 replace H := Option.bind_eq_some_iff.mp H
 obtain ⟨⟨t293, t294, t295⟩, A30, H⟩ := H
 replace H : ((spec_l00Src_pick.f s0_0 t294 t295 12).bind fun bt297 => (some (a1, wrap64 (400 + (wrap64 (50 * t293))), wrap64 (10 * bt297.1), bt297.2.1, bt297.2.2))) = some (r1, r2, r3, r4, r5) := H
 have A3 := aS A30
 clear A30
 replace H := Option.bind_eq_some_iff.mp H
 obtain ⟨⟨t297, t298, t299⟩, A40, H⟩ := H
 replace H : (some (a1, wrap64 (400 + (wrap64 (50 * t293))), wrap64 (10 * t297), t298, t299)) = some (r1, r2, r3, r4, r5) := H
 have A4 := aS A40
 clear A40
 simp only [Option.some.injEq, Prod.mk.injEq] at H
 obtain ⟨rfl, rfl, rfl, rfl, rfl⟩ := H
 go_enter Try.func94, Try.ntmps94
 go_wp2_with (first | ((with_reducible refine gate_dst (N := 4) rfl ?_); refine bx 4 #[.string (⟨#[]⟩ : ByteArray), .int .i64 0, .int .i64 0] 61 ?_; intro gb292 hg w5 hbox hb; replace HB := aS (below_step (sWg HB.out (IsS127.ge HI0.out)) hb); have BK292 := aS (hbox); have GW292 := aS ((by rw [hg]; exact (keep_size (w := w) (g := g) (row := none) (sK HK.out)) : w.heap.size ≤ gb292)); have GE292 := aS ((Nat.le_trans HW0.out (by rw [hg]; exact (keep_size (w := w) (g := g) (row := none) (sK HK.out)) : w.heap.size ≤ gb292) : w0.heap.size ≤ gb292)); replace HK := aS (KeepBut.trans (sK HK.out) (KeepBut.of_below hb g none) (.inl rfl)); have NB0_292 := aS ((by rw [hg]; exact Nat.ne_of_lt (IsS127.lt (show IsS127 w0 _ g s0_0 s0_1 s0_2 from IsS127.s HI0.out)) : g ≠ gb292)); have NB292_0 := aS ((by rw [hg]; exact Nat.ne_of_gt (IsS127.lt (show IsS127 w0 _ g s0_0 s0_1 s0_2 from IsS127.s HI0.out)) : gb292 ≠ g)); replace HI0 := aS (IsS127.below (IsS127.s HI0.out) hb); clear hb hbox hg) | ((with_reducible refine gate_callee (f := 70) rfl ?_); refine goesL_ (some 8) rfl rfl Try.func70 (by kernel_rfl) rfl #[.pointer (some ⟨g, 0, none⟩), .int .i64 13] rfl sG ?_; (with_reducible refine (spec_l00Src_pick.calls g s0_0 s0_1 s0_2 13 t293 t294 t295 w0 _ ?side1 ?side2 A3.out).mono ?_); (case side1 => exact IsS127.s HI0.out); (case side2 => exact sWg HB.out (IsS127.ge HI0.out)); rintro e w6 ⟨rfl, hi, hb, hk⟩; refine ⟨_, rfl, ?_⟩; replace BK292 := aS (kB hk (sB BK292.out) NB292_0.out); replace HK := aS (kT (sK2 HK.out) hk); replace HB := aS (hb); replace HI0 := aS (hi)) | ((with_reducible refine gate_dst (N := 5) rfl ?_); refine bx 5 #[.string (⟨#[]⟩ : ByteArray), .int .i64 0, .int .i64 0] 61 ?_; intro gb296 hg w7 hbox hb; replace HB := aS (below_step (sWg HB.out (IsS127.ge HI0.out)) hb); have BK296 := aS (hbox); have GW296 := aS ((by rw [hg]; exact (keep_size (w := w) (g := g) (row := none) (sK2 HK.out)) : w.heap.size ≤ gb296)); have GE296 := aS ((Nat.le_trans HW0.out (by rw [hg]; exact (keep_size (w := w) (g := g) (row := none) (sK2 HK.out)) : w.heap.size ≤ gb296) : w0.heap.size ≤ gb296)); replace HK := aS (KeepBut.trans (sK2 HK.out) (KeepBut.of_below hb g none) (.inl rfl)); have NB292_296 := aS ((by rw [hg]; exact Nat.ne_of_lt (blk_lt (g := gb292) (o := .cells #[.string (⟨#[]⟩ : ByteArray), .int .i64 0, .int .i64 0] 61 (0, 0)) (sB BK292.out)) : gb292 ≠ gb296)); have NB296_292 := aS ((by rw [hg]; exact Nat.ne_of_gt (blk_lt (g := gb292) (o := .cells #[.string (⟨#[]⟩ : ByteArray), .int .i64 0, .int .i64 0] 61 (0, 0)) (sB BK292.out)) : gb296 ≠ gb292)); replace BK292 := aS (blk_below (sB BK292.out) hb); have NB0_296 := aS ((by rw [hg]; exact Nat.ne_of_lt (IsS127.lt (show IsS127 w0 _ g s0_0 t294 t295 from IsS127.s HI0.out)) : g ≠ gb296)); have NB296_0 := aS ((by rw [hg]; exact Nat.ne_of_gt (IsS127.lt (show IsS127 w0 _ g s0_0 t294 t295 from IsS127.s HI0.out)) : gb296 ≠ g)); replace HI0 := aS (IsS127.below (IsS127.s HI0.out) hb); clear hb hbox hg; have hnb8 := NB296_292.out; have hnc8 := NB292_296.out; have hnb9 := NB296_0.out; have hnc9 := NB0_296.out; obtain ⟨hcz10_0, hcz10_1, hcz10_2, hfz10_0, hfz10_1, hfz10_2⟩ := z3 BK296.out) | ((with_reducible refine gate_callee (f := 70) rfl ?_); refine goesL_ (some 13) rfl rfl Try.func70 (by kernel_rfl) rfl #[.pointer (some ⟨g, 0, none⟩), .int .i64 12] rfl sG ?_; (with_reducible refine (spec_l00Src_pick.calls g s0_0 t294 t295 12 t297 t298 t299 w0 _ ?side1 ?side2 A4.out).mono ?_); (case side1 => exact IsS127.s HI0.out); (case side2 => exact sWg HB.out (IsS127.ge HI0.out)); rintro e w11 ⟨rfl, hi, hb, hk⟩; refine ⟨_, rfl, ?_⟩; replace BK292 := aS (kB hk (sF BK292.out NB292_296.out) NB292_0.out); replace BK296 := aS (KeepBut.blk hk (g' := gb296) (o := .cells #[.string a1, .int .i64 (wrap64 (400 + (wrap64 (50 * t293)))), .int .i64 0] 61 (0, 0)) (by exact sZ BK296.out) NB296_0.out (by simp)); replace HK := aS (kT (sK2 HK.out) hk); replace HB := aS (hb); replace HI0 := aS (hi); (try clear hb); (try clear hb2); (try clear hk); (try clear hi); obtain ⟨hcz12_0, hcz12_1, hcz12_2, hfz12_0, hfz12_1, hfz12_2⟩ := z3 BK296.out; have hnb13 := NB292_0.out; have hnc13 := NB0_292.out; obtain ⟨hcz14_0, hcz14_1, hcz14_2, hfz14_0, hfz14_1, hfz14_2⟩ := z3 BK292.out))
 refine bodyPost_ret (results_cell_row rfl _ _ gb292 61 #[.string a1, .int .i64 (wrap64 (400 + (wrap64 (50 * t293)))), .int .i64 (wrap64 (10 * t297))] (0, 0) _ rfl (by exact sZ BK292.out) Try.underlying61 rfl (by kernel_rfl)) rfl ?_
 exact ⟨eE, IsS127.s HI0.out, sWg HB.out (IsS127.ge HI0.out), sK2 HK.out⟩

/-! ### spec_l03Draw: function 93 -/
def spec_l03Draw.l0 : Nat → List ByteArray → List (S61) → Int → List Int → Int → Int → Option ((List (S61)) × Int × Int)
 | 0, _, _, _, _, _, _ => none
 | k + 1, x3, x4, x5, x1000, x1001, x1002 => if x5 > 0 then (if 0 ≤ (x4.length : Int) then (if (x4.length : Int) < (x3.length : Int) then ((spec_l03New.f x1000 x1001 x1002 (rdOf ByteArray.empty x3 (x4.length : Int))).bind fun bt311 => (if x4.length < 4398046511104 then (spec_l03Draw.l0 k x3 (x4 ++ [(⟨bt311.1, bt311.2.1, bt311.2.2.1⟩ : S61)]) (wrap64 (x5 - 1)) x1000 bt311.2.2.2.1 bt311.2.2.2.2) else (none))) else (none)) else (none)) else (some (x4, x1001, x1002))
def spec_l03Draw.f (k : Nat) (s0_0 : List Int) (s0_1 : Int) (s0_2 : Int) : Option ((List (S61)) × Int × Int) := (spec_l00Src_pick.f s0_0 s0_1 s0_2 6).bind fun bt307 => (spec_l03Draw.l0 k (([(⟨#[108, 111, 110, 103]⟩ : ByteArray), (⟨#[115, 104, 111, 114, 116]⟩ : ByteArray), (⟨#[101, 121, 101]⟩ : ByteArray), (⟨#[98, 101, 110, 100]⟩ : ByteArray), (⟨#[99, 97, 114, 114, 105, 99, 107, 45, 50]⟩ : ByteArray), (⟨#[114, 101, 101, 102]⟩ : ByteArray)] : List ByteArray)) (([] : List (S61))) bt307.1 s0_0 bt307.2.1 bt307.2.2)
theorem spec_l03Draw.mono_l : ∀ k, (∀ y0 y1 y2 y3 y4 y5, LeO (spec_l03Draw.l0 k y0 y1 y2 y3 y4 y5) (spec_l03Draw.l0 (k + 1) y0 y1 y2 y3 y4 y5))
 | 0 => fun _ _ _ _ _ _ r h => by simp [spec_l03Draw.l0] at h
 | k + 1 => by
  have ih0 := spec_l03Draw.mono_l k
  ·
   intro y0 y1 y2 y3 y4 y5
   unfold spec_l03Draw.l0
   repeat' first | (with_reducible first | exact ih0 _ _ _ _ _ _ | exact LeO.refl _ | exact LeO.none _ | refine LeO.ite ?_ ?_ | refine LeO.bind ?_ (fun _ => ?_)) | refine LeO.ite ?_ ?_ | refine LeO.bind ?_ (fun _ => ?_)
theorem spec_l03Draw.mono : ∀ a0 a1 a2 k, LeO (spec_l03Draw.f k a0 a1 a2) (spec_l03Draw.f (k + 1) a0 a1 a2) := by
 intro a0 a1 a2 k
 have ih0 := spec_l03Draw.mono_l k
 unfold spec_l03Draw.f
 repeat' first | (with_reducible first | exact ih0 _ _ _ _ _ _ | exact LeO.refl _ | exact LeO.none _ | refine LeO.ite ?_ ?_ | refine LeO.bind ?_ (fun _ => ?_)) | refine LeO.ite ?_ ?_ | refine LeO.bind ?_ (fun _ => ?_)
set_option maxHeartbeats 8000000 in
set_option maxRecDepth 100000 in
theorem spec_l03Draw.calls (k : Nat) (g : Nat) (s0_0 : List Int) (s0_1 : Int) (s0_2 : Int) (r1 : List (S61)) (r2 : Int) (r3 : Int) (w0 w : World) (hI : IsS127 w0 w g s0_0 s0_1 s0_2) (hB : Below w0.heap.size w0 w) (h : spec_l03Draw.f k s0_0 s0_1 s0_2 = some (r1, r2, r3)) :
  Calls Try.prog 93 #[.pointer (some ⟨g, 0, none⟩)] w fun e w' => ∃ v0_ : Value, e = .returned (v0_) ∧ Kd.R k61 61 w' w.heap.size (fun _ => True) v0_ r1 ∧ IsS127 w0 w' g s0_0 r2 r3 ∧ Below w0.heap.size w0 w' ∧ KeepBut w w' g none := by
 have HI0 := aS hI
 have HK := aS (KeepBut.refl w g none)
 have HL := aS hB.size
 clear hI
 have HW0 := aS hB.size
 have HB := aS hB
 clear hB
 have H := h
 clear h
 unfold spec_l03Draw.f at H
 obtain ⟨y301, hy301⟩ : ∃ y_ : List ByteArray, y_ = (([(⟨#[108, 111, 110, 103]⟩ : ByteArray), (⟨#[115, 104, 111, 114, 116]⟩ : ByteArray), (⟨#[101, 121, 101]⟩ : ByteArray), (⟨#[98, 101, 110, 100]⟩ : ByteArray), (⟨#[99, 97, 114, 114, 105, 99, 107, 45, 50]⟩ : ByteArray), (⟨#[114, 101, 101, 102]⟩ : ByteArray)] : List ByteArray)) := ⟨_, rfl⟩
 replace H : ((spec_l00Src_pick.f s0_0 s0_1 s0_2 6).bind fun bt307 => (spec_l03Draw.l0 k y301 (([] : List (S61))) bt307.1 s0_0 bt307.2.1 bt307.2.2)) = some (r1, r2, r3) := by first | (rw [hy301]; with_reducible exact H) | (have H2_ := (Option.bind_some _ _).symm.trans H; rw [hy301]; with_reducible exact H2_) | (have H2_ := (Option.bind_some _ _).symm.trans H; with_reducible exact H2_) | with_reducible exact H | (rw [hy301]; exact H) | exact H
 have Ny301 := aS hy301
 clear hy301
 obtain ⟨y304, hy304⟩ : ∃ y_ : List (S61), y_ = (([] : List (S61))) := ⟨_, rfl⟩
 replace H : ((spec_l00Src_pick.f s0_0 s0_1 s0_2 6).bind fun bt307 => (spec_l03Draw.l0 k y301 y304 bt307.1 s0_0 bt307.2.1 bt307.2.2)) = some (r1, r2, r3) := by first | (rw [hy304]; with_reducible exact H) | (have H2_ := (Option.bind_some _ _).symm.trans H; rw [hy304]; with_reducible exact H2_) | (have H2_ := (Option.bind_some _ _).symm.trans H; with_reducible exact H2_) | with_reducible exact H | (rw [hy304]; exact H) | exact H
 have Ny304 := aS hy304
 clear hy304
 replace H := Option.bind_eq_some_iff.mp H
 obtain ⟨⟨t307, t308, t309⟩, A20, H⟩ := H
 replace H : (spec_l03Draw.l0 k y301 y304 t307 s0_0 t308 t309) = some (r1, r2, r3) := H
 have A2 := aS A20
 clear A20
 have H' := aS H
 clear H
 go_enter Try.func93, Try.ntmps93
 go_wp2_with (first | ((with_reducible refine gate_dst (N := 6) rfl ?_); refine Kd.R_lit Kd.string _ 9 ?hg (N := 6) ?hd (xs := ([(⟨#[108, 111, 110, 103]⟩ : ByteArray), (⟨#[115, 104, 111, 114, 116]⟩ : ByteArray), (⟨#[101, 121, 101]⟩ : ByteArray), (⟨#[98, 101, 110, 100]⟩ : ByteArray), (⟨#[99, 97, 114, 114, 105, 99, 107, 45, 50]⟩ : ByteArray), (⟨#[114, 101, 101, 102]⟩ : ByteArray)] : List ByteArray)) (inner := [.string (⟨#[108, 111, 110, 103]⟩ : ByteArray), .string (⟨#[115, 104, 111, 114, 116]⟩ : ByteArray), .string (⟨#[101, 121, 101]⟩ : ByteArray), .string (⟨#[98, 101, 110, 100]⟩ : ByteArray), .string (⟨#[99, 97, 114, 114, 105, 99, 107, 45, 50]⟩ : ByteArray), .string (⟨#[114, 101, 101, 102]⟩ : ByteArray)]) (ok := fun _ => True) (okp := fun _ => True) ?hr ?hp (fun _ hk => hk) trivial (Below.refl _ _) (Nat.le_refl _) (by simp) ?_; (case hd => rfl); (case hg => rfl); (case hr => first | (go_simp; done) | (go_simp; rfl)); (case hp => exact (Reps.one (show Kd.M Kd.string _ _ _ (⟨#[108, 111, 110, 103]⟩ : ByteArray) [.string (⟨#[108, 111, 110, 103]⟩ : ByteArray)] from rfl) (Reps.one (show Kd.M Kd.string _ _ _ (⟨#[115, 104, 111, 114, 116]⟩ : ByteArray) [.string (⟨#[115, 104, 111, 114, 116]⟩ : ByteArray)] from rfl) (Reps.one (show Kd.M Kd.string _ _ _ (⟨#[101, 121, 101]⟩ : ByteArray) [.string (⟨#[101, 121, 101]⟩ : ByteArray)] from rfl) (Reps.one (show Kd.M Kd.string _ _ _ (⟨#[98, 101, 110, 100]⟩ : ByteArray) [.string (⟨#[98, 101, 110, 100]⟩ : ByteArray)] from rfl) (Reps.one (show Kd.M Kd.string _ _ _ (⟨#[99, 97, 114, 114, 105, 99, 107, 45, 50]⟩ : ByteArray) [.string (⟨#[99, 97, 114, 114, 105, 99, 107, 45, 50]⟩ : ByteArray)] from rfl) (Reps.one (show Kd.M Kd.string _ _ _ (⟨#[114, 101, 101, 102]⟩ : ByteArray) [.string (⟨#[114, 101, 101, 102]⟩ : ByteArray)] from rfl) (Reps.none _ _)))))))); intro v302 w3 ho4 hb hg_ hnew_; clear hg_ hnew_; (first | rw [← Ny301.out] at ho4 | (simp only [Int.reduceToNat] at ho4; rw [← Ny301.out] at ho4)); have HO303 := aS (Kd.R_lower ho4 (keep_size (w := w) (g := g) (row := none) (sK HK.out))); replace HK := aS (KeepBut.trans (sK HK.out) (KeepBut.of_below hb g none) (.inl rfl)); replace HB := aS (below_step (sWg HB.out (IsS127.ge HI0.out)) hb); replace HI0 := aS (IsS127.below (IsS127.s HI0.out) hb); clear hb ho4) | ((with_reducible refine gate_dst (N := 7) rfl ?_); refine Kd.R_lit k61 _ 61 ?hg (N := 7) ?hd (xs := ([] : List (S61))) (inner := []) (ok := fun _ => True) (okp := fun _ => True) ?hr ?hp (fun _ hk => hk) trivial (Below.refl _ _) (Nat.le_refl _) (by simp) ?_; (case hd => rfl); (case hg => rfl); (case hr => first | (go_simp; done) | (go_simp; rfl)); (case hp => exact (Reps.none _ _)); intro v305 w5 ho6 hb hg_ hnew_; clear hg_ hnew_; (first | rw [← Ny304.out] at ho6 | (simp only [Int.reduceToNat] at ho6; rw [← Ny304.out] at ho6)); replace HO303 := aS (Kd.R_below (sR HO303.out) hb); have HO306 := aS (Kd.R_lower ho6 (keep_size (w := w) (g := g) (row := none) (sK HK.out))); replace HK := aS (KeepBut.trans (sK HK.out) (KeepBut.of_below hb g none) (.inl rfl)); replace HB := aS (below_step (sWg HB.out (IsS127.ge HI0.out)) hb); replace HI0 := aS (IsS127.below (IsS127.s HI0.out) hb); clear hb ho6) | ((with_reducible refine gate_callee (f := 70) rfl ?_); refine goesL_ (some 9) rfl rfl Try.func70 (by kernel_rfl) rfl #[.pointer (some ⟨g, 0, none⟩), .int .i64 6] rfl sG ?_; (with_reducible refine (spec_l00Src_pick.calls g s0_0 s0_1 s0_2 6 t307 t308 t309 w0 _ ?side1 ?side2 A2.out).mono ?_); (case side1 => exact IsS127.s HI0.out); (case side2 => exact sWg HB.out (IsS127.ge HI0.out)); rintro e w7 ⟨rfl, hi, hb, hk⟩; refine ⟨_, rfl, ?_⟩; replace HO303 := aS (Kd.R_mono (Kd.R_keep (IsS127.apart (show IsS127 w0 _ g s0_0 s0_1 s0_2 from IsS127.s HI0.out) (sR HO303.out) (by decide)) hk (fun _ h => h.2)) (fun _ h => h.1)); replace HO306 := aS (Kd.R_mono (Kd.R_keep (IsS127.apart (show IsS127 w0 _ g s0_0 s0_1 s0_2 from IsS127.s HI0.out) (sR HO306.out) (by decide)) hk (fun _ h => h.2)) (fun _ h => h.1)); replace HK := aS (kT (sK HK.out) hk); replace HB := aS (hb); replace HI0 := aS (hi)))
 (try simp only [Act.put, List.setIfInBounds_toArray, List.set_cons_zero, List.set_cons_succ])
 go_loopg [4, 5] k (fun kq v4 v5 w' => ∃ (x4_1 : List (S61)) (x5_1 : Int) (x1001_1 : Int) (x1002_1 : Int), v5 = .int .i64 x5_1 ∧ Aside0 (spec_l03Draw.l0 kq y301 x4_1 x5_1 s0_0 x1001_1 x1002_1 = some (r1, r2, r3)) ∧ Aside0 (kq ≤ k) ∧ Aside0 (Kd.R Kd.string 9 w' w.heap.size (fun _ => True) v302 y301) ∧ Aside0 (Kd.R k61 61 w' w.heap.size (fun _ => True) v4 x4_1) ∧ Aside0 (IsS127 w0 w' g s0_0 x1001_1 x1002_1) ∧ Aside0 (KeepBut w w' g none) ∧ Aside0 (Below w0.heap.size w0 w'))
 case atStart => exact ⟨(y304), (t307), (t308), (t309), eV, H', ⟨Nat.le_refl _⟩, (aS (sR HO303.out)), (aS (sR HO306.out)), (aS (IsS127.s HI0.out)), (aS (sK HK.out)), ⟨sWg HB.out (IsS127.ge HI0.out)⟩⟩
 case round =>
  clear H'
  obtain ⟨x4_1, x5_1, x1001_1, x1002_1, rfl, HA, HK1, HO_3, HO_4, HI0, HK, HB⟩ := hrel
  cases gk with
  | zero => exact absurd HA.out (by simp [spec_l03Draw.l0])
  | succ k1 =>
   have H := HA.out
   clear HA
   simp only [spec_l03Draw.l0] at H
   replace H := iE H; rcases H with ⟨c8, H⟩ | ⟨c8, H⟩
   ·
    have c8b0 : decide (0 < x5_1) = true := decide_eq_true c8
    clear c8
    replace H := iE H; rcases H with ⟨c9, H⟩ | ⟨c9, H⟩
    ·
     have c9b0 := decide_eq_true c9
     have c9b1 : decide (0 ≤ x4_1.length) = true := decide_eq_true (by omega)
     clear c9
     replace H := iE H; rcases H with ⟨c10, H⟩ | ⟨c10, H⟩
     ·
      have c10b0 := decide_eq_true c10
      have c10b1 : decide (x4_1.length < y301.length) = true := decide_eq_true (Int.ofNat_lt.mp c10)
      clear c10
      replace H := Option.bind_eq_some_iff.mp H
      obtain ⟨⟨t311, t312, t313, t314, t315⟩, A110, H⟩ := H
      replace H : (if x4_1.length < 4398046511104 then (spec_l03Draw.l0 k1 y301 (x4_1 ++ [(⟨t311, t312, t313⟩ : S61)]) (wrap64 (x5_1 - 1)) s0_0 t314 t315) else (none)) = some (r1, r2, r3) := H
      have A11 := aS A110
      clear A110
      replace H := iE H; rcases H with ⟨c12, H⟩ | ⟨c12, H⟩
      ·
       have LMc12 := aS c12
       clear c12
       obtain ⟨y316, hy316⟩ : ∃ y_ : List (S61), y_ = (x4_1 ++ [(⟨t311, t312, t313⟩ : S61)]) := ⟨_, rfl⟩
       replace H : (spec_l03Draw.l0 k1 y301 y316 (wrap64 (x5_1 - 1)) s0_0 t314 t315) = some (r1, r2, r3) := by first | (rw [hy316]; with_reducible exact H) | (have H2_ := (Option.bind_some _ _).symm.trans H; rw [hy316]; with_reducible exact H2_) | (have H2_ := (Option.bind_some _ _).symm.trans H; with_reducible exact H2_) | with_reducible exact H | (rw [hy316]; exact H) | exact H
       have Ny316 := aS hy316
       clear hy316
       have H' := aS H
       clear H
       obtain ⟨Ao13, co13, eo13⟩ := Kd.R_slice HO_4.out
       subst eo13
       obtain ⟨Ao14, co14, eo14⟩ := Kd.R_slice HO_3.out
       subst eo14
       have p310 : 0 ≤ ((x4_1.length : Int) : Int) := sD
       have q310 : (x4_1.length : Int) < (y301.length : Int) := sD
       obtain ⟨ad310, e310, hx310_0⟩ := Kd.at_string (Kd.R_reads' HO_3.out).2.2 (x4_1.length : Int) p310 q310
       cases e310
       (try simp only [Go.IntWalk.toNatUp] at hx310_0)
       replace p310 := eq_true p310
       replace q310 := eq_true q310
       go_wp2_with (first | ((with_reducible refine gate_callee (f := 94) rfl ?_); refine goesL_ (some 21) rfl rfl Try.func94 (by kernel_rfl) rfl #[.pointer (some ⟨g, 0, none⟩), .string (rdOf ByteArray.empty y301 (x4_1.length : Int))] rfl sG ?_; (with_reducible refine (spec_l03New.calls g s0_0 x1001_1 x1002_1 (rdOf ByteArray.empty y301 (x4_1.length : Int)) t311 t312 t313 t314 t315 w0 _ ?side1 ?side2 A11.out).mono ?_); (case side1 => exact IsS127.s HI0.out); (case side2 => exact sWg HB.out (IsS127.ge HI0.out)); rintro e w15 ⟨rfl, hi, hb, hk⟩; refine ⟨_, rfl, ?_⟩; replace HO_3 := aS (Kd.R_mono (Kd.R_keep (IsS127.apart (show IsS127 w0 _ g s0_0 x1001_1 x1002_1 from IsS127.s HI0.out) (sR HO_3.out) (by decide)) hk (fun _ h => h.2)) (fun _ h => h.1)); replace HO_4 := aS (Kd.R_mono (Kd.R_keep (IsS127.apart (show IsS127 w0 _ g s0_0 x1001_1 x1002_1 from IsS127.s HI0.out) (sR HO_4.out) (by decide)) hk (fun _ h => h.2)) (fun _ h => h.1)); replace HK := aS (kT (sK HK.out) hk); replace HB := aS (hb); replace HI0 := aS (hi)) | ((with_reducible refine gate_builtin (b := .append) (xs := #[.tmp 14, .tmp 22]) rfl ?_); at_builtin; refine Kd.R_append k61 w.heap.size rfl (.tmp 14) (.tmp 22) 32 61 (.agg #[(.string ⟨#[]⟩), (.int .i64 0), (.int .i64 0)]) 32 rfl Try.underlying32 info61 rfl (by decide) (by omega) (.slice Ao13 x4_1.length co13) x4_1 (⟨t311, t312, t313⟩ : S61) [.string t311, .int .i64 t312, .int .i64 t313] (fun _ => True) (fun _ => False) rfl rfl ?aP (fun _ hk => hk.elim) ?aF ?aO (Below.refl _ _) ?aS ?aL ?_; (case aP => exact k61_mkM _ _ _ (⟨t311, t312, t313⟩ : S61)); (case aF => exact (fun _ _ => trivial)); (case aO => exact (sR HO_4.out)); (case aS => exact (keep_size (w := w) (g := g) (row := none) (sK HK.out))); (case aL => have := LMc12.out; omega); intro v317 w16 ho hb hg hat; rw [← Ny316.out] at ho; replace HO_3 := aS (Kd.R_over' (sR HO_3.out) (Kd.R_typed (sR HO_4.out)) (by decide) hg); replace HB := aS (below_weaken (sWg HB.out (IsS127.ge HI0.out)) HL.out hb); replace HI0 := aS (IsS127.grown (show IsS127 w0 _ g s0_0 t314 t315 from IsS127.s HI0.out) hg (IsS127.own_ne HI0.out HO_4.out (by decide))); replace HK := aS (KeepBut.trans (sK HK.out) (KeepBut.of_grown hg g) (Kd.R_base2 HO_4.out)); have HO318 := aS (ho); clear HO_4; clear ho hb hg hat))
       go_roundg k1
       case measure => have := HK1.out; omega
       case rel => exact ⟨(y316), (wrap64 (x5_1 - 1)), (t314), (t315), eV, H', ⟨by have := HK1.out; omega⟩, (aS (sR HO_3.out)), (aS (sR HO318.out)), (aS (IsS127.s HI0.out)), (aS (sK HK.out)), ⟨sWg HB.out (IsS127.ge HI0.out)⟩⟩
      ·
       exact absurd H (by simp)
     ·
      exact absurd H (by simp)
    ·
     exact absurd H (by simp)
   ·
    have c8b0 : decide (0 < x5_1) = false := decide_eq_false c8
    clear c8
    simp only [Option.some.injEq, Prod.mk.injEq] at H
    obtain ⟨rfl, rfl, rfl⟩ := H
    go_wp2
    go_ret
    exact ⟨_, eE, sR HO_4.out, IsS127.s HI0.out, sWg HB.out (IsS127.ge HI0.out), sK HK.out⟩

/-! ### spec_l00Src_text: function 95 -/
def spec_l00Src_text.f (s0_0 : List Int) (s0_1 : Int) (s0_2 : Int) (l1 : List ByteArray) : Option (ByteArray × Int × Int) := (spec_l00Src_pick.f s0_0 s0_1 s0_2 (l1.length : Int)).bind fun bt325 => (if 0 ≤ bt325.1 then (if bt325.1 < (l1.length : Int) then (some (rdOf ByteArray.empty l1 bt325.1, bt325.2.1, bt325.2.2)) else (none)) else (none))
set_option maxHeartbeats 8000000 in
set_option maxRecDepth 100000 in
theorem spec_l00Src_text.calls (g : Nat) (s0_0 : List Int) (s0_1 : Int) (s0_2 : Int) (A1 : Option Addr) (c1 : Nat) (l1 : List ByteArray) (r1 : ByteArray) (r2 : Int) (r3 : Int) (w0 w : World) (hI : IsS127 w0 w g s0_0 s0_1 s0_2) (hB : Below w0.heap.size w0 w) (hr1 : Kd.C Kd.string w A1 l1.length l1) (hc1 : l1.length ≤ c1) (hf1 : ∀ ad, A1 = some ad → 0 < l1.length → ad.block ≠ g) (h : spec_l00Src_text.f s0_0 s0_1 s0_2 l1 = some (r1, r2, r3)) :
  Calls Try.prog 95 #[.pointer (some ⟨g, 0, none⟩), .slice A1 l1.length c1] w fun e w' => e = .returned (.string r1) ∧ IsS127 w0 w' g s0_0 r2 r3 ∧ Below w0.heap.size w0 w' ∧ KeepBut w w' g none := by
 have HR1 := aS hr1
 have HC1 := aS hc1
 clear hr1 hc1
 have HI0 := aS hI
 have HK := aS (KeepBut.refl w g none)
 have HL := aS hB.size
 clear hI
 have HW0 := aS hB.size
 have HB := aS hB
 clear hB
 have H := h
 clear h
 unfold spec_l00Src_text.f at H
 replace H := Option.bind_eq_some_iff.mp H
 obtain ⟨⟨t325, t326, t327⟩, A30, H⟩ := H
 replace H : (if 0 ≤ t325 then (if t325 < (l1.length : Int) then (some (rdOf ByteArray.empty l1 t325, t326, t327)) else (none)) else (none)) = some (r1, r2, r3) := H
 have A3 := aS A30
 clear A30
 replace H := iE H; rcases H with ⟨c4, H⟩ | ⟨c4, H⟩
 ·
  have c4b0 := decide_eq_true c4
  clear c4
  replace H := iE H; rcases H with ⟨c5, H⟩ | ⟨c5, H⟩
  ·
   have c5b0 := decide_eq_true c5
   clear c5
   simp only [Option.some.injEq, Prod.mk.injEq] at H
   obtain ⟨rfl, rfl, rfl⟩ := H
   go_enter Try.func95, Try.ntmps95
   go_wp2_with (first | ((with_reducible refine gate_callee (f := 70) rfl ?_); refine goesL_ (some 9) rfl rfl Try.func70 (by kernel_rfl) rfl #[.pointer (some ⟨g, 0, none⟩), .int .i64 (l1.length : Int)] rfl sG ?_; (with_reducible refine (spec_l00Src_pick.calls g s0_0 s0_1 s0_2 (l1.length : Int) t325 t326 t327 w0 _ ?side1 ?side2 A3.out).mono ?_); (case side1 => exact IsS127.s HI0.out); (case side2 => exact sWg HB.out (IsS127.ge HI0.out)); rintro e w6 ⟨rfl, hi, hb, hk⟩; refine ⟨_, rfl, ?_⟩; replace HK := aS (kT (sK HK.out) hk); replace HB := aS (hb); replace HI0 := aS (hi); (try clear hb); (try clear hb2); (try clear hk); (try clear hi); have p328 : 0 ≤ (t325 : Int) := sD; have q328 : t325 < (l1.length : Int) := sD; obtain ⟨ad328, e328, hx328_0⟩ := Kd.at_string HR1.out t325 p328 q328; cases e328; replace hx328_0 := keep_cell HK.out hx328_0 (by first | (rw [add_block]; exact hf1 _ rfl (by omega)) | exact hf1 _ rfl (by omega) | exact hf1 ad328 rfl (by omega)); replace p328 := eq_true p328; replace q328 := eq_true q328))
   go_ret
   exact ⟨eE, IsS127.s HI0.out, sWg HB.out (IsS127.ge HI0.out), sK HK.out⟩
  ·
   exact absurd H (by simp)
 ·
  exact absurd H (by simp)

/-! ### spec_l00Src_among: function 96 -/
def spec_l00Src_among.f (s0_0 : List Int) (s0_1 : Int) (s0_2 : Int) (l1 : List Int) : Option (Int × Int × Int) := (spec_l00Src_pick.f s0_0 s0_1 s0_2 (l1.length : Int)).bind fun bt329 => (if 0 ≤ bt329.1 then (if bt329.1 < (l1.length : Int) then (some (rd l1 bt329.1, bt329.2.1, bt329.2.2)) else (none)) else (none))
set_option maxHeartbeats 8000000 in
set_option maxRecDepth 100000 in
theorem spec_l00Src_among.calls (g : Nat) (s0_0 : List Int) (s0_1 : Int) (s0_2 : Int) (A1 : Option Addr) (c1 : Nat) (l1 : List Int) (r1 : Int) (r2 : Int) (r3 : Int) (w0 w : World) (hI : IsS127 w0 w g s0_0 s0_1 s0_2) (hB : Below w0.heap.size w0 w) (hr1 : Kd.C (Kd.int .i64) w A1 l1.length l1) (hc1 : l1.length ≤ c1) (hf1 : ∀ ad, A1 = some ad → 0 < l1.length → ad.block ≠ g) (h : spec_l00Src_among.f s0_0 s0_1 s0_2 l1 = some (r1, r2, r3)) :
  Calls Try.prog 96 #[.pointer (some ⟨g, 0, none⟩), .slice A1 l1.length c1] w fun e w' => e = .returned (.int .i64 r1) ∧ IsS127 w0 w' g s0_0 r2 r3 ∧ Below w0.heap.size w0 w' ∧ KeepBut w w' g none := by
 have HR1 := aS hr1
 have HC1 := aS hc1
 clear hr1 hc1
 have HI0 := aS hI
 have HK := aS (KeepBut.refl w g none)
 have HL := aS hB.size
 clear hI
 have HW0 := aS hB.size
 have HB := aS hB
 clear hB
 have H := h
 clear h
 unfold spec_l00Src_among.f at H
 replace H := Option.bind_eq_some_iff.mp H
 obtain ⟨⟨t329, t330, t331⟩, A30, H⟩ := H
 replace H : (if 0 ≤ t329 then (if t329 < (l1.length : Int) then (some (rd l1 t329, t330, t331)) else (none)) else (none)) = some (r1, r2, r3) := H
 have A3 := aS A30
 clear A30
 replace H := iE H; rcases H with ⟨c4, H⟩ | ⟨c4, H⟩
 ·
  have c4b0 := decide_eq_true c4
  clear c4
  replace H := iE H; rcases H with ⟨c5, H⟩ | ⟨c5, H⟩
  ·
   have c5b0 := decide_eq_true c5
   clear c5
   simp only [Option.some.injEq, Prod.mk.injEq] at H
   obtain ⟨rfl, rfl, rfl⟩ := H
   go_enter Try.func96, Try.ntmps96
   go_wp2_with (first | ((with_reducible refine gate_callee (f := 70) rfl ?_); refine goesL_ (some 9) rfl rfl Try.func70 (by kernel_rfl) rfl #[.pointer (some ⟨g, 0, none⟩), .int .i64 (l1.length : Int)] rfl sG ?_; (with_reducible refine (spec_l00Src_pick.calls g s0_0 s0_1 s0_2 (l1.length : Int) t329 t330 t331 w0 _ ?side1 ?side2 A3.out).mono ?_); (case side1 => exact IsS127.s HI0.out); (case side2 => exact sWg HB.out (IsS127.ge HI0.out)); rintro e w6 ⟨rfl, hi, hb, hk⟩; refine ⟨_, rfl, ?_⟩; replace HK := aS (kT (sK HK.out) hk); replace HB := aS (hb); replace HI0 := aS (hi); (try clear hb); (try clear hb2); (try clear hk); (try clear hi); have p332 : 0 ≤ (t329 : Int) := sD; have q332 : t329 < (l1.length : Int) := sD; obtain ⟨ad332, e332, hx332_0⟩ := Kd.at_int HR1.out t329 p332 q332; cases e332; replace hx332_0 := keep_cell HK.out hx332_0 (by first | (rw [add_block]; exact hf1 _ rfl (by omega)) | exact hf1 _ rfl (by omega) | exact hf1 ad332 rfl (by omega)); replace p332 := eq_true p332; replace q332 := eq_true q332))
   go_ret
   exact ⟨eE, IsS127.s HI0.out, sWg HB.out (IsS127.ge HI0.out), sK HK.out⟩
  ·
   exact absurd H (by simp)
 ·
  exact absurd H (by simp)

end Go.Proofs.Ytginmioklkcgbaa.QFnBestJoins

/- What the walks ask of the library's own variables, and four functions of the library in the printed form. No condition. -/
import Derived.Test.YtginmioklkcgbaaGreatDoorVShelf
import Derived.Test.YtginmioklkcgbaaGreatDoorRows
import Derived.Lib.AppendIntMem
import Derived.Lib.ItoaMem
import Derived.Below
import Derived.Laws.OwnMore
import Derived.Lib.SplitLaws
import Derived.Test.YtginmioklkcgbaaGreatDoorVWWords
namespace Go.Proofs.YtginmioklkcgbaaGreatDoor.Gnd
open Go.RowKit Go.Sort Go.Lib Go.Proofs.YtginmioklkcgbaaGreatDoorW.PrintWords
set_option linter.unusedVariables false
/-- The name of the table of powers of ten, out of a row's list. -/
def tabName : String := match Rows.fnLinesRow.laid with | _ :: _ :: x :: _ => x.1 | _ => default
/-- The table of powers of ten is as it was laid. -/
def Tab (w : World) : Prop := Lib.TabIs Tryz.prog w tabName .u64 Lib.pow10Tab
/-- internal/bytealg.MaxLen holds some number. -/
def Max (w : World) : Prop := ∃ m, w.cell? ⟨1, 0, none⟩ = some (.int .i64 m)
theorem Tab.on {w w' : World} (h : Tab w) (hb : Below w.heap.size w w') : Tab w' := tabBelow_of_tabIs h w' hb
theorem Max.on {w w' : World} (h : Max w) (hb : Below w.heap.size w w') : Max w' := by
  obtain ⟨m, hm⟩ := h
  exact ⟨m, (hb.cell (World.block_lt_of_cell? _ _ hm)).trans hm⟩
theorem formatInt (n : Int) (h0 : -9223372036854775808 ≤ n) (h1 : n ≤ 9223372036854775807) (w : World) (hT : Tab w) :
    Calls Tryz.prog 83 #[.int .i64 n, .int .i64 10] w fun e w' => e = .returned (.string ⟨(Lib.itoa n).toArray⟩) ∧ Below w.heap.size w w' := by
  refine (Any.strconv_FormatInt_10 Tryz.laysM173 n h0 h1 w hT).mono ?_
  rintro e w' ⟨rfl, k, os, rfl⟩
  exact ⟨rfl, below_grow _ w (Nat.le_refl _) k os⟩
theorem trimPrefix (s p : ByteArray) (w : World) :
    Calls Tryz.prog 86 #[.string s, .string p] w fun e w' => e = .returned (.string ⟨(Lib.trimPrefix s.data.toList p.data.toList).toArray⟩) ∧ w' = w := Any.strings_TrimPrefix Tryz.lays101 s p w
theorem cutSuffix (s p : ByteArray) (w : World) (hs : s.size ≤ 9223372036854775807) :
    Calls Tryz.prog 54 #[.string s, .string p] w fun e w' => e = .returned (.tuple #[.string ⟨(Lib.trimSuffix s.data.toList p.data.toList).toArray⟩, .bool (Lib.hasSuffix s.data.toList p.data.toList)]) ∧ w' = w := Any.strings_CutSuffix Tryz.lays104 s p w hs
theorem split (s p : ByteArray) (w : World) (hM : Max w) (h1 : s.size < 4294967281) (h2 : 1 ≤ p.size) :
    Calls Tryz.prog 53 #[.string s, .string p] w fun e w' => ∃ v0_ : Value, e = .returned (v0_) ∧ Kd.R Kd.string 9 w' w.heap.size (fun _ => True) v0_ (Lib.splitB p 0 (Lib.countB s p) s) ∧ Below w.heap.size w w' := by
  obtain ⟨m, hm⟩ := hM
  refine (Any.strings_Split Tryz.lays146 (by kernel_rfl) s p m w h1 hm h2).mono ?_
  rintro e w' ⟨rfl, rfl⟩
  have hl : (Lib.splitB p 0 (Lib.countB s p) s).length = Lib.countB s p + 1 := Lib.splitB_all p h2 0 _ s rfl
  have hc := Lib.countB_le p h2 s.size s (Nat.le_refl _)
  generalize Lib.splitB p 0 (Lib.countB s p) s = l at hl
  refine ⟨_, rfl, Kd.R_of_own ?_ (fun _ _ => trivial), below_alloc (Below.refl _ _) _⟩
  rw [hl]
  have := World.ownsRow_lit (base := w.heap.size) (e := 9) (size := 1) w (l.map Value.string).toArray (Lib.countB s p + 1) (Nat.le_refl _) (by unfold maxLen; omega) (by simp [hl])
  simpa [encs, show Tryz.lays146_ren.t 9 = 9 from rfl] using this
end Go.Proofs.YtginmioklkcgbaaGreatDoor.Gnd

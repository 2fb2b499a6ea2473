-- WRITTEN BY hyb.py (a program of this work's own) out of the translation, by the kit's print. Not trusted: Lean checks it.
import Derived.Test.YthgkeehpoilgaaaDoorProg
import Derived.Below
import Derived.Deep.Draws
import Derived.Deep.AppendLies
import Derived.Maps.AppendAt
import Derived.OwnWalk
import Derived.Laws.BytesArg
import Derived.Laws.MakeOwn
import Derived.Laws.OwnMore
import Derived.Deep.OwnRows
import Derived.Tactics
import Derived.Lib.ConvBytes
import Derived.Laws.Slices
import Derived.WalkKit
import Derived.KernelRfl
import Derived.RowKit3
import Derived.Deep.LoopGhost
import Derived.Deep.QuietTactic
import Derived.BigQuiet
import Derived.WideLaws
import Derived.Deep.DeepCutAuto
import Derived.Deep.CutBlock
import Derived.Deep.RegionHeld3
import Derived.Laws.Rows
import Derived.Lib.AppendStr
import Derived.ArgAppend
import Derived.Laws.IdiomCopy
import Derived.OrdersHeld
import Derived.Laws.BitsLemmas
import Derived.RowKit
import Derived.Test.YthgkeehpoilgaaaDoorWWords
import Derived.Test.YthgkeehpoilgaaaDoorWLast
import Derived.Test.YthgkeehpoilgaaaDoorWQPut
import Derived.Test.YthgkeehpoilgaaaDoorWApart
import Derived.Test.YthgkeehpoilgaaaDoorWArr
import Derived.Test.YthgkeehpoilgaaaDoorWZeros
import Derived.Test.YthgkeehpoilgaaaDoorWFoot
import Derived.Test.YthgkeehpoilgaaaDoorWKept
import Derived.Test.YthgkeehpoilgaaaDoorWShare
import Derived.Test.YthgkeehpoilgaaaDoorWN
import Derived.Test.YthgkeehpoilgaaaDoorWRepsOne
import Derived.Test.YthgkeehpoilgaaaDoorWGuard
import Derived.Test.YthgkeehpoilgaaaDoorWNEv
import Derived.Test.YthgkeehpoilgaaaDoorWMore
namespace Go.Proofs.YthgkeehpoilgaaaDoor.Hf
open Go.RowKit Go.Proofs.YthgkeehpoilgaaaDoorW.PrintWords Go.Proofs.YthgkeehpoilgaaaDoorW.PrintLast Go.Proofs.YthgkeehpoilgaaaDoorW.PrintMore
attribute [local go_sem] max2_int min2_int max_two min_two max_three min_three max_four min_four   -- for this text's walks alone
set_option linter.unusedVariables false
set_option linter.unusedSimpArgs false

/-- What is asked of the package-level variables, one by one. -/
def gtab2 : List Int := [0, 1, 56, 2, 57, 49, 28, 3, 61, 58, 42, 50, 38, 29, 17, 4, 62, 47, 59, 36, 45, 43, 51, 22, 53, 39, 33, 30, 24, 18, 12, 5, 63, 55, 48, 27, 60, 41, 37, 16, 46, 35, 44, 21, 52, 32, 23, 11, 54, 26, 40, 15, 34, 20, 31, 10, 25, 14, 19, 9, 13, 8, 7, 6]
def gtab3 : List Int := [0, 1, 28, 2, 29, 14, 24, 3, 30, 22, 20, 15, 25, 17, 4, 8, 31, 27, 13, 23, 21, 19, 16, 7, 26, 12, 18, 6, 11, 5, 10, 9]
def gtab4 : List Int := [1, 10, 100, 1000, 10000, 100000, 1000000, 10000000, 100000000, 1000000000, 10000000000, 100000000000, 1000000000000, 10000000000000, 100000000000000, 1000000000000000, 10000000000000000, 100000000000000000, 1000000000000000000, 10000000000000000000]
def GFact : Nat → World → Prop
  | 0, w => ∃ m, w.cell? ⟨2, 0, none⟩ = some (.int .i64 m)
  | 1, w => w.cell? ⟨0, 0, none⟩ = some (.iface 185 (.agg #[.pointer (some ⟨5, 23, none⟩)]))
  | 2, w => ∀ i, i < 64 → w.cell? ⟨1, i, none⟩ = some (.int .u8 (gtab2.getD i 0))
  | 3, w => ∀ i, i < 32 → w.cell? ⟨4, i, none⟩ = some (.int .u8 (gtab3.getD i 0))
  | 4, w => ∀ i, i < 20 → w.cell? ⟨3, i, none⟩ = some (.int .u64 (gtab4.getD i 0))
  | _, _ => True
def GG (s : List Nat) (w : World) : Prop := ∀ i, i ∈ s → GFact i w
theorem GFact.below {w w1 : World} (hb : Below w.heap.size w w1) : ∀ i, GFact i w → GFact i w1 := by
  intro i h
  unfold GFact at h ⊢
  split at h <;> first | exact trivial | exact pw_cell_below hb h | (obtain ⟨m, hm⟩ := h; exact ⟨m, pw_cell_below hb hm⟩) | exact fun i hi => pw_cell_below hb (h i hi)
theorem GG.below {s : List Nat} {w w1 : World} (hb : Below w.heap.size w w1) (h : GG s w) : GG s w1 := fun i hi => GFact.below hb i (h i hi)
theorem GG.drawn {s : List Nat} {w w1 : World} (hd : Drawn0 w w1) (h : GG s w) : GG s w1 := GG.below hd.below h
theorem GG.nil (w : World) : GG [] w := fun i hi => absurd hi (by simp)
theorem GG.sub {s t : List Nat} {w : World} (h : GG s w) (hs : ∀ i, i ∈ t → i ∈ s) : GG t w := fun i hi => h i (hs i hi)


def errW : Option Int → Value
  | none => .nilIface
  | some c => .iface 99 (.int .i64 c)
theorem errW_none : errW none = .nilIface := rfl
theorem errW_some (c : Int) : errW (some c) = .iface 99 (.int .i64 c) := rfl

theorem info5 : (Tryd.prog.info? 5).map (fun i => (i.zero, i.size, i.bytes)) = some (some (.int .u8 0), 1, 1) := by kernel_rfl
theorem info9 : (Tryd.prog.info? 9).map (fun i => (i.zero, i.size, i.bytes)) = some (some (.string ⟨#[]⟩), 1, 16) := by kernel_rfl
theorem info38 : (Tryd.prog.info? 38).map (fun i => (i.zero, i.size, i.bytes)) = some (some (.int .u8 0), 1, 1) := by kernel_rfl
-- the values' own types

end Go.Proofs.YthgkeehpoilgaaaDoor.Hf

-- WRITTEN BY hyb.py (a program of this work's own) out of the translation, by the kit's print. Not trusted: Lean checks it.
import Derived.Test.YthgkeehpoilgaaaProg
import Derived.Below
import Derived.Deep.Draws
import Derived.Deep.AppendLies
import Derived.Maps.AppendAt
import Derived.OwnWalk
import Derived.Laws.BytesArg
import Derived.Laws.MakeOwn
import Derived.Laws.OwnMore
import Derived.Deep.OwnRows
import Derived.Tactics
import Derived.Lib.ConvBytes
import Derived.Laws.Slices
import Derived.WalkKit
import Derived.KernelRfl
import Derived.RowKit3
import Derived.Deep.LoopGhost
import Derived.Deep.QuietTactic
import Derived.BigQuiet
import Derived.WideLaws
import Derived.Deep.DeepCutAuto
import Derived.Deep.CutBlock
import Derived.Deep.RegionHeld3
import Derived.Laws.Rows
import Derived.Lib.AppendStr
import Derived.ArgAppend
import Derived.Laws.IdiomCopy
import Derived.OrdersHeld
import Derived.Laws.BitsLemmas
import Derived.RowKit
import Derived.Test.YthgkeehpoilgaaaWWords
import Derived.Test.YthgkeehpoilgaaaWLast
import Derived.Test.YthgkeehpoilgaaaWTab
import Derived.Test.YthgkeehpoilgaaaWFour
import Derived.Test.YthgkeehpoilgaaaWQPut
import Derived.Test.YthgkeehpoilgaaaWApart
import Derived.Test.YthgkeehpoilgaaaWArr
import Derived.Test.YthgkeehpoilgaaaWZeros
import Derived.Test.YthgkeehpoilgaaaWFoot
import Derived.Test.YthgkeehpoilgaaaWKept
import Derived.Test.YthgkeehpoilgaaaWShare
import Derived.Test.YthgkeehpoilgaaaWN
import Derived.Test.YthgkeehpoilgaaaWFootNe
import Derived.Test.YthgkeehpoilgaaaWAt
import Derived.Test.YthgkeehpoilgaaaWEqStruct
import Derived.Test.YthgkeehpoilgaaaWRepsOne
import Derived.Test.YthgkeehpoilgaaaWInv
import Derived.Test.YthgkeehpoilgaaaWInvWords
import Derived.Test.YthgkeehpoilgaaaWGuard
import Derived.Test.YthgkeehpoilgaaaWNEv
import Derived.Test.YthgkeehpoilgaaaWMore
namespace Go.Proofs.Ythgkeehpoilgaaa.Hy
open Go.RowKit Go.Proofs.YthgkeehpoilgaaaW.PrintWords Go.Proofs.YthgkeehpoilgaaaW.PrintLast Go.Proofs.YthgkeehpoilgaaaW.PrintMore
attribute [local go_sem] max2_int min2_int max_two min_two max_three min_three max_four min_four   -- for this text's walks alone
set_option linter.unusedVariables false
set_option linter.unusedSimpArgs false

/-- What is asked of the package-level variables, one by one. -/
def GFact : Nat → World → Prop
  | 0, w => ∃ m, w.cell? ⟨0, 0, none⟩ = some (.int .i64 m)
  | _, _ => True
def GG (s : List Nat) (w : World) : Prop := ∀ i, i ∈ s → GFact i w
theorem GFact.below {w w1 : World} (hb : Below w.heap.size w w1) : ∀ i, GFact i w → GFact i w1 := by
  intro i h
  unfold GFact at h ⊢
  split at h <;> first | exact trivial | exact pw_cell_below hb h | (obtain ⟨m, hm⟩ := h; exact ⟨m, pw_cell_below hb hm⟩) | exact fun i hi => pw_cell_below hb (h i hi)
theorem GG.below {s : List Nat} {w w1 : World} (hb : Below w.heap.size w w1) (h : GG s w) : GG s w1 := fun i hi => GFact.below hb i (h i hi)
theorem GG.drawn {s : List Nat} {w w1 : World} (hd : Drawn0 w w1) (h : GG s w) : GG s w1 := GG.below hd.below h
theorem GG.sub {s t : List Nat} {w : World} (h : GG s w) (hs : ∀ i, i ∈ t → i ∈ s) : GG t w := fun i hi => h i (hs i hi)


def errW : Option Int → Value
  | none => .nilIface
  | some c => .iface 40 (.int .i64 c)
theorem errW_none : errW none = .nilIface := rfl
theorem errW_some (c : Int) : errW (some c) = .iface 40 (.int .i64 c) := rfl

theorem info25 : (Try.prog.info? 25).map (fun i => (i.zero, i.size, i.bytes)) = some (some (.int .u8 0), 1, 1) := by kernel_rfl
-- the values' own types

end Go.Proofs.Ythgkeehpoilgaaa.Hy

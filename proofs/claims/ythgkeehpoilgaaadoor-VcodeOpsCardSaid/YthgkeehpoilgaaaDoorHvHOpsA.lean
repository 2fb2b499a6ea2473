import Derived.ChangeKeysEq
import Derived.Laws.Tables
import Derived.Laws.Rows
import Derived.Outline
import Derived.Test.YthgkeehpoilgaaaDoorProg
import Derived.Test.YthgkeehpoilgaaaDoorHvx0
import Derived.Test.YthgkeehpoilgaaaDoorHvHNames
namespace Go.Proofs.YthgkeehpoilgaaaDoor.Hv
open Go.RowKit Go.Proofs.YthgkeehpoilgaaaDoorW.PrintWords Go.Proofs.YthgkeehpoilgaaaDoorW.PrintLast Go.Proofs.YthgkeehpoilgaaaDoorW.PrintMore
attribute [local go_sem] max2_int min2_int max_two min_two max_three min_three max_four min_four   -- for this text's walks alone
set_option linter.unusedVariables false
set_option linter.unusedSimpArgs false

/-! ### package ops by hand: the array of names. -/
theorem run_index_arr {P : Program} {t e : TypeId} {n : Nat} {cs : Array Value} {k : IntKind} {i : Int} {v : Value} {w : World}
    (h : P.underlying t = some (.array n e)) (h0 : 0 ≤ i) (h1 : i < n) (ha : ∀ w, (isAgg e).run P w = .ok false w) (hs : ∀ w, (sizeOf e).run P w = .ok 1 w) (hv : cs[i.toNat]? = some v) :
    (Instr.index t (.agg cs) (.int k i)).run P w = .ok v w := by
  have hn : 0 ≤ i ∧ i < (n : Int) := ⟨h0, h1⟩
  simp [Instr.index, run_underlying h, asIntOf, hn, hs, part, ha, hv, go_sem]
theorem wpList_build_is {P : Program} {ops : Array Oper} {rest : List Oper} {o : Oper} {a : Act} {w : World} {Q : Exit → Act → World → Prop} (hg : o.guard = none) (t : TypeId) (parts : Array (Nat × Operand)) (ho : o.op = .build t parts)
    (cells : Array Value) (hf : P.built t (parts.map fun (i, x) => (i, a.eval x)).toList = some cells)
    (h : wpList P ops Q rest (a.put o.dst (.agg cells)) w) : wpList P ops Q (o :: rest) a w :=
  wpList_build hg t parts ho (by rw [hf]; rfl) (by rw [hf]; exact h)

def opsCells : Array Value := (opsTab.map Value.string).toArray
def opsZeros : Array Value := Array.replicate 174 (Value.string ⟨#[]⟩)

theorem below_setRow {B : Nat} {w W : World} (h : Below B w W) {g : Nat} (hg : B ≤ g) (cs : Array Value) : Below B w (W.setRow g cs) :=
  ⟨h.os, h.tape, h.output, by simpa using h.size, fun i hi => by rw [setRow_other _ _ _ _ (by omega)]; exact h.block i hi⟩

set_option maxRecDepth 100000 in
theorem ops_names_any (w : World) : Calls Tryd.prog 52 #[] w fun e w' => e = .returned (.agg opsCells) ∧ Below w.heap.size w w' := by
  have hz : ∀ w, (zeroValue 100).run Tryd.prog w = .ok (.agg opsZeros) w := fun _ => by kernel_rfl
  go_enter Tryd.func52, Tryd.ntmps52
  go_wp2_with (first | (refine wpList_build_is rfl 100 _ rfl opsCells (by kernel_rfl) ?_) | (refine wpList_store_row rfl 100 _ _ rfl w.heap.size opsCells rfl rfl 100 opsZeros (heap_alloc_new _ _) (by kernel_rfl) (by kernel_rfl) (by kernel_rfl) ?_))
  refine bodyPost_ret (results_cell_row rfl _ _ w.heap.size 100 opsCells (0, 0) _ rfl (setRow_heap _ _ _ _ _ _ (heap_alloc_new _ _)) Tryd.underlying100 rfl (by kernel_rfl)) rfl ⟨rfl, ?_⟩
  exact below_setRow ((Below.refl _ _).alloc (Nat.le_refl _) _) (Nat.le_refl _) _

/-- ops.Name: the table. -/
def ops_Name.f (a0 : Int) : Option ByteArray := if 0 ≤ a0 ∧ a0 ≤ 255 then some (opsTab.getD a0.toNat ⟨#[]⟩) else none
theorem opsTab_len : opsTab.length = 174 := by decide +kernel
theorem ops_Name.calls (a0 : Int) (r : ByteArray) (w : World) (hG : GG [] w) (h : ops_Name.f a0 = some r) :
    Calls Tryd.prog 12 #[.int .u8 a0] w fun e w' => e = .returned (.string r) ∧ Below w.heap.size w w' := by
  clear hG
  unfold ops_Name.f at h
  split at h
  case isFalse => cases h
  rename_i hr
  obtain ⟨h0, h1⟩ := hr
  by_cases hlt : a0 < 174
  · have hidx : ∀ W, (Instr.index 100 (.agg opsCells) (.int .u8 a0)).run Tryd.prog W = .ok (.string r) W := fun W =>
      run_index_arr Tryd.underlying100 h0 hlt (fun _ => by kernel_rfl) (fun _ => by kernel_rfl) (by
        have hl := opsTab_len
        have : a0.toNat < opsTab.length := by omega
        simp only [opsCells, List.getElem?_toArray, List.getElem?_map, List.getElem?_eq_getElem this]
        rw [List.getD_eq_getElem?_getD, List.getElem?_eq_getElem this] at h
        simpa using h)
    clear h
    go_enter Tryd.func12, Tryd.ntmps12
    go_wp2_with (go_at_call 52; refine (ops_names_any _).mono ?_; rintro e w1 ⟨rfl, hb1⟩)
    go_ret
    rename_i w0 hb0 _
    exact ⟨rfl, below_then hb0 hb0.size hb1⟩
  · have hz : r = ⟨#[]⟩ := by
      have hl := opsTab_len
      rw [List.getD_eq_getElem?_getD, List.getElem?_eq_none (by omega)] at h
      exact (Option.some.inj h).symm
    clear h
    go_enter Tryd.func12, Tryd.ntmps12
    go_wp2_with (go_at_call 52; refine (ops_names_any _).mono ?_; rintro e w1 ⟨rfl, hb1⟩)
    go_ret
    exact ⟨by rw [hz]; rfl, hb1⟩

/-! ### ops.namesAll: the same in a new block. -/
def NamesAllPost (w : World) (e : Ending) (w' : World) : Prop := ∃ g, e = .returned (.slice (some ⟨g, 0, none⟩) 174 174) ∧ w'.heap[g]? = some (.cells opsCells 100 (0, 0)) ∧ Below w.heap.size w w'
set_option maxRecDepth 100000 in
theorem ops_namesAll_any (w : World) : Calls Tryd.prog 51 #[] w (NamesAllPost w) := by
  have hz : ∀ w, (zeroValue 100).run Tryd.prog w = .ok (.agg opsZeros) w := fun _ => by kernel_rfl
  go_enter Tryd.func51, Tryd.ntmps51
  go_wp2_with (first | (go_at_call 52; refine (ops_names_any _).mono ?_; rintro e w1 ⟨rfl, hb1⟩) | (refine wpList_store_row rfl 100 _ _ rfl w1.heap.size opsCells rfl rfl 100 opsZeros (heap_alloc_new _ _) (by kernel_rfl) (by kernel_rfl) (by kernel_rfl) ?_))
  go_ret
  exact ⟨w1.heap.size, rfl, setRow_heap _ _ _ _ _ _ (heap_alloc_new _ _), below_setRow (hb1.alloc hb1.size _) hb1.size _⟩
end Go.Proofs.YthgkeehpoilgaaaDoor.Hv

import Derived.Shelf.Strings.BuilderK
import Derived.Shelf.Strings.BuilderF
import Derived.Test.YthgkeehpoilgaaaDoorHvHShelf
import Derived.Test.YthgkeehpoilgaaaDoorHvx0
import Derived.Test.YthgkeehpoilgaaaDoorHvHBld
namespace Go.Proofs.YthgkeehpoilgaaaDoor.Hv
open Go.RowKit Go.Proofs.YthgkeehpoilgaaaDoorW.PrintWords Go.Proofs.YthgkeehpoilgaaaDoorW.PrintLast Go.Proofs.YthgkeehpoilgaaaDoorW.PrintMore
attribute [local go_sem] max2_int min2_int max_two min_two max_three min_three max_four min_four   -- for this text's walks alone
set_option linter.unusedVariables false
set_option linter.unusedSimpArgs false

/-! ### strings.Builder written beside blocks of the call's own: what a builder holds as one text -/
theorem strCells_add (a s : ByteArray) : Lib.strCells (a ++ s) = Lib.strCells a ++ Lib.strCells s := by
  unfold Lib.strCells
  rw [ByteArray.data_append, Array.toList_append, List.map_append]
theorem bldF_below {T e : TypeId} {B b : Nat} {bs : List Value} {W W' : World} (h : Lib.IsBuilderF T e B b bs W) (hb : Below W.heap.size W W') : Lib.IsBuilderF T e B b bs W' := by
  have one : ∀ p, Lib.BuilderAtF T e B b p bs W → Lib.BuilderAtF T e B b p bs W' := by
    intro p hp
    have hlt := hp.lt
    obtain ⟨hB, v, hv, hown, hne⟩ := hp
    exact ⟨hB, v, (hb.block b hlt).trans hv, hown.kept (row := none) ⟨hb.os, hb.tape, hb.output, hb.size, fun k hk _ => hb.block k hk⟩ (Classical.em _), hne⟩
  exact h.elim (fun x => .inl (one _ x)) (fun x => .inr (one _ x))
theorem bldF_lt {T e : TypeId} {B b : Nat} {bs : List Value} {W : World} (h : Lib.IsBuilderF T e B b bs W) : b < W.heap.size := h.elim (fun x => x.lt) (fun x => x.lt)
theorem below_lower {B B' : Nat} {w w' : World} (h : Below B w w') (hB : B' ≤ B) : Below B' w w' := ⟨h.os, h.tape, h.output, h.size, fun i hi => h.block i (Nat.lt_of_lt_of_le hi hB)⟩
/-- A box of the call's own stays, where a builder is written. -/
theorem keep_box {T e t : TypeId} {B b g : Nat} {bs : List Value} {cs : Array Value} {w w1 : World} (hB : Lib.IsBuilderF T e B b bs w) (hk : Lib.OthersKept e (some b) w w1)
    (h : w.heap[g]? = some (.cells cs t (0, 0))) (ht : t ≠ T) (hte : t ≠ e) : w1.heap[g]? = some (.cells cs t (0, 0)) := by
  refine hk g _ h ?_ ?_
  · intro hgb
    obtain rfl := Option.some.inj hgb
    rcases hB with ⟨_, v, hv, _⟩ | ⟨_, v, hv, _⟩ <;>
    · rw [h] at hv
      injection hv with hv
      injection hv with _ hv _
      exact ht hv
  · intro c fz hc
    injection hc with _ hc _
    exact hte hc
theorem bld_write (b : Nat) (acc s : ByteArray) (w : World) (h : Lib.IsBuilderF 179 5 b b (Lib.strCells acc) w) (hlen : acc.size + s.size ≤ 140737488355328) :
    Calls Tryd.prog 108 #[.pointer (some ⟨b, 0, none⟩), .string s] w fun e w' => e = .returned (.tuple #[.int .i64 s.size, .nilIface]) ∧
      Lib.IsBuilderF 179 5 b b (Lib.strCells (acc ++ s)) w' ∧ Below b w w' ∧ Lib.OthersKept 5 (some b) w w' := by
  refine (Any.Builder_WriteString_k lays166 Tryd.Builder_Extra_156 b b (Lib.strCells acc) s w h (by rw [Lib.strCells_length]; exact hlen) (Nat.le_of_lt (bldF_lt h))).mono ?_
  rintro e w' ⟨he, hb, hbl, hk⟩
  exact ⟨he, .inr (by rw [strCells_add]; exact hb), hbl, hk⟩
theorem bld_len (b : Nat) (acc : ByteArray) (w : World) (h : Lib.IsBuilderF 179 5 b b (Lib.strCells acc) w) :
    Calls Tryd.prog 111 #[.pointer (some ⟨b, 0, none⟩)] w fun e w' => e = .returned (.int .i64 acc.size) ∧ w' = w := by
  refine (Any.Builder_Len_f Tryd.lays170 b b (Lib.strCells acc) w h).mono ?_
  rintro e w' ⟨he, hw⟩
  exact ⟨by rw [he, Lib.strCells_length], hw⟩
theorem bld_string (b : Nat) (acc : ByteArray) (w : World) (h : Lib.IsBuilderF 179 5 b b (Lib.strCells acc) w) :
    Calls Tryd.prog 112 #[.pointer (some ⟨b, 0, none⟩)] w fun e w' => e = .returned (.string acc) ∧ Below b w w' := by
  refine (Any.Builder_String_any_f Tryd.lays169 Tryd.Builder_Extra_169 b b acc.data.toList w (by rw [← Lib.strCells_eq]; exact h) (Nat.le_of_lt (bldF_lt h))).mono ?_
  rintro e w' ⟨he, _, hbl⟩
  exact ⟨by rw [he], hbl⟩
end Go.Proofs.YthgkeehpoilgaaaDoor.Hv

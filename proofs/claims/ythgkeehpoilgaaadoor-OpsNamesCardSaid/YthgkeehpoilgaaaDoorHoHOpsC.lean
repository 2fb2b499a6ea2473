import Derived.Laws.Tables
import Derived.Laws.Rows
import Derived.LoopTactic
import Derived.Outline
import Derived.Lib.Hide
import Derived.Test.YthgkeehpoilgaaaDoorProg
import Derived.Test.YthgkeehpoilgaaaDoorHox0
import Derived.Test.YthgkeehpoilgaaaDoorHoHOpsA
namespace Go.Proofs.YthgkeehpoilgaaaDoor.Ho
open Go.RowKit Go.Proofs.YthgkeehpoilgaaaDoorW.PrintWords Go.Proofs.YthgkeehpoilgaaaDoorW.PrintLast Go.Proofs.YthgkeehpoilgaaaDoorW.PrintMore
attribute [local go_sem] max2_int min2_int max_two min_two max_three min_three max_four min_four   -- for this text's walks alone
set_option linter.unusedVariables false
set_option linter.unusedSimpArgs false

/-! ### ops.Float: seven ranges. -/
def floatTo (k : Nat) (a : Int) : Bool :=
  (decide (0 < k) && decide (42 ≤ a) && decide (a ≤ 43)) || (decide (1 < k) && decide (56 ≤ a) && decide (a ≤ 57)) || (decide (2 < k) && decide (67 ≤ a) && decide (a ≤ 68)) || (decide (3 < k) && decide (91 ≤ a) && decide (a ≤ 102)) || (decide (4 < k) && decide (139 ≤ a) && decide (a ≤ 166)) || (decide (5 < k) && decide (168 ≤ a) && decide (a ≤ 171)) || (decide (6 < k) && decide (174 ≤ a) && decide (a ≤ 191))
def ops_Float.f (a0 : Int) : Option Bool := if 0 ≤ a0 ∧ a0 ≤ 255 then some (floatTo 7 a0) else none
def floatArr : Value := .agg #[Value.int IntKind.u8 42, Value.int IntKind.u8 43, Value.int IntKind.u8 56, Value.int IntKind.u8 57,
    Value.int IntKind.u8 67, Value.int IntKind.u8 68, Value.int IntKind.u8 91, Value.int IntKind.u8 102,
    Value.int IntKind.u8 139, Value.int IntKind.u8 166, Value.int IntKind.u8 168, Value.int IntKind.u8 171,
    Value.int IntKind.u8 174, Value.int IntKind.u8 191]
set_option maxHeartbeats 4000000 in
theorem ops_Float.calls (a0 : Int) (r : Bool) (w : World) (hG : GG [] w) (h : ops_Float.f a0 = some r) :
    Calls Tryd.prog 14 #[.int .u8 a0] w fun e w' => e = .returned (.bool r) ∧ Below w.heap.size w w' := by
  clear hG
  unfold ops_Float.f at h
  split at h
  case isFalse => cases h
  rename_i hr
  obtain ⟨h0, h1⟩ := hr
  obtain rfl := Option.some.inj h
  clear h
  go_enter Tryd.func14, Tryd.ntmps14
  go_wp2
  go_loopw [13, 4] (fun i p wr => ∃ k : Nat, k ≤ 7 ∧ i = .int .i64 k ∧ floatTo k a0 = false ∧ Below w.heap.size w wr) (fun i _ _ => 7 - (intOf i).toNat)
  case atStart => exact ⟨0, by omega, rfl, by simp [floatTo], Below.refl _ _⟩
  case round =>
    obtain ⟨k, hk, rfl, hf, hb⟩ := hrel
    have Hf := Lib.hid hf
    clear hf
    have Hb := Lib.hid hb
    clear hb
    by_cases h7 : k = 7
    · subst h7
      go_wp2
      go_ret
      exact ⟨by rw [Hf.out]; rfl, Hb.out⟩
    · have hc : k = 0 ∨ k = 1 ∨ k = 2 ∨ k = 3 ∨ k = 4 ∨ k = 5 ∨ k = 6 := by omega
      clear h7 hk
      rcases hc with rfl | rfl | rfl | rfl | rfl | rfl | rfl
      · have i0 : ∀ W, (Instr.index 105 floatArr (.int .i64 0)).run Tryd.prog W = .ok (.agg #[Value.int IntKind.u8 42, Value.int IntKind.u8 43]) W := fun _ => by kernel_rfl
        unfold floatArr at i0
        go_wp2
        all_goals first
          | (go_ret; refine ⟨by rw [show floatTo 7 a0 = true from by simp [floatTo]; omega]; rfl, ?_⟩; exact Hb.out.alloc Hb.out.size _)
          | exact ⟨⟨1, by omega, rfl, by have hq := Hf.out; simp [floatTo] at hq ⊢; omega, Hb.out.alloc Hb.out.size _⟩, by simp [intOf]⟩
      · have i0 : ∀ W, (Instr.index 105 floatArr (.int .i64 1)).run Tryd.prog W = .ok (.agg #[Value.int IntKind.u8 56, Value.int IntKind.u8 57]) W := fun _ => by kernel_rfl
        unfold floatArr at i0
        go_wp2
        all_goals first
          | (go_ret; refine ⟨by rw [show floatTo 7 a0 = true from by simp [floatTo]; omega]; rfl, ?_⟩; exact Hb.out.alloc Hb.out.size _)
          | exact ⟨⟨2, by omega, rfl, by have hq := Hf.out; simp [floatTo] at hq ⊢; omega, Hb.out.alloc Hb.out.size _⟩, by simp [intOf]⟩
      · have i0 : ∀ W, (Instr.index 105 floatArr (.int .i64 2)).run Tryd.prog W = .ok (.agg #[Value.int IntKind.u8 67, Value.int IntKind.u8 68]) W := fun _ => by kernel_rfl
        unfold floatArr at i0
        go_wp2
        all_goals first
          | (go_ret; refine ⟨by rw [show floatTo 7 a0 = true from by simp [floatTo]; omega]; rfl, ?_⟩; exact Hb.out.alloc Hb.out.size _)
          | exact ⟨⟨3, by omega, rfl, by have hq := Hf.out; simp [floatTo] at hq ⊢; omega, Hb.out.alloc Hb.out.size _⟩, by simp [intOf]⟩
      · have i0 : ∀ W, (Instr.index 105 floatArr (.int .i64 3)).run Tryd.prog W = .ok (.agg #[Value.int IntKind.u8 91, Value.int IntKind.u8 102]) W := fun _ => by kernel_rfl
        unfold floatArr at i0
        go_wp2
        all_goals first
          | (go_ret; refine ⟨by rw [show floatTo 7 a0 = true from by simp [floatTo]; omega]; rfl, ?_⟩; exact Hb.out.alloc Hb.out.size _)
          | exact ⟨⟨4, by omega, rfl, by have hq := Hf.out; simp [floatTo] at hq ⊢; omega, Hb.out.alloc Hb.out.size _⟩, by simp [intOf]⟩
      · have i0 : ∀ W, (Instr.index 105 floatArr (.int .i64 4)).run Tryd.prog W = .ok (.agg #[Value.int IntKind.u8 139, Value.int IntKind.u8 166]) W := fun _ => by kernel_rfl
        unfold floatArr at i0
        go_wp2
        all_goals first
          | (go_ret; refine ⟨by rw [show floatTo 7 a0 = true from by simp [floatTo]; omega]; rfl, ?_⟩; exact Hb.out.alloc Hb.out.size _)
          | exact ⟨⟨5, by omega, rfl, by have hq := Hf.out; simp [floatTo] at hq ⊢; omega, Hb.out.alloc Hb.out.size _⟩, by simp [intOf]⟩
      · have i0 : ∀ W, (Instr.index 105 floatArr (.int .i64 5)).run Tryd.prog W = .ok (.agg #[Value.int IntKind.u8 168, Value.int IntKind.u8 171]) W := fun _ => by kernel_rfl
        unfold floatArr at i0
        go_wp2
        all_goals first
          | (go_ret; refine ⟨by rw [show floatTo 7 a0 = true from by simp [floatTo]; omega]; rfl, ?_⟩; exact Hb.out.alloc Hb.out.size _)
          | exact ⟨⟨6, by omega, rfl, by have hq := Hf.out; simp [floatTo] at hq ⊢; omega, Hb.out.alloc Hb.out.size _⟩, by simp [intOf]⟩
      · have i0 : ∀ W, (Instr.index 105 floatArr (.int .i64 6)).run Tryd.prog W = .ok (.agg #[Value.int IntKind.u8 174, Value.int IntKind.u8 191]) W := fun _ => by kernel_rfl
        unfold floatArr at i0
        go_wp2
        all_goals first
          | (go_ret; refine ⟨by rw [show floatTo 7 a0 = true from by simp [floatTo]; omega]; rfl, ?_⟩; exact Hb.out.alloc Hb.out.size _)
          | exact ⟨⟨7, by omega, rfl, by have hq := Hf.out; simp [floatTo] at hq ⊢; omega, Hb.out.alloc Hb.out.size _⟩, by simp [intOf]⟩
end Go.Proofs.YthgkeehpoilgaaaDoor.Ho

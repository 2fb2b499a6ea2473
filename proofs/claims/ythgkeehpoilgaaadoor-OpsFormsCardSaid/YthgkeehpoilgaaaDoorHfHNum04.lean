import Derived.Test.YthgkeehpoilgaaaDoorHfx0
import Derived.Test.YthgkeehpoilgaaaDoorHfHNum
namespace Go.Proofs.YthgkeehpoilgaaaDoor.Hf
open Go.RowKit Go.Proofs.YthgkeehpoilgaaaDoorW.PrintWords Go.Proofs.YthgkeehpoilgaaaDoorW.PrintLast Go.Proofs.YthgkeehpoilgaaaDoorW.PrintMore
attribute [local go_sem] max2_int min2_int max_two min_two max_three min_three max_four min_four   -- for this text's walks alone
set_option linter.unusedVariables false
set_option linter.unusedSimpArgs false

/-! ### num: an error's number: nil 0, an api.Errno its own. -/
def mandrellaw04_num.f (a0 : Option Int) : Option Int := some (a0.getD 0)
theorem mandrellaw04_num.calls (a0 : Option Int) (r : Int) (w : World) (hG : GG [1] w) (h : mandrellaw04_num.f a0 = some r) :
    Calls Tryd.prog 16 #[errW a0] w fun e w' => e = .returned (.int .i64 r) ∧ Below w.heap.size w w' := by
  obtain rfl := Option.some.inj h
  clear h
  have hg : w.cell? ⟨0, 0, none⟩ = some (.iface 185 (.agg #[.pointer (some ⟨5, 23, none⟩)])) := hG 1 (by simp)
  clear hG
  cases a0 with
  | none =>
    go_enter Tryd.func16, Tryd.ntmps16
    simp only [errW_none]
    go_wp2
    go_ret
    exact ⟨rfl, (Below.refl _ _).alloc (Nat.le_refl _) _⟩
  | some c =>
    have hlt : 0 < w.heap.size := by
      rcases Nat.lt_or_ge 0 w.heap.size with h | h
      · exact h
      · simp [World.cell?, Array.getElem?_eq_none h] at hg
    have hgA : (w.alloc (.cells #[.int .i64 0] 99)).cell? ⟨0, 0, none⟩ = some (.iface 185 (.agg #[.pointer (some ⟨5, 23, none⟩)])) := by
      rw [World.cell?_alloc_lt _ _ ⟨0, 0, none⟩ hlt]; exact hg
    have htA : (w.alloc (.cells #[.int .i64 0] 99)).cell? ⟨w.heap.size, 0, none⟩ = some (.int .i64 0) := by simp
    have hfA : (w.alloc (.cells #[.int .i64 0] 99)).frozen? ⟨w.heap.size, 0, none⟩ = false := by simp
    clear hg
    go_enter Tryd.func16, Tryd.ntmps16
    simp only [errW_some]
    go_wp2_with (go_at_call 54; refine (as_hit c _ (.int .i64 0) _ hgA htA hfA).mono ?_; rintro e w' ⟨rfl, rfl⟩)
    go_ret
    exact ⟨rfl, by repeat (first | exact Below.refl _ _ | apply below_alloc)⟩
end Go.Proofs.YthgkeehpoilgaaaDoor.Hf

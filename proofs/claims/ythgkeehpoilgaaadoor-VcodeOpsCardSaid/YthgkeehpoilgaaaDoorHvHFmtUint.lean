import Derived.Test.YthgkeehpoilgaaaDoorHvHShelf
import Derived.Test.YthgkeehpoilgaaaDoorHvx0
namespace Go.Proofs.YthgkeehpoilgaaaDoor.Hv
open Go.RowKit Go.Proofs.YthgkeehpoilgaaaDoorW.PrintWords Go.Proofs.YthgkeehpoilgaaaDoorW.PrintLast Go.Proofs.YthgkeehpoilgaaaDoorW.PrintMore
attribute [local go_sem] max2_int min2_int max_two min_two max_three min_three max_four min_four   -- for this text's walks alone
set_option linter.unusedVariables false
set_option linter.unusedSimpArgs false

/-! ### strconv.FormatUint in base 10, below 100 (by the shelf's 'small'; TO BE WIDENED for laws that print greater offsets) -/
theorem fmtUint_small (n : Nat) (hn : n < 100) (w : World) :
    Calls Tryd.prog 141 #[.int .u64 n, .int .i64 10] w fun e w' => e = .returned (.string ⟨(Lib.decDigits n).toArray⟩) ∧ Below w.heap.size w w' := by
  have hw : wrap64 (n : Int) = (n : Int) := by unfold wrap64; omega
  have hb : decide ((n : Int) < 100) = true := decide_eq_true (by omega)
  go_enter Tryd.func141, Tryd.ntmps141
  go_wp2_with (first | (go_at_call 147; refine (Tryd.internal_strconv_small n hn _).mono ?_; rintro e w1 ⟨rfl, rfl⟩))
  go_ret
  exact ⟨rfl, by repeat (first | exact Below.refl _ _ | apply below_alloc)⟩
def strconv_FormatUint.f (a0 a1 : Int) : Option ByteArray := if a1 = 10 ∧ 0 ≤ a0 ∧ a0 < 100 then some ⟨(Lib.decDigits a0.toNat).toArray⟩ else none
theorem strconv_FormatUint.calls (a0 a1 : Int) (r : ByteArray) (w : World) (hG : GG [4] w) (h : strconv_FormatUint.f a0 a1 = some r) :
    Calls Tryd.prog 132 #[.int .u64 a0, .int .i64 a1] w fun e w' => e = .returned (.string r) ∧ Below w.heap.size w w' := by
  unfold strconv_FormatUint.f at h
  by_cases hr : a1 = 10 ∧ 0 ≤ a0 ∧ a0 < 100
  · rw [if_pos hr] at h
    obtain rfl := Option.some.inj h
    obtain ⟨rfl, h0, h1⟩ := hr
    obtain ⟨n, rfl⟩ : ∃ n : Nat, a0 = (n : Int) := ⟨a0.toNat, by omega⟩
    have hn : n < 100 := by omega
    clear h0 h1 h hG
    have ht : (n : Int).toNat = n := by simp
    rw [ht]
    go_enter Tryd.func132, Tryd.ntmps132
    go_wp2_with (first | (go_at_call 141; refine (fmtUint_small n hn _).mono ?_; rintro e w1 ⟨rfl, hb⟩))
    go_ret
    exact ⟨rfl, hb⟩
  · rw [if_neg hr] at h
    cases h
end Go.Proofs.YthgkeehpoilgaaaDoor.Hv

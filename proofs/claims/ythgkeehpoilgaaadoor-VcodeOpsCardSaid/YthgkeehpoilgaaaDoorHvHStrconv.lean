import Derived.Test.YthgkeehpoilgaaaDoorHvHShelf
import Derived.Lib.LaidTab
import Derived.Lib.ItoaNum
import Derived.Sort.Grow
import Derived.Test.YthgkeehpoilgaaaDoorHvx0
namespace Go.Proofs.YthgkeehpoilgaaaDoor.Hv
open Go.RowKit Go.Proofs.YthgkeehpoilgaaaDoorW.PrintWords Go.Proofs.YthgkeehpoilgaaaDoorW.PrintLast Go.Proofs.YthgkeehpoilgaaaDoorW.PrintMore
attribute [local go_sem] max2_int min2_int max_two min_two max_three min_three max_four min_four   -- for this text's walks alone
set_option linter.unusedVariables false
set_option linter.unusedSimpArgs false

/-! ### strconv.Itoa, strconv.FormatInt in base 10, by the shelf -/
theorem pow10_is : Lib.pow10Tab = gtab4 := by decide +kernel
theorem pow10_tab {w : World} (hG : GG [4] w) : Lib.TabIs Tryd.prog w "internal/strconv.uint64pow10" .u64 Lib.pow10Tab := by
  obtain ⟨t, sh, h⟩ := hG 4 (by simp)
  rw [pow10_is]
  unfold Lib.TabIs World.var?
  rw [show Tryd.prog.globalNamed "internal/strconv.uint64pow10" = some 3 by kernel_rfl]
  simp only [Option.bind_some]
  rw [h]
theorem grow_below {w w' : World} (h : ∃ k os, w' = Go.Sort.grow (w.drewN k) os) : Below w.heap.size w w' := by
  obtain ⟨k, os, rfl⟩ := h
  refine ⟨rfl, rfl, rfl, ?_, ?_⟩
  · show w.heap.size ≤ (w.heap ++ os).size
    simp
  · intro i hi
    show (w.heap ++ os)[i]? = w.heap[i]?
    rw [Array.getElem?_append_left hi]
def itoaF (a0 : Int) : Option ByteArray := if -9223372036854775808 ≤ a0 ∧ a0 ≤ 9223372036854775807 then some ⟨(Lib.itoa a0).toArray⟩ else none
def strconv_Itoa.f (a0 : Int) : Option ByteArray := itoaF a0
theorem strconv_Itoa.calls (a0 : Int) (r : ByteArray) (w : World) (hG : GG [4] w) (h : strconv_Itoa.f a0 = some r) :
    Calls Tryd.prog 109 #[.int .i64 a0] w fun e w' => e = .returned (.string r) ∧ Below w.heap.size w w' := by
  unfold strconv_Itoa.f itoaF at h
  by_cases hr : -9223372036854775808 ≤ a0 ∧ a0 ≤ 9223372036854775807
  · rw [if_pos hr] at h
    obtain rfl := Option.some.inj h
    exact (Tryd.strconv_Itoa a0 hr.1 hr.2 w (pow10_tab hG)).mono fun e w' h => ⟨h.1, grow_below h.2⟩
  · rw [if_neg hr] at h
    cases h
def strconv_FormatInt.f (a0 a1 : Int) : Option ByteArray := if a1 = 10 then itoaF a0 else none
theorem strconv_FormatInt.calls (a0 a1 : Int) (r : ByteArray) (w : World) (hG : GG [4] w) (h : strconv_FormatInt.f a0 a1 = some r) :
    Calls Tryd.prog 130 #[.int .i64 a0, .int .i64 a1] w fun e w' => e = .returned (.string r) ∧ Below w.heap.size w w' := by
  unfold strconv_FormatInt.f itoaF at h
  by_cases h10 : a1 = 10
  · rw [if_pos h10] at h
    subst h10
    by_cases hr : -9223372036854775808 ≤ a0 ∧ a0 ≤ 9223372036854775807
    · rw [if_pos hr] at h
      obtain rfl := Option.some.inj h
      exact (Tryd.strconv_FormatInt_10 a0 hr.1 hr.2 w (pow10_tab hG)).mono fun e w' h => ⟨h.1, grow_below h.2⟩
    · rw [if_neg hr] at h
      cases h
  · rw [if_neg h10] at h
    cases h
end Go.Proofs.YthgkeehpoilgaaaDoor.Hv

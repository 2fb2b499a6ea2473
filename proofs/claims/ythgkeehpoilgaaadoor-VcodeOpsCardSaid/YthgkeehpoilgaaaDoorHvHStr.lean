import Derived.Test.YthgkeehpoilgaaaDoorHvHShelf
import Derived.Test.YthgkeehpoilgaaaDoorHvx0
namespace Go.Proofs.YthgkeehpoilgaaaDoor.Hv
open Go.RowKit Go.Proofs.YthgkeehpoilgaaaDoorW.PrintWords Go.Proofs.YthgkeehpoilgaaaDoorW.PrintLast Go.Proofs.YthgkeehpoilgaaaDoorW.PrintMore
attribute [local go_sem] max2_int min2_int max_two min_two max_three min_three max_four min_four   -- for this text's walks alone
set_option linter.unusedVariables false
set_option linter.unusedSimpArgs false

/-! ### strings.Cut, strings.Contains: by the shelf. -/
def strings_Cut.f (a0 a1 : ByteArray) : Option (ByteArray × ByteArray × Bool) :=
  if a0.size < 4294967281 then some (⟨(Lib.cut a0.data.toList a1.data.toList).1.toArray⟩, ⟨(Lib.cut a0.data.toList a1.data.toList).2.1.toArray⟩, (Lib.cut a0.data.toList a1.data.toList).2.2) else none
theorem strings_Cut.calls (a0 a1 r1 r2 : ByteArray) (r3 : Bool) (w : World) (hG : GG [0] w) (h : strings_Cut.f a0 a1 = some (r1, r2, r3)) :
    Calls Tryd.prog 91 #[.string a0, .string a1] w fun e w' => e = .returned (.tuple #[.string r1, .string r2, .bool r3]) ∧ Drawn0 w w' := by
  obtain ⟨m, hm⟩ := hG 0 (by simp)
  unfold strings_Cut.f at h
  split at h
  case isFalse => cases h
  rename_i hs
  simp only [Option.some.injEq, Prod.mk.injEq] at h
  obtain ⟨rfl, rfl, rfl⟩ := h
  exact (Tryd.strings_Cut a0 a1 m w hs hm).mono fun e w' h => ⟨h.1, ⟨h.2⟩⟩
def strings_Contains.f (a0 a1 : ByteArray) : Option Bool := if a0.size < 4294967281 then some (Lib.contains a0.data.toList a1.data.toList) else none
theorem strings_Contains.calls (a0 a1 : ByteArray) (r : Bool) (w : World) (hG : GG [0] w) (h : strings_Contains.f a0 a1 = some r) :
    Calls Tryd.prog 92 #[.string a0, .string a1] w fun e w' => e = .returned (.bool r) ∧ Drawn0 w w' := by
  obtain ⟨m, hm⟩ := hG 0 (by simp)
  unfold strings_Contains.f at h
  split at h
  case isFalse => cases h
  rename_i hs
  have h := Option.some.inj h
  subst h
  exact (Tryd.strings_Contains a0 a1 m w hs hm).mono fun e w' h => ⟨h.1, by rw [h.2]; exact Drawn0.refl _⟩
end Go.Proofs.YthgkeehpoilgaaaDoor.Hv

/- OpsForms: whatever the number, the law's pure function answers true: each of the 256 is reckoned. -/
import Derived.Test.YthgkeehpoilgaaaDoorHfx9
namespace Go.Proofs.YthgkeehpoilgaaaDoor.Pure
open Go.RowKit Go.Proofs.YthgkeehpoilgaaaDoor.Hf Go.Proofs.YthgkeehpoilgaaaDoorW.PrintWords Go.Proofs.YthgkeehpoilgaaaDoorW.PrintLast Go.Proofs.YthgkeehpoilgaaaDoorW.PrintMore

theorem forms_all : ∀ n : Nat, n < 256 → mandrellaw04_OpsForms.f 40 (n : Int) = some true := by decide +kernel

theorem OpsForms : mandrellaw04_OpsForms.Pure := by
  intro a0 h0
  have b0 : 0 ≤ a0 ∧ a0 ≤ 255 := by simpa [Lit.wf, IntKind.min, IntKind.max, IntKind.signed, IntKind.bits] using h0
  obtain ⟨n, rfl⟩ := Int.eq_ofNat_of_zero_le b0.1
  exact ⟨40, forms_all n (by omega)⟩

end Go.Proofs.YthgkeehpoilgaaaDoor.Pure

/- VcodeOps: whatever the number, the law's pure function answers true: each of the 256 is reckoned, and the closed test once. -/
import Derived.Test.YthgkeehpoilgaaaDoorHvx12
namespace Go.Proofs.YthgkeehpoilgaaaDoor.Pure
open Go.RowKit Go.Proofs.YthgkeehpoilgaaaDoor.Hv Go.Proofs.YthgkeehpoilgaaaDoorW.PrintWords Go.Proofs.YthgkeehpoilgaaaDoorW.PrintLast Go.Proofs.YthgkeehpoilgaaaDoorW.PrintMore

theorem sure_is : mandrellaw11_sure.f 60 = some true := by decide +kernel

def endsPure (n : Nat) : Bool := match vcode_Ends.f (n : Int), mandrelref11_Ends.f (n : Int), vcode_Pure.f 60 (n : Int), mandrelref11_Pure.f 60 (n : Int) with
  | some a, some b, some c, some d => (a == b) && (c == d)
  | _, _, _, _ => false
theorem ops_all : ∀ n : Nat, n < 256 → endsPure n = true := by decide +kernel

theorem VcodeOps : mandrellaw11_VcodeOps.Pure := by
  intro a0 h0
  have b0 : 0 ≤ a0 ∧ a0 ≤ 255 := by simpa [Lit.wf, IntKind.min, IntKind.max, IntKind.signed, IntKind.bits] using h0
  obtain ⟨n, rfl⟩ := Int.eq_ofNat_of_zero_le b0.1
  refine ⟨60, ?_⟩
  have h := ops_all n (by omega)
  unfold endsPure at h
  unfold mandrellaw11_VcodeOps.f
  cases hA : vcode_Ends.f (n : Int) with
  | none => rw [hA] at h; cases h
  | some a =>
    cases hB : mandrelref11_Ends.f (n : Int) with
    | none => rw [hA, hB] at h; cases h
    | some b =>
      cases hC : vcode_Pure.f 60 (n : Int) with
      | none => rw [hA, hB, hC] at h; cases h
      | some c =>
        cases hD : mandrelref11_Pure.f 60 (n : Int) with
        | none => rw [hA, hB, hC, hD] at h; cases h
        | some d =>
          rw [hA, hB, hC, hD] at h
          have h2 : ((a == b) && (c == d)) = true := h
          rw [Bool.and_eq_true] at h2
          rw [Option.bind_some, Option.bind_some, if_pos h2.1, Option.bind_some, Option.bind_some, if_pos h2.2, sure_is, Option.bind_some]

end Go.Proofs.YthgkeehpoilgaaaDoor.Pure

/- OpsPairs: whatever the number, the law's pure function answers true: the remainder is one of 29, and each is reckoned. -/
import Derived.Test.YthgkeehpoilgaaaHyx5
namespace Go.Proofs.Ythgkeehpoilgaaa.Pure
open Go.RowKit Go.Proofs.Ythgkeehpoilgaaa.Hy Go.Proofs.YthgkeehpoilgaaaW.PrintWords Go.Proofs.YthgkeehpoilgaaaW.PrintLast Go.Proofs.YthgkeehpoilgaaaW.PrintMore

def pairsAt (q : Int) : Option Bool :=
  if q > 10 then mandrellaw04_OpsPairs.j0 300 q ((wrap64 ((wrap64 (103 + q)) - 11)) % 256) ((wrap64 ((wrap64 (121 + q)) - 11)) % 256)
  else mandrellaw04_OpsPairs.j0 300 q ((wrap64 (69 + q)) % 256) ((wrap64 (80 + q)) % 256)
theorem pairs_all : ∀ n : Nat, n < 29 → pairsAt (n : Int) = some true := by decide +kernel

theorem OpsPairs : mandrellaw04_OpsPairs.Pure := by
  intro a0 _
  refine ⟨300, ?_⟩
  have e : mandrellaw04_OpsPairs.f 300 a0 = pairsAt (wrap64 (Int.tmod (IntKind.u64.wrap a0) 29)) := rfl
  rw [e]
  have hu0 : IntKind.u64.wrap a0 = a0 % 18446744073709551616 := by simp [IntKind.wrap, IntKind.bits, IntKind.signed]
  have hu : 0 ≤ IntKind.u64.wrap a0 := by omega
  have h1 : Int.tmod (IntKind.u64.wrap a0) 29 = IntKind.u64.wrap a0 % 29 := Int.tmod_eq_emod_of_nonneg hu
  rw [h1]
  have hw : wrap64 (IntKind.u64.wrap a0 % 29) = IntKind.u64.wrap a0 % 29 := by unfold wrap64; omega
  rw [hw]
  obtain ⟨n, hn⟩ := Int.eq_ofNat_of_zero_le (show 0 ≤ IntKind.u64.wrap a0 % 29 by omega)
  rw [hn]
  exact pairs_all n (by omega)

end Go.Proofs.Ythgkeehpoilgaaa.Pure

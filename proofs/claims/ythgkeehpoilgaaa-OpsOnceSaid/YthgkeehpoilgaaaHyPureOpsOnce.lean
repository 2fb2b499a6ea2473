/- OpsOnce: whatever the two numbers, the law's pure function answers true: each name stands once in the table, none is of numbers with points, and the loop over all numbers is reckoned. -/
import Derived.Test.YthgkeehpoilgaaaHyx6
namespace Go.Proofs.Ythgkeehpoilgaaa.Pure
open Go.RowKit Go.Proofs.Ythgkeehpoilgaaa.Hy Go.Proofs.YthgkeehpoilgaaaW.PrintWords Go.Proofs.YthgkeehpoilgaaaW.PrintLast Go.Proofs.YthgkeehpoilgaaaW.PrintMore

theorem once_loop : mandrellaw04_OpsOnce.l0 600 0 0 = some true := by decide +kernel
theorem once_at : ∀ n : Nat, n < 256 → (opsTab.getD n ⟨#[]⟩).toList = [] ∨ (opsIdx (opsTab.getD n ⟨#[]⟩) = (n : Int) ∧ floatTo 7 (n : Int) = false) := by decide +kernel
theorem once_j0 (k : Nat) : mandrellaw04_OpsOnce.j0 (k + 1) false = mandrellaw04_OpsOnce.l0 k 0 0 := by simp [mandrellaw04_OpsOnce.j0]
theorem once_ej : mandrellaw04_OpsOnce.j0 601 false = some true := (once_j0 600).trans once_loop
theorem name_at (n : Nat) (h : n < 256) : ops_Name.f (n : Int) = some (opsTab.getD n ⟨#[]⟩) := by
  unfold ops_Name.f
  rw [if_pos (by omega), Int.toNat_natCast]
theorem idxFrom_congr : ∀ (l : List ByteArray) (a b : ByteArray) (i : Int), a.toList = b.toList → idxFrom l a i = idxFrom l b i
  | [], _, _, _, _ => rfl
  | x :: r, a, b, i, h => by
    unfold idxFrom
    rw [h, idxFrom_congr r a b (i + 1) h]

theorem OpsOnce : mandrellaw04_OpsOnce.Pure := by
  intro a0 a1 h0 h1
  refine ⟨601, ?_⟩
  have b0 : 0 ≤ a0 ∧ a0 ≤ 255 := by simpa [Lit.wf, IntKind.min, IntKind.max, IntKind.signed, IntKind.bits] using h0
  have b1 : 0 ≤ a1 ∧ a1 ≤ 255 := by simpa [Lit.wf, IntKind.min, IntKind.max, IntKind.signed, IntKind.bits] using h1
  obtain ⟨n, rfl⟩ := Int.eq_ofNat_of_zero_le b0.1
  obtain ⟨m, rfl⟩ := Int.eq_ofNat_of_zero_le b1.1
  have hn := once_at n (by omega)
  have hm := once_at m (by omega)
  have en : ops_Name.f (n : Int) = some (opsTab.getD n ⟨#[]⟩) := name_at n (by omega)
  have em : ops_Name.f (m : Int) = some (opsTab.getD m ⟨#[]⟩) := name_at m (by omega)
  have ef : ops_Float.f (n : Int) = some (floatTo 7 (n : Int)) := by unfold ops_Float.f; rw [if_pos b0]
  have ej : mandrellaw04_OpsOnce.j0 601 false = some true := once_ej
  have hxy : (n : Int) = m → opsTab.getD n ⟨#[]⟩ = opsTab.getD m ⟨#[]⟩ := fun h => by rw [show n = m by omega]
  unfold mandrellaw04_OpsOnce.f
  rw [en, em]
  simp only [Option.bind_some]
  generalize opsTab.getD n ⟨#[]⟩ = x at hn hxy ⊢
  generalize opsTab.getD m ⟨#[]⟩ = y at hm hxy ⊢
  by_cases hx : x.toList = []
  · rw [if_pos hx]; exact ej
  · rw [if_neg hx]
    obtain ⟨hi, hf⟩ := hn.resolve_left hx
    rw [if_neg, ef, hf]
    · rw [Option.bind_some]; exact ej
    · by_cases he : x.toList = y.toList
      · have hy : y.toList ≠ [] := by rw [← he]; exact hx
        obtain ⟨hj, _⟩ := hm.resolve_left hy
        have : opsIdx x = opsIdx y := idxFrom_congr _ _ _ _ he
        have : (n : Int) = m := by omega
        simp [he, this]
      · have : ¬ (n : Int) = m := by
          intro h
          exact he (by rw [hxy h])
        rw [show (x.toList == y.toList) = false from beq_eq_false_iff_ne.2 he, show ((n : Int) == m) = false from beq_eq_false_iff_ne.2 this]
        decide

end Go.Proofs.Ythgkeehpoilgaaa.Pure

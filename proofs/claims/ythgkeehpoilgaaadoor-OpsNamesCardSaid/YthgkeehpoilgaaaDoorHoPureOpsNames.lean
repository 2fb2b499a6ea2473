/- OpsNames: whatever the number and the name, the law's pure function answers true. -/
import Derived.Test.YthgkeehpoilgaaaDoorHox8
namespace Go.Proofs.YthgkeehpoilgaaaDoor.Pure
open Go.RowKit Go.Proofs.YthgkeehpoilgaaaDoor.Ho Go.Proofs.YthgkeehpoilgaaaDoorW.PrintWords Go.Proofs.YthgkeehpoilgaaaDoorW.PrintLast Go.Proofs.YthgkeehpoilgaaaDoorW.PrintMore

theorem names_sure : mandrellaw04_sure.f 300 = some true := by decide +kernel
theorem names_ref : ∀ n : Nat, n < 256 → mandrelref04_Name.f 12 (n : Int) = some (opsTab.getD n ⟨#[]⟩) := by decide +kernel
theorem names_op : ∀ n : Nat, n < 256 → ops_Op.f (opsTab.getD n ⟨#[]⟩) = some (if (opsTab.getD n ⟨#[]⟩).toList = [] then (0, some 1) else ((n : Int), none)) := by decide +kernel
theorem names_float : ∀ n : Nat, n < 256 → mandrelref04_Float.f (n : Int) = some (floatTo 7 (n : Int)) := by decide +kernel
theorem leO_up {α : Type} {g : Nat → Option α} (h : ∀ k, LeO (g k) (g (k + 1))) {k k' : Nat} (hk : k ≤ k') : LeO (g k) (g k') := by
  induction hk with
  | refl => exact LeO.refl _
  | step _ ih => exact fun r hr => h _ r (ih r hr)
theorem name_k (n : Nat) (hn : n < 256) (k : Nat) (hk : 12 ≤ k) : mandrelref04_Name.f k (n : Int) = some (opsTab.getD n ⟨#[]⟩) :=
  leO_up (g := fun k => mandrelref04_Name.f k (n : Int)) (fun k => mandrelref04_Name.mono _ k) hk _ (names_ref n hn)
theorem idxFrom_cons (x : ByteArray) (r : List ByteArray) (a : ByteArray) (i : Int) : idxFrom (x :: r) a i = if a.toList = x.toList then i else idxFrom r a (i + 1) := rfl
def opAns (a : ByteArray) (j : Int) : Int × Bool := if a.toList = [] then (0, false) else if j < 0 then (0, false) else (j, true)
theorem refOp_l0 (a : ByteArray) : ∀ (d n k : Nat), n + d = 256 → d + 12 < k → mandrelref04_Op.l0 k a (n : Int) = some (opAns a (idxFrom (opsTab.drop n) a (n : Int))) := by
  have hlen := opsTab_len
  intro d
  induction d with
  | zero =>
    intro n k hn hk
    obtain ⟨k, rfl⟩ : ∃ m, k = m + 1 := ⟨k - 1, by omega⟩
    obtain rfl : n = 256 := by omega
    simp only [mandrelref04_Op.l0]
    rw [if_neg (by omega), List.drop_eq_nil_of_le (by omega)]
    unfold opAns idxFrom
    split
    · rfl
    · rfl
  | succ d ih =>
    intro n k hn hk
    obtain ⟨k, rfl⟩ : ∃ m, k = m + 1 := ⟨k - 1, by omega⟩
    simp only [mandrelref04_Op.l0]
    have hm : (n : Int) % 256 = n := by omega
    have hw : wrap64 ((n : Int) + 1) = ((n + 1 : Nat) : Int) := by unfold wrap64; omega
    rw [if_pos (by omega), hm, name_k n (by omega) k (by omega), Option.bind_some, hw, ih (n + 1) k (by omega) (by omega)]
    by_cases ha : a.toList = []
    · rw [if_pos ha]
      simp [opAns, ha]
    · rw [if_neg ha]
      by_cases hlt : n < 174
      · have hlt' : n < opsTab.length := by omega
        rw [List.getD_eq_getElem?_getD, List.getElem?_eq_getElem hlt', List.drop_eq_getElem_cons hlt', Option.getD_some, idxFrom_cons]
        by_cases he : opsTab[n].toList = a.toList
        · have he2 : a.toList = opsTab[n].toList := he.symm
          rw [if_pos he, if_pos he2]
          have : ¬ (n : Int) < 0 := by omega
          simp [opAns, ha, this]
        · have he2 : ¬ a.toList = opsTab[n].toList := fun h => he h.symm
          rw [if_neg he, if_neg he2]
          rfl
      · have h0 : opsTab.getD n ⟨#[]⟩ = ⟨#[]⟩ := by rw [List.getD_eq_getElem?_getD, List.getElem?_eq_none (by omega)]; rfl
        rw [h0, List.drop_eq_nil_of_le (by omega), List.drop_eq_nil_of_le (by omega)]
        have h1 : (⟨#[]⟩ : ByteArray).toList = [] := by decide +kernel
        rw [h1, if_neg (fun h => ha h.symm)]
        rfl
theorem refOp (a : ByteArray) : mandrelref04_Op.f 300 a = some (opAns a (opsIdx a)) := refOp_l0 a 256 0 300 (by omega) (by omega)

theorem OpsNames : mandrellaw04_OpsNames.Pure := by
  intro a0 a1 h0 _
  refine ⟨300, ?_⟩
  have b0 : 0 ≤ a0 ∧ a0 ≤ 255 := by simpa [Lit.wf, IntKind.min, IntKind.max, IntKind.signed, IntKind.bits] using h0
  obtain ⟨n, rfl⟩ := Int.eq_ofNat_of_zero_le b0.1
  have hn : n < 256 := by omega
  have en : ops_Name.f (n : Int) = some (opsTab.getD n ⟨#[]⟩) := by
    unfold ops_Name.f
    rw [if_pos (by omega), Int.toNat_natCast]
  have er := name_k n hn 300 (by omega)
  have eo := names_op n hn
  have ef := names_float n hn
  have eg : ops_Float.f (n : Int) = some (floatTo 7 (n : Int)) := by unfold ops_Float.f; rw [if_pos b0]
  have e1 : ops_Op.f a1 = some (if a1.toList = [] then (0, some 1) else if opsIdx a1 < 0 then (0, some 1) else (opsIdx a1, none)) := rfl
  have es := names_sure
  unfold mandrellaw04_OpsNames.f
  rw [e1, refOp a1]
  simp only [Option.bind_some, en, er, eo, ef, eg]
  generalize opsTab.getD n ⟨#[]⟩ = x
  generalize floatTo 7 (n : Int) = b
  generalize opsIdx a1 = i
  unfold opAns
  by_cases hx : x.toList = [] <;> by_cases ha : a1.toList = [] <;> by_cases hi : i < 0 <;> simp [hx, ha, hi, es, mandrellaw04_num.f]

end Go.Proofs.YthgkeehpoilgaaaDoor.Pure

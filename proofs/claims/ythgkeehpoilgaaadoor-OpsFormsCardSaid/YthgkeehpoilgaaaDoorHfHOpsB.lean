import Derived.Outline
import Derived.Test.YthgkeehpoilgaaaDoorProg
import Derived.Test.YthgkeehpoilgaaaDoorHfx0
import Derived.Test.YthgkeehpoilgaaaDoorHfHOpsA
import Derived.Test.YthgkeehpoilgaaaDoorHfx1
namespace Go.Proofs.YthgkeehpoilgaaaDoor.Hf
open Go.RowKit Go.Proofs.YthgkeehpoilgaaaDoorW.PrintWords Go.Proofs.YthgkeehpoilgaaaDoorW.PrintLast Go.Proofs.YthgkeehpoilgaaaDoorW.PrintMore
attribute [local go_sem] max2_int min2_int max_two min_two max_three min_three max_four min_four   -- for this text's walks alone
set_option linter.unusedVariables false
set_option linter.unusedSimpArgs false

/-! ### ops.Op: where a name stands in the table. -/
def idxFrom : List ByteArray → ByteArray → Int → Int
  | [], _, _ => -1
  | x :: r, a, i => if a.toList = x.toList then i else idxFrom r a (i + 1)
theorem idxFrom_range : ∀ (l : List ByteArray) (a : ByteArray) (i : Int), 0 ≤ i → -1 ≤ idxFrom l a i ∧ idxFrom l a i < i + l.length
  | [], _, i, h => by simp [idxFrom]; omega
  | x :: r, a, i, h => by
    have := idxFrom_range r a (i + 1) (by omega)
    unfold idxFrom
    split <;> simp <;> omega
def opsIdx (a : ByteArray) : Int := idxFrom opsTab a 0
def ops_Op.f (a0 : ByteArray) : Option (Int × Option Int) := some (if a0.toList = [] then (0, some 1) else if opsIdx a0 < 0 then (0, some 1) else (opsIdx a0, none))

theorem idx_l0 (xs : List ByteArray) (a : ByteArray) (hn : xs.length ≤ 1000) : ∀ (d i k : Nat), i + d = xs.length → d < k →
    slices_Index_string_string.l0 k xs a (xs.length : Int) (i : Int) = some (idxFrom (xs.drop i) a (i : Int)) := by
  intro d
  induction d with
  | zero =>
    intro i k hi hk
    obtain ⟨k, rfl⟩ : ∃ m, k = m + 1 := ⟨k - 1, by omega⟩
    simp only [slices_Index_string_string.l0]
    rw [if_neg (by omega), List.drop_eq_nil_of_le (by omega)]
    rfl
  | succ d ih =>
    intro i k hi hk
    obtain ⟨k, rfl⟩ : ∃ m, k = m + 1 := ⟨k - 1, by omega⟩
    simp only [slices_Index_string_string.l0]
    have hlt : i < xs.length := by omega
    rw [if_pos (by omega), if_pos (by omega), if_pos (by omega), List.drop_eq_getElem_cons hlt]
    have he : rdOf ByteArray.empty xs (i : Int) = xs[i] := by simp [rdOf, List.getD_eq_getElem?_getD, List.getElem?_eq_getElem hlt]
    rw [he]
    unfold idxFrom
    split
    · rfl
    · have hw : wrap64 ((i : Int) + 1) = ((i + 1 : Nat) : Int) := by unfold wrap64; omega
      rw [hw, ih (i + 1) k (by omega) (by omega)]
      rfl

theorem index_tab (a0 : ByteArray) (g : Nat) (w : World) (hh : w.heap[g]? = some (.cells opsCells 100 (0, 0))) :
    Calls Tryd.prog 50 #[.slice (some ⟨g, 0, none⟩) 174 174, .string a0] w fun e w' => e = .returned (.int .i64 (opsIdx a0)) ∧ Drawn0 w w' := by
  have hl := opsTab_len
  have h := slices_Index_string_string.calls 200 (some ⟨g, 0, none⟩) 174 opsTab a0 (opsIdx a0) w
    ⟨rfl, by omega, fun _ => ⟨_, rfl, fun j p hj => ⟨[.string p], rfl, rfl, fun i u hu => by
      obtain rfl : i = 0 := by
        rcases i with _ | i
        · rfl
        · simp at hu
      obtain rfl : Value.string p = u := by simpa using hu
      rw [add_plain, cell_of_row _ _ _ _ _ _ hh]
      have e1 : (Kd.string).sz = 1 := rfl
      simp only [e1, opsCells, List.getElem?_toArray, List.getElem?_map, Nat.mul_one, Nat.add_zero, hj]
      rfl⟩⟩⟩ (by omega) (fun i hi => absurd hi (by simp))
    (by
      have := idx_l0 opsTab a0 (by omega) 174 0 200 (by omega) (by omega)
      exact this)
  rw [hl] at h
  exact h

theorem ops_Op.calls (a0 : ByteArray) (r1 : Int) (r2 : Option Int) (w : World) (hG : GG [] w) (h : ops_Op.f a0 = some (r1, r2)) :
    Calls Tryd.prog 10 #[.string a0] w fun e w' => e = .returned (.tuple #[.int .u8 r1, errW r2]) ∧ Below w.heap.size w w' := by
  clear hG
  have hr := idxFrom_range opsTab a0 0 (by omega)
  have hl := opsTab_len
  have hlo : -1 ≤ opsIdx a0 := hr.1
  have hhi : opsIdx a0 < 174 := by have := hr.2; unfold opsIdx; omega
  clear hr hl
  unfold ops_Op.f at h
  have h := Option.some.inj h
  by_cases he : a0.toList = []
  · rw [if_pos he] at h
    simp only [Prod.mk.injEq] at h
    obtain ⟨rfl, rfl⟩ := h
    clear h
    go_enter Tryd.func10, Tryd.ntmps10
    go_wp2_with (first | (go_at_call 51; refine (ops_namesAll_any _).mono ?_; rintro e w1 ⟨g, rfl, hh, hb⟩) | (go_at_call 50; refine (index_tab a0 g _ hh).mono ?_; rintro e w2 ⟨rfl, ⟨nd, rfl⟩⟩))
    go_ret2
    exact ⟨rfl, pw_below_drewN hb _⟩
  · rw [if_neg he] at h
    have he' : a0.toList.isEmpty = false := by
      cases hq : a0.toList with
      | nil => exact absurd hq he
      | cons x r => rfl
    clear he
    by_cases hn : opsIdx a0 < 0
    · rw [if_pos hn] at h
      simp only [Prod.mk.injEq] at h
      obtain ⟨rfl, rfl⟩ := h
      go_enter Tryd.func10, Tryd.ntmps10
      go_wp2_with (first | (go_at_call 51; refine (ops_namesAll_any _).mono ?_; rintro e w1 ⟨g, rfl, hh, hb⟩) | (go_at_call 50; refine (index_tab a0 g _ hh).mono ?_; rintro e w2 ⟨rfl, ⟨nd, rfl⟩⟩))
      go_ret2
      exact ⟨rfl, pw_below_drewN hb _⟩
    · rw [if_neg hn] at h
      simp only [Prod.mk.injEq] at h
      obtain ⟨rfl, rfl⟩ := h
      have h0 : 0 ≤ opsIdx a0 := by omega
      go_enter Tryd.func10, Tryd.ntmps10
      go_wp2_with (first | (go_at_call 51; refine (ops_namesAll_any _).mono ?_; rintro e w1 ⟨g, rfl, hh, hb⟩) | (go_at_call 50; refine (index_tab a0 g _ hh).mono ?_; rintro e w2 ⟨rfl, ⟨nd, rfl⟩⟩))
      go_ret2
      exact ⟨rfl, pw_below_drewN hb _⟩
end Go.Proofs.YthgkeehpoilgaaaDoor.Hf

import Derived.Test.YthgkeehpoilgaaaDoorHvx0
namespace Go.Proofs.YthgkeehpoilgaaaDoor.Hv
open Go.RowKit Go.Proofs.YthgkeehpoilgaaaDoorW.PrintWords Go.Proofs.YthgkeehpoilgaaaDoorW.PrintLast Go.Proofs.YthgkeehpoilgaaaDoorW.PrintMore
attribute [local go_sem] max2_int min2_int max_two min_two max_three min_three max_four min_four   -- for this text's walks alone
set_option linter.unusedVariables false
set_option linter.unusedSimpArgs false

def awayB (x n : Int) : Bool := decide (x < 0) || decide (n ≤ x)
def awayIdx : List Int → Int → Int → Int
  | [], _, _ => -1
  | x :: r, n, i => if awayB x n = true then i else awayIdx r n (i + 1)
theorem awayIdx_iff : ∀ (l : List Int) (n i : Int), 0 ≤ i → decide (0 ≤ awayIdx l n i) = l.any fun x => awayB x n
  | [], n, i, h => by simp [awayIdx]
  | x :: r, n, i, h => by
    unfold awayIdx
    by_cases hx : awayB x n = true
    · simp [hx, h]
    · rw [if_neg hx, awayIdx_iff r n (i + 1) (by omega)]
      simp [hx]
theorem awayIdx_step (l : List Int) (n : Int) (k : Nat) (h : k < l.length) : awayIdx (l.drop k) n (k : Int) = if awayB (l.getD k 0) n = true then (k : Int) else awayIdx (l.drop (k + 1)) n ((k + 1 : Nat) : Int) := by
  rw [List.drop_eq_getElem_cons h, List.getD_eq_getElem?_getD, List.getElem?_eq_getElem h]
  rfl
theorem away_cell {w : World} {A : Option Addr} {l : List Int} (h : Kd.C (Kd.int .i64) w A l.length l) (k : Nat) (hk : k < l.length) : ∃ ad x, A = some ad ∧ x = l.getD k 0 ∧ w.cell? (ad.add k) = some (.int .i64 x) := by
  obtain ⟨ad, e, hc⟩ := h.2.2 (by omega)
  obtain ⟨c, hl, hp, hu⟩ := hc k _ (List.getElem?_eq_getElem hk)
  have hp : c = [.int .i64 l[k]] := hp
  subst hp
  have e1 : (Kd.int .i64).sz = 1 := rfl
  refine ⟨ad, _, e, rfl, ?_⟩
  have := hu 0 _ rfl
  rw [e1, Nat.mul_one, Nat.add_zero] at this
  rw [this, List.getD_eq_getElem?_getD, List.getElem?_eq_getElem hk]
  rfl
end Go.Proofs.YthgkeehpoilgaaaDoor.Hv

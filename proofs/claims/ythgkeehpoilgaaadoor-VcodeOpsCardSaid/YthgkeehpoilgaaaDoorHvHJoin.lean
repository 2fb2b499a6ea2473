import Derived.Test.YthgkeehpoilgaaaDoorHvHShelf
import Derived.Test.YthgkeehpoilgaaaDoorHvx0
import Derived.Test.YthgkeehpoilgaaaDoorHvHBld
namespace Go.Proofs.YthgkeehpoilgaaaDoor.Hv
open Go.RowKit Go.Proofs.YthgkeehpoilgaaaDoorW.PrintWords Go.Proofs.YthgkeehpoilgaaaDoorW.PrintLast Go.Proofs.YthgkeehpoilgaaaDoorW.PrintMore
attribute [local go_sem] max2_int min2_int max_two min_two max_three min_three max_four min_four   -- for this text's walks alone
set_option linter.unusedVariables false
set_option linter.unusedSimpArgs false

/-! ### strings.Join, by the shelf -/
def joinL (l : List ByteArray) (sep : ByteArray) : List UInt8 := Lib.join (l.map (·.data.toList)) sep.data.toList
def strings_Join.f (l : List ByteArray) (sep : ByteArray) : Option ByteArray :=
  if l = [] then some ⟨#[]⟩ else if l.length ≤ 140737488355328 ∧ (joinL l sep).length ≤ 140737488355328 then some ⟨(joinL l sep).toArray⟩ else none
theorem strings_Join.calls (A0 : Option Addr) (c0 : Nat) (l0 : List ByteArray) (a1 : ByteArray) (r : ByteArray) (w : World) (hr0 : Kd.C Kd.string w A0 l0.length l0) (hc0 : l0.length ≤ c0) (hG : GG [] w) (h : strings_Join.f l0 a1 = some r) :
    Calls Tryd.prog 133 #[.slice A0 l0.length c0, .string a1] w fun e w' => e = .returned (.string r) ∧ Below w.heap.size w w' := by
  unfold strings_Join.f at h
  by_cases he : l0 = []
  · rw [if_pos he] at h
    obtain rfl := Option.some.inj h
    subst he
    exact (Tryd.strings_Join_none A0 c0 a1 w).mono fun e w' h => ⟨h.1, h.2 ▸ Below.refl _ _⟩
  · rw [if_neg he] at h
    by_cases hb : l0.length ≤ 140737488355328 ∧ (joinL l0 a1).length ≤ 140737488355328
    · rw [if_pos hb] at h
      obtain rfl := Option.some.inj h
      have hpos : 0 < l0.length := List.length_pos_iff.2 he
      obtain ⟨ad, rfl, hcell⟩ := hr0.2.2 hpos
      have hat : ∀ (j : Nat) x, l0[j]? = some x → w.cell? (ad.add j) = some (.string x) := by
        intro j x hj
        obtain ⟨c, hl, hp, hu⟩ := hcell j x hj
        have hp : c = [.string x] := hp
        subst hp
        have := hu 0 _ rfl
        have e1 : (Kd.string).sz = 1 := rfl
        rw [e1, Nat.mul_one, Nat.add_zero] at this
        exact this
      obtain ⟨b, o, spot⟩ := ad
      have h0 := hat 0 l0[0] (List.getElem?_eq_getElem hpos)
      cases spot with
      | some s =>
        have h1 : w.cell? ⟨b, o, some s⟩ = some (.string l0[0]) := h0
        unfold World.cell? at h1
        split at h1
        · simp at h1
        · cases h1
      | none =>
        have hbk : b < w.heap.size := World.block_lt_of_cell? w _ h0
        refine (Tryd.strings_Join b o c0 l0 a1 w (fun j x hj => ?_) hbk hb.1 hc0 hb.2).mono fun e w' h => h
        have h2 := hat j x hj
        have ha : (⟨b, o, none⟩ : Addr).add j = ⟨b, o + j, none⟩ := by unfold Addr.add; split <;> simp_all
        rw [ha] at h2
        exact h2
    · rw [if_neg hb] at h
      cases h
end Go.Proofs.YthgkeehpoilgaaaDoor.Hv

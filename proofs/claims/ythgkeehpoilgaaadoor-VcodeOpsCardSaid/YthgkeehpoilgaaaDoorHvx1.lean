-- WRITTEN BY hyb.py (a program of this work's own) out of the translation, by the kit's print. Not trusted: Lean checks it.
import Derived.Test.YthgkeehpoilgaaaDoorHvx0
namespace Go.Proofs.YthgkeehpoilgaaaDoor.Hv
open Go.RowKit Go.Proofs.YthgkeehpoilgaaaDoorW.PrintWords Go.Proofs.YthgkeehpoilgaaaDoorW.PrintLast Go.Proofs.YthgkeehpoilgaaaDoorW.PrintMore
attribute [local go_sem] max2_int min2_int max_two min_two max_three min_three max_four min_four   -- for this text's walks alone
set_option linter.unusedVariables false
set_option linter.unusedSimpArgs false

/-! ### vcode_Ends: function 34 -/
def vcode_Ends.f (a0 : Int) : Option (Bool) := if a0 = 193 then (some true) else (if a0 = 194 then (some true) else (if a0 = 195 then (some true) else (if a0 = 15 then (some true) else (some (a0 == 0)))))
set_option maxHeartbeats 8000000 in
set_option maxRecDepth 100000 in
theorem vcode_Ends.calls (a0 : Int) (r : Bool) (w : World) (hG : GG [] w) (h : vcode_Ends.f a0 = some r) :
    Calls Tryd.prog 34 #[.int .u8 a0] w fun e w' => e = .returned (.bool r) ∧ Drawn0 w w' := by
  have HG := Aside0.mk hG
  clear hG
  have H : (if a0 = 193 then (some true) else (if a0 = 194 then (some true) else (if a0 = 195 then (some true) else (if a0 = 15 then (some true) else (some (a0 == 0)))))) = some r := h
  clear h
  by_cases c2 : a0 = 193
  · rw [if_pos c2] at H
    have c2b0 : (a0 == 193) = true := beq_iff_eq.mpr c2
    have c2b1 : (a0 != 193) = false := bne_eq_false_iff_eq.mpr c2
    clear c2
    obtain rfl := Option.some.inj H
    go_enter Tryd.func34, Tryd.ntmps34
    go_wp2
    go_ret
    exact ⟨by first | rfl | (simp; done) | (simp [*]; done), by repeat (first | exact Drawn0.refl _ | apply Drawn0.step)⟩
  · rw [if_neg c2] at H
    have c2b0 : (a0 == 193) = false := beq_eq_false_iff_ne.mpr c2
    have c2b1 : (a0 != 193) = true := bne_iff_ne.mpr c2
    by_cases c3 : a0 = 194
    · rw [if_pos c3] at H
      have c3b0 : (a0 == 194) = true := beq_iff_eq.mpr c3
      have c3b1 : (a0 != 194) = false := bne_eq_false_iff_eq.mpr c3
      clear c3
      obtain rfl := Option.some.inj H
      go_enter Tryd.func34, Tryd.ntmps34
      go_wp2
      go_ret
      exact ⟨by first | rfl | (simp; done) | (simp [*]; done), by repeat (first | exact Drawn0.refl _ | apply Drawn0.step)⟩
    · rw [if_neg c3] at H
      have c3b0 : (a0 == 194) = false := beq_eq_false_iff_ne.mpr c3
      have c3b1 : (a0 != 194) = true := bne_iff_ne.mpr c3
      by_cases c4 : a0 = 195
      · rw [if_pos c4] at H
        have c4b0 : (a0 == 195) = true := beq_iff_eq.mpr c4
        have c4b1 : (a0 != 195) = false := bne_eq_false_iff_eq.mpr c4
        clear c4
        obtain rfl := Option.some.inj H
        go_enter Tryd.func34, Tryd.ntmps34
        go_wp2
        go_ret
        exact ⟨by first | rfl | (simp; done) | (simp [*]; done), by repeat (first | exact Drawn0.refl _ | apply Drawn0.step)⟩
      · rw [if_neg c4] at H
        have c4b0 : (a0 == 195) = false := beq_eq_false_iff_ne.mpr c4
        have c4b1 : (a0 != 195) = true := bne_iff_ne.mpr c4
        by_cases c5 : a0 = 15
        · rw [if_pos c5] at H
          have c5b0 : (a0 == 15) = true := beq_iff_eq.mpr c5
          have c5b1 : (a0 != 15) = false := bne_eq_false_iff_eq.mpr c5
          clear c5
          obtain rfl := Option.some.inj H
          go_enter Tryd.func34, Tryd.ntmps34
          go_wp2
          go_ret
          exact ⟨by first | rfl | (simp; done) | (simp [*]; done), by repeat (first | exact Drawn0.refl _ | apply Drawn0.step)⟩
        · rw [if_neg c5] at H
          have c5b0 : (a0 == 15) = false := beq_eq_false_iff_ne.mpr c5
          have c5b1 : (a0 != 15) = true := bne_iff_ne.mpr c5
          obtain rfl := Option.some.inj H
          go_enter Tryd.func34, Tryd.ntmps34
          go_wp2
          go_ret
          exact ⟨by first | rfl | (simp; done) | (simp [*]; done), by repeat (first | exact Drawn0.refl _ | apply Drawn0.step)⟩

/-! ### mandrelref11_Ends: function 35 -/
def mandrelref11_Ends.f (a0 : Int) : Option (Bool) := if a0 = 193 then (some true) else (if a0 = 194 then (some true) else (if a0 = 195 then (some true) else (if a0 = 15 then (some true) else (some (a0 == 0)))))
set_option maxHeartbeats 8000000 in
set_option maxRecDepth 100000 in
theorem mandrelref11_Ends.calls (a0 : Int) (r : Bool) (w : World) (hG : GG [] w) (h : mandrelref11_Ends.f a0 = some r) :
    Calls Tryd.prog 35 #[.int .u8 a0] w fun e w' => e = .returned (.bool r) ∧ Drawn0 w w' := by
  have HG := Aside0.mk hG
  clear hG
  have H : (if a0 = 193 then (some true) else (if a0 = 194 then (some true) else (if a0 = 195 then (some true) else (if a0 = 15 then (some true) else (some (a0 == 0)))))) = some r := h
  clear h
  by_cases c2 : a0 = 193
  · rw [if_pos c2] at H
    have c2b0 : (a0 == 193) = true := beq_iff_eq.mpr c2
    have c2b1 : (a0 != 193) = false := bne_eq_false_iff_eq.mpr c2
    clear c2
    obtain rfl := Option.some.inj H
    go_enter Tryd.func35, Tryd.ntmps35
    go_wp2
    go_ret
    exact ⟨by first | rfl | (simp; done) | (simp [*]; done), by repeat (first | exact Drawn0.refl _ | apply Drawn0.step)⟩
  · rw [if_neg c2] at H
    have c2b0 : (a0 == 193) = false := beq_eq_false_iff_ne.mpr c2
    have c2b1 : (a0 != 193) = true := bne_iff_ne.mpr c2
    by_cases c3 : a0 = 194
    · rw [if_pos c3] at H
      have c3b0 : (a0 == 194) = true := beq_iff_eq.mpr c3
      have c3b1 : (a0 != 194) = false := bne_eq_false_iff_eq.mpr c3
      clear c3
      obtain rfl := Option.some.inj H
      go_enter Tryd.func35, Tryd.ntmps35
      go_wp2
      go_ret
      exact ⟨by first | rfl | (simp; done) | (simp [*]; done), by repeat (first | exact Drawn0.refl _ | apply Drawn0.step)⟩
    · rw [if_neg c3] at H
      have c3b0 : (a0 == 194) = false := beq_eq_false_iff_ne.mpr c3
      have c3b1 : (a0 != 194) = true := bne_iff_ne.mpr c3
      by_cases c4 : a0 = 195
      · rw [if_pos c4] at H
        have c4b0 : (a0 == 195) = true := beq_iff_eq.mpr c4
        have c4b1 : (a0 != 195) = false := bne_eq_false_iff_eq.mpr c4
        clear c4
        obtain rfl := Option.some.inj H
        go_enter Tryd.func35, Tryd.ntmps35
        go_wp2
        go_ret
        exact ⟨by first | rfl | (simp; done) | (simp [*]; done), by repeat (first | exact Drawn0.refl _ | apply Drawn0.step)⟩
      · rw [if_neg c4] at H
        have c4b0 : (a0 == 195) = false := beq_eq_false_iff_ne.mpr c4
        have c4b1 : (a0 != 195) = true := bne_iff_ne.mpr c4
        by_cases c5 : a0 = 15
        · rw [if_pos c5] at H
          have c5b0 : (a0 == 15) = true := beq_iff_eq.mpr c5
          have c5b1 : (a0 != 15) = false := bne_eq_false_iff_eq.mpr c5
          clear c5
          obtain rfl := Option.some.inj H
          go_enter Tryd.func35, Tryd.ntmps35
          go_wp2
          go_ret
          exact ⟨by first | rfl | (simp; done) | (simp [*]; done), by repeat (first | exact Drawn0.refl _ | apply Drawn0.step)⟩
        · rw [if_neg c5] at H
          have c5b0 : (a0 == 15) = false := beq_eq_false_iff_ne.mpr c5
          have c5b1 : (a0 != 15) = true := bne_iff_ne.mpr c5
          obtain rfl := Option.some.inj H
          go_enter Tryd.func35, Tryd.ntmps35
          go_wp2
          go_ret
          exact ⟨by first | rfl | (simp; done) | (simp [*]; done), by repeat (first | exact Drawn0.refl _ | apply Drawn0.step)⟩

end Go.Proofs.YthgkeehpoilgaaaDoor.Hv

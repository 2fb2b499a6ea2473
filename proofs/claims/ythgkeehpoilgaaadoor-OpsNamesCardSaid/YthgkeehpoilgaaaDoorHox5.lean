-- WRITTEN BY hyb.py (a program of this work's own) out of the translation, by the kit's print. Not trusted: Lean checks it.
import Derived.Test.YthgkeehpoilgaaaDoorHox0
namespace Go.Proofs.YthgkeehpoilgaaaDoor.Ho
open Go.RowKit Go.Proofs.YthgkeehpoilgaaaDoorW.PrintWords Go.Proofs.YthgkeehpoilgaaaDoorW.PrintLast Go.Proofs.YthgkeehpoilgaaaDoorW.PrintMore
attribute [local go_sem] max2_int min2_int max_two min_two max_three min_three max_four min_four   -- for this text's walks alone
set_option linter.unusedVariables false
set_option linter.unusedSimpArgs false

/-! ### mandrelref04_Float: function 15 -/
def mandrelref04_Float.f (a0 : Int) : Option (Bool) := if (wrap64 (a0)) = 42 then (some true) else (if (wrap64 (a0)) = 43 then (some true) else (if (wrap64 (a0)) = 56 then (some true) else (if (wrap64 (a0)) = 57 then (some true) else (if (wrap64 (a0)) = 67 then (some true) else (if (wrap64 (a0)) = 68 then (some true) else (if (wrap64 (a0)) ≥ 91 then (if (wrap64 (a0)) ≤ 102 then (some true) else (if (wrap64 (a0)) ≥ 139 then (if (wrap64 (a0)) ≤ 166 then (some true) else (if (wrap64 (a0)) ≥ 168 then (if (wrap64 (a0)) ≤ 171 then (some true) else (if (wrap64 (a0)) ≥ 174 then (some (decide ((wrap64 (a0)) ≤ 191))) else (some false))) else (if (wrap64 (a0)) ≥ 174 then (some (decide ((wrap64 (a0)) ≤ 191))) else (some false)))) else (if (wrap64 (a0)) ≥ 168 then (if (wrap64 (a0)) ≤ 171 then (some true) else (if (wrap64 (a0)) ≥ 174 then (some (decide ((wrap64 (a0)) ≤ 191))) else (some false))) else (if (wrap64 (a0)) ≥ 174 then (some (decide ((wrap64 (a0)) ≤ 191))) else (some false))))) else (if (wrap64 (a0)) ≥ 139 then (if (wrap64 (a0)) ≤ 166 then (some true) else (if (wrap64 (a0)) ≥ 168 then (if (wrap64 (a0)) ≤ 171 then (some true) else (if (wrap64 (a0)) ≥ 174 then (some (decide ((wrap64 (a0)) ≤ 191))) else (some false))) else (if (wrap64 (a0)) ≥ 174 then (some (decide ((wrap64 (a0)) ≤ 191))) else (some false)))) else (if (wrap64 (a0)) ≥ 168 then (if (wrap64 (a0)) ≤ 171 then (some true) else (if (wrap64 (a0)) ≥ 174 then (some (decide ((wrap64 (a0)) ≤ 191))) else (some false))) else (if (wrap64 (a0)) ≥ 174 then (some (decide ((wrap64 (a0)) ≤ 191))) else (some false))))))))))
set_option maxHeartbeats 8000000 in
set_option maxRecDepth 100000 in
theorem mandrelref04_Float.calls (a0 : Int) (r : Bool) (w : World) (hG : GG [] w) (h : mandrelref04_Float.f a0 = some r) :
    Calls Tryd.prog 15 #[.int .u8 a0] w fun e w' => e = .returned (.bool r) ∧ Drawn0 w w' := by
  have HG := Aside0.mk hG
  clear hG
  have H : (if (wrap64 (a0)) = 42 then (some true) else (if (wrap64 (a0)) = 43 then (some true) else (if (wrap64 (a0)) = 56 then (some true) else (if (wrap64 (a0)) = 57 then (some true) else (if (wrap64 (a0)) = 67 then (some true) else (if (wrap64 (a0)) = 68 then (some true) else (if (wrap64 (a0)) ≥ 91 then (if (wrap64 (a0)) ≤ 102 then (some true) else (if (wrap64 (a0)) ≥ 139 then (if (wrap64 (a0)) ≤ 166 then (some true) else (if (wrap64 (a0)) ≥ 168 then (if (wrap64 (a0)) ≤ 171 then (some true) else (if (wrap64 (a0)) ≥ 174 then (some (decide ((wrap64 (a0)) ≤ 191))) else (some false))) else (if (wrap64 (a0)) ≥ 174 then (some (decide ((wrap64 (a0)) ≤ 191))) else (some false)))) else (if (wrap64 (a0)) ≥ 168 then (if (wrap64 (a0)) ≤ 171 then (some true) else (if (wrap64 (a0)) ≥ 174 then (some (decide ((wrap64 (a0)) ≤ 191))) else (some false))) else (if (wrap64 (a0)) ≥ 174 then (some (decide ((wrap64 (a0)) ≤ 191))) else (some false))))) else (if (wrap64 (a0)) ≥ 139 then (if (wrap64 (a0)) ≤ 166 then (some true) else (if (wrap64 (a0)) ≥ 168 then (if (wrap64 (a0)) ≤ 171 then (some true) else (if (wrap64 (a0)) ≥ 174 then (some (decide ((wrap64 (a0)) ≤ 191))) else (some false))) else (if (wrap64 (a0)) ≥ 174 then (some (decide ((wrap64 (a0)) ≤ 191))) else (some false)))) else (if (wrap64 (a0)) ≥ 168 then (if (wrap64 (a0)) ≤ 171 then (some true) else (if (wrap64 (a0)) ≥ 174 then (some (decide ((wrap64 (a0)) ≤ 191))) else (some false))) else (if (wrap64 (a0)) ≥ 174 then (some (decide ((wrap64 (a0)) ≤ 191))) else (some false))))))))))) = some r := h
  clear h
  by_cases c2 : (wrap64 (a0)) = 42
  · rw [if_pos c2] at H
    have c2b0 : ((wrap64 (a0)) == 42) = true := beq_iff_eq.mpr c2
    have c2b1 : ((wrap64 (a0)) != 42) = false := bne_eq_false_iff_eq.mpr c2
    clear c2
    obtain rfl := Option.some.inj H
    go_enter Tryd.func15, Tryd.ntmps15
    go_wp2
    go_ret
    exact ⟨by first | rfl | (simp; done) | (simp [*]; done), by repeat (first | exact Drawn0.refl _ | apply Drawn0.step)⟩
  · rw [if_neg c2] at H
    have c2b0 : ((wrap64 (a0)) == 42) = false := beq_eq_false_iff_ne.mpr c2
    have c2b1 : ((wrap64 (a0)) != 42) = true := bne_iff_ne.mpr c2
    by_cases c3 : (wrap64 (a0)) = 43
    · rw [if_pos c3] at H
      have c3b0 : ((wrap64 (a0)) == 43) = true := beq_iff_eq.mpr c3
      have c3b1 : ((wrap64 (a0)) != 43) = false := bne_eq_false_iff_eq.mpr c3
      clear c3
      obtain rfl := Option.some.inj H
      go_enter Tryd.func15, Tryd.ntmps15
      go_wp2
      go_ret
      exact ⟨by first | rfl | (simp; done) | (simp [*]; done), by repeat (first | exact Drawn0.refl _ | apply Drawn0.step)⟩
    · rw [if_neg c3] at H
      have c3b0 : ((wrap64 (a0)) == 43) = false := beq_eq_false_iff_ne.mpr c3
      have c3b1 : ((wrap64 (a0)) != 43) = true := bne_iff_ne.mpr c3
      by_cases c4 : (wrap64 (a0)) = 56
      · rw [if_pos c4] at H
        have c4b0 : ((wrap64 (a0)) == 56) = true := beq_iff_eq.mpr c4
        have c4b1 : ((wrap64 (a0)) != 56) = false := bne_eq_false_iff_eq.mpr c4
        clear c4
        obtain rfl := Option.some.inj H
        go_enter Tryd.func15, Tryd.ntmps15
        go_wp2
        go_ret
        exact ⟨by first | rfl | (simp; done) | (simp [*]; done), by repeat (first | exact Drawn0.refl _ | apply Drawn0.step)⟩
      · rw [if_neg c4] at H
        have c4b0 : ((wrap64 (a0)) == 56) = false := beq_eq_false_iff_ne.mpr c4
        have c4b1 : ((wrap64 (a0)) != 56) = true := bne_iff_ne.mpr c4
        by_cases c5 : (wrap64 (a0)) = 57
        · rw [if_pos c5] at H
          have c5b0 : ((wrap64 (a0)) == 57) = true := beq_iff_eq.mpr c5
          have c5b1 : ((wrap64 (a0)) != 57) = false := bne_eq_false_iff_eq.mpr c5
          clear c5
          obtain rfl := Option.some.inj H
          go_enter Tryd.func15, Tryd.ntmps15
          go_wp2
          go_ret
          exact ⟨by first | rfl | (simp; done) | (simp [*]; done), by repeat (first | exact Drawn0.refl _ | apply Drawn0.step)⟩
        · rw [if_neg c5] at H
          have c5b0 : ((wrap64 (a0)) == 57) = false := beq_eq_false_iff_ne.mpr c5
          have c5b1 : ((wrap64 (a0)) != 57) = true := bne_iff_ne.mpr c5
          by_cases c6 : (wrap64 (a0)) = 67
          · rw [if_pos c6] at H
            have c6b0 : ((wrap64 (a0)) == 67) = true := beq_iff_eq.mpr c6
            have c6b1 : ((wrap64 (a0)) != 67) = false := bne_eq_false_iff_eq.mpr c6
            clear c6
            obtain rfl := Option.some.inj H
            go_enter Tryd.func15, Tryd.ntmps15
            go_wp2
            go_ret
            exact ⟨by first | rfl | (simp; done) | (simp [*]; done), by repeat (first | exact Drawn0.refl _ | apply Drawn0.step)⟩
          · rw [if_neg c6] at H
            have c6b0 : ((wrap64 (a0)) == 67) = false := beq_eq_false_iff_ne.mpr c6
            have c6b1 : ((wrap64 (a0)) != 67) = true := bne_iff_ne.mpr c6
            by_cases c7 : (wrap64 (a0)) = 68
            · rw [if_pos c7] at H
              have c7b0 : ((wrap64 (a0)) == 68) = true := beq_iff_eq.mpr c7
              have c7b1 : ((wrap64 (a0)) != 68) = false := bne_eq_false_iff_eq.mpr c7
              clear c7
              obtain rfl := Option.some.inj H
              go_enter Tryd.func15, Tryd.ntmps15
              go_wp2
              go_ret
              exact ⟨by first | rfl | (simp; done) | (simp [*]; done), by repeat (first | exact Drawn0.refl _ | apply Drawn0.step)⟩
            · rw [if_neg c7] at H
              have c7b0 : ((wrap64 (a0)) == 68) = false := beq_eq_false_iff_ne.mpr c7
              have c7b1 : ((wrap64 (a0)) != 68) = true := bne_iff_ne.mpr c7
              by_cases c8 : (wrap64 (a0)) ≥ 91
              · rw [if_pos c8] at H
                have c8b0 : decide (91 ≤ (wrap64 (a0))) = true := decide_eq_true c8
                clear c8
                by_cases c9 : (wrap64 (a0)) ≤ 102
                · rw [if_pos c9] at H
                  have c9b0 : decide ((wrap64 (a0)) ≤ 102) = true := decide_eq_true c9
                  clear c9
                  obtain rfl := Option.some.inj H
                  go_enter Tryd.func15, Tryd.ntmps15
                  go_wp2
                  go_ret
                  exact ⟨by first | rfl | (simp; done) | (simp [*]; done), by repeat (first | exact Drawn0.refl _ | apply Drawn0.step)⟩
                · rw [if_neg c9] at H
                  have c9b0 : decide ((wrap64 (a0)) ≤ 102) = false := decide_eq_false c9
                  clear c9
                  by_cases c10 : (wrap64 (a0)) ≥ 139
                  · rw [if_pos c10] at H
                    have c10b0 : decide (139 ≤ (wrap64 (a0))) = true := decide_eq_true c10
                    clear c10
                    by_cases c11 : (wrap64 (a0)) ≤ 166
                    · rw [if_pos c11] at H
                      have c11b0 : decide ((wrap64 (a0)) ≤ 166) = true := decide_eq_true c11
                      clear c11
                      obtain rfl := Option.some.inj H
                      go_enter Tryd.func15, Tryd.ntmps15
                      go_wp2
                      go_ret
                      exact ⟨by first | rfl | (simp; done) | (simp [*]; done), by repeat (first | exact Drawn0.refl _ | apply Drawn0.step)⟩
                    · rw [if_neg c11] at H
                      have c11b0 : decide ((wrap64 (a0)) ≤ 166) = false := decide_eq_false c11
                      clear c11
                      by_cases c12 : (wrap64 (a0)) ≥ 168
                      · rw [if_pos c12] at H
                        have c12b0 : decide (168 ≤ (wrap64 (a0))) = true := decide_eq_true c12
                        clear c12
                        by_cases c13 : (wrap64 (a0)) ≤ 171
                        · rw [if_pos c13] at H
                          have c13b0 : decide ((wrap64 (a0)) ≤ 171) = true := decide_eq_true c13
                          clear c13
                          obtain rfl := Option.some.inj H
                          go_enter Tryd.func15, Tryd.ntmps15
                          go_wp2
                          go_ret
                          exact ⟨by first | rfl | (simp; done) | (simp [*]; done), by repeat (first | exact Drawn0.refl _ | apply Drawn0.step)⟩
                        · rw [if_neg c13] at H
                          have c13b0 : decide ((wrap64 (a0)) ≤ 171) = false := decide_eq_false c13
                          clear c13
                          by_cases c14 : (wrap64 (a0)) ≥ 174
                          · rw [if_pos c14] at H
                            have c14b0 : decide (174 ≤ (wrap64 (a0))) = true := decide_eq_true c14
                            clear c14
                            obtain rfl := Option.some.inj H
                            go_enter Tryd.func15, Tryd.ntmps15
                            go_wp2
                            go_ret
                            exact ⟨by first | rfl | (simp; done) | (simp [*]; done), by repeat (first | exact Drawn0.refl _ | apply Drawn0.step)⟩
                          · rw [if_neg c14] at H
                            have c14b0 : decide (174 ≤ (wrap64 (a0))) = false := decide_eq_false c14
                            clear c14
                            obtain rfl := Option.some.inj H
                            go_enter Tryd.func15, Tryd.ntmps15
                            go_wp2
                            go_ret
                            exact ⟨by first | rfl | (simp; done) | (simp [*]; done), by repeat (first | exact Drawn0.refl _ | apply Drawn0.step)⟩
                      · rw [if_neg c12] at H
                        have c12b0 : decide (168 ≤ (wrap64 (a0))) = false := decide_eq_false c12
                        clear c12
                        by_cases c15 : (wrap64 (a0)) ≥ 174
                        · rw [if_pos c15] at H
                          have c15b0 : decide (174 ≤ (wrap64 (a0))) = true := decide_eq_true c15
                          clear c15
                          obtain rfl := Option.some.inj H
                          go_enter Tryd.func15, Tryd.ntmps15
                          go_wp2
                          go_ret
                          exact ⟨by first | rfl | (simp; done) | (simp [*]; done), by repeat (first | exact Drawn0.refl _ | apply Drawn0.step)⟩
                        · rw [if_neg c15] at H
                          have c15b0 : decide (174 ≤ (wrap64 (a0))) = false := decide_eq_false c15
                          clear c15
                          obtain rfl := Option.some.inj H
                          go_enter Tryd.func15, Tryd.ntmps15
                          go_wp2
                          go_ret
                          exact ⟨by first | rfl | (simp; done) | (simp [*]; done), by repeat (first | exact Drawn0.refl _ | apply Drawn0.step)⟩
                  · rw [if_neg c10] at H
                    have c10b0 : decide (139 ≤ (wrap64 (a0))) = false := decide_eq_false c10
                    clear c10
                    by_cases c16 : (wrap64 (a0)) ≥ 168
                    · rw [if_pos c16] at H
                      have c16b0 : decide (168 ≤ (wrap64 (a0))) = true := decide_eq_true c16
                      clear c16
                      by_cases c17 : (wrap64 (a0)) ≤ 171
                      · rw [if_pos c17] at H
                        have c17b0 : decide ((wrap64 (a0)) ≤ 171) = true := decide_eq_true c17
                        clear c17
                        obtain rfl := Option.some.inj H
                        go_enter Tryd.func15, Tryd.ntmps15
                        go_wp2
                        go_ret
                        exact ⟨by first | rfl | (simp; done) | (simp [*]; done), by repeat (first | exact Drawn0.refl _ | apply Drawn0.step)⟩
                      · rw [if_neg c17] at H
                        have c17b0 : decide ((wrap64 (a0)) ≤ 171) = false := decide_eq_false c17
                        clear c17
                        by_cases c18 : (wrap64 (a0)) ≥ 174
                        · rw [if_pos c18] at H
                          have c18b0 : decide (174 ≤ (wrap64 (a0))) = true := decide_eq_true c18
                          clear c18
                          obtain rfl := Option.some.inj H
                          go_enter Tryd.func15, Tryd.ntmps15
                          go_wp2
                          go_ret
                          exact ⟨by first | rfl | (simp; done) | (simp [*]; done), by repeat (first | exact Drawn0.refl _ | apply Drawn0.step)⟩
                        · rw [if_neg c18] at H
                          have c18b0 : decide (174 ≤ (wrap64 (a0))) = false := decide_eq_false c18
                          clear c18
                          obtain rfl := Option.some.inj H
                          go_enter Tryd.func15, Tryd.ntmps15
                          go_wp2
                          go_ret
                          exact ⟨by first | rfl | (simp; done) | (simp [*]; done), by repeat (first | exact Drawn0.refl _ | apply Drawn0.step)⟩
                    · rw [if_neg c16] at H
                      have c16b0 : decide (168 ≤ (wrap64 (a0))) = false := decide_eq_false c16
                      clear c16
                      by_cases c19 : (wrap64 (a0)) ≥ 174
                      · rw [if_pos c19] at H
                        have c19b0 : decide (174 ≤ (wrap64 (a0))) = true := decide_eq_true c19
                        clear c19
                        obtain rfl := Option.some.inj H
                        go_enter Tryd.func15, Tryd.ntmps15
                        go_wp2
                        go_ret
                        exact ⟨by first | rfl | (simp; done) | (simp [*]; done), by repeat (first | exact Drawn0.refl _ | apply Drawn0.step)⟩
                      · rw [if_neg c19] at H
                        have c19b0 : decide (174 ≤ (wrap64 (a0))) = false := decide_eq_false c19
                        clear c19
                        obtain rfl := Option.some.inj H
                        go_enter Tryd.func15, Tryd.ntmps15
                        go_wp2
                        go_ret
                        exact ⟨by first | rfl | (simp; done) | (simp [*]; done), by repeat (first | exact Drawn0.refl _ | apply Drawn0.step)⟩
              · rw [if_neg c8] at H
                have c8b0 : decide (91 ≤ (wrap64 (a0))) = false := decide_eq_false c8
                clear c8
                by_cases c20 : (wrap64 (a0)) ≥ 139
                · rw [if_pos c20] at H
                  have c20b0 : decide (139 ≤ (wrap64 (a0))) = true := decide_eq_true c20
                  clear c20
                  by_cases c21 : (wrap64 (a0)) ≤ 166
                  · rw [if_pos c21] at H
                    have c21b0 : decide ((wrap64 (a0)) ≤ 166) = true := decide_eq_true c21
                    clear c21
                    obtain rfl := Option.some.inj H
                    go_enter Tryd.func15, Tryd.ntmps15
                    go_wp2
                    go_ret
                    exact ⟨by first | rfl | (simp; done) | (simp [*]; done), by repeat (first | exact Drawn0.refl _ | apply Drawn0.step)⟩
                  · rw [if_neg c21] at H
                    have c21b0 : decide ((wrap64 (a0)) ≤ 166) = false := decide_eq_false c21
                    clear c21
                    by_cases c22 : (wrap64 (a0)) ≥ 168
                    · rw [if_pos c22] at H
                      have c22b0 : decide (168 ≤ (wrap64 (a0))) = true := decide_eq_true c22
                      clear c22
                      by_cases c23 : (wrap64 (a0)) ≤ 171
                      · rw [if_pos c23] at H
                        have c23b0 : decide ((wrap64 (a0)) ≤ 171) = true := decide_eq_true c23
                        clear c23
                        obtain rfl := Option.some.inj H
                        go_enter Tryd.func15, Tryd.ntmps15
                        go_wp2
                        go_ret
                        exact ⟨by first | rfl | (simp; done) | (simp [*]; done), by repeat (first | exact Drawn0.refl _ | apply Drawn0.step)⟩
                      · rw [if_neg c23] at H
                        have c23b0 : decide ((wrap64 (a0)) ≤ 171) = false := decide_eq_false c23
                        clear c23
                        by_cases c24 : (wrap64 (a0)) ≥ 174
                        · rw [if_pos c24] at H
                          have c24b0 : decide (174 ≤ (wrap64 (a0))) = true := decide_eq_true c24
                          clear c24
                          obtain rfl := Option.some.inj H
                          go_enter Tryd.func15, Tryd.ntmps15
                          go_wp2
                          go_ret
                          exact ⟨by first | rfl | (simp; done) | (simp [*]; done), by repeat (first | exact Drawn0.refl _ | apply Drawn0.step)⟩
                        · rw [if_neg c24] at H
                          have c24b0 : decide (174 ≤ (wrap64 (a0))) = false := decide_eq_false c24
                          clear c24
                          obtain rfl := Option.some.inj H
                          go_enter Tryd.func15, Tryd.ntmps15
                          go_wp2
                          go_ret
                          exact ⟨by first | rfl | (simp; done) | (simp [*]; done), by repeat (first | exact Drawn0.refl _ | apply Drawn0.step)⟩
                    · rw [if_neg c22] at H
                      have c22b0 : decide (168 ≤ (wrap64 (a0))) = false := decide_eq_false c22
                      clear c22
                      by_cases c25 : (wrap64 (a0)) ≥ 174
                      · rw [if_pos c25] at H
                        have c25b0 : decide (174 ≤ (wrap64 (a0))) = true := decide_eq_true c25
                        clear c25
                        obtain rfl := Option.some.inj H
                        go_enter Tryd.func15, Tryd.ntmps15
                        go_wp2
                        go_ret
                        exact ⟨by first | rfl | (simp; done) | (simp [*]; done), by repeat (first | exact Drawn0.refl _ | apply Drawn0.step)⟩
                      · rw [if_neg c25] at H
                        have c25b0 : decide (174 ≤ (wrap64 (a0))) = false := decide_eq_false c25
                        clear c25
                        obtain rfl := Option.some.inj H
                        go_enter Tryd.func15, Tryd.ntmps15
                        go_wp2
                        go_ret
                        exact ⟨by first | rfl | (simp; done) | (simp [*]; done), by repeat (first | exact Drawn0.refl _ | apply Drawn0.step)⟩
                · rw [if_neg c20] at H
                  have c20b0 : decide (139 ≤ (wrap64 (a0))) = false := decide_eq_false c20
                  clear c20
                  by_cases c26 : (wrap64 (a0)) ≥ 168
                  · rw [if_pos c26] at H
                    have c26b0 : decide (168 ≤ (wrap64 (a0))) = true := decide_eq_true c26
                    clear c26
                    by_cases c27 : (wrap64 (a0)) ≤ 171
                    · rw [if_pos c27] at H
                      have c27b0 : decide ((wrap64 (a0)) ≤ 171) = true := decide_eq_true c27
                      clear c27
                      obtain rfl := Option.some.inj H
                      go_enter Tryd.func15, Tryd.ntmps15
                      go_wp2
                      go_ret
                      exact ⟨by first | rfl | (simp; done) | (simp [*]; done), by repeat (first | exact Drawn0.refl _ | apply Drawn0.step)⟩
                    · rw [if_neg c27] at H
                      have c27b0 : decide ((wrap64 (a0)) ≤ 171) = false := decide_eq_false c27
                      clear c27
                      by_cases c28 : (wrap64 (a0)) ≥ 174
                      · rw [if_pos c28] at H
                        have c28b0 : decide (174 ≤ (wrap64 (a0))) = true := decide_eq_true c28
                        clear c28
                        obtain rfl := Option.some.inj H
                        go_enter Tryd.func15, Tryd.ntmps15
                        go_wp2
                        go_ret
                        exact ⟨by first | rfl | (simp; done) | (simp [*]; done), by repeat (first | exact Drawn0.refl _ | apply Drawn0.step)⟩
                      · rw [if_neg c28] at H
                        have c28b0 : decide (174 ≤ (wrap64 (a0))) = false := decide_eq_false c28
                        clear c28
                        obtain rfl := Option.some.inj H
                        go_enter Tryd.func15, Tryd.ntmps15
                        go_wp2
                        go_ret
                        exact ⟨by first | rfl | (simp; done) | (simp [*]; done), by repeat (first | exact Drawn0.refl _ | apply Drawn0.step)⟩
                  · rw [if_neg c26] at H
                    have c26b0 : decide (168 ≤ (wrap64 (a0))) = false := decide_eq_false c26
                    clear c26
                    by_cases c29 : (wrap64 (a0)) ≥ 174
                    · rw [if_pos c29] at H
                      have c29b0 : decide (174 ≤ (wrap64 (a0))) = true := decide_eq_true c29
                      clear c29
                      obtain rfl := Option.some.inj H
                      go_enter Tryd.func15, Tryd.ntmps15
                      go_wp2
                      go_ret
                      exact ⟨by first | rfl | (simp; done) | (simp [*]; done), by repeat (first | exact Drawn0.refl _ | apply Drawn0.step)⟩
                    · rw [if_neg c29] at H
                      have c29b0 : decide (174 ≤ (wrap64 (a0))) = false := decide_eq_false c29
                      clear c29
                      obtain rfl := Option.some.inj H
                      go_enter Tryd.func15, Tryd.ntmps15
                      go_wp2
                      go_ret
                      exact ⟨by first | rfl | (simp; done) | (simp [*]; done), by repeat (first | exact Drawn0.refl _ | apply Drawn0.step)⟩

end Go.Proofs.YthgkeehpoilgaaaDoor.Ho

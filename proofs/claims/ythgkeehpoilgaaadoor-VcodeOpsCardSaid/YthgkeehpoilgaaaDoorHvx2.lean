-- WRITTEN BY hyb.py (a program of this work's own) out of the translation, by the kit's print. Not trusted: Lean checks it.
import Derived.Test.YthgkeehpoilgaaaDoorHvx0
import Derived.Test.YthgkeehpoilgaaaDoorHvHOpsA
namespace Go.Proofs.YthgkeehpoilgaaaDoor.Hv
open Go.RowKit Go.Proofs.YthgkeehpoilgaaaDoorW.PrintWords Go.Proofs.YthgkeehpoilgaaaDoorW.PrintLast Go.Proofs.YthgkeehpoilgaaaDoorW.PrintMore
attribute [local go_sem] max2_int min2_int max_two min_two max_three min_three max_four min_four   -- for this text's walks alone
set_option linter.unusedVariables false
set_option linter.unusedSimpArgs false

/-! ### vcode_reckons: function 76 -/
def vcode_reckons.f (a0 : Int) : Option (Bool) := if a0 > 66 then ((ops_Name.f a0).bind fun t101 => (some (t101.toList != ([] : List UInt8)))) else (some false)
set_option maxHeartbeats 8000000 in
set_option maxRecDepth 100000 in
theorem vcode_reckons.calls (a0 : Int) (r : Bool) (w : World) (hG : GG [] w) (h : vcode_reckons.f a0 = some r) :
    Calls Tryd.prog 76 #[.int .u8 a0] w fun e w' => e = .returned (.bool r) ∧ Below w.heap.size w w' := by
  have HB := Aside0.mk (Below.refl w.heap.size w)
  have HG := Aside0.mk hG
  clear hG
  have H : (if a0 > 66 then ((ops_Name.f a0).bind fun t101 => (some (t101.toList != ([] : List UInt8)))) else (some false)) = some r := h
  clear h
  by_cases c2 : a0 > 66
  · rw [if_pos c2] at H
    have c2b0 : decide (66 < a0) = true := decide_eq_true c2
    clear c2
    replace H := Option.bind_eq_some_iff.mp H
    obtain ⟨t101, A30, H⟩ := H
    replace H : (some (t101.toList != ([] : List UInt8))) = some r := H
    have A3 := Aside0.mk A30
    clear A30
    obtain rfl := Option.some.inj H
    go_enter Tryd.func76, Tryd.ntmps76
    go_wp2_with (first | (go_at_call 12; (with_reducible refine (ops_Name.calls a0 t101 _ ?side1 A3.out).mono ?_); (case side1 => exact GG.nil _); rintro e w4 ⟨rfl, hb⟩; have n0_ := Aside0.mk (below_step (by repeat first | exact HB.out | apply below_alloc | apply pw_below_drewN | apply below_drew1) hb); clear HB; have HB := n0_; clear n0_; (try clear hb); (try clear hb2); (try clear hk); (try clear hi)))
    go_ret
    exact ⟨by first | rfl | (simp [errW_none, errW_some] <;> rfl) | (simp [*, errW_none, errW_some] <;> rfl) | (simp [hy_ne]; done), by repeat first | exact HB.out | apply below_alloc | apply pw_below_drewN | apply below_drew1⟩
  · rw [if_neg c2] at H
    have c2b0 : decide (66 < a0) = false := decide_eq_false c2
    clear c2
    obtain rfl := Option.some.inj H
    go_enter Tryd.func76, Tryd.ntmps76
    go_wp2
    go_ret
    exact ⟨by first | rfl | (simp [errW_none, errW_some] <;> rfl) | (simp [*, errW_none, errW_some] <;> rfl) | (simp [hy_ne]; done), by repeat first | exact HB.out | apply below_alloc | apply pw_below_drewN | apply below_drew1⟩

/-! ### vcode_Pure: function 36 -/
def vcode_Pure.j0 : Nat → Int → Int → Bool → Option (Bool)
  | 0, _, _, _ => none
  | k + 1, x0, x3, x4 => if x4 = true then (some true) else (if x3 = 109 then (some false) else (if x3 = 110 then (some false) else (if x3 = 111 then (some false) else (if x3 = 112 then (some false) else (if x3 = 127 then (some false) else (if x3 = 128 then (some false) else (if x3 = 129 then (some false) else (if x3 = 130 then (some false) else ((vcode_reckons.f x0).bind fun t102 => (some t102))))))))))
def vcode_Pure.f (k : Nat) (a0 : Int) : Option (Bool) := if a0 = 66 then (vcode_Pure.j0 k a0 a0 (a0 == 66)) else (if a0 = 192 then (vcode_Pure.j0 k a0 a0 (a0 == 192)) else (if a0 = 27 then (vcode_Pure.j0 k a0 a0 (a0 == 27)) else (if a0 = 63 then (vcode_Pure.j0 k a0 a0 (a0 == 63)) else (vcode_Pure.j0 k a0 a0 (a0 == 35)))))
set_option maxHeartbeats 8000000 in
set_option maxRecDepth 100000 in
theorem vcode_Pure.calls (k : Nat) (a0 : Int) (r : Bool) (w : World) (hG : GG [] w) (h : vcode_Pure.f k a0 = some r) :
    Calls Tryd.prog 36 #[.int .u8 a0] w fun e w' => e = .returned (.bool r) ∧ Below w.heap.size w w' := by
  have HB := Aside0.mk (Below.refl w.heap.size w)
  have HG := Aside0.mk hG
  clear hG
  have H : (if a0 = 66 then (vcode_Pure.j0 k a0 a0 (a0 == 66)) else (if a0 = 192 then (vcode_Pure.j0 k a0 a0 (a0 == 192)) else (if a0 = 27 then (vcode_Pure.j0 k a0 a0 (a0 == 27)) else (if a0 = 63 then (vcode_Pure.j0 k a0 a0 (a0 == 63)) else (vcode_Pure.j0 k a0 a0 (a0 == 35)))))) = some r := h
  clear h
  have HC2 := Aside0.mk H
  clear H
  go_enter Tryd.func36, Tryd.ntmps36
  go_upto_if 4 with (fail)
  go_cut [4] (fun v4 wc => ∃ (kq : Nat) (x4_1 : Bool), v4 = .bool x4_1 ∧ Aside0 (vcode_Pure.j0 kq a0 a0 x4_1 = some r) ∧ Aside0 (kq ≤ k) ∧ Aside0 (Below w.heap.size w wc))
  case first =>
    have H := HC2.out
    clear HC2
    by_cases c3 : a0 = 66
    · rw [if_pos c3] at H
      have c3b0 : (a0 == 66) = true := beq_iff_eq.mpr c3
      have c3b1 : (a0 != 66) = false := bne_eq_false_iff_eq.mpr c3
      clear c3
      (first | rw [c3b0] | (simp only [i64_w, i32_w]; rw [c3b0]) | skip)
      have H' := Aside0.mk H
      clear H
      go_wp2
      go_meet
      case rel => exact ⟨_, ((a0 == 66)), (by first | rfl | (simp; done) | (simp [*]; done)), H', ⟨by first | omega | exact Nat.le_refl _⟩, ⟨by repeat first | exact HB.out | apply below_alloc | apply pw_below_drewN | apply below_drew1⟩⟩
    · rw [if_neg c3] at H
      have c3b0 : (a0 == 66) = false := beq_eq_false_iff_ne.mpr c3
      have c3b1 : (a0 != 66) = true := bne_iff_ne.mpr c3
      (first | rw [c3b0] | (simp only [i64_w, i32_w]; rw [c3b0]) | skip)
      by_cases c4 : a0 = 192
      · rw [if_pos c4] at H
        have c4b0 : (a0 == 192) = true := beq_iff_eq.mpr c4
        have c4b1 : (a0 != 192) = false := bne_eq_false_iff_eq.mpr c4
        clear c4
        have H' := Aside0.mk H
        clear H
        go_wp2
        go_meet
        case rel => exact ⟨_, ((a0 == 192)), (by first | rfl | (simp; done) | (simp [*]; done)), H', ⟨by first | omega | exact Nat.le_refl _⟩, ⟨by repeat first | exact HB.out | apply below_alloc | apply pw_below_drewN | apply below_drew1⟩⟩
      · rw [if_neg c4] at H
        have c4b0 : (a0 == 192) = false := beq_eq_false_iff_ne.mpr c4
        have c4b1 : (a0 != 192) = true := bne_iff_ne.mpr c4
        by_cases c5 : a0 = 27
        · rw [if_pos c5] at H
          have c5b0 : (a0 == 27) = true := beq_iff_eq.mpr c5
          have c5b1 : (a0 != 27) = false := bne_eq_false_iff_eq.mpr c5
          clear c5
          have H' := Aside0.mk H
          clear H
          go_wp2
          go_meet
          case rel => exact ⟨_, ((a0 == 27)), (by first | rfl | (simp; done) | (simp [*]; done)), H', ⟨by first | omega | exact Nat.le_refl _⟩, ⟨by repeat first | exact HB.out | apply below_alloc | apply pw_below_drewN | apply below_drew1⟩⟩
        · rw [if_neg c5] at H
          have c5b0 : (a0 == 27) = false := beq_eq_false_iff_ne.mpr c5
          have c5b1 : (a0 != 27) = true := bne_iff_ne.mpr c5
          by_cases c6 : a0 = 63
          · rw [if_pos c6] at H
            have c6b0 : (a0 == 63) = true := beq_iff_eq.mpr c6
            have c6b1 : (a0 != 63) = false := bne_eq_false_iff_eq.mpr c6
            clear c6
            have H' := Aside0.mk H
            clear H
            go_wp2
            go_meet
            case rel => exact ⟨_, ((a0 == 63)), (by first | rfl | (simp; done) | (simp [*]; done)), H', ⟨by first | omega | exact Nat.le_refl _⟩, ⟨by repeat first | exact HB.out | apply below_alloc | apply pw_below_drewN | apply below_drew1⟩⟩
          · rw [if_neg c6] at H
            have c6b0 : (a0 == 63) = false := beq_eq_false_iff_ne.mpr c6
            have c6b1 : (a0 != 63) = true := bne_iff_ne.mpr c6
            have H' := Aside0.mk H
            clear H
            go_wp2
            go_meet
            case rel => exact ⟨_, ((a0 == 35)), (by first | rfl | (simp; done) | (simp [*]; done)), H', ⟨by first | omega | exact Nat.le_refl _⟩, ⟨by repeat first | exact HB.out | apply below_alloc | apply pw_below_drewN | apply below_drew1⟩⟩
  case rest =>
    clear HC2
    try clear p2
    try clear c3
    try clear c3b0
    try clear c3b1
    try clear c4
    try clear c4b0
    try clear c4b1
    try clear c5
    try clear c5b0
    try clear c5b1
    try clear c6
    try clear c6b0
    try clear c6b1
    obtain ⟨kq, x4_1, rfl, HA, HJ1, HB⟩ := hcut
    cases kq with
    | zero => exact absurd HA.out (by simp [vcode_Pure.j0])
    | succ kj1 =>
      have H := HA.out
      clear HA
      simp only [vcode_Pure.j0] at H
      by_cases c7 : x4_1 = true
      · subst c7
        have H1 : (some true) = some r := by rw [if_pos rfl] at H; exact H
        clear H
        have H := H1
        clear H1
        obtain rfl := Option.some.inj H
        go_wp2
        go_ret
        exact ⟨by first | rfl | (simp [errW_none, errW_some] <;> rfl) | (simp [*, errW_none, errW_some] <;> rfl) | (simp [hy_ne]; done), by repeat first | exact HB.out | apply below_alloc | apply pw_below_drewN | apply below_drew1⟩
      · replace c7 := Bool.eq_false_iff.mpr c7
        subst c7
        have H1 : (if a0 = 109 then (some false) else (if a0 = 110 then (some false) else (if a0 = 111 then (some false) else (if a0 = 112 then (some false) else (if a0 = 127 then (some false) else (if a0 = 128 then (some false) else (if a0 = 129 then (some false) else (if a0 = 130 then (some false) else ((vcode_reckons.f a0).bind fun t102 => (some t102)))))))))) = some r := by rw [if_neg (show ¬ (false = true) by decide)] at H; exact H
        clear H
        have H := H1
        clear H1
        by_cases c8 : a0 = 109
        · rw [if_pos c8] at H
          have c8b0 : (a0 == 109) = true := beq_iff_eq.mpr c8
          have c8b1 : (a0 != 109) = false := bne_eq_false_iff_eq.mpr c8
          clear c8
          obtain rfl := Option.some.inj H
          go_wp2
          go_ret
          exact ⟨by first | rfl | (simp [errW_none, errW_some] <;> rfl) | (simp [*, errW_none, errW_some] <;> rfl) | (simp [hy_ne]; done), by repeat first | exact HB.out | apply below_alloc | apply pw_below_drewN | apply below_drew1⟩
        · rw [if_neg c8] at H
          have c8b0 : (a0 == 109) = false := beq_eq_false_iff_ne.mpr c8
          have c8b1 : (a0 != 109) = true := bne_iff_ne.mpr c8
          by_cases c9 : a0 = 110
          · rw [if_pos c9] at H
            have c9b0 : (a0 == 110) = true := beq_iff_eq.mpr c9
            have c9b1 : (a0 != 110) = false := bne_eq_false_iff_eq.mpr c9
            clear c9
            obtain rfl := Option.some.inj H
            go_wp2
            go_ret
            exact ⟨by first | rfl | (simp [errW_none, errW_some] <;> rfl) | (simp [*, errW_none, errW_some] <;> rfl) | (simp [hy_ne]; done), by repeat first | exact HB.out | apply below_alloc | apply pw_below_drewN | apply below_drew1⟩
          · rw [if_neg c9] at H
            have c9b0 : (a0 == 110) = false := beq_eq_false_iff_ne.mpr c9
            have c9b1 : (a0 != 110) = true := bne_iff_ne.mpr c9
            by_cases c10 : a0 = 111
            · rw [if_pos c10] at H
              have c10b0 : (a0 == 111) = true := beq_iff_eq.mpr c10
              have c10b1 : (a0 != 111) = false := bne_eq_false_iff_eq.mpr c10
              clear c10
              obtain rfl := Option.some.inj H
              go_wp2
              go_ret
              exact ⟨by first | rfl | (simp [errW_none, errW_some] <;> rfl) | (simp [*, errW_none, errW_some] <;> rfl) | (simp [hy_ne]; done), by repeat first | exact HB.out | apply below_alloc | apply pw_below_drewN | apply below_drew1⟩
            · rw [if_neg c10] at H
              have c10b0 : (a0 == 111) = false := beq_eq_false_iff_ne.mpr c10
              have c10b1 : (a0 != 111) = true := bne_iff_ne.mpr c10
              by_cases c11 : a0 = 112
              · rw [if_pos c11] at H
                have c11b0 : (a0 == 112) = true := beq_iff_eq.mpr c11
                have c11b1 : (a0 != 112) = false := bne_eq_false_iff_eq.mpr c11
                clear c11
                obtain rfl := Option.some.inj H
                go_wp2
                go_ret
                exact ⟨by first | rfl | (simp [errW_none, errW_some] <;> rfl) | (simp [*, errW_none, errW_some] <;> rfl) | (simp [hy_ne]; done), by repeat first | exact HB.out | apply below_alloc | apply pw_below_drewN | apply below_drew1⟩
              · rw [if_neg c11] at H
                have c11b0 : (a0 == 112) = false := beq_eq_false_iff_ne.mpr c11
                have c11b1 : (a0 != 112) = true := bne_iff_ne.mpr c11
                by_cases c12 : a0 = 127
                · rw [if_pos c12] at H
                  have c12b0 : (a0 == 127) = true := beq_iff_eq.mpr c12
                  have c12b1 : (a0 != 127) = false := bne_eq_false_iff_eq.mpr c12
                  clear c12
                  obtain rfl := Option.some.inj H
                  go_wp2
                  go_ret
                  exact ⟨by first | rfl | (simp [errW_none, errW_some] <;> rfl) | (simp [*, errW_none, errW_some] <;> rfl) | (simp [hy_ne]; done), by repeat first | exact HB.out | apply below_alloc | apply pw_below_drewN | apply below_drew1⟩
                · rw [if_neg c12] at H
                  have c12b0 : (a0 == 127) = false := beq_eq_false_iff_ne.mpr c12
                  have c12b1 : (a0 != 127) = true := bne_iff_ne.mpr c12
                  by_cases c13 : a0 = 128
                  · rw [if_pos c13] at H
                    have c13b0 : (a0 == 128) = true := beq_iff_eq.mpr c13
                    have c13b1 : (a0 != 128) = false := bne_eq_false_iff_eq.mpr c13
                    clear c13
                    obtain rfl := Option.some.inj H
                    go_wp2
                    go_ret
                    exact ⟨by first | rfl | (simp [errW_none, errW_some] <;> rfl) | (simp [*, errW_none, errW_some] <;> rfl) | (simp [hy_ne]; done), by repeat first | exact HB.out | apply below_alloc | apply pw_below_drewN | apply below_drew1⟩
                  · rw [if_neg c13] at H
                    have c13b0 : (a0 == 128) = false := beq_eq_false_iff_ne.mpr c13
                    have c13b1 : (a0 != 128) = true := bne_iff_ne.mpr c13
                    by_cases c14 : a0 = 129
                    · rw [if_pos c14] at H
                      have c14b0 : (a0 == 129) = true := beq_iff_eq.mpr c14
                      have c14b1 : (a0 != 129) = false := bne_eq_false_iff_eq.mpr c14
                      clear c14
                      obtain rfl := Option.some.inj H
                      go_wp2
                      go_ret
                      exact ⟨by first | rfl | (simp [errW_none, errW_some] <;> rfl) | (simp [*, errW_none, errW_some] <;> rfl) | (simp [hy_ne]; done), by repeat first | exact HB.out | apply below_alloc | apply pw_below_drewN | apply below_drew1⟩
                    · rw [if_neg c14] at H
                      have c14b0 : (a0 == 129) = false := beq_eq_false_iff_ne.mpr c14
                      have c14b1 : (a0 != 129) = true := bne_iff_ne.mpr c14
                      by_cases c15 : a0 = 130
                      · rw [if_pos c15] at H
                        have c15b0 : (a0 == 130) = true := beq_iff_eq.mpr c15
                        have c15b1 : (a0 != 130) = false := bne_eq_false_iff_eq.mpr c15
                        clear c15
                        obtain rfl := Option.some.inj H
                        go_wp2
                        go_ret
                        exact ⟨by first | rfl | (simp [errW_none, errW_some] <;> rfl) | (simp [*, errW_none, errW_some] <;> rfl) | (simp [hy_ne]; done), by repeat first | exact HB.out | apply below_alloc | apply pw_below_drewN | apply below_drew1⟩
                      · rw [if_neg c15] at H
                        have c15b0 : (a0 == 130) = false := beq_eq_false_iff_ne.mpr c15
                        have c15b1 : (a0 != 130) = true := bne_iff_ne.mpr c15
                        replace H := Option.bind_eq_some_iff.mp H
                        obtain ⟨t102, A160, H⟩ := H
                        replace H : (some t102) = some r := H
                        have A16 := Aside0.mk A160
                        clear A160
                        obtain rfl := Option.some.inj H
                        go_wp2_with (first | ((with_reducible refine gate_callee (f := 76) rfl ?_); refine goesL_ (some 20) rfl rfl Tryd.func76 (by kernel_rfl) rfl #[.int .u8 a0] rfl (by (try simp only [List.map_toArray, List.map_cons, List.map_nil]); first | done | rfl | (simp only [List.length_drop, List.length_take]; rfl)) ?_; (with_reducible refine (vcode_reckons.calls a0 t102 _ ?side1 A16.out).mono ?_); (case side1 => exact GG.nil _); rintro e w17 ⟨rfl, hb⟩; refine ⟨_, rfl, ?_⟩; have n0_ := Aside0.mk (below_step (by repeat first | exact HB.out | apply below_alloc | apply pw_below_drewN | apply below_drew1) hb); clear HB; have HB := n0_; clear n0_; (try clear hb); (try clear hb2); (try clear hk); (try clear hi)))
                        go_ret
                        exact ⟨by first | rfl | (simp [errW_none, errW_some] <;> rfl) | (simp [*, errW_none, errW_some] <;> rfl) | (simp [hy_ne]; done), by repeat first | exact HB.out | apply below_alloc | apply pw_below_drewN | apply below_drew1⟩

end Go.Proofs.YthgkeehpoilgaaaDoor.Hv

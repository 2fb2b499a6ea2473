-- WRITTEN BY hyb.py (a program of this work's own) out of the translation, by the kit's print. Not trusted: Lean checks it.
import Derived.Test.YthgkeehpoilgaaaDoorHvx0
import Derived.Test.YthgkeehpoilgaaaDoorHvHOpsA
import Derived.Test.YthgkeehpoilgaaaDoorHvHStrconv
namespace Go.Proofs.YthgkeehpoilgaaaDoor.Hv
open Go.RowKit Go.Proofs.YthgkeehpoilgaaaDoorW.PrintWords Go.Proofs.YthgkeehpoilgaaaDoorW.PrintLast Go.Proofs.YthgkeehpoilgaaaDoorW.PrintMore
attribute [local go_sem] max2_int min2_int max_two min_two max_three min_three max_four min_four   -- for this text's walks alone
set_option linter.unusedVariables false
set_option linter.unusedSimpArgs false

/-! ### vcode_reg: function 128 -/
def vcode_reg.f (a0 : Int) : Option (ByteArray) := (strconv_Itoa.f a0).bind fun t217 => (if 1 + t217.size ≤ 9223372036854775807 then (some ((⟨#[114]⟩ : ByteArray) ++ t217)) else (none))
set_option maxHeartbeats 8000000 in
set_option maxRecDepth 100000 in
theorem vcode_reg.calls (a0 : Int) (r : ByteArray) (w : World) (hG : GG [4] w) (h : vcode_reg.f a0 = some r) :
    Calls Tryd.prog 128 #[.int .i64 a0] w fun e w' => e = .returned (.string r) ∧ Below w.heap.size w w' := by
  have HB := Aside0.mk (Below.refl w.heap.size w)
  have HG := Aside0.mk hG
  clear hG
  have H : ((strconv_Itoa.f a0).bind fun t217 => (if 1 + t217.size ≤ 9223372036854775807 then (some ((⟨#[114]⟩ : ByteArray) ++ t217)) else (none))) = some r := h
  clear h
  replace H := Option.bind_eq_some_iff.mp H
  obtain ⟨t217, A20, H⟩ := H
  replace H : (if 1 + t217.size ≤ 9223372036854775807 then (some ((⟨#[114]⟩ : ByteArray) ++ t217)) else (none)) = some r := H
  have A2 := Aside0.mk A20
  clear A20
  by_cases c3 : 1 + t217.size ≤ 9223372036854775807
  · rw [if_pos c3] at H
    have c3b0 := eq_true c3
    have c3b1 : decide (1 + t217.size ≤ 9223372036854775807) = true := decide_eq_true c3
    try have c3b2 : (9223372036854775807 < 1 + t217.size) = False := eq_false (Nat.not_lt.2 c3)
    obtain rfl := Option.some.inj H
    go_enter Tryd.func128, Tryd.ntmps128
    go_wp2_with (first | ((with_reducible refine gate_callee (f := 109) rfl ?_); refine goesL_ (some 4) rfl rfl Tryd.func109 (by kernel_rfl) rfl #[.int .i64 a0] rfl (by (try simp only [List.map_toArray, List.map_cons, List.map_nil]); first | done | rfl | (simp only [List.length_drop, List.length_take]; rfl)) ?_; (with_reducible refine (strconv_Itoa.calls a0 t217 _ ?side1 A2.out).mono ?_); (case side1 => exact GG.below (by repeat first | exact HB.out | apply below_alloc | apply pw_below_drewN | apply below_drew1) HG.out); rintro e w4 ⟨rfl, hb⟩; refine ⟨_, rfl, ?_⟩; have n0_ := Aside0.mk (below_step (by repeat first | exact HB.out | apply below_alloc | apply pw_below_drewN | apply below_drew1) hb); clear HB; have HB := n0_; clear n0_; (try clear hb); (try clear hb2); (try clear hk); (try clear hi)))
    go_ret
    exact ⟨by first | rfl | (simp [errW_none, errW_some] <;> rfl) | (simp [*, errW_none, errW_some] <;> rfl) | (simp [hy_ne]; done), by repeat first | exact HB.out | apply below_alloc | apply pw_below_drewN | apply below_drew1⟩
  · rw [if_neg c3] at H
    exact absurd H (by simp)

/-! ### vcode_nameOf: function 129 -/
def vcode_nameOf.f (a0 : Int) : Option (ByteArray) := if a0 = 66 then (some (⟨#[99, 111, 110, 115, 116]⟩ : ByteArray)) else (if a0 = 192 then (some (⟨#[109, 111, 118, 101]⟩ : ByteArray)) else (if a0 = 193 then (some (⟨#[106, 117, 109, 112]⟩ : ByteArray)) else (if a0 = 194 then (some (⟨#[98, 114, 97, 110, 99, 104]⟩ : ByteArray)) else (if a0 = 195 then (some (⟨#[116, 97, 98, 108, 101]⟩ : ByteArray)) else ((ops_Name.f a0).bind fun t218 => (some t218))))))
set_option maxHeartbeats 8000000 in
set_option maxRecDepth 100000 in
theorem vcode_nameOf.calls (a0 : Int) (r : ByteArray) (w : World) (hG : GG [] w) (h : vcode_nameOf.f a0 = some r) :
    Calls Tryd.prog 129 #[.int .u8 a0] w fun e w' => e = .returned (.string r) ∧ Below w.heap.size w w' := by
  have HB := Aside0.mk (Below.refl w.heap.size w)
  have HG := Aside0.mk hG
  clear hG
  have H : (if a0 = 66 then (some (⟨#[99, 111, 110, 115, 116]⟩ : ByteArray)) else (if a0 = 192 then (some (⟨#[109, 111, 118, 101]⟩ : ByteArray)) else (if a0 = 193 then (some (⟨#[106, 117, 109, 112]⟩ : ByteArray)) else (if a0 = 194 then (some (⟨#[98, 114, 97, 110, 99, 104]⟩ : ByteArray)) else (if a0 = 195 then (some (⟨#[116, 97, 98, 108, 101]⟩ : ByteArray)) else ((ops_Name.f a0).bind fun t218 => (some t218))))))) = some r := h
  clear h
  by_cases c2 : a0 = 66
  · rw [if_pos c2] at H
    have c2b0 : (a0 == 66) = true := beq_iff_eq.mpr c2
    have c2b1 : (a0 != 66) = false := bne_eq_false_iff_eq.mpr c2
    clear c2
    obtain rfl := Option.some.inj H
    go_enter Tryd.func129, Tryd.ntmps129
    go_wp2
    go_ret
    exact ⟨by first | rfl | (simp [errW_none, errW_some] <;> rfl) | (simp [*, errW_none, errW_some] <;> rfl) | (simp [hy_ne]; done), by repeat first | exact HB.out | apply below_alloc | apply pw_below_drewN | apply below_drew1⟩
  · rw [if_neg c2] at H
    have c2b0 : (a0 == 66) = false := beq_eq_false_iff_ne.mpr c2
    have c2b1 : (a0 != 66) = true := bne_iff_ne.mpr c2
    by_cases c3 : a0 = 192
    · rw [if_pos c3] at H
      have c3b0 : (a0 == 192) = true := beq_iff_eq.mpr c3
      have c3b1 : (a0 != 192) = false := bne_eq_false_iff_eq.mpr c3
      clear c3
      obtain rfl := Option.some.inj H
      go_enter Tryd.func129, Tryd.ntmps129
      go_wp2
      go_ret
      exact ⟨by first | rfl | (simp [errW_none, errW_some] <;> rfl) | (simp [*, errW_none, errW_some] <;> rfl) | (simp [hy_ne]; done), by repeat first | exact HB.out | apply below_alloc | apply pw_below_drewN | apply below_drew1⟩
    · rw [if_neg c3] at H
      have c3b0 : (a0 == 192) = false := beq_eq_false_iff_ne.mpr c3
      have c3b1 : (a0 != 192) = true := bne_iff_ne.mpr c3
      by_cases c4 : a0 = 193
      · rw [if_pos c4] at H
        have c4b0 : (a0 == 193) = true := beq_iff_eq.mpr c4
        have c4b1 : (a0 != 193) = false := bne_eq_false_iff_eq.mpr c4
        clear c4
        obtain rfl := Option.some.inj H
        go_enter Tryd.func129, Tryd.ntmps129
        go_wp2
        go_ret
        exact ⟨by first | rfl | (simp [errW_none, errW_some] <;> rfl) | (simp [*, errW_none, errW_some] <;> rfl) | (simp [hy_ne]; done), by repeat first | exact HB.out | apply below_alloc | apply pw_below_drewN | apply below_drew1⟩
      · rw [if_neg c4] at H
        have c4b0 : (a0 == 193) = false := beq_eq_false_iff_ne.mpr c4
        have c4b1 : (a0 != 193) = true := bne_iff_ne.mpr c4
        by_cases c5 : a0 = 194
        · rw [if_pos c5] at H
          have c5b0 : (a0 == 194) = true := beq_iff_eq.mpr c5
          have c5b1 : (a0 != 194) = false := bne_eq_false_iff_eq.mpr c5
          clear c5
          obtain rfl := Option.some.inj H
          go_enter Tryd.func129, Tryd.ntmps129
          go_wp2
          go_ret
          exact ⟨by first | rfl | (simp [errW_none, errW_some] <;> rfl) | (simp [*, errW_none, errW_some] <;> rfl) | (simp [hy_ne]; done), by repeat first | exact HB.out | apply below_alloc | apply pw_below_drewN | apply below_drew1⟩
        · rw [if_neg c5] at H
          have c5b0 : (a0 == 194) = false := beq_eq_false_iff_ne.mpr c5
          have c5b1 : (a0 != 194) = true := bne_iff_ne.mpr c5
          by_cases c6 : a0 = 195
          · rw [if_pos c6] at H
            have c6b0 : (a0 == 195) = true := beq_iff_eq.mpr c6
            have c6b1 : (a0 != 195) = false := bne_eq_false_iff_eq.mpr c6
            clear c6
            obtain rfl := Option.some.inj H
            go_enter Tryd.func129, Tryd.ntmps129
            go_wp2
            go_ret
            exact ⟨by first | rfl | (simp [errW_none, errW_some] <;> rfl) | (simp [*, errW_none, errW_some] <;> rfl) | (simp [hy_ne]; done), by repeat first | exact HB.out | apply below_alloc | apply pw_below_drewN | apply below_drew1⟩
          · rw [if_neg c6] at H
            have c6b0 : (a0 == 195) = false := beq_eq_false_iff_ne.mpr c6
            have c6b1 : (a0 != 195) = true := bne_iff_ne.mpr c6
            replace H := Option.bind_eq_some_iff.mp H
            obtain ⟨t218, A70, H⟩ := H
            replace H : (some t218) = some r := H
            have A7 := Aside0.mk A70
            clear A70
            obtain rfl := Option.some.inj H
            go_enter Tryd.func129, Tryd.ntmps129
            go_wp2_with (first | ((with_reducible refine gate_callee (f := 12) rfl ?_); refine goesL_ (some 15) rfl rfl Tryd.func12 (by kernel_rfl) rfl #[.int .u8 a0] rfl (by (try simp only [List.map_toArray, List.map_cons, List.map_nil]); first | done | rfl | (simp only [List.length_drop, List.length_take]; rfl)) ?_; (with_reducible refine (ops_Name.calls a0 t218 _ ?side1 A7.out).mono ?_); (case side1 => exact GG.nil _); rintro e w8 ⟨rfl, hb⟩; refine ⟨_, rfl, ?_⟩; have n0_ := Aside0.mk (below_step (by repeat first | exact HB.out | apply below_alloc | apply pw_below_drewN | apply below_drew1) hb); clear HB; have HB := n0_; clear n0_; (try clear hb); (try clear hb2); (try clear hk); (try clear hi)))
            go_ret
            exact ⟨by first | rfl | (simp [errW_none, errW_some] <;> rfl) | (simp [*, errW_none, errW_some] <;> rfl) | (simp [hy_ne]; done), by repeat first | exact HB.out | apply below_alloc | apply pw_below_drewN | apply below_drew1⟩

end Go.Proofs.YthgkeehpoilgaaaDoor.Hv

-- WRITTEN BY hyb.py (a program of this work's own) out of the translation, by the kit's print. Not trusted: Lean checks it.
import Derived.Test.YthgkeehpoilgaaaDoorHfx0
import Derived.Test.YthgkeehpoilgaaaDoorHfx6
namespace Go.Proofs.YthgkeehpoilgaaaDoor.Hf
open Go.RowKit Go.Proofs.YthgkeehpoilgaaaDoorW.PrintWords Go.Proofs.YthgkeehpoilgaaaDoorW.PrintLast Go.Proofs.YthgkeehpoilgaaaDoorW.PrintMore
attribute [local go_sem] max2_int min2_int max_two min_two max_three min_three max_four min_four   -- for this text's walks alone
set_option linter.unusedVariables false
set_option linter.unusedSimpArgs false

/-! ### mandrelref04_Form: function 19 -/
mutual
def mandrelref04_Form.j0 : Nat → ByteArray → ByteArray → Bool → Option (Int × Bool)
  | 0, _, _, _ => none
  | k + 1, x4, x9, x14 => if x14 = true then (some (3, true)) else (if x9.toList = ([109, 101, 109, 111, 114, 121, 46, 115, 105, 122, 101] : List UInt8) then (mandrelref04_Form.j1 k x4 x9 (x9.toList == ([109, 101, 109, 111, 114, 121, 46, 115, 105, 122, 101] : List UInt8))) else (mandrelref04_Form.j1 k x4 x9 (x9.toList == ([109, 101, 109, 111, 114, 121, 46, 103, 114, 111, 119] : List UInt8))))
def mandrelref04_Form.j1 : Nat → ByteArray → ByteArray → Bool → Option (Int × Bool)
  | 0, _, _, _ => none
  | k + 1, x4, x9, x23 => if x23 = true then (some (5, true)) else (if x9.toList = ([98, 108, 111, 99, 107] : List UInt8) then (mandrelref04_Form.j2 k x4 x9 (x9.toList == ([98, 108, 111, 99, 107] : List UInt8))) else (mandrelref04_Form.j2 k x4 x9 (x9.toList == ([108, 111, 111, 112] : List UInt8))))
def mandrelref04_Form.j2 : Nat → ByteArray → ByteArray → Bool → Option (Int × Bool)
  | 0, _, _, _ => none
  | k + 1, x4, x9, x26 => if x26 = true then (some (6, true)) else (if x9.toList = ([105, 102] : List UInt8) then (some (7, true)) else (if x9.toList = ([98, 114, 95, 116, 97, 98, 108, 101] : List UInt8) then (some (8, true)) else (if x9.toList = ([99, 97, 108, 108, 95, 105, 110, 100, 105, 114, 101, 99, 116] : List UInt8) then (some (9, true)) else (if 1 ≤ (x4.size : Int) then ((mandrelref04_has.f (x4.extract 1 x4.size) (⟨#[51, 50, 46, 108, 111, 97, 100]⟩ : ByteArray)).bind fun t216 => (if t216 = true then (some (4, true)) else ((mandrelref04_has.f (x4.extract 1 x4.size) (⟨#[54, 52, 46, 108, 111, 97, 100]⟩ : ByteArray)).bind fun t217 => (if t217 = true then (some (4, true)) else ((mandrelref04_has.f (x4.extract 1 x4.size) (⟨#[51, 50, 46, 115, 116, 111, 114, 101]⟩ : ByteArray)).bind fun t218 => (if t218 = true then (some (4, true)) else ((mandrelref04_has.f (x4.extract 1 x4.size) (⟨#[54, 52, 46, 115, 116, 111, 114, 101]⟩ : ByteArray)).bind fun t219 => (if t219 = true then (some (4, true)) else (some (0, true)))))))))) else (none)))))
end
def mandrelref04_Form.f (k : Nat) (a0 : Int) : Option (Int × Bool) := (mandrelref04_Name.f k a0).bind fun t215 => (if t215.toList = ([] : List UInt8) then (some (0, false)) else (if t215.toList = ([105, 51, 50, 46, 99, 111, 110, 115, 116] : List UInt8) then (some (1, true)) else (if t215.toList = ([105, 54, 52, 46, 99, 111, 110, 115, 116] : List UInt8) then (some (2, true)) else (if t215.toList = ([98, 114] : List UInt8) then (mandrelref04_Form.j0 k t215 t215 (t215.toList == ([98, 114] : List UInt8))) else (if t215.toList = ([98, 114, 95, 105, 102] : List UInt8) then (mandrelref04_Form.j0 k t215 t215 (t215.toList == ([98, 114, 95, 105, 102] : List UInt8))) else (if t215.toList = ([99, 97, 108, 108] : List UInt8) then (mandrelref04_Form.j0 k t215 t215 (t215.toList == ([99, 97, 108, 108] : List UInt8))) else (if t215.toList = ([108, 111, 99, 97, 108, 46, 103, 101, 116] : List UInt8) then (mandrelref04_Form.j0 k t215 t215 (t215.toList == ([108, 111, 99, 97, 108, 46, 103, 101, 116] : List UInt8))) else (if t215.toList = ([108, 111, 99, 97, 108, 46, 115, 101, 116] : List UInt8) then (mandrelref04_Form.j0 k t215 t215 (t215.toList == ([108, 111, 99, 97, 108, 46, 115, 101, 116] : List UInt8))) else (if t215.toList = ([108, 111, 99, 97, 108, 46, 116, 101, 101] : List UInt8) then (mandrelref04_Form.j0 k t215 t215 (t215.toList == ([108, 111, 99, 97, 108, 46, 116, 101, 101] : List UInt8))) else (if t215.toList = ([103, 108, 111, 98, 97, 108, 46, 103, 101, 116] : List UInt8) then (mandrelref04_Form.j0 k t215 t215 (t215.toList == ([103, 108, 111, 98, 97, 108, 46, 103, 101, 116] : List UInt8))) else (mandrelref04_Form.j0 k t215 t215 (t215.toList == ([103, 108, 111, 98, 97, 108, 46, 115, 101, 116] : List UInt8)))))))))))))
set_option maxHeartbeats 8000000 in
set_option maxRecDepth 100000 in
theorem mandrelref04_Form.calls (k : Nat) (a0 : Int) (r1 : Int) (r2 : Bool) (w : World) (hG : GG [] w) (h : mandrelref04_Form.f k a0 = some (r1, r2)) :
    Calls Tryd.prog 19 #[.int .u8 a0] w fun e w' => e = .returned (.tuple #[.int .i64 r1, .bool r2]) ∧ Below w.heap.size w w' := by
  have HB := Aside0.mk (Below.refl w.heap.size w)
  have HG := Aside0.mk hG
  clear hG
  have H : ((mandrelref04_Name.f k a0).bind fun t215 => (if t215.toList = ([] : List UInt8) then (some (0, false)) else (if t215.toList = ([105, 51, 50, 46, 99, 111, 110, 115, 116] : List UInt8) then (some (1, true)) else (if t215.toList = ([105, 54, 52, 46, 99, 111, 110, 115, 116] : List UInt8) then (some (2, true)) else (if t215.toList = ([98, 114] : List UInt8) then (mandrelref04_Form.j0 k t215 t215 (t215.toList == ([98, 114] : List UInt8))) else (if t215.toList = ([98, 114, 95, 105, 102] : List UInt8) then (mandrelref04_Form.j0 k t215 t215 (t215.toList == ([98, 114, 95, 105, 102] : List UInt8))) else (if t215.toList = ([99, 97, 108, 108] : List UInt8) then (mandrelref04_Form.j0 k t215 t215 (t215.toList == ([99, 97, 108, 108] : List UInt8))) else (if t215.toList = ([108, 111, 99, 97, 108, 46, 103, 101, 116] : List UInt8) then (mandrelref04_Form.j0 k t215 t215 (t215.toList == ([108, 111, 99, 97, 108, 46, 103, 101, 116] : List UInt8))) else (if t215.toList = ([108, 111, 99, 97, 108, 46, 115, 101, 116] : List UInt8) then (mandrelref04_Form.j0 k t215 t215 (t215.toList == ([108, 111, 99, 97, 108, 46, 115, 101, 116] : List UInt8))) else (if t215.toList = ([108, 111, 99, 97, 108, 46, 116, 101, 101] : List UInt8) then (mandrelref04_Form.j0 k t215 t215 (t215.toList == ([108, 111, 99, 97, 108, 46, 116, 101, 101] : List UInt8))) else (if t215.toList = ([103, 108, 111, 98, 97, 108, 46, 103, 101, 116] : List UInt8) then (mandrelref04_Form.j0 k t215 t215 (t215.toList == ([103, 108, 111, 98, 97, 108, 46, 103, 101, 116] : List UInt8))) else (mandrelref04_Form.j0 k t215 t215 (t215.toList == ([103, 108, 111, 98, 97, 108, 46, 115, 101, 116] : List UInt8)))))))))))))) = some (r1, r2) := h
  clear h
  replace H := Option.bind_eq_some_iff.mp H
  obtain ⟨t215, A20, H⟩ := H
  replace H : (if t215.toList = ([] : List UInt8) then (some (0, false)) else (if t215.toList = ([105, 51, 50, 46, 99, 111, 110, 115, 116] : List UInt8) then (some (1, true)) else (if t215.toList = ([105, 54, 52, 46, 99, 111, 110, 115, 116] : List UInt8) then (some (2, true)) else (if t215.toList = ([98, 114] : List UInt8) then (mandrelref04_Form.j0 k t215 t215 (t215.toList == ([98, 114] : List UInt8))) else (if t215.toList = ([98, 114, 95, 105, 102] : List UInt8) then (mandrelref04_Form.j0 k t215 t215 (t215.toList == ([98, 114, 95, 105, 102] : List UInt8))) else (if t215.toList = ([99, 97, 108, 108] : List UInt8) then (mandrelref04_Form.j0 k t215 t215 (t215.toList == ([99, 97, 108, 108] : List UInt8))) else (if t215.toList = ([108, 111, 99, 97, 108, 46, 103, 101, 116] : List UInt8) then (mandrelref04_Form.j0 k t215 t215 (t215.toList == ([108, 111, 99, 97, 108, 46, 103, 101, 116] : List UInt8))) else (if t215.toList = ([108, 111, 99, 97, 108, 46, 115, 101, 116] : List UInt8) then (mandrelref04_Form.j0 k t215 t215 (t215.toList == ([108, 111, 99, 97, 108, 46, 115, 101, 116] : List UInt8))) else (if t215.toList = ([108, 111, 99, 97, 108, 46, 116, 101, 101] : List UInt8) then (mandrelref04_Form.j0 k t215 t215 (t215.toList == ([108, 111, 99, 97, 108, 46, 116, 101, 101] : List UInt8))) else (if t215.toList = ([103, 108, 111, 98, 97, 108, 46, 103, 101, 116] : List UInt8) then (mandrelref04_Form.j0 k t215 t215 (t215.toList == ([103, 108, 111, 98, 97, 108, 46, 103, 101, 116] : List UInt8))) else (mandrelref04_Form.j0 k t215 t215 (t215.toList == ([103, 108, 111, 98, 97, 108, 46, 115, 101, 116] : List UInt8))))))))))))) = some (r1, r2) := H
  have A2 := Aside0.mk A20
  clear A20
  by_cases c3 : t215.toList = ([] : List UInt8)
  · rw [if_pos c3] at H
    have c3b0 : (t215.toList == ([] : List UInt8)) = true := beq_iff_eq.mpr c3
    have c3b1 : (t215.toList != ([] : List UInt8)) = false := bne_eq_false_iff_eq.mpr c3
    clear c3
    simp only [Option.some.injEq, Prod.mk.injEq] at H
    obtain ⟨rfl, rfl⟩ := H
    go_enter Tryd.func19, Tryd.ntmps19
    go_wp2_with (first | ((with_reducible refine gate_callee (f := 13) rfl ?_); refine goesL_ (some 6) rfl rfl Tryd.func13 (by kernel_rfl) rfl #[.int .u8 a0] rfl (by (try simp only [List.map_toArray, List.map_cons, List.map_nil]); first | done | rfl | (simp only [List.length_drop, List.length_take]; rfl)) ?_; (with_reducible refine (mandrelref04_Name.calls k a0 t215 _ ?side1 A2.out).mono ?_); (case side1 => exact GG.nil _); rintro e w4 ⟨rfl, hb⟩; refine ⟨_, rfl, ?_⟩; have n0_ := Aside0.mk (below_step (by repeat first | exact HB.out | apply below_alloc | apply pw_below_drewN | apply below_drew1) hb); clear HB; have HB := n0_; clear n0_; (try clear hb); (try clear hb2); (try clear hk); (try clear hi)))
    go_ret2
    exact ⟨by first | rfl | (simp [errW_none, errW_some] <;> rfl) | (simp [*, errW_none, errW_some] <;> rfl), by repeat first | exact HB.out | apply below_alloc | apply pw_below_drewN | apply below_drew1⟩
  · rw [if_neg c3] at H
    have c3b0 : (t215.toList == ([] : List UInt8)) = false := beq_eq_false_iff_ne.mpr c3
    have c3b1 : (t215.toList != ([] : List UInt8)) = true := bne_iff_ne.mpr c3
    by_cases c5 : t215.toList = ([105, 51, 50, 46, 99, 111, 110, 115, 116] : List UInt8)
    · rw [if_pos c5] at H
      have c5b0 : (t215.toList == ([105, 51, 50, 46, 99, 111, 110, 115, 116] : List UInt8)) = true := beq_iff_eq.mpr c5
      have c5b1 : (t215.toList != ([105, 51, 50, 46, 99, 111, 110, 115, 116] : List UInt8)) = false := bne_eq_false_iff_eq.mpr c5
      clear c5
      simp only [Option.some.injEq, Prod.mk.injEq] at H
      obtain ⟨rfl, rfl⟩ := H
      go_enter Tryd.func19, Tryd.ntmps19
      go_wp2_with (first | ((with_reducible refine gate_callee (f := 13) rfl ?_); refine goesL_ (some 6) rfl rfl Tryd.func13 (by kernel_rfl) rfl #[.int .u8 a0] rfl (by (try simp only [List.map_toArray, List.map_cons, List.map_nil]); first | done | rfl | (simp only [List.length_drop, List.length_take]; rfl)) ?_; (with_reducible refine (mandrelref04_Name.calls k a0 t215 _ ?side1 A2.out).mono ?_); (case side1 => exact GG.nil _); rintro e w6 ⟨rfl, hb⟩; refine ⟨_, rfl, ?_⟩; have n0_ := Aside0.mk (below_step (by repeat first | exact HB.out | apply below_alloc | apply pw_below_drewN | apply below_drew1) hb); clear HB; have HB := n0_; clear n0_; (try clear hb); (try clear hb2); (try clear hk); (try clear hi)))
      go_ret2
      exact ⟨by first | rfl | (simp [errW_none, errW_some] <;> rfl) | (simp [*, errW_none, errW_some] <;> rfl), by repeat first | exact HB.out | apply below_alloc | apply pw_below_drewN | apply below_drew1⟩
    · rw [if_neg c5] at H
      have c5b0 : (t215.toList == ([105, 51, 50, 46, 99, 111, 110, 115, 116] : List UInt8)) = false := beq_eq_false_iff_ne.mpr c5
      have c5b1 : (t215.toList != ([105, 51, 50, 46, 99, 111, 110, 115, 116] : List UInt8)) = true := bne_iff_ne.mpr c5
      by_cases c7 : t215.toList = ([105, 54, 52, 46, 99, 111, 110, 115, 116] : List UInt8)
      · rw [if_pos c7] at H
        have c7b0 : (t215.toList == ([105, 54, 52, 46, 99, 111, 110, 115, 116] : List UInt8)) = true := beq_iff_eq.mpr c7
        have c7b1 : (t215.toList != ([105, 54, 52, 46, 99, 111, 110, 115, 116] : List UInt8)) = false := bne_eq_false_iff_eq.mpr c7
        clear c7
        simp only [Option.some.injEq, Prod.mk.injEq] at H
        obtain ⟨rfl, rfl⟩ := H
        go_enter Tryd.func19, Tryd.ntmps19
        go_wp2_with (first | ((with_reducible refine gate_callee (f := 13) rfl ?_); refine goesL_ (some 6) rfl rfl Tryd.func13 (by kernel_rfl) rfl #[.int .u8 a0] rfl (by (try simp only [List.map_toArray, List.map_cons, List.map_nil]); first | done | rfl | (simp only [List.length_drop, List.length_take]; rfl)) ?_; (with_reducible refine (mandrelref04_Name.calls k a0 t215 _ ?side1 A2.out).mono ?_); (case side1 => exact GG.nil _); rintro e w8 ⟨rfl, hb⟩; refine ⟨_, rfl, ?_⟩; have n0_ := Aside0.mk (below_step (by repeat first | exact HB.out | apply below_alloc | apply pw_below_drewN | apply below_drew1) hb); clear HB; have HB := n0_; clear n0_; (try clear hb); (try clear hb2); (try clear hk); (try clear hi)))
        go_ret2
        exact ⟨by first | rfl | (simp [errW_none, errW_some] <;> rfl) | (simp [*, errW_none, errW_some] <;> rfl), by repeat first | exact HB.out | apply below_alloc | apply pw_below_drewN | apply below_drew1⟩
      · rw [if_neg c7] at H
        have c7b0 : (t215.toList == ([105, 54, 52, 46, 99, 111, 110, 115, 116] : List UInt8)) = false := beq_eq_false_iff_ne.mpr c7
        have c7b1 : (t215.toList != ([105, 54, 52, 46, 99, 111, 110, 115, 116] : List UInt8)) = true := bne_iff_ne.mpr c7
        have HC9 := Aside0.mk H
        clear H
        go_enter Tryd.func19, Tryd.ntmps19
        go_upto_if 14 with (first | ((with_reducible refine gate_callee (f := 13) rfl ?_); refine goesL_ (some 6) rfl rfl Tryd.func13 (by kernel_rfl) rfl #[.int .u8 a0] rfl (by (try simp only [List.map_toArray, List.map_cons, List.map_nil]); first | done | rfl | (simp only [List.length_drop, List.length_take]; rfl)) ?_; (with_reducible refine (mandrelref04_Name.calls k a0 t215 _ ?side1 A2.out).mono ?_); (case side1 => exact GG.nil _); rintro e w10 ⟨rfl, hb⟩; refine ⟨_, rfl, ?_⟩; have n0_ := Aside0.mk (below_step (by repeat first | exact HB.out | apply below_alloc | apply pw_below_drewN | apply below_drew1) hb); clear HB; have HB := n0_; clear n0_; (try clear hb); (try clear hb2); (try clear hk); (try clear hi)))
        (try simp only [Act.put, List.setIfInBounds_toArray, List.set_cons_zero, List.set_cons_succ])
        go_cut [14] (fun v14 wc => ∃ (kq : Nat) (x14_8 : Bool), v14 = .bool x14_8 ∧ Aside0 (mandrelref04_Form.j0 kq t215 t215 x14_8 = some (r1, r2)) ∧ Aside0 (kq ≤ k) ∧ Aside0 (Below w.heap.size w wc))
        case first =>
          have H := HC9.out
          clear HC9
          by_cases c11 : t215.toList = ([98, 114] : List UInt8)
          · rw [if_pos c11] at H
            have c11b0 : (t215.toList == ([98, 114] : List UInt8)) = true := beq_iff_eq.mpr c11
            have c11b1 : (t215.toList != ([98, 114] : List UInt8)) = false := bne_eq_false_iff_eq.mpr c11
            clear c11
            (first | rw [c11b0] | (simp only [i64_w, i32_w]; rw [c11b0]) | skip)
            have H' := Aside0.mk H
            clear H
            go_wp2
            go_meet
            case rel => exact ⟨_, ((t215.toList == ([98, 114] : List UInt8))), (by first | rfl | (simp; done) | (simp [*]; done)), H', ⟨by first | omega | exact Nat.le_refl _⟩, ⟨by repeat first | exact HB.out | apply below_alloc | apply pw_below_drewN | apply below_drew1⟩⟩
          · rw [if_neg c11] at H
            have c11b0 : (t215.toList == ([98, 114] : List UInt8)) = false := beq_eq_false_iff_ne.mpr c11
            have c11b1 : (t215.toList != ([98, 114] : List UInt8)) = true := bne_iff_ne.mpr c11
            (first | rw [c11b0] | (simp only [i64_w, i32_w]; rw [c11b0]) | skip)
            by_cases c12 : t215.toList = ([98, 114, 95, 105, 102] : List UInt8)
            · rw [if_pos c12] at H
              have c12b0 : (t215.toList == ([98, 114, 95, 105, 102] : List UInt8)) = true := beq_iff_eq.mpr c12
              have c12b1 : (t215.toList != ([98, 114, 95, 105, 102] : List UInt8)) = false := bne_eq_false_iff_eq.mpr c12
              clear c12
              have H' := Aside0.mk H
              clear H
              go_wp2
              go_meet
              case rel => exact ⟨_, ((t215.toList == ([98, 114, 95, 105, 102] : List UInt8))), (by first | rfl | (simp; done) | (simp [*]; done)), H', ⟨by first | omega | exact Nat.le_refl _⟩, ⟨by repeat first | exact HB.out | apply below_alloc | apply pw_below_drewN | apply below_drew1⟩⟩
            · rw [if_neg c12] at H
              have c12b0 : (t215.toList == ([98, 114, 95, 105, 102] : List UInt8)) = false := beq_eq_false_iff_ne.mpr c12
              have c12b1 : (t215.toList != ([98, 114, 95, 105, 102] : List UInt8)) = true := bne_iff_ne.mpr c12
              by_cases c13 : t215.toList = ([99, 97, 108, 108] : List UInt8)
              · rw [if_pos c13] at H
                have c13b0 : (t215.toList == ([99, 97, 108, 108] : List UInt8)) = true := beq_iff_eq.mpr c13
                have c13b1 : (t215.toList != ([99, 97, 108, 108] : List UInt8)) = false := bne_eq_false_iff_eq.mpr c13
                clear c13
                have H' := Aside0.mk H
                clear H
                go_wp2
                go_meet
                case rel => exact ⟨_, ((t215.toList == ([99, 97, 108, 108] : List UInt8))), (by first | rfl | (simp; done) | (simp [*]; done)), H', ⟨by first | omega | exact Nat.le_refl _⟩, ⟨by repeat first | exact HB.out | apply below_alloc | apply pw_below_drewN | apply below_drew1⟩⟩
              · rw [if_neg c13] at H
                have c13b0 : (t215.toList == ([99, 97, 108, 108] : List UInt8)) = false := beq_eq_false_iff_ne.mpr c13
                have c13b1 : (t215.toList != ([99, 97, 108, 108] : List UInt8)) = true := bne_iff_ne.mpr c13
                by_cases c14 : t215.toList = ([108, 111, 99, 97, 108, 46, 103, 101, 116] : List UInt8)
                · rw [if_pos c14] at H
                  have c14b0 : (t215.toList == ([108, 111, 99, 97, 108, 46, 103, 101, 116] : List UInt8)) = true := beq_iff_eq.mpr c14
                  have c14b1 : (t215.toList != ([108, 111, 99, 97, 108, 46, 103, 101, 116] : List UInt8)) = false := bne_eq_false_iff_eq.mpr c14
                  clear c14
                  have H' := Aside0.mk H
                  clear H
                  go_wp2
                  go_meet
                  case rel => exact ⟨_, ((t215.toList == ([108, 111, 99, 97, 108, 46, 103, 101, 116] : List UInt8))), (by first | rfl | (simp; done) | (simp [*]; done)), H', ⟨by first | omega | exact Nat.le_refl _⟩, ⟨by repeat first | exact HB.out | apply below_alloc | apply pw_below_drewN | apply below_drew1⟩⟩
                · rw [if_neg c14] at H
                  have c14b0 : (t215.toList == ([108, 111, 99, 97, 108, 46, 103, 101, 116] : List UInt8)) = false := beq_eq_false_iff_ne.mpr c14
                  have c14b1 : (t215.toList != ([108, 111, 99, 97, 108, 46, 103, 101, 116] : List UInt8)) = true := bne_iff_ne.mpr c14
                  by_cases c15 : t215.toList = ([108, 111, 99, 97, 108, 46, 115, 101, 116] : List UInt8)
                  · rw [if_pos c15] at H
                    have c15b0 : (t215.toList == ([108, 111, 99, 97, 108, 46, 115, 101, 116] : List UInt8)) = true := beq_iff_eq.mpr c15
                    have c15b1 : (t215.toList != ([108, 111, 99, 97, 108, 46, 115, 101, 116] : List UInt8)) = false := bne_eq_false_iff_eq.mpr c15
                    clear c15
                    have H' := Aside0.mk H
                    clear H
                    go_wp2
                    go_meet
                    case rel => exact ⟨_, ((t215.toList == ([108, 111, 99, 97, 108, 46, 115, 101, 116] : List UInt8))), (by first | rfl | (simp; done) | (simp [*]; done)), H', ⟨by first | omega | exact Nat.le_refl _⟩, ⟨by repeat first | exact HB.out | apply below_alloc | apply pw_below_drewN | apply below_drew1⟩⟩
                  · rw [if_neg c15] at H
                    have c15b0 : (t215.toList == ([108, 111, 99, 97, 108, 46, 115, 101, 116] : List UInt8)) = false := beq_eq_false_iff_ne.mpr c15
                    have c15b1 : (t215.toList != ([108, 111, 99, 97, 108, 46, 115, 101, 116] : List UInt8)) = true := bne_iff_ne.mpr c15
                    by_cases c16 : t215.toList = ([108, 111, 99, 97, 108, 46, 116, 101, 101] : List UInt8)
                    · rw [if_pos c16] at H
                      have c16b0 : (t215.toList == ([108, 111, 99, 97, 108, 46, 116, 101, 101] : List UInt8)) = true := beq_iff_eq.mpr c16
                      have c16b1 : (t215.toList != ([108, 111, 99, 97, 108, 46, 116, 101, 101] : List UInt8)) = false := bne_eq_false_iff_eq.mpr c16
                      clear c16
                      have H' := Aside0.mk H
                      clear H
                      go_wp2
                      go_meet
                      case rel => exact ⟨_, ((t215.toList == ([108, 111, 99, 97, 108, 46, 116, 101, 101] : List UInt8))), (by first | rfl | (simp; done) | (simp [*]; done)), H', ⟨by first | omega | exact Nat.le_refl _⟩, ⟨by repeat first | exact HB.out | apply below_alloc | apply pw_below_drewN | apply below_drew1⟩⟩
                    · rw [if_neg c16] at H
                      have c16b0 : (t215.toList == ([108, 111, 99, 97, 108, 46, 116, 101, 101] : List UInt8)) = false := beq_eq_false_iff_ne.mpr c16
                      have c16b1 : (t215.toList != ([108, 111, 99, 97, 108, 46, 116, 101, 101] : List UInt8)) = true := bne_iff_ne.mpr c16
                      by_cases c17 : t215.toList = ([103, 108, 111, 98, 97, 108, 46, 103, 101, 116] : List UInt8)
                      · rw [if_pos c17] at H
                        have c17b0 : (t215.toList == ([103, 108, 111, 98, 97, 108, 46, 103, 101, 116] : List UInt8)) = true := beq_iff_eq.mpr c17
                        have c17b1 : (t215.toList != ([103, 108, 111, 98, 97, 108, 46, 103, 101, 116] : List UInt8)) = false := bne_eq_false_iff_eq.mpr c17
                        clear c17
                        have H' := Aside0.mk H
                        clear H
                        go_wp2
                        go_meet
                        case rel => exact ⟨_, ((t215.toList == ([103, 108, 111, 98, 97, 108, 46, 103, 101, 116] : List UInt8))), (by first | rfl | (simp; done) | (simp [*]; done)), H', ⟨by first | omega | exact Nat.le_refl _⟩, ⟨by repeat first | exact HB.out | apply below_alloc | apply pw_below_drewN | apply below_drew1⟩⟩
                      · rw [if_neg c17] at H
                        have c17b0 : (t215.toList == ([103, 108, 111, 98, 97, 108, 46, 103, 101, 116] : List UInt8)) = false := beq_eq_false_iff_ne.mpr c17
                        have c17b1 : (t215.toList != ([103, 108, 111, 98, 97, 108, 46, 103, 101, 116] : List UInt8)) = true := bne_iff_ne.mpr c17
                        have H' := Aside0.mk H
                        clear H
                        go_wp2
                        go_meet
                        case rel => exact ⟨_, ((t215.toList == ([103, 108, 111, 98, 97, 108, 46, 115, 101, 116] : List UInt8))), (by first | rfl | (simp; done) | (simp [*]; done)), H', ⟨by first | omega | exact Nat.le_refl _⟩, ⟨by repeat first | exact HB.out | apply below_alloc | apply pw_below_drewN | apply below_drew1⟩⟩
        case rest =>
          clear HC9
          try clear c1
          try clear p2
          try clear c3
          try clear c3b0
          try clear c3b1
          try clear c5
          try clear c5b0
          try clear c5b1
          try clear c7
          try clear c7b0
          try clear c7b1
          try clear c11
          try clear c11b0
          try clear c11b1
          try clear c12
          try clear c12b0
          try clear c12b1
          try clear c13
          try clear c13b0
          try clear c13b1
          try clear c14
          try clear c14b0
          try clear c14b1
          try clear c15
          try clear c15b0
          try clear c15b1
          try clear c16
          try clear c16b0
          try clear c16b1
          try clear c17
          try clear c17b0
          try clear c17b1
          obtain ⟨kq, x14_8, rfl, HA, HJ8, HB⟩ := hcut
          cases kq with
          | zero => exact absurd HA.out (by simp [mandrelref04_Form.j0])
          | succ kj8 =>
            have H := HA.out
            clear HA
            simp only [mandrelref04_Form.j0] at H
            by_cases c18 : x14_8 = true
            · subst c18
              have H1 : (some (3, true)) = some (r1, r2) := by rw [if_pos rfl] at H; exact H
              clear H
              have H := H1
              clear H1
              simp only [Option.some.injEq, Prod.mk.injEq] at H
              obtain ⟨rfl, rfl⟩ := H
              go_wp2
              go_ret2
              exact ⟨by first | rfl | (simp [errW_none, errW_some] <;> rfl) | (simp [*, errW_none, errW_some] <;> rfl), by repeat first | exact HB.out | apply below_alloc | apply pw_below_drewN | apply below_drew1⟩
            · replace c18 := Bool.eq_false_iff.mpr c18
              subst c18
              have H1 : (if t215.toList = ([109, 101, 109, 111, 114, 121, 46, 115, 105, 122, 101] : List UInt8) then (mandrelref04_Form.j1 kj8 t215 t215 (t215.toList == ([109, 101, 109, 111, 114, 121, 46, 115, 105, 122, 101] : List UInt8))) else (mandrelref04_Form.j1 kj8 t215 t215 (t215.toList == ([109, 101, 109, 111, 114, 121, 46, 103, 114, 111, 119] : List UInt8)))) = some (r1, r2) := by rw [if_neg (show ¬ (false = true) by decide)] at H; exact H
              clear H
              have H := H1
              clear H1
              have HC19 := Aside0.mk H
              clear H
              go_upto_if 23 with (fail)
              go_cut [23] (fun v23 wc => ∃ (kq : Nat) (x23_18 : Bool), v23 = .bool x23_18 ∧ Aside0 (mandrelref04_Form.j1 kq t215 t215 x23_18 = some (r1, r2)) ∧ Aside0 (kq ≤ kj8) ∧ Aside0 (Below w.heap.size w wc))
              case first =>
                have H := HC19.out
                clear HC19
                by_cases c20 : t215.toList = ([109, 101, 109, 111, 114, 121, 46, 115, 105, 122, 101] : List UInt8)
                · rw [if_pos c20] at H
                  have c20b0 : (t215.toList == ([109, 101, 109, 111, 114, 121, 46, 115, 105, 122, 101] : List UInt8)) = true := beq_iff_eq.mpr c20
                  have c20b1 : (t215.toList != ([109, 101, 109, 111, 114, 121, 46, 115, 105, 122, 101] : List UInt8)) = false := bne_eq_false_iff_eq.mpr c20
                  clear c20
                  (first | rw [c20b0] | (simp only [i64_w, i32_w]; rw [c20b0]) | skip)
                  have H' := Aside0.mk H
                  clear H
                  go_wp2
                  go_meet
                  case rel => exact ⟨_, ((t215.toList == ([109, 101, 109, 111, 114, 121, 46, 115, 105, 122, 101] : List UInt8))), (by first | rfl | (simp; done) | (simp [*]; done)), H', ⟨by have := HJ8.out; first | omega | exact Nat.le_refl _⟩, ⟨by repeat first | exact HB.out | apply below_alloc | apply pw_below_drewN | apply below_drew1⟩⟩
                · rw [if_neg c20] at H
                  have c20b0 : (t215.toList == ([109, 101, 109, 111, 114, 121, 46, 115, 105, 122, 101] : List UInt8)) = false := beq_eq_false_iff_ne.mpr c20
                  have c20b1 : (t215.toList != ([109, 101, 109, 111, 114, 121, 46, 115, 105, 122, 101] : List UInt8)) = true := bne_iff_ne.mpr c20
                  (first | rw [c20b0] | (simp only [i64_w, i32_w]; rw [c20b0]) | skip)
                  have H' := Aside0.mk H
                  clear H
                  go_wp2
                  go_meet
                  case rel => exact ⟨_, ((t215.toList == ([109, 101, 109, 111, 114, 121, 46, 103, 114, 111, 119] : List UInt8))), (by first | rfl | (simp; done) | (simp [*]; done)), H', ⟨by have := HJ8.out; first | omega | exact Nat.le_refl _⟩, ⟨by repeat first | exact HB.out | apply below_alloc | apply pw_below_drewN | apply below_drew1⟩⟩
              case rest =>
                clear HC19
                try clear c1
                try clear c2
                try clear p2
                try clear c3
                try clear c3b0
                try clear c3b1
                try clear c5
                try clear c5b0
                try clear c5b1
                try clear c7
                try clear c7b0
                try clear c7b1
                try clear c11
                try clear c11b0
                try clear c11b1
                try clear c12
                try clear c12b0
                try clear c12b1
                try clear c13
                try clear c13b0
                try clear c13b1
                try clear c14
                try clear c14b0
                try clear c14b1
                try clear c15
                try clear c15b0
                try clear c15b1
                try clear c16
                try clear c16b0
                try clear c16b1
                try clear c17
                try clear c17b0
                try clear c17b1
                try clear c18
                try clear c19
                try clear c20
                try clear c20b0
                try clear c20b1
                try clear p2
                obtain ⟨kq, x23_18, rfl, HA, HJ18, HB⟩ := hcut
                cases kq with
                | zero => exact absurd HA.out (by simp [mandrelref04_Form.j1])
                | succ kj18 =>
                  have H := HA.out
                  clear HA
                  simp only [mandrelref04_Form.j1] at H
                  by_cases c21 : x23_18 = true
                  · subst c21
                    have H1 : (some (5, true)) = some (r1, r2) := by rw [if_pos rfl] at H; exact H
                    clear H
                    have H := H1
                    clear H1
                    simp only [Option.some.injEq, Prod.mk.injEq] at H
                    obtain ⟨rfl, rfl⟩ := H
                    go_wp2
                    go_ret2
                    exact ⟨by first | rfl | (simp [errW_none, errW_some] <;> rfl) | (simp [*, errW_none, errW_some] <;> rfl), by repeat first | exact HB.out | apply below_alloc | apply pw_below_drewN | apply below_drew1⟩
                  · replace c21 := Bool.eq_false_iff.mpr c21
                    subst c21
                    have H1 : (if t215.toList = ([98, 108, 111, 99, 107] : List UInt8) then (mandrelref04_Form.j2 kj18 t215 t215 (t215.toList == ([98, 108, 111, 99, 107] : List UInt8))) else (mandrelref04_Form.j2 kj18 t215 t215 (t215.toList == ([108, 111, 111, 112] : List UInt8)))) = some (r1, r2) := by rw [if_neg (show ¬ (false = true) by decide)] at H; exact H
                    clear H
                    have H := H1
                    clear H1
                    have HC22 := Aside0.mk H
                    clear H
                    go_upto_if 26 with (fail)
                    go_cut [26] (fun v26 wc => ∃ (kq : Nat) (x26_21 : Bool), v26 = .bool x26_21 ∧ Aside0 (mandrelref04_Form.j2 kq t215 t215 x26_21 = some (r1, r2)) ∧ Aside0 (kq ≤ kj18) ∧ Aside0 (Below w.heap.size w wc))
                    case first =>
                      have H := HC22.out
                      clear HC22
                      by_cases c23 : t215.toList = ([98, 108, 111, 99, 107] : List UInt8)
                      · rw [if_pos c23] at H
                        have c23b0 : (t215.toList == ([98, 108, 111, 99, 107] : List UInt8)) = true := beq_iff_eq.mpr c23
                        have c23b1 : (t215.toList != ([98, 108, 111, 99, 107] : List UInt8)) = false := bne_eq_false_iff_eq.mpr c23
                        clear c23
                        (first | rw [c23b0] | (simp only [i64_w, i32_w]; rw [c23b0]) | skip)
                        have H' := Aside0.mk H
                        clear H
                        go_wp2
                        go_meet
                        case rel => exact ⟨_, ((t215.toList == ([98, 108, 111, 99, 107] : List UInt8))), (by first | rfl | (simp; done) | (simp [*]; done)), H', ⟨by have := HJ8.out; have := HJ18.out; first | omega | exact Nat.le_refl _⟩, ⟨by repeat first | exact HB.out | apply below_alloc | apply pw_below_drewN | apply below_drew1⟩⟩
                      · rw [if_neg c23] at H
                        have c23b0 : (t215.toList == ([98, 108, 111, 99, 107] : List UInt8)) = false := beq_eq_false_iff_ne.mpr c23
                        have c23b1 : (t215.toList != ([98, 108, 111, 99, 107] : List UInt8)) = true := bne_iff_ne.mpr c23
                        (first | rw [c23b0] | (simp only [i64_w, i32_w]; rw [c23b0]) | skip)
                        have H' := Aside0.mk H
                        clear H
                        go_wp2
                        go_meet
                        case rel => exact ⟨_, ((t215.toList == ([108, 111, 111, 112] : List UInt8))), (by first | rfl | (simp; done) | (simp [*]; done)), H', ⟨by have := HJ8.out; have := HJ18.out; first | omega | exact Nat.le_refl _⟩, ⟨by repeat first | exact HB.out | apply below_alloc | apply pw_below_drewN | apply below_drew1⟩⟩
                    case rest =>
                      clear HC22
                      try clear c1
                      try clear c2
                      try clear p2
                      try clear c3
                      try clear c3b0
                      try clear c3b1
                      try clear c5
                      try clear c5b0
                      try clear c5b1
                      try clear c7
                      try clear c7b0
                      try clear c7b1
                      try clear c11
                      try clear c11b0
                      try clear c11b1
                      try clear c12
                      try clear c12b0
                      try clear c12b1
                      try clear c13
                      try clear c13b0
                      try clear c13b1
                      try clear c14
                      try clear c14b0
                      try clear c14b1
                      try clear c15
                      try clear c15b0
                      try clear c15b1
                      try clear c16
                      try clear c16b0
                      try clear c16b1
                      try clear c17
                      try clear c17b0
                      try clear c17b1
                      try clear c18
                      try clear c19
                      try clear c20
                      try clear c20b0
                      try clear c20b1
                      try clear c21
                      try clear c23
                      try clear c23b0
                      try clear c23b1
                      try clear p2
                      obtain ⟨kq, x26_21, rfl, HA, HJ21, HB⟩ := hcut
                      cases kq with
                      | zero => exact absurd HA.out (by simp [mandrelref04_Form.j2])
                      | succ kj21 =>
                        have H := HA.out
                        clear HA
                        simp only [mandrelref04_Form.j2] at H
                        by_cases c24 : x26_21 = true
                        · subst c24
                          have H1 : (some (6, true)) = some (r1, r2) := by rw [if_pos rfl] at H; exact H
                          clear H
                          have H := H1
                          clear H1
                          simp only [Option.some.injEq, Prod.mk.injEq] at H
                          obtain ⟨rfl, rfl⟩ := H
                          go_wp2
                          go_ret2
                          exact ⟨by first | rfl | (simp [errW_none, errW_some] <;> rfl) | (simp [*, errW_none, errW_some] <;> rfl), by repeat first | exact HB.out | apply below_alloc | apply pw_below_drewN | apply below_drew1⟩
                        · replace c24 := Bool.eq_false_iff.mpr c24
                          subst c24
                          have H1 : (if t215.toList = ([105, 102] : List UInt8) then (some (7, true)) else (if t215.toList = ([98, 114, 95, 116, 97, 98, 108, 101] : List UInt8) then (some (8, true)) else (if t215.toList = ([99, 97, 108, 108, 95, 105, 110, 100, 105, 114, 101, 99, 116] : List UInt8) then (some (9, true)) else (if 1 ≤ (t215.size : Int) then ((mandrelref04_has.f (t215.extract 1 t215.size) (⟨#[51, 50, 46, 108, 111, 97, 100]⟩ : ByteArray)).bind fun t216 => (if t216 = true then (some (4, true)) else ((mandrelref04_has.f (t215.extract 1 t215.size) (⟨#[54, 52, 46, 108, 111, 97, 100]⟩ : ByteArray)).bind fun t217 => (if t217 = true then (some (4, true)) else ((mandrelref04_has.f (t215.extract 1 t215.size) (⟨#[51, 50, 46, 115, 116, 111, 114, 101]⟩ : ByteArray)).bind fun t218 => (if t218 = true then (some (4, true)) else ((mandrelref04_has.f (t215.extract 1 t215.size) (⟨#[54, 52, 46, 115, 116, 111, 114, 101]⟩ : ByteArray)).bind fun t219 => (if t219 = true then (some (4, true)) else (some (0, true)))))))))) else (none))))) = some (r1, r2) := by rw [if_neg (show ¬ (false = true) by decide)] at H; exact H
                          clear H
                          have H := H1
                          clear H1
                          by_cases c25 : t215.toList = ([105, 102] : List UInt8)
                          · rw [if_pos c25] at H
                            have c25b0 : (t215.toList == ([105, 102] : List UInt8)) = true := beq_iff_eq.mpr c25
                            have c25b1 : (t215.toList != ([105, 102] : List UInt8)) = false := bne_eq_false_iff_eq.mpr c25
                            clear c25
                            simp only [Option.some.injEq, Prod.mk.injEq] at H
                            obtain ⟨rfl, rfl⟩ := H
                            go_wp2
                            go_ret2
                            exact ⟨by first | rfl | (simp [errW_none, errW_some] <;> rfl) | (simp [*, errW_none, errW_some] <;> rfl), by repeat first | exact HB.out | apply below_alloc | apply pw_below_drewN | apply below_drew1⟩
                          · rw [if_neg c25] at H
                            have c25b0 : (t215.toList == ([105, 102] : List UInt8)) = false := beq_eq_false_iff_ne.mpr c25
                            have c25b1 : (t215.toList != ([105, 102] : List UInt8)) = true := bne_iff_ne.mpr c25
                            by_cases c26 : t215.toList = ([98, 114, 95, 116, 97, 98, 108, 101] : List UInt8)
                            · rw [if_pos c26] at H
                              have c26b0 : (t215.toList == ([98, 114, 95, 116, 97, 98, 108, 101] : List UInt8)) = true := beq_iff_eq.mpr c26
                              have c26b1 : (t215.toList != ([98, 114, 95, 116, 97, 98, 108, 101] : List UInt8)) = false := bne_eq_false_iff_eq.mpr c26
                              clear c26
                              simp only [Option.some.injEq, Prod.mk.injEq] at H
                              obtain ⟨rfl, rfl⟩ := H
                              go_wp2
                              go_ret2
                              exact ⟨by first | rfl | (simp [errW_none, errW_some] <;> rfl) | (simp [*, errW_none, errW_some] <;> rfl), by repeat first | exact HB.out | apply below_alloc | apply pw_below_drewN | apply below_drew1⟩
                            · rw [if_neg c26] at H
                              have c26b0 : (t215.toList == ([98, 114, 95, 116, 97, 98, 108, 101] : List UInt8)) = false := beq_eq_false_iff_ne.mpr c26
                              have c26b1 : (t215.toList != ([98, 114, 95, 116, 97, 98, 108, 101] : List UInt8)) = true := bne_iff_ne.mpr c26
                              by_cases c27 : t215.toList = ([99, 97, 108, 108, 95, 105, 110, 100, 105, 114, 101, 99, 116] : List UInt8)
                              · rw [if_pos c27] at H
                                have c27b0 : (t215.toList == ([99, 97, 108, 108, 95, 105, 110, 100, 105, 114, 101, 99, 116] : List UInt8)) = true := beq_iff_eq.mpr c27
                                have c27b1 : (t215.toList != ([99, 97, 108, 108, 95, 105, 110, 100, 105, 114, 101, 99, 116] : List UInt8)) = false := bne_eq_false_iff_eq.mpr c27
                                clear c27
                                simp only [Option.some.injEq, Prod.mk.injEq] at H
                                obtain ⟨rfl, rfl⟩ := H
                                go_wp2
                                go_ret2
                                exact ⟨by first | rfl | (simp [errW_none, errW_some] <;> rfl) | (simp [*, errW_none, errW_some] <;> rfl), by repeat first | exact HB.out | apply below_alloc | apply pw_below_drewN | apply below_drew1⟩
                              · rw [if_neg c27] at H
                                have c27b0 : (t215.toList == ([99, 97, 108, 108, 95, 105, 110, 100, 105, 114, 101, 99, 116] : List UInt8)) = false := beq_eq_false_iff_ne.mpr c27
                                have c27b1 : (t215.toList != ([99, 97, 108, 108, 95, 105, 110, 100, 105, 114, 101, 99, 116] : List UInt8)) = true := bne_iff_ne.mpr c27
                                by_cases c28 : 1 ≤ (t215.size : Int)
                                · rw [if_pos c28] at H
                                  have c28b0 := eq_true c28
                                  have c28b1 : decide (1 ≤ (t215.size : Int)) = true := decide_eq_true c28
                                  clear c28
                                  replace H := Option.bind_eq_some_iff.mp H
                                  obtain ⟨t216, A290, H⟩ := H
                                  replace H : (if t216 = true then (some (4, true)) else ((mandrelref04_has.f (t215.extract 1 t215.size) (⟨#[54, 52, 46, 108, 111, 97, 100]⟩ : ByteArray)).bind fun t217 => (if t217 = true then (some (4, true)) else ((mandrelref04_has.f (t215.extract 1 t215.size) (⟨#[51, 50, 46, 115, 116, 111, 114, 101]⟩ : ByteArray)).bind fun t218 => (if t218 = true then (some (4, true)) else ((mandrelref04_has.f (t215.extract 1 t215.size) (⟨#[54, 52, 46, 115, 116, 111, 114, 101]⟩ : ByteArray)).bind fun t219 => (if t219 = true then (some (4, true)) else (some (0, true))))))))) = some (r1, r2) := H
                                  have A29 := Aside0.mk A290
                                  clear A290
                                  by_cases c30 : t216 = true
                                  · subst c30
                                    have H1 : (some (4, true)) = some (r1, r2) := by rw [if_pos rfl] at H; exact H
                                    clear H
                                    have H := H1
                                    clear H1
                                    simp only [Option.some.injEq, Prod.mk.injEq] at H
                                    obtain ⟨rfl, rfl⟩ := H
                                    go_wp2_with (first | ((with_reducible refine gate_callee (f := 55) rfl ?_); refine goesL_ (some 37) rfl rfl Tryd.func55 (by kernel_rfl) rfl #[.string (t215.extract 1 t215.size), .string (⟨#[51, 50, 46, 108, 111, 97, 100]⟩ : ByteArray)] rfl (by (try simp only [List.map_toArray, List.map_cons, List.map_nil]); first | done | rfl | (simp only [List.length_drop, List.length_take]; rfl)) ?_; (with_reducible refine (mandrelref04_has.calls (t215.extract 1 t215.size) (⟨#[51, 50, 46, 108, 111, 97, 100]⟩ : ByteArray) true _ ?side1 A29.out).mono ?_); (case side1 => exact GG.nil _); rintro e w' ⟨rfl, ⟨nd, rfl⟩⟩; refine ⟨_, rfl, ?_⟩))
                                    go_ret2
                                    exact ⟨by first | rfl | (simp [errW_none, errW_some] <;> rfl) | (simp [*, errW_none, errW_some] <;> rfl), by repeat first | exact HB.out | apply below_alloc | apply pw_below_drewN | apply below_drew1⟩
                                  · replace c30 := Bool.eq_false_iff.mpr c30
                                    subst c30
                                    have H1 : ((mandrelref04_has.f (t215.extract 1 t215.size) (⟨#[54, 52, 46, 108, 111, 97, 100]⟩ : ByteArray)).bind fun t217 => (if t217 = true then (some (4, true)) else ((mandrelref04_has.f (t215.extract 1 t215.size) (⟨#[51, 50, 46, 115, 116, 111, 114, 101]⟩ : ByteArray)).bind fun t218 => (if t218 = true then (some (4, true)) else ((mandrelref04_has.f (t215.extract 1 t215.size) (⟨#[54, 52, 46, 115, 116, 111, 114, 101]⟩ : ByteArray)).bind fun t219 => (if t219 = true then (some (4, true)) else (some (0, true)))))))) = some (r1, r2) := by rw [if_neg (show ¬ (false = true) by decide)] at H; exact H
                                    clear H
                                    have H := H1
                                    clear H1
                                    have c31b0 := eq_true (of_decide_eq_true (by first | (with_reducible assumption) | assumption) : 1 ≤ (t215.size : Int))
                                    replace H := Option.bind_eq_some_iff.mp H
                                    obtain ⟨t217, A320, H⟩ := H
                                    replace H : (if t217 = true then (some (4, true)) else ((mandrelref04_has.f (t215.extract 1 t215.size) (⟨#[51, 50, 46, 115, 116, 111, 114, 101]⟩ : ByteArray)).bind fun t218 => (if t218 = true then (some (4, true)) else ((mandrelref04_has.f (t215.extract 1 t215.size) (⟨#[54, 52, 46, 115, 116, 111, 114, 101]⟩ : ByteArray)).bind fun t219 => (if t219 = true then (some (4, true)) else (some (0, true))))))) = some (r1, r2) := H
                                    have A32 := Aside0.mk A320
                                    clear A320
                                    by_cases c33 : t217 = true
                                    · subst c33
                                      have H1 : (some (4, true)) = some (r1, r2) := by rw [if_pos rfl] at H; exact H
                                      clear H
                                      have H := H1
                                      clear H1
                                      simp only [Option.some.injEq, Prod.mk.injEq] at H
                                      obtain ⟨rfl, rfl⟩ := H
                                      go_wp2_with (first | ((with_reducible refine gate_callee (f := 55) rfl ?_); refine goesL_ (some 37) rfl rfl Tryd.func55 (by kernel_rfl) rfl #[.string (t215.extract 1 t215.size), .string (⟨#[51, 50, 46, 108, 111, 97, 100]⟩ : ByteArray)] rfl (by (try simp only [List.map_toArray, List.map_cons, List.map_nil]); first | done | rfl | (simp only [List.length_drop, List.length_take]; rfl)) ?_; (with_reducible refine (mandrelref04_has.calls (t215.extract 1 t215.size) (⟨#[51, 50, 46, 108, 111, 97, 100]⟩ : ByteArray) false _ ?side1 A29.out).mono ?_); (case side1 => exact GG.nil _); rintro e w' ⟨rfl, ⟨nd, rfl⟩⟩; refine ⟨_, rfl, ?_⟩) | (go_at_call 55; (with_reducible refine (mandrelref04_has.calls (t215.extract 1 t215.size) (⟨#[54, 52, 46, 108, 111, 97, 100]⟩ : ByteArray) true _ ?side1 A32.out).mono ?_); (case side1 => exact GG.nil _); rintro e w' ⟨rfl, ⟨nd, rfl⟩⟩))
                                      go_ret2
                                      exact ⟨by first | rfl | (simp [errW_none, errW_some] <;> rfl) | (simp [*, errW_none, errW_some] <;> rfl), by repeat first | exact HB.out | apply below_alloc | apply pw_below_drewN | apply below_drew1⟩
                                    · replace c33 := Bool.eq_false_iff.mpr c33
                                      subst c33
                                      have H1 : ((mandrelref04_has.f (t215.extract 1 t215.size) (⟨#[51, 50, 46, 115, 116, 111, 114, 101]⟩ : ByteArray)).bind fun t218 => (if t218 = true then (some (4, true)) else ((mandrelref04_has.f (t215.extract 1 t215.size) (⟨#[54, 52, 46, 115, 116, 111, 114, 101]⟩ : ByteArray)).bind fun t219 => (if t219 = true then (some (4, true)) else (some (0, true)))))) = some (r1, r2) := by rw [if_neg (show ¬ (false = true) by decide)] at H; exact H
                                      clear H
                                      have H := H1
                                      clear H1
                                      have c34b0 := eq_true (of_decide_eq_true (by first | (with_reducible assumption) | assumption) : 1 ≤ (t215.size : Int))
                                      replace H := Option.bind_eq_some_iff.mp H
                                      obtain ⟨t218, A350, H⟩ := H
                                      replace H : (if t218 = true then (some (4, true)) else ((mandrelref04_has.f (t215.extract 1 t215.size) (⟨#[54, 52, 46, 115, 116, 111, 114, 101]⟩ : ByteArray)).bind fun t219 => (if t219 = true then (some (4, true)) else (some (0, true))))) = some (r1, r2) := H
                                      have A35 := Aside0.mk A350
                                      clear A350
                                      by_cases c36 : t218 = true
                                      · subst c36
                                        have H1 : (some (4, true)) = some (r1, r2) := by rw [if_pos rfl] at H; exact H
                                        clear H
                                        have H := H1
                                        clear H1
                                        simp only [Option.some.injEq, Prod.mk.injEq] at H
                                        obtain ⟨rfl, rfl⟩ := H
                                        go_wp2_with (first | ((with_reducible refine gate_callee (f := 55) rfl ?_); refine goesL_ (some 37) rfl rfl Tryd.func55 (by kernel_rfl) rfl #[.string (t215.extract 1 t215.size), .string (⟨#[51, 50, 46, 108, 111, 97, 100]⟩ : ByteArray)] rfl (by (try simp only [List.map_toArray, List.map_cons, List.map_nil]); first | done | rfl | (simp only [List.length_drop, List.length_take]; rfl)) ?_; (with_reducible refine (mandrelref04_has.calls (t215.extract 1 t215.size) (⟨#[51, 50, 46, 108, 111, 97, 100]⟩ : ByteArray) false _ ?side1 A29.out).mono ?_); (case side1 => exact GG.nil _); rintro e w' ⟨rfl, ⟨nd, rfl⟩⟩; refine ⟨_, rfl, ?_⟩) | (go_at_call 55; (with_reducible refine (mandrelref04_has.calls (t215.extract 1 t215.size) (⟨#[54, 52, 46, 108, 111, 97, 100]⟩ : ByteArray) false _ ?side1 A32.out).mono ?_); (case side1 => exact GG.nil _); rintro e w' ⟨rfl, ⟨nd, rfl⟩⟩) | (go_at_call 55; (with_reducible refine (mandrelref04_has.calls (t215.extract 1 t215.size) (⟨#[51, 50, 46, 115, 116, 111, 114, 101]⟩ : ByteArray) true _ ?side1 A35.out).mono ?_); (case side1 => exact GG.nil _); rintro e w' ⟨rfl, ⟨nd, rfl⟩⟩))
                                        go_ret2
                                        exact ⟨by first | rfl | (simp [errW_none, errW_some] <;> rfl) | (simp [*, errW_none, errW_some] <;> rfl), by repeat first | exact HB.out | apply below_alloc | apply pw_below_drewN | apply below_drew1⟩
                                      · replace c36 := Bool.eq_false_iff.mpr c36
                                        subst c36
                                        have H1 : ((mandrelref04_has.f (t215.extract 1 t215.size) (⟨#[54, 52, 46, 115, 116, 111, 114, 101]⟩ : ByteArray)).bind fun t219 => (if t219 = true then (some (4, true)) else (some (0, true)))) = some (r1, r2) := by rw [if_neg (show ¬ (false = true) by decide)] at H; exact H
                                        clear H
                                        have H := H1
                                        clear H1
                                        have c37b0 := eq_true (of_decide_eq_true (by first | (with_reducible assumption) | assumption) : 1 ≤ (t215.size : Int))
                                        replace H := Option.bind_eq_some_iff.mp H
                                        obtain ⟨t219, A380, H⟩ := H
                                        replace H : (if t219 = true then (some (4, true)) else (some (0, true))) = some (r1, r2) := H
                                        have A38 := Aside0.mk A380
                                        clear A380
                                        by_cases c39 : t219 = true
                                        · subst c39
                                          have H1 : (some (4, true)) = some (r1, r2) := by rw [if_pos rfl] at H; exact H
                                          clear H
                                          have H := H1
                                          clear H1
                                          simp only [Option.some.injEq, Prod.mk.injEq] at H
                                          obtain ⟨rfl, rfl⟩ := H
                                          go_wp2_with (first | ((with_reducible refine gate_callee (f := 55) rfl ?_); refine goesL_ (some 37) rfl rfl Tryd.func55 (by kernel_rfl) rfl #[.string (t215.extract 1 t215.size), .string (⟨#[51, 50, 46, 108, 111, 97, 100]⟩ : ByteArray)] rfl (by (try simp only [List.map_toArray, List.map_cons, List.map_nil]); first | done | rfl | (simp only [List.length_drop, List.length_take]; rfl)) ?_; (with_reducible refine (mandrelref04_has.calls (t215.extract 1 t215.size) (⟨#[51, 50, 46, 108, 111, 97, 100]⟩ : ByteArray) false _ ?side1 A29.out).mono ?_); (case side1 => exact GG.nil _); rintro e w' ⟨rfl, ⟨nd, rfl⟩⟩; refine ⟨_, rfl, ?_⟩) | (go_at_call 55; (with_reducible refine (mandrelref04_has.calls (t215.extract 1 t215.size) (⟨#[54, 52, 46, 108, 111, 97, 100]⟩ : ByteArray) false _ ?side1 A32.out).mono ?_); (case side1 => exact GG.nil _); rintro e w' ⟨rfl, ⟨nd, rfl⟩⟩) | (go_at_call 55; (with_reducible refine (mandrelref04_has.calls (t215.extract 1 t215.size) (⟨#[51, 50, 46, 115, 116, 111, 114, 101]⟩ : ByteArray) false _ ?side1 A35.out).mono ?_); (case side1 => exact GG.nil _); rintro e w' ⟨rfl, ⟨nd, rfl⟩⟩) | (go_at_call 55; (with_reducible refine (mandrelref04_has.calls (t215.extract 1 t215.size) (⟨#[54, 52, 46, 115, 116, 111, 114, 101]⟩ : ByteArray) true _ ?side1 A38.out).mono ?_); (case side1 => exact GG.nil _); rintro e w' ⟨rfl, ⟨nd, rfl⟩⟩))
                                          go_ret2
                                          exact ⟨by first | rfl | (simp [errW_none, errW_some] <;> rfl) | (simp [*, errW_none, errW_some] <;> rfl), by repeat first | exact HB.out | apply below_alloc | apply pw_below_drewN | apply below_drew1⟩
                                        · replace c39 := Bool.eq_false_iff.mpr c39
                                          subst c39
                                          have H1 : (some (0, true)) = some (r1, r2) := by rw [if_neg (show ¬ (false = true) by decide)] at H; exact H
                                          clear H
                                          have H := H1
                                          clear H1
                                          simp only [Option.some.injEq, Prod.mk.injEq] at H
                                          obtain ⟨rfl, rfl⟩ := H
                                          go_wp2_with (first | ((with_reducible refine gate_callee (f := 55) rfl ?_); refine goesL_ (some 37) rfl rfl Tryd.func55 (by kernel_rfl) rfl #[.string (t215.extract 1 t215.size), .string (⟨#[51, 50, 46, 108, 111, 97, 100]⟩ : ByteArray)] rfl (by (try simp only [List.map_toArray, List.map_cons, List.map_nil]); first | done | rfl | (simp only [List.length_drop, List.length_take]; rfl)) ?_; (with_reducible refine (mandrelref04_has.calls (t215.extract 1 t215.size) (⟨#[51, 50, 46, 108, 111, 97, 100]⟩ : ByteArray) false _ ?side1 A29.out).mono ?_); (case side1 => exact GG.nil _); rintro e w' ⟨rfl, ⟨nd, rfl⟩⟩; refine ⟨_, rfl, ?_⟩) | (go_at_call 55; (with_reducible refine (mandrelref04_has.calls (t215.extract 1 t215.size) (⟨#[54, 52, 46, 108, 111, 97, 100]⟩ : ByteArray) false _ ?side1 A32.out).mono ?_); (case side1 => exact GG.nil _); rintro e w' ⟨rfl, ⟨nd, rfl⟩⟩) | (go_at_call 55; (with_reducible refine (mandrelref04_has.calls (t215.extract 1 t215.size) (⟨#[51, 50, 46, 115, 116, 111, 114, 101]⟩ : ByteArray) false _ ?side1 A35.out).mono ?_); (case side1 => exact GG.nil _); rintro e w' ⟨rfl, ⟨nd, rfl⟩⟩) | (go_at_call 55; (with_reducible refine (mandrelref04_has.calls (t215.extract 1 t215.size) (⟨#[54, 52, 46, 115, 116, 111, 114, 101]⟩ : ByteArray) false _ ?side1 A38.out).mono ?_); (case side1 => exact GG.nil _); rintro e w' ⟨rfl, ⟨nd, rfl⟩⟩))
                                          go_ret2
                                          exact ⟨by first | rfl | (simp [errW_none, errW_some] <;> rfl) | (simp [*, errW_none, errW_some] <;> rfl), by repeat first | exact HB.out | apply below_alloc | apply pw_below_drewN | apply below_drew1⟩
                                · rw [if_neg c28] at H
                                  exact absurd H (by simp)

/-! ### mandrelref04_Kind: function 58 -/
def mandrelref04_Kind.f (a0 : ByteArray) : Option (Int) := (mandrelref04_has.f a0 (⟨#[105, 54, 52, 46]⟩ : ByteArray)).bind fun t220 => (if t220 = true then (some 126) else (some 127))
set_option maxHeartbeats 8000000 in
set_option maxRecDepth 100000 in
theorem mandrelref04_Kind.calls (a0 : ByteArray) (r : Int) (w : World) (hG : GG [] w) (h : mandrelref04_Kind.f a0 = some r) :
    Calls Tryd.prog 58 #[.string a0] w fun e w' => e = .returned (.int .u8 r) ∧ Drawn0 w w' := by
  have HG := Aside0.mk hG
  clear hG
  have H : ((mandrelref04_has.f a0 (⟨#[105, 54, 52, 46]⟩ : ByteArray)).bind fun t220 => (if t220 = true then (some 126) else (some 127))) = some r := h
  clear h
  replace H := Option.bind_eq_some_iff.mp H
  obtain ⟨t220, A20, H⟩ := H
  replace H : (if t220 = true then (some 126) else (some 127)) = some r := H
  have A2 := Aside0.mk A20
  clear A20
  by_cases c3 : t220 = true
  · subst c3
    have H1 : (some 126) = some r := by rw [if_pos rfl] at H; exact H
    clear H
    have H := H1
    clear H1
    obtain rfl := Option.some.inj H
    go_enter Tryd.func58, Tryd.ntmps58
    go_wp2_with (first | ((with_reducible refine gate_callee (f := 55) rfl ?_); refine goesL_ (some 4) rfl rfl Tryd.func55 (by kernel_rfl) rfl #[.string a0, .string (⟨#[105, 54, 52, 46]⟩ : ByteArray)] rfl (by (try simp only [List.map_toArray, List.map_cons, List.map_nil]); first | done | rfl | (simp only [List.length_drop, List.length_take]; rfl)) ?_; (with_reducible refine (mandrelref04_has.calls a0 (⟨#[105, 54, 52, 46]⟩ : ByteArray) true _ ?side1 A2.out).mono ?_); (case side1 => exact GG.nil _); rintro e w' ⟨rfl, ⟨nd, rfl⟩⟩; refine ⟨_, rfl, ?_⟩))
    go_ret
    exact ⟨by first | rfl | (simp; done) | (simp [*]; done), by repeat (first | exact Drawn0.refl _ | apply Drawn0.step)⟩
  · replace c3 := Bool.eq_false_iff.mpr c3
    subst c3
    have H1 : (some 127) = some r := by rw [if_neg (show ¬ (false = true) by decide)] at H; exact H
    clear H
    have H := H1
    clear H1
    obtain rfl := Option.some.inj H
    go_enter Tryd.func58, Tryd.ntmps58
    go_wp2_with (first | ((with_reducible refine gate_callee (f := 55) rfl ?_); refine goesL_ (some 4) rfl rfl Tryd.func55 (by kernel_rfl) rfl #[.string a0, .string (⟨#[105, 54, 52, 46]⟩ : ByteArray)] rfl (by (try simp only [List.map_toArray, List.map_cons, List.map_nil]); first | done | rfl | (simp only [List.length_drop, List.length_take]; rfl)) ?_; (with_reducible refine (mandrelref04_has.calls a0 (⟨#[105, 54, 52, 46]⟩ : ByteArray) false _ ?side1 A2.out).mono ?_); (case side1 => exact GG.nil _); rintro e w' ⟨rfl, ⟨nd, rfl⟩⟩; refine ⟨_, rfl, ?_⟩))
    go_ret
    exact ⟨by first | rfl | (simp; done) | (simp [*]; done), by repeat (first | exact Drawn0.refl _ | apply Drawn0.step)⟩

end Go.Proofs.YthgkeehpoilgaaaDoor.Hf

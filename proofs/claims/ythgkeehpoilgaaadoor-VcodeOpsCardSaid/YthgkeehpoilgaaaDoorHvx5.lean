-- WRITTEN BY hyb.py (a program of this work's own) out of the translation, by the kit's print. Not trusted: Lean checks it.
import Derived.Test.YthgkeehpoilgaaaDoorHvx0
import Derived.Test.YthgkeehpoilgaaaDoorHvx4
import Derived.Test.YthgkeehpoilgaaaDoorHvHOpsA
namespace Go.Proofs.YthgkeehpoilgaaaDoor.Hv
open Go.RowKit Go.Proofs.YthgkeehpoilgaaaDoorW.PrintWords Go.Proofs.YthgkeehpoilgaaaDoorW.PrintLast Go.Proofs.YthgkeehpoilgaaaDoorW.PrintMore
attribute [local go_sem] max2_int min2_int max_two min_two max_three min_three max_four min_four   -- for this text's walks alone
set_option linter.unusedVariables false
set_option linter.unusedSimpArgs false

/-! ### mandrelref11_Name: function 70 -/
def mandrelref11_Name.j0 : Nat → Int → Bool → Option (ByteArray)
  | 0, _, _ => none
  | k + 1, x0, x14 => if x14 = true then ((mandrelref04_Name.f k x0).bind fun t140 => (some t140)) else (if x0 ≥ 40 then (if x0 = 65 then (some (⟨#[]⟩ : ByteArray)) else ((mandrelref04_Name.f k x0).bind fun t141 => (some t141))) else (some (⟨#[]⟩ : ByteArray)))
def mandrelref11_Name.f (k : Nat) (a0 : Int) : Option (ByteArray) := if a0 = 66 then (some (⟨#[99, 111, 110, 115, 116]⟩ : ByteArray)) else (if a0 = 192 then (some (⟨#[109, 111, 118, 101]⟩ : ByteArray)) else (if a0 = 193 then (some (⟨#[106, 117, 109, 112]⟩ : ByteArray)) else (if a0 = 194 then (some (⟨#[98, 114, 97, 110, 99, 104]⟩ : ByteArray)) else (if a0 = 195 then (some (⟨#[116, 97, 98, 108, 101]⟩ : ByteArray)) else (if a0 = 15 then (mandrelref11_Name.j0 k a0 (a0 == 15)) else (if a0 = 0 then (mandrelref11_Name.j0 k a0 (a0 == 0)) else (if a0 = 16 then (mandrelref11_Name.j0 k a0 (a0 == 16)) else (if a0 = 17 then (mandrelref11_Name.j0 k a0 (a0 == 17)) else (if a0 = 27 then (mandrelref11_Name.j0 k a0 (a0 == 27)) else (if a0 = 35 then (mandrelref11_Name.j0 k a0 (a0 == 35)) else (mandrelref11_Name.j0 k a0 (a0 == 36))))))))))))
set_option maxHeartbeats 8000000 in
set_option maxRecDepth 100000 in
theorem mandrelref11_Name.calls (k : Nat) (a0 : Int) (r : ByteArray) (w : World) (hG : GG [] w) (h : mandrelref11_Name.f k a0 = some r) :
    Calls Tryd.prog 70 #[.int .u8 a0] w fun e w' => e = .returned (.string r) ∧ Below w.heap.size w w' := by
  have HB := Aside0.mk (Below.refl w.heap.size w)
  have HG := Aside0.mk hG
  clear hG
  have H : (if a0 = 66 then (some (⟨#[99, 111, 110, 115, 116]⟩ : ByteArray)) else (if a0 = 192 then (some (⟨#[109, 111, 118, 101]⟩ : ByteArray)) else (if a0 = 193 then (some (⟨#[106, 117, 109, 112]⟩ : ByteArray)) else (if a0 = 194 then (some (⟨#[98, 114, 97, 110, 99, 104]⟩ : ByteArray)) else (if a0 = 195 then (some (⟨#[116, 97, 98, 108, 101]⟩ : ByteArray)) else (if a0 = 15 then (mandrelref11_Name.j0 k a0 (a0 == 15)) else (if a0 = 0 then (mandrelref11_Name.j0 k a0 (a0 == 0)) else (if a0 = 16 then (mandrelref11_Name.j0 k a0 (a0 == 16)) else (if a0 = 17 then (mandrelref11_Name.j0 k a0 (a0 == 17)) else (if a0 = 27 then (mandrelref11_Name.j0 k a0 (a0 == 27)) else (if a0 = 35 then (mandrelref11_Name.j0 k a0 (a0 == 35)) else (mandrelref11_Name.j0 k a0 (a0 == 36))))))))))))) = some r := h
  clear h
  by_cases c2 : a0 = 66
  · rw [if_pos c2] at H
    have c2b0 : (a0 == 66) = true := beq_iff_eq.mpr c2
    have c2b1 : (a0 != 66) = false := bne_eq_false_iff_eq.mpr c2
    clear c2
    obtain rfl := Option.some.inj H
    go_enter Tryd.func70, Tryd.ntmps70
    go_wp2
    go_ret
    exact ⟨by first | rfl | (simp [errW_none, errW_some] <;> rfl) | (simp [*, errW_none, errW_some] <;> rfl) | (simp [hy_ne]; done), by repeat first | exact HB.out | apply below_alloc | apply pw_below_drewN | apply below_drew1⟩
  · rw [if_neg c2] at H
    have c2b0 : (a0 == 66) = false := beq_eq_false_iff_ne.mpr c2
    have c2b1 : (a0 != 66) = true := bne_iff_ne.mpr c2
    by_cases c3 : a0 = 192
    · rw [if_pos c3] at H
      have c3b0 : (a0 == 192) = true := beq_iff_eq.mpr c3
      have c3b1 : (a0 != 192) = false := bne_eq_false_iff_eq.mpr c3
      clear c3
      obtain rfl := Option.some.inj H
      go_enter Tryd.func70, Tryd.ntmps70
      go_wp2
      go_ret
      exact ⟨by first | rfl | (simp [errW_none, errW_some] <;> rfl) | (simp [*, errW_none, errW_some] <;> rfl) | (simp [hy_ne]; done), by repeat first | exact HB.out | apply below_alloc | apply pw_below_drewN | apply below_drew1⟩
    · rw [if_neg c3] at H
      have c3b0 : (a0 == 192) = false := beq_eq_false_iff_ne.mpr c3
      have c3b1 : (a0 != 192) = true := bne_iff_ne.mpr c3
      by_cases c4 : a0 = 193
      · rw [if_pos c4] at H
        have c4b0 : (a0 == 193) = true := beq_iff_eq.mpr c4
        have c4b1 : (a0 != 193) = false := bne_eq_false_iff_eq.mpr c4
        clear c4
        obtain rfl := Option.some.inj H
        go_enter Tryd.func70, Tryd.ntmps70
        go_wp2
        go_ret
        exact ⟨by first | rfl | (simp [errW_none, errW_some] <;> rfl) | (simp [*, errW_none, errW_some] <;> rfl) | (simp [hy_ne]; done), by repeat first | exact HB.out | apply below_alloc | apply pw_below_drewN | apply below_drew1⟩
      · rw [if_neg c4] at H
        have c4b0 : (a0 == 193) = false := beq_eq_false_iff_ne.mpr c4
        have c4b1 : (a0 != 193) = true := bne_iff_ne.mpr c4
        by_cases c5 : a0 = 194
        · rw [if_pos c5] at H
          have c5b0 : (a0 == 194) = true := beq_iff_eq.mpr c5
          have c5b1 : (a0 != 194) = false := bne_eq_false_iff_eq.mpr c5
          clear c5
          obtain rfl := Option.some.inj H
          go_enter Tryd.func70, Tryd.ntmps70
          go_wp2
          go_ret
          exact ⟨by first | rfl | (simp [errW_none, errW_some] <;> rfl) | (simp [*, errW_none, errW_some] <;> rfl) | (simp [hy_ne]; done), by repeat first | exact HB.out | apply below_alloc | apply pw_below_drewN | apply below_drew1⟩
        · rw [if_neg c5] at H
          have c5b0 : (a0 == 194) = false := beq_eq_false_iff_ne.mpr c5
          have c5b1 : (a0 != 194) = true := bne_iff_ne.mpr c5
          by_cases c6 : a0 = 195
          · rw [if_pos c6] at H
            have c6b0 : (a0 == 195) = true := beq_iff_eq.mpr c6
            have c6b1 : (a0 != 195) = false := bne_eq_false_iff_eq.mpr c6
            clear c6
            obtain rfl := Option.some.inj H
            go_enter Tryd.func70, Tryd.ntmps70
            go_wp2
            go_ret
            exact ⟨by first | rfl | (simp [errW_none, errW_some] <;> rfl) | (simp [*, errW_none, errW_some] <;> rfl) | (simp [hy_ne]; done), by repeat first | exact HB.out | apply below_alloc | apply pw_below_drewN | apply below_drew1⟩
          · rw [if_neg c6] at H
            have c6b0 : (a0 == 195) = false := beq_eq_false_iff_ne.mpr c6
            have c6b1 : (a0 != 195) = true := bne_iff_ne.mpr c6
            have HC7 := Aside0.mk H
            clear H
            go_enter Tryd.func70, Tryd.ntmps70
            go_upto_if 14 with (fail)
            go_cut [14] (fun v14 wc => ∃ (kq : Nat) (x14_6 : Bool), v14 = .bool x14_6 ∧ Aside0 (mandrelref11_Name.j0 kq a0 x14_6 = some r) ∧ Aside0 (kq ≤ k) ∧ Aside0 (Below w.heap.size w wc))
            case first =>
              have H := HC7.out
              clear HC7
              by_cases c8 : a0 = 15
              · rw [if_pos c8] at H
                have c8b0 : (a0 == 15) = true := beq_iff_eq.mpr c8
                have c8b1 : (a0 != 15) = false := bne_eq_false_iff_eq.mpr c8
                clear c8
                (first | rw [c8b0] | (simp only [i64_w, i32_w]; rw [c8b0]) | skip)
                have H' := Aside0.mk H
                clear H
                go_wp2
                go_meet
                case rel => exact ⟨_, ((a0 == 15)), (by first | rfl | (simp; done) | (simp [*]; done)), H', ⟨by first | omega | exact Nat.le_refl _⟩, ⟨by repeat first | exact HB.out | apply below_alloc | apply pw_below_drewN | apply below_drew1⟩⟩
              · rw [if_neg c8] at H
                have c8b0 : (a0 == 15) = false := beq_eq_false_iff_ne.mpr c8
                have c8b1 : (a0 != 15) = true := bne_iff_ne.mpr c8
                (first | rw [c8b0] | (simp only [i64_w, i32_w]; rw [c8b0]) | skip)
                by_cases c9 : a0 = 0
                · rw [if_pos c9] at H
                  have c9b0 : (a0 == 0) = true := beq_iff_eq.mpr c9
                  have c9b1 : (a0 != 0) = false := bne_eq_false_iff_eq.mpr c9
                  clear c9
                  have H' := Aside0.mk H
                  clear H
                  go_wp2
                  go_meet
                  case rel => exact ⟨_, ((a0 == 0)), (by first | rfl | (simp; done) | (simp [*]; done)), H', ⟨by first | omega | exact Nat.le_refl _⟩, ⟨by repeat first | exact HB.out | apply below_alloc | apply pw_below_drewN | apply below_drew1⟩⟩
                · rw [if_neg c9] at H
                  have c9b0 : (a0 == 0) = false := beq_eq_false_iff_ne.mpr c9
                  have c9b1 : (a0 != 0) = true := bne_iff_ne.mpr c9
                  by_cases c10 : a0 = 16
                  · rw [if_pos c10] at H
                    have c10b0 : (a0 == 16) = true := beq_iff_eq.mpr c10
                    have c10b1 : (a0 != 16) = false := bne_eq_false_iff_eq.mpr c10
                    clear c10
                    have H' := Aside0.mk H
                    clear H
                    go_wp2
                    go_meet
                    case rel => exact ⟨_, ((a0 == 16)), (by first | rfl | (simp; done) | (simp [*]; done)), H', ⟨by first | omega | exact Nat.le_refl _⟩, ⟨by repeat first | exact HB.out | apply below_alloc | apply pw_below_drewN | apply below_drew1⟩⟩
                  · rw [if_neg c10] at H
                    have c10b0 : (a0 == 16) = false := beq_eq_false_iff_ne.mpr c10
                    have c10b1 : (a0 != 16) = true := bne_iff_ne.mpr c10
                    by_cases c11 : a0 = 17
                    · rw [if_pos c11] at H
                      have c11b0 : (a0 == 17) = true := beq_iff_eq.mpr c11
                      have c11b1 : (a0 != 17) = false := bne_eq_false_iff_eq.mpr c11
                      clear c11
                      have H' := Aside0.mk H
                      clear H
                      go_wp2
                      go_meet
                      case rel => exact ⟨_, ((a0 == 17)), (by first | rfl | (simp; done) | (simp [*]; done)), H', ⟨by first | omega | exact Nat.le_refl _⟩, ⟨by repeat first | exact HB.out | apply below_alloc | apply pw_below_drewN | apply below_drew1⟩⟩
                    · rw [if_neg c11] at H
                      have c11b0 : (a0 == 17) = false := beq_eq_false_iff_ne.mpr c11
                      have c11b1 : (a0 != 17) = true := bne_iff_ne.mpr c11
                      by_cases c12 : a0 = 27
                      · rw [if_pos c12] at H
                        have c12b0 : (a0 == 27) = true := beq_iff_eq.mpr c12
                        have c12b1 : (a0 != 27) = false := bne_eq_false_iff_eq.mpr c12
                        clear c12
                        have H' := Aside0.mk H
                        clear H
                        go_wp2
                        go_meet
                        case rel => exact ⟨_, ((a0 == 27)), (by first | rfl | (simp; done) | (simp [*]; done)), H', ⟨by first | omega | exact Nat.le_refl _⟩, ⟨by repeat first | exact HB.out | apply below_alloc | apply pw_below_drewN | apply below_drew1⟩⟩
                      · rw [if_neg c12] at H
                        have c12b0 : (a0 == 27) = false := beq_eq_false_iff_ne.mpr c12
                        have c12b1 : (a0 != 27) = true := bne_iff_ne.mpr c12
                        by_cases c13 : a0 = 35
                        · rw [if_pos c13] at H
                          have c13b0 : (a0 == 35) = true := beq_iff_eq.mpr c13
                          have c13b1 : (a0 != 35) = false := bne_eq_false_iff_eq.mpr c13
                          clear c13
                          have H' := Aside0.mk H
                          clear H
                          go_wp2
                          go_meet
                          case rel => exact ⟨_, ((a0 == 35)), (by first | rfl | (simp; done) | (simp [*]; done)), H', ⟨by first | omega | exact Nat.le_refl _⟩, ⟨by repeat first | exact HB.out | apply below_alloc | apply pw_below_drewN | apply below_drew1⟩⟩
                        · rw [if_neg c13] at H
                          have c13b0 : (a0 == 35) = false := beq_eq_false_iff_ne.mpr c13
                          have c13b1 : (a0 != 35) = true := bne_iff_ne.mpr c13
                          have H' := Aside0.mk H
                          clear H
                          go_wp2
                          go_meet
                          case rel => exact ⟨_, ((a0 == 36)), (by first | rfl | (simp; done) | (simp [*]; done)), H', ⟨by first | omega | exact Nat.le_refl _⟩, ⟨by repeat first | exact HB.out | apply below_alloc | apply pw_below_drewN | apply below_drew1⟩⟩
            case rest =>
              clear HC7
              try clear c1
              try clear c2
              try clear c2b0
              try clear c2b1
              try clear p2
              try clear c3
              try clear c3b0
              try clear c3b1
              try clear c4
              try clear c4b0
              try clear c4b1
              try clear c5
              try clear c5b0
              try clear c5b1
              try clear c6
              try clear c6b0
              try clear c6b1
              try clear c7
              try clear c8
              try clear c8b0
              try clear c8b1
              try clear c9
              try clear c9b0
              try clear c9b1
              try clear c10
              try clear c10b0
              try clear c10b1
              try clear c11
              try clear c11b0
              try clear c11b1
              try clear c12
              try clear c12b0
              try clear c12b1
              try clear c13
              try clear c13b0
              try clear c13b1
              obtain ⟨kq, x14_6, rfl, HA, HJ6, HB⟩ := hcut
              cases kq with
              | zero => exact absurd HA.out (by simp [mandrelref11_Name.j0])
              | succ kj6 =>
                have H := HA.out
                clear HA
                simp only [mandrelref11_Name.j0] at H
                by_cases c14 : x14_6 = true
                · subst c14
                  have H1 : ((mandrelref04_Name.f kj6 a0).bind fun t140 => (some t140)) = some r := by rw [if_pos rfl] at H; exact H
                  clear H
                  have H := H1
                  clear H1
                  replace H := Option.bind_eq_some_iff.mp H
                  obtain ⟨t140, A150, H⟩ := H
                  replace H : (some t140) = some r := H
                  have A15 := Aside0.mk A150
                  clear A150
                  obtain rfl := Option.some.inj H
                  go_wp2_with (first | ((with_reducible refine gate_callee (f := 13) rfl ?_); refine goesL_ (some 23) rfl rfl Tryd.func13 (by kernel_rfl) rfl #[.int .u8 a0] rfl (by (try simp only [List.map_toArray, List.map_cons, List.map_nil]); first | done | rfl | (simp only [List.length_drop, List.length_take]; rfl)) ?_; (with_reducible refine (mandrelref04_Name.calls kj6 a0 t140 _ ?side1 A15.out).mono ?_); (case side1 => exact GG.nil _); rintro e w16 ⟨rfl, hb⟩; refine ⟨_, rfl, ?_⟩; have n0_ := Aside0.mk (below_step (by repeat first | exact HB.out | apply below_alloc | apply pw_below_drewN | apply below_drew1) hb); clear HB; have HB := n0_; clear n0_; (try clear hb); (try clear hb2); (try clear hk); (try clear hi)))
                  go_ret
                  exact ⟨by first | rfl | (simp [errW_none, errW_some] <;> rfl) | (simp [*, errW_none, errW_some] <;> rfl) | (simp [hy_ne]; done), by repeat first | exact HB.out | apply below_alloc | apply pw_below_drewN | apply below_drew1⟩
                · replace c14 := Bool.eq_false_iff.mpr c14
                  subst c14
                  have H1 : (if a0 ≥ 40 then (if a0 = 65 then (some (⟨#[]⟩ : ByteArray)) else ((mandrelref04_Name.f kj6 a0).bind fun t141 => (some t141))) else (some (⟨#[]⟩ : ByteArray))) = some r := by rw [if_neg (show ¬ (false = true) by decide)] at H; exact H
                  clear H
                  have H := H1
                  clear H1
                  by_cases c17 : a0 ≥ 40
                  · rw [if_pos c17] at H
                    have c17b0 : decide (40 ≤ a0) = true := decide_eq_true c17
                    clear c17
                    by_cases c18 : a0 = 65
                    · rw [if_pos c18] at H
                      have c18b0 : (a0 == 65) = true := beq_iff_eq.mpr c18
                      have c18b1 : (a0 != 65) = false := bne_eq_false_iff_eq.mpr c18
                      clear c18
                      obtain rfl := Option.some.inj H
                      go_wp2
                      go_ret
                      exact ⟨by first | rfl | (simp [errW_none, errW_some] <;> rfl) | (simp [*, errW_none, errW_some] <;> rfl) | (simp [hy_ne]; done), by repeat first | exact HB.out | apply below_alloc | apply pw_below_drewN | apply below_drew1⟩
                    · rw [if_neg c18] at H
                      have c18b0 : (a0 == 65) = false := beq_eq_false_iff_ne.mpr c18
                      have c18b1 : (a0 != 65) = true := bne_iff_ne.mpr c18
                      replace H := Option.bind_eq_some_iff.mp H
                      obtain ⟨t141, A190, H⟩ := H
                      replace H : (some t141) = some r := H
                      have A19 := Aside0.mk A190
                      clear A190
                      obtain rfl := Option.some.inj H
                      go_wp2_with (first | ((with_reducible refine gate_callee (f := 13) rfl ?_); refine goesL_ (some 31) rfl rfl Tryd.func13 (by kernel_rfl) rfl #[.int .u8 a0] rfl (by (try simp only [List.map_toArray, List.map_cons, List.map_nil]); first | done | rfl | (simp only [List.length_drop, List.length_take]; rfl)) ?_; (with_reducible refine (mandrelref04_Name.calls kj6 a0 t141 _ ?side1 A19.out).mono ?_); (case side1 => exact GG.nil _); rintro e w20 ⟨rfl, hb⟩; refine ⟨_, rfl, ?_⟩; have n0_ := Aside0.mk (below_step (by repeat first | exact HB.out | apply below_alloc | apply pw_below_drewN | apply below_drew1) hb); clear HB; have HB := n0_; clear n0_; (try clear hb); (try clear hb2); (try clear hk); (try clear hi)))
                      go_ret
                      exact ⟨by first | rfl | (simp [errW_none, errW_some] <;> rfl) | (simp [*, errW_none, errW_some] <;> rfl) | (simp [hy_ne]; done), by repeat first | exact HB.out | apply below_alloc | apply pw_below_drewN | apply below_drew1⟩
                  · rw [if_neg c17] at H
                    have c17b0 : decide (40 ≤ a0) = false := decide_eq_false c17
                    clear c17
                    obtain rfl := Option.some.inj H
                    go_wp2
                    go_ret
                    exact ⟨by first | rfl | (simp [errW_none, errW_some] <;> rfl) | (simp [*, errW_none, errW_some] <;> rfl) | (simp [hy_ne]; done), by repeat first | exact HB.out | apply below_alloc | apply pw_below_drewN | apply below_drew1⟩

/-! ### mandrelref11_Pure: function 37 -/
def mandrelref11_Pure.j0 : Nat → Int → ByteArray → Bool → Option (Bool)
  | 0, _, _, _ => none
  | k + 1, x0, x3, x23 => if x23 = true then (some true) else (if x3.toList = ([] : List UInt8) then (some false) else (if x0 < 67 then (some false) else (if x0 ≥ 192 then (some false) else (if (x3.size : Int) < 7 then (some true) else (if 4 ≤ 7 then (if 7 ≤ (x3.size : Int) then (if (x3.extract 4 7).toList = ([100, 105, 118] : List UInt8) then (some false) else (some ((x3.extract 4 7).toList != ([114, 101, 109] : List UInt8)))) else (none)) else (none))))))
def mandrelref11_Pure.f (k : Nat) (a0 : Int) : Option (Bool) := (mandrelref11_Name.f k a0).bind fun t142 => (if t142.toList = ([99, 111, 110, 115, 116] : List UInt8) then (mandrelref11_Pure.j0 k a0 t142 true) else (if t142.toList = ([109, 111, 118, 101] : List UInt8) then (mandrelref11_Pure.j0 k a0 t142 true) else (if t142.toList = ([115, 101, 108, 101, 99, 116] : List UInt8) then (mandrelref11_Pure.j0 k a0 t142 true) else (if t142.toList = ([109, 101, 109, 111, 114, 121, 46, 115, 105, 122, 101] : List UInt8) then (mandrelref11_Pure.j0 k a0 t142 true) else (mandrelref11_Pure.j0 k a0 t142 (t142.toList == ([103, 108, 111, 98, 97, 108, 46, 103, 101, 116] : List UInt8)))))))
set_option maxHeartbeats 8000000 in
set_option maxRecDepth 100000 in
theorem mandrelref11_Pure.calls (k : Nat) (a0 : Int) (r : Bool) (w : World) (hG : GG [] w) (h : mandrelref11_Pure.f k a0 = some r) :
    Calls Tryd.prog 37 #[.int .u8 a0] w fun e w' => e = .returned (.bool r) ∧ Below w.heap.size w w' := by
  have HB := Aside0.mk (Below.refl w.heap.size w)
  have HG := Aside0.mk hG
  clear hG
  have H : ((mandrelref11_Name.f k a0).bind fun t142 => (if t142.toList = ([99, 111, 110, 115, 116] : List UInt8) then (mandrelref11_Pure.j0 k a0 t142 true) else (if t142.toList = ([109, 111, 118, 101] : List UInt8) then (mandrelref11_Pure.j0 k a0 t142 true) else (if t142.toList = ([115, 101, 108, 101, 99, 116] : List UInt8) then (mandrelref11_Pure.j0 k a0 t142 true) else (if t142.toList = ([109, 101, 109, 111, 114, 121, 46, 115, 105, 122, 101] : List UInt8) then (mandrelref11_Pure.j0 k a0 t142 true) else (mandrelref11_Pure.j0 k a0 t142 (t142.toList == ([103, 108, 111, 98, 97, 108, 46, 103, 101, 116] : List UInt8)))))))) = some r := h
  clear h
  replace H := Option.bind_eq_some_iff.mp H
  obtain ⟨t142, A20, H⟩ := H
  replace H : (if t142.toList = ([99, 111, 110, 115, 116] : List UInt8) then (mandrelref11_Pure.j0 k a0 t142 true) else (if t142.toList = ([109, 111, 118, 101] : List UInt8) then (mandrelref11_Pure.j0 k a0 t142 true) else (if t142.toList = ([115, 101, 108, 101, 99, 116] : List UInt8) then (mandrelref11_Pure.j0 k a0 t142 true) else (if t142.toList = ([109, 101, 109, 111, 114, 121, 46, 115, 105, 122, 101] : List UInt8) then (mandrelref11_Pure.j0 k a0 t142 true) else (mandrelref11_Pure.j0 k a0 t142 (t142.toList == ([103, 108, 111, 98, 97, 108, 46, 103, 101, 116] : List UInt8))))))) = some r := H
  have A2 := Aside0.mk A20
  clear A20
  have HC3 := Aside0.mk H
  clear H
  go_enter Tryd.func37, Tryd.ntmps37
  go_upto_region 2 with (first | ((with_reducible refine gate_callee (f := 70) rfl ?_); refine goesL_ (some 5) rfl rfl Tryd.func70 (by kernel_rfl) rfl #[.int .u8 a0] rfl (by (try simp only [List.map_toArray, List.map_cons, List.map_nil]); first | done | rfl | (simp only [List.length_drop, List.length_take]; rfl)) ?_; (with_reducible refine (mandrelref11_Name.calls k a0 t142 _ ?side1 A2.out).mono ?_); (case side1 => exact GG.nil _); rintro e w4 ⟨rfl, hb⟩; refine ⟨_, rfl, ?_⟩; have n0_ := Aside0.mk (below_step (by repeat first | exact HB.out | apply below_alloc | apply pw_below_drewN | apply below_drew1) hb); clear HB; have HB := n0_; clear n0_; (try clear hb); (try clear hb2); (try clear hk); (try clear hi)))
  (try simp only [Act.put, List.setIfInBounds_toArray, List.set_cons_zero, List.set_cons_succ])
  go_cut [23] (fun v23 wc => ∃ (kq : Nat) (x23_2 : Bool), v23 = .bool x23_2 ∧ Aside0 (mandrelref11_Pure.j0 kq a0 t142 x23_2 = some r) ∧ Aside0 (kq ≤ k) ∧ Aside0 (Below w.heap.size w wc))
  case first =>
    have H := HC3.out
    clear HC3
    by_cases c5 : t142.toList = ([99, 111, 110, 115, 116] : List UInt8)
    · rw [if_pos c5] at H
      have c5b0 : (t142.toList == ([99, 111, 110, 115, 116] : List UInt8)) = true := beq_iff_eq.mpr c5
      have c5b1 : (t142.toList != ([99, 111, 110, 115, 116] : List UInt8)) = false := bne_eq_false_iff_eq.mpr c5
      clear c5
      (first | rw [c5b0] | (simp only [i64_w, i32_w]; rw [c5b0]) | skip)
      have H' := Aside0.mk H
      clear H
      go_wp2
      go_meet
      case rel => exact ⟨_, (true), (by first | rfl | (simp; done) | (simp [*]; done)), H', ⟨by first | omega | exact Nat.le_refl _⟩, ⟨by repeat first | exact HB.out | apply below_alloc | apply pw_below_drewN | apply below_drew1⟩⟩
    · rw [if_neg c5] at H
      have c5b0 : (t142.toList == ([99, 111, 110, 115, 116] : List UInt8)) = false := beq_eq_false_iff_ne.mpr c5
      have c5b1 : (t142.toList != ([99, 111, 110, 115, 116] : List UInt8)) = true := bne_iff_ne.mpr c5
      (first | rw [c5b0] | (simp only [i64_w, i32_w]; rw [c5b0]) | skip)
      by_cases c6 : t142.toList = ([109, 111, 118, 101] : List UInt8)
      · rw [if_pos c6] at H
        have c6b0 : (t142.toList == ([109, 111, 118, 101] : List UInt8)) = true := beq_iff_eq.mpr c6
        have c6b1 : (t142.toList != ([109, 111, 118, 101] : List UInt8)) = false := bne_eq_false_iff_eq.mpr c6
        clear c6
        have H' := Aside0.mk H
        clear H
        go_wp2
        go_meet
        case rel => exact ⟨_, (true), (by first | rfl | (simp; done) | (simp [*]; done)), H', ⟨by first | omega | exact Nat.le_refl _⟩, ⟨by repeat first | exact HB.out | apply below_alloc | apply pw_below_drewN | apply below_drew1⟩⟩
      · rw [if_neg c6] at H
        have c6b0 : (t142.toList == ([109, 111, 118, 101] : List UInt8)) = false := beq_eq_false_iff_ne.mpr c6
        have c6b1 : (t142.toList != ([109, 111, 118, 101] : List UInt8)) = true := bne_iff_ne.mpr c6
        by_cases c7 : t142.toList = ([115, 101, 108, 101, 99, 116] : List UInt8)
        · rw [if_pos c7] at H
          have c7b0 : (t142.toList == ([115, 101, 108, 101, 99, 116] : List UInt8)) = true := beq_iff_eq.mpr c7
          have c7b1 : (t142.toList != ([115, 101, 108, 101, 99, 116] : List UInt8)) = false := bne_eq_false_iff_eq.mpr c7
          clear c7
          have H' := Aside0.mk H
          clear H
          go_wp2
          go_meet
          case rel => exact ⟨_, (true), (by first | rfl | (simp; done) | (simp [*]; done)), H', ⟨by first | omega | exact Nat.le_refl _⟩, ⟨by repeat first | exact HB.out | apply below_alloc | apply pw_below_drewN | apply below_drew1⟩⟩
        · rw [if_neg c7] at H
          have c7b0 : (t142.toList == ([115, 101, 108, 101, 99, 116] : List UInt8)) = false := beq_eq_false_iff_ne.mpr c7
          have c7b1 : (t142.toList != ([115, 101, 108, 101, 99, 116] : List UInt8)) = true := bne_iff_ne.mpr c7
          by_cases c8 : t142.toList = ([109, 101, 109, 111, 114, 121, 46, 115, 105, 122, 101] : List UInt8)
          · rw [if_pos c8] at H
            have c8b0 : (t142.toList == ([109, 101, 109, 111, 114, 121, 46, 115, 105, 122, 101] : List UInt8)) = true := beq_iff_eq.mpr c8
            have c8b1 : (t142.toList != ([109, 101, 109, 111, 114, 121, 46, 115, 105, 122, 101] : List UInt8)) = false := bne_eq_false_iff_eq.mpr c8
            clear c8
            have H' := Aside0.mk H
            clear H
            go_wp2
            go_meet
            case rel => exact ⟨_, (true), (by first | rfl | (simp; done) | (simp [*]; done)), H', ⟨by first | omega | exact Nat.le_refl _⟩, ⟨by repeat first | exact HB.out | apply below_alloc | apply pw_below_drewN | apply below_drew1⟩⟩
          · rw [if_neg c8] at H
            have c8b0 : (t142.toList == ([109, 101, 109, 111, 114, 121, 46, 115, 105, 122, 101] : List UInt8)) = false := beq_eq_false_iff_ne.mpr c8
            have c8b1 : (t142.toList != ([109, 101, 109, 111, 114, 121, 46, 115, 105, 122, 101] : List UInt8)) = true := bne_iff_ne.mpr c8
            have H' := Aside0.mk H
            clear H
            go_wp2
            go_meet
            case rel => exact ⟨_, ((t142.toList == ([103, 108, 111, 98, 97, 108, 46, 103, 101, 116] : List UInt8))), (by first | rfl | (simp; done) | (simp [*]; done)), H', ⟨by first | omega | exact Nat.le_refl _⟩, ⟨by repeat first | exact HB.out | apply below_alloc | apply pw_below_drewN | apply below_drew1⟩⟩
  case rest =>
    clear HC3
    try clear p2
    try clear c3
    try clear c5
    try clear c5b0
    try clear c5b1
    try clear c6
    try clear c6b0
    try clear c6b1
    try clear c7
    try clear c7b0
    try clear c7b1
    try clear c8
    try clear c8b0
    try clear c8b1
    obtain ⟨kq, x23_2, rfl, HA, HJ2, HB⟩ := hcut
    cases kq with
    | zero => exact absurd HA.out (by simp [mandrelref11_Pure.j0])
    | succ kj2 =>
      have H := HA.out
      clear HA
      simp only [mandrelref11_Pure.j0] at H
      by_cases c9 : x23_2 = true
      · subst c9
        have H1 : (some true) = some r := by rw [if_pos rfl] at H; exact H
        clear H
        have H := H1
        clear H1
        obtain rfl := Option.some.inj H
        go_wp2
        go_ret
        exact ⟨by first | rfl | (simp [errW_none, errW_some] <;> rfl) | (simp [*, errW_none, errW_some] <;> rfl) | (simp [hy_ne]; done), by repeat first | exact HB.out | apply below_alloc | apply pw_below_drewN | apply below_drew1⟩
      · replace c9 := Bool.eq_false_iff.mpr c9
        subst c9
        have H1 : (if t142.toList = ([] : List UInt8) then (some false) else (if a0 < 67 then (some false) else (if a0 ≥ 192 then (some false) else (if (t142.size : Int) < 7 then (some true) else (if 4 ≤ 7 then (if 7 ≤ (t142.size : Int) then (if (t142.extract 4 7).toList = ([100, 105, 118] : List UInt8) then (some false) else (some ((t142.extract 4 7).toList != ([114, 101, 109] : List UInt8)))) else (none)) else (none)))))) = some r := by rw [if_neg (show ¬ (false = true) by decide)] at H; exact H
        clear H
        have H := H1
        clear H1
        by_cases c10 : t142.toList = ([] : List UInt8)
        · rw [if_pos c10] at H
          have c10b0 : (t142.toList == ([] : List UInt8)) = true := beq_iff_eq.mpr c10
          have c10b1 : (t142.toList != ([] : List UInt8)) = false := bne_eq_false_iff_eq.mpr c10
          clear c10
          obtain rfl := Option.some.inj H
          go_wp2
          go_ret
          exact ⟨by first | rfl | (simp [errW_none, errW_some] <;> rfl) | (simp [*, errW_none, errW_some] <;> rfl) | (simp [hy_ne]; done), by repeat first | exact HB.out | apply below_alloc | apply pw_below_drewN | apply below_drew1⟩
        · rw [if_neg c10] at H
          have c10b0 : (t142.toList == ([] : List UInt8)) = false := beq_eq_false_iff_ne.mpr c10
          have c10b1 : (t142.toList != ([] : List UInt8)) = true := bne_iff_ne.mpr c10
          by_cases c11 : a0 < 67
          · rw [if_pos c11] at H
            have c11b0 : decide (a0 < 67) = true := decide_eq_true c11
            clear c11
            obtain rfl := Option.some.inj H
            go_wp2
            go_ret
            exact ⟨by first | rfl | (simp [errW_none, errW_some] <;> rfl) | (simp [*, errW_none, errW_some] <;> rfl) | (simp [hy_ne]; done), by repeat first | exact HB.out | apply below_alloc | apply pw_below_drewN | apply below_drew1⟩
          · rw [if_neg c11] at H
            have c11b0 : decide (a0 < 67) = false := decide_eq_false c11
            clear c11
            by_cases c12 : a0 ≥ 192
            · rw [if_pos c12] at H
              have c12b0 : decide (192 ≤ a0) = true := decide_eq_true c12
              clear c12
              obtain rfl := Option.some.inj H
              go_wp2
              go_ret
              exact ⟨by first | rfl | (simp [errW_none, errW_some] <;> rfl) | (simp [*, errW_none, errW_some] <;> rfl) | (simp [hy_ne]; done), by repeat first | exact HB.out | apply below_alloc | apply pw_below_drewN | apply below_drew1⟩
            · rw [if_neg c12] at H
              have c12b0 : decide (192 ≤ a0) = false := decide_eq_false c12
              clear c12
              by_cases c13 : (t142.size : Int) < 7
              · rw [if_pos c13] at H
                have c13b0 : decide ((t142.size : Int) < 7) = true := decide_eq_true c13
                have c13b1 : decide (t142.size < 7) = true := decide_eq_true (by omega)
                clear c13
                obtain rfl := Option.some.inj H
                go_wp2
                go_ret
                exact ⟨by first | rfl | (simp [errW_none, errW_some] <;> rfl) | (simp [*, errW_none, errW_some] <;> rfl) | (simp [hy_ne]; done), by repeat first | exact HB.out | apply below_alloc | apply pw_below_drewN | apply below_drew1⟩
              · rw [if_neg c13] at H
                have c13b0 : decide ((t142.size : Int) < 7) = false := decide_eq_false c13
                have c13b1 : decide (t142.size < 7) = false := decide_eq_false (by omega)
                clear c13
                by_cases c14 : 4 ≤ 7
                · rw [if_pos c14] at H
                  have c14b0 := eq_true c14
                  have c14b1 : decide (4 ≤ 7) = true := decide_eq_true c14
                  clear c14
                  by_cases c15 : 7 ≤ (t142.size : Int)
                  · rw [if_pos c15] at H
                    have c15b0 := eq_true c15
                    have c15b1 : decide (7 ≤ (t142.size : Int)) = true := decide_eq_true c15
                    clear c15
                    by_cases c16 : (t142.extract 4 7).toList = ([100, 105, 118] : List UInt8)
                    · rw [if_pos c16] at H
                      have c16b0 : ((t142.extract 4 7).toList == ([100, 105, 118] : List UInt8)) = true := beq_iff_eq.mpr c16
                      have c16b1 : ((t142.extract 4 7).toList != ([100, 105, 118] : List UInt8)) = false := bne_eq_false_iff_eq.mpr c16
                      clear c16
                      obtain rfl := Option.some.inj H
                      go_wp2
                      go_ret
                      exact ⟨by first | rfl | (simp [errW_none, errW_some] <;> rfl) | (simp [*, errW_none, errW_some] <;> rfl) | (simp [hy_ne]; done), by repeat first | exact HB.out | apply below_alloc | apply pw_below_drewN | apply below_drew1⟩
                    · rw [if_neg c16] at H
                      have c16b0 : ((t142.extract 4 7).toList == ([100, 105, 118] : List UInt8)) = false := beq_eq_false_iff_ne.mpr c16
                      have c16b1 : ((t142.extract 4 7).toList != ([100, 105, 118] : List UInt8)) = true := bne_iff_ne.mpr c16
                      have c17b0 := eq_true (of_decide_eq_true (by first | (with_reducible assumption) | assumption) : 4 ≤ 7)
                      have c18b0 := eq_true (of_decide_eq_true (by first | (with_reducible assumption) | assumption) : 7 ≤ (t142.size : Int))
                      obtain rfl := Option.some.inj H
                      go_wp2
                      go_ret
                      exact ⟨by first | rfl | (simp [errW_none, errW_some] <;> rfl) | (simp [*, errW_none, errW_some] <;> rfl) | (simp [hy_ne]; done), by repeat first | exact HB.out | apply below_alloc | apply pw_below_drewN | apply below_drew1⟩
                  · rw [if_neg c15] at H
                    exact absurd H (by simp)
                · rw [if_neg c14] at H
                  exact absurd H (by simp)

/-! ### vcode_Size: function 74 -/
def vcode_Size.l0 : Nat → Int → List (S57) → Int → Int → Option (Int)
  | 0, _, _, _, _ => none
  | k + 1, x3, x7, x8, x9 => if x9 < x8 then (if 0 ≤ x9 then (if x9 < (x7.length : Int) then (vcode_Size.l0 k (wrap64 (x3 + (((rd_T57 x7 x9).f0).length : Int))) x7 x8 (wrap64 (x9 + 1))) else (none)) else (none)) else (some x3)
def vcode_Size.f (k : Nat) (a0_0 : Int) (a0_1 : Int) (a0_2 : Bool) (l0_3 : List (S57)) : Option (Int) := vcode_Size.l0 k 0 l0_3 (l0_3.length : Int) 0
set_option maxHeartbeats 8000000 in
set_option maxRecDepth 100000 in
theorem vcode_Size.calls (k : Nat) (a0_0 : Int) (a0_1 : Int) (a0_2 : Bool) (A0_3 : Option Addr) (c0_3 : Nat) (l0_3 : List (S57)) (r : Int) (w : World) (hr0_3 : Kd.C k57 w A0_3 l0_3.length l0_3) (hc0_3 : l0_3.length ≤ c0_3) (hG : GG [] w) (h : vcode_Size.f k a0_0 a0_1 a0_2 l0_3 = some r) :
    Calls Tryd.prog 74 #[.agg #[.int .i64 a0_0, .int .i64 a0_1, .bool a0_2, .slice A0_3 l0_3.length c0_3]] w fun e w' => e = .returned (.int .i64 r) ∧ Below w.heap.size w w' := by
  have hu60 := Tryd.underlying60
  have hu57 := Tryd.underlying57
  have HR0_3 := Aside0.mk hr0_3
  have HC0_3 := Aside0.mk hc0_3
  clear hr0_3 hc0_3
  have HB := Aside0.mk (Below.refl w.heap.size w)
  have HG := Aside0.mk hG
  clear hG
  have H : (vcode_Size.l0 k 0 l0_3 (l0_3.length : Int) 0) = some r := h
  clear h
  have H' := Aside0.mk H
  clear H
  go_enter Tryd.func74, Tryd.ntmps74
  go_wp2_with (first | ((with_reducible refine gate_dst (N := 1) rfl ?_); refine box_event ?hg (N := 1) ?hd (cs := #[.int .i64 a0_0, .int .i64 a0_1, .bool a0_2, .slice A0_3 l0_3.length c0_3]) (t := 60) ?hr ?_; (case hd => rfl); (case hg => rfl); (case hr => first | (go_simp; done) | (go_simp; rfl)); intro gb143 hg w2 hbox hb; have n0_ := Aside0.mk (below_step (by repeat first | exact HB.out | apply below_alloc | apply pw_below_drewN | apply below_drew1) hb); have n1_ := Aside0.mk (hbox); have n2_ := Aside0.mk ((by rw [hg]; exact (below_size (by repeat first | exact HB.out | apply below_alloc | apply pw_below_drewN | apply below_drew1)) : w.heap.size ≤ gb143)); have n3_ := Aside0.mk ((by rw [hg]; exact (below_size (by repeat first | exact HB.out | apply below_alloc | apply pw_below_drewN | apply below_drew1)) : w.heap.size ≤ gb143)); clear HB; have HB := n0_; have BK143 := n1_; have GW143 := n2_; have GE143 := n3_; clear n0_ n1_ n2_ n3_; clear hb hbox hg; have hcz3_0 : w2.cell? ⟨gb143, 0, none⟩ = some (.int .i64 a0_0) := (blk_cell BK143.out 0).trans rfl; have hcz3_1 : w2.cell? ⟨gb143, 1, none⟩ = some (.int .i64 a0_1) := (blk_cell BK143.out 1).trans rfl; have hcz3_2 : w2.cell? ⟨gb143, 2, none⟩ = some (.bool a0_2) := (blk_cell BK143.out 2).trans rfl; have hcz3_3 : w2.cell? ⟨gb143, 3, none⟩ = some (.slice A0_3 l0_3.length c0_3) := (blk_cell BK143.out 3).trans rfl; have hfz3_0 := blk_frozen BK143.out 0; have hfz3_1 := blk_frozen BK143.out 1; have hfz3_2 := blk_frozen BK143.out 2; have hfz3_3 := blk_frozen BK143.out 3))
  go_loopg [3, 9] k (fun kq v3 v9 w' => ∃ (x3_1 : Int) (x9_1 : Int), v3 = .int .i64 x3_1 ∧ v9 = .int .i64 x9_1 ∧ Aside0 (vcode_Size.l0 kq x3_1 l0_3 (l0_3.length : Int) x9_1 = some r) ∧ Aside0 (kq ≤ k) ∧ Aside0 (w'.heap[gb143]? = some (.cells #[.int .i64 a0_0, .int .i64 a0_1, .bool a0_2, (.slice A0_3 l0_3.length c0_3)] 60 (0, 0))) ∧ Aside0 (Below w.heap.size w w'))
  case atStart => exact ⟨(0), (0), (by first | rfl | (simp; done) | (simp [*]; done)), (by first | rfl | (simp; done) | (simp [*]; done)), H', ⟨Nat.le_refl _⟩, ⟨by (with_reducible repeat (first | refine blk_drewN ?_ _ | refine blk_drew ?_ | refine blk_alloc ?_ _)); exact BK143.out⟩, ⟨by repeat (first | (with_reducible first | exact HB.out | apply below_alloc | apply pw_below_drewN | apply below_drew1 | refine below_set ?_ GE143.out) | exact HB.out)⟩⟩
  case round =>
    clear H'
    try clear p2
    try clear hcz3_0
    try clear hcz3_1
    try clear hcz3_2
    try clear hcz3_3
    try clear hfz3_0
    try clear hfz3_1
    try clear hfz3_2
    try clear hfz3_3
    obtain ⟨x3_1, x9_1, rfl, rfl, HA, HK1, BK143, HB⟩ := hrel
    cases gk with
    | zero => exact absurd HA.out (by simp [vcode_Size.l0])
    | succ k1 =>
      have H := HA.out
      clear HA
      simp only [vcode_Size.l0] at H
      by_cases c4 : x9_1 < (l0_3.length : Int)
      · rw [if_pos c4] at H
        have c4b0 : decide (x9_1 < (l0_3.length : Int)) = true := decide_eq_true c4
        clear c4
        by_cases c5 : 0 ≤ x9_1
        · rw [if_pos c5] at H
          have c5b0 : decide (0 ≤ x9_1) = true := decide_eq_true c5
          clear c5
          by_cases c6 : x9_1 < (l0_3.length : Int)
          · rw [if_pos c6] at H
            have c6b0 : decide (x9_1 < (l0_3.length : Int)) = true := decide_eq_true c6
            clear c6
            have H' := Aside0.mk H
            clear H
            have p144 : 0 ≤ (x9_1 : Int) := of_decide_eq_true (by first | (with_reducible assumption) | assumption)
            have q144 : x9_1 < (l0_3.length : Int) := of_decide_eq_true (by first | (with_reducible assumption) | assumption)
            obtain ⟨ad144, A144_0, c144_0, A144_1, c144_1, e144, hx144_0, hx144_1, hx144_2, hl144_0, hi144_0, hl144_1, hi144_1⟩ := at_T57 HR0_3.out x9_1 p144 q144
            cases e144
            replace hx144_0 := (HB.out.cell (World.block_lt_of_cell? w _ hx144_0)).trans hx144_0
            replace hx144_1 := (HB.out.cell (World.block_lt_of_cell? w _ hx144_1)).trans hx144_1
            replace hx144_2 := (HB.out.cell (World.block_lt_of_cell? w _ hx144_2)).trans hx144_2
            have HR144_0 := Aside0.mk hi144_0
            have HC144_0 := Aside0.mk hl144_0
            clear hi144_0 hl144_0
            have HR144_1 := Aside0.mk hi144_1
            have HC144_1 := Aside0.mk hl144_1
            clear hi144_1 hl144_1
            replace p144 := eq_true p144
            replace q144 := eq_true q144
            go_wp2_with (first | ((with_reducible refine gate_dst (N := 5) rfl ?_); refine box_event ?hg (N := 5) ?hd (cs := #[.slice none 0 0, .slice none 0 0, .int .i64 0]) (t := 57) ?hr ?_; (case hd => rfl); (case hg => rfl); (case hr => first | (go_simp; done) | (go_simp; rfl)); intro gb145 hg w7 hbox hb; have n0_ := Aside0.mk (blk_below (g := gb143) (o := .cells #[.int .i64 a0_0, .int .i64 a0_1, .bool a0_2, .slice (some ad144) l0_3.length c0_3] 60 (0, 0)) (by (with_reducible repeat (first | refine blk_drewN ?_ _ | refine blk_drew ?_ | refine blk_alloc ?_ _)); exact BK143.out) hb); have n1_ := Aside0.mk (below_step (by repeat (first | (with_reducible first | exact HB.out | apply below_alloc | apply pw_below_drewN | apply below_drew1 | refine below_set ?_ GE143.out) | exact HB.out)) hb); have n2_ := Aside0.mk (hbox); have n3_ := Aside0.mk ((by rw [hg]; exact (below_size (by repeat (first | (with_reducible first | exact HB.out | apply below_alloc | apply pw_below_drewN | apply below_drew1 | refine below_set ?_ GE143.out) | exact HB.out))) : w.heap.size ≤ gb145)); have n4_ := Aside0.mk ((by rw [hg]; exact (below_size (by repeat (first | (with_reducible first | exact HB.out | apply below_alloc | apply pw_below_drewN | apply below_drew1 | refine below_set ?_ GE143.out) | exact HB.out))) : w.heap.size ≤ gb145)); have n5_ := Aside0.mk ((by rw [hg]; exact Nat.ne_of_lt (blk_lt (g := gb143) (o := .cells #[.int .i64 a0_0, .int .i64 a0_1, .bool a0_2, .slice (some ad144) l0_3.length c0_3] 60 (0, 0)) (by (with_reducible repeat (first | refine blk_drewN ?_ _ | refine blk_drew ?_ | refine blk_alloc ?_ _)); exact BK143.out)) : gb143 ≠ gb145)); have n6_ := Aside0.mk ((by rw [hg]; exact Nat.ne_of_gt (blk_lt (g := gb143) (o := .cells #[.int .i64 a0_0, .int .i64 a0_1, .bool a0_2, .slice (some ad144) l0_3.length c0_3] 60 (0, 0)) (by (with_reducible repeat (first | refine blk_drewN ?_ _ | refine blk_drew ?_ | refine blk_alloc ?_ _)); exact BK143.out)) : gb145 ≠ gb143)); clear BK143; clear HB; have BK143 := n0_; have HB := n1_; have BK145 := n2_; have GW145 := n3_; have GE145 := n4_; have NB143_145 := n5_; have NB145_143 := n6_; clear n0_ n1_ n2_ n3_ n4_ n5_ n6_; clear hb hbox hg; have hnb8 := NB145_143.out; have hnc8 := NB143_145.out; have hcz9_0 : w7.cell? ⟨gb145, 0, none⟩ = some (.slice none 0 0) := (blk_cell BK145.out 0).trans rfl; have hcz9_1 : w7.cell? ⟨gb145, 1, none⟩ = some (.slice none 0 0) := (blk_cell BK145.out 1).trans rfl; have hcz9_2 : w7.cell? ⟨gb145, 2, none⟩ = some (.int .i64 0) := (blk_cell BK145.out 2).trans rfl; have hfz9_0 := blk_frozen BK145.out 0; have hfz9_1 := blk_frozen BK145.out 1; have hfz9_2 := blk_frozen BK145.out 2))
            go_roundg k1
            case measure => have := HK1.out; omega
            case rel => exact ⟨(wrap64 (x3_1 + (((rd_T57 l0_3 x9_1).f0).length : Int))), (wrap64 (x9_1 + 1)), (by first | rfl | (simp; done) | (simp [*]; done)), (by first | rfl | (simp; done) | (simp [*]; done)), H', ⟨by have := HK1.out; omega⟩, ⟨by (with_reducible repeat (first | refine blk_drewN ?_ _ | refine blk_drew ?_ | refine blk_alloc ?_ _)); refine blk_far ?_ NB143_145.out _; (with_reducible repeat (first | refine blk_drewN ?_ _ | refine blk_drew ?_ | refine blk_alloc ?_ _)); refine blk_far ?_ NB143_145.out _; (with_reducible repeat (first | refine blk_drewN ?_ _ | refine blk_drew ?_ | refine blk_alloc ?_ _)); refine blk_far ?_ NB143_145.out _; (with_reducible repeat (first | refine blk_drewN ?_ _ | refine blk_drew ?_ | refine blk_alloc ?_ _)); exact BK143.out⟩, ⟨by repeat (first | (with_reducible first | exact HB.out | apply below_alloc | apply pw_below_drewN | apply below_drew1 | refine below_set ?_ GE143.out | refine below_set ?_ GE145.out) | exact HB.out)⟩⟩
          · rw [if_neg c6] at H
            exact absurd H (by simp)
        · rw [if_neg c5] at H
          exact absurd H (by simp)
      · rw [if_neg c4] at H
        have c4b0 : decide (x9_1 < (l0_3.length : Int)) = false := decide_eq_false c4
        clear c4
        obtain rfl := Option.some.inj H
        go_wp2
        go_ret
        exact ⟨by first | rfl | (simp [errW_none, errW_some] <;> rfl) | (simp [*, errW_none, errW_some] <;> rfl) | (simp [hy_ne]; done), by repeat (first | (with_reducible first | exact HB.out | apply below_alloc | apply pw_below_drewN | apply below_drew1 | refine below_set ?_ GE143.out) | exact HB.out)⟩

/-! ### vcode_follows: function 122 -/
def vcode_follows.f (a0 : Int) (a1 : Int) : Option (Bool) := if a0 = 193 then (some (a1 == 1)) else (if a0 = 194 then (some (a1 == 2)) else (if a0 = 195 then (if a1 ≥ 1 then (some (decide (a1 ≤ 257))) else (some false)) else (some (a1 == 0))))
set_option maxHeartbeats 8000000 in
set_option maxRecDepth 100000 in
theorem vcode_follows.calls (a0 : Int) (a1 : Int) (r : Bool) (w : World) (hG : GG [] w) (h : vcode_follows.f a0 a1 = some r) :
    Calls Tryd.prog 122 #[.int .u8 a0, .int .i64 a1] w fun e w' => e = .returned (.bool r) ∧ Drawn0 w w' := by
  have HG := Aside0.mk hG
  clear hG
  have H : (if a0 = 193 then (some (a1 == 1)) else (if a0 = 194 then (some (a1 == 2)) else (if a0 = 195 then (if a1 ≥ 1 then (some (decide (a1 ≤ 257))) else (some false)) else (some (a1 == 0))))) = some r := h
  clear h
  by_cases c3 : a0 = 193
  · rw [if_pos c3] at H
    have c3b0 : (a0 == 193) = true := beq_iff_eq.mpr c3
    have c3b1 : (a0 != 193) = false := bne_eq_false_iff_eq.mpr c3
    clear c3
    obtain rfl := Option.some.inj H
    go_enter Tryd.func122, Tryd.ntmps122
    go_wp2
    go_ret
    exact ⟨by first | rfl | (simp; done) | (simp [*]; done), by repeat (first | exact Drawn0.refl _ | apply Drawn0.step)⟩
  · rw [if_neg c3] at H
    have c3b0 : (a0 == 193) = false := beq_eq_false_iff_ne.mpr c3
    have c3b1 : (a0 != 193) = true := bne_iff_ne.mpr c3
    by_cases c4 : a0 = 194
    · rw [if_pos c4] at H
      have c4b0 : (a0 == 194) = true := beq_iff_eq.mpr c4
      have c4b1 : (a0 != 194) = false := bne_eq_false_iff_eq.mpr c4
      clear c4
      obtain rfl := Option.some.inj H
      go_enter Tryd.func122, Tryd.ntmps122
      go_wp2
      go_ret
      exact ⟨by first | rfl | (simp; done) | (simp [*]; done), by repeat (first | exact Drawn0.refl _ | apply Drawn0.step)⟩
    · rw [if_neg c4] at H
      have c4b0 : (a0 == 194) = false := beq_eq_false_iff_ne.mpr c4
      have c4b1 : (a0 != 194) = true := bne_iff_ne.mpr c4
      by_cases c5 : a0 = 195
      · rw [if_pos c5] at H
        have c5b0 : (a0 == 195) = true := beq_iff_eq.mpr c5
        have c5b1 : (a0 != 195) = false := bne_eq_false_iff_eq.mpr c5
        clear c5
        by_cases c6 : a1 ≥ 1
        · rw [if_pos c6] at H
          have c6b0 : decide (1 ≤ a1) = true := decide_eq_true c6
          clear c6
          obtain rfl := Option.some.inj H
          go_enter Tryd.func122, Tryd.ntmps122
          go_wp2
          go_ret
          exact ⟨by first | rfl | (simp; done) | (simp [*]; done), by repeat (first | exact Drawn0.refl _ | apply Drawn0.step)⟩
        · rw [if_neg c6] at H
          have c6b0 : decide (1 ≤ a1) = false := decide_eq_false c6
          clear c6
          obtain rfl := Option.some.inj H
          go_enter Tryd.func122, Tryd.ntmps122
          go_wp2
          go_ret
          exact ⟨by first | rfl | (simp; done) | (simp [*]; done), by repeat (first | exact Drawn0.refl _ | apply Drawn0.step)⟩
      · rw [if_neg c5] at H
        have c5b0 : (a0 == 195) = false := beq_eq_false_iff_ne.mpr c5
        have c5b1 : (a0 != 195) = true := bne_iff_ne.mpr c5
        obtain rfl := Option.some.inj H
        go_enter Tryd.func122, Tryd.ntmps122
        go_wp2
        go_ret
        exact ⟨by first | rfl | (simp; done) | (simp [*]; done), by repeat (first | exact Drawn0.refl _ | apply Drawn0.step)⟩

/-! ### vcode_memory: function 131 -/
def vcode_memory.f (a0 : Int) : Option (Bool) := if a0 ≥ 40 then (if a0 ≤ 62 then ((ops_Name.f a0).bind fun t146 => (some (t146.toList != ([] : List UInt8)))) else (some false)) else (some false)
set_option maxHeartbeats 8000000 in
set_option maxRecDepth 100000 in
theorem vcode_memory.calls (a0 : Int) (r : Bool) (w : World) (hG : GG [] w) (h : vcode_memory.f a0 = some r) :
    Calls Tryd.prog 131 #[.int .u8 a0] w fun e w' => e = .returned (.bool r) ∧ Below w.heap.size w w' := by
  have HB := Aside0.mk (Below.refl w.heap.size w)
  have HG := Aside0.mk hG
  clear hG
  have H : (if a0 ≥ 40 then (if a0 ≤ 62 then ((ops_Name.f a0).bind fun t146 => (some (t146.toList != ([] : List UInt8)))) else (some false)) else (some false)) = some r := h
  clear h
  by_cases c2 : a0 ≥ 40
  · rw [if_pos c2] at H
    have c2b0 : decide (40 ≤ a0) = true := decide_eq_true c2
    clear c2
    by_cases c3 : a0 ≤ 62
    · rw [if_pos c3] at H
      have c3b0 : decide (a0 ≤ 62) = true := decide_eq_true c3
      clear c3
      replace H := Option.bind_eq_some_iff.mp H
      obtain ⟨t146, A40, H⟩ := H
      replace H : (some (t146.toList != ([] : List UInt8))) = some r := H
      have A4 := Aside0.mk A40
      clear A40
      obtain rfl := Option.some.inj H
      go_enter Tryd.func131, Tryd.ntmps131
      go_wp2_with (first | (go_at_call 12; (with_reducible refine (ops_Name.calls a0 t146 _ ?side1 A4.out).mono ?_); (case side1 => exact GG.nil _); rintro e w5 ⟨rfl, hb⟩; have n0_ := Aside0.mk (below_step (by repeat first | exact HB.out | apply below_alloc | apply pw_below_drewN | apply below_drew1) hb); clear HB; have HB := n0_; clear n0_; (try clear hb); (try clear hb2); (try clear hk); (try clear hi)))
      go_ret
      exact ⟨by first | rfl | (simp [errW_none, errW_some] <;> rfl) | (simp [*, errW_none, errW_some] <;> rfl) | (simp [hy_ne]; done), by repeat first | exact HB.out | apply below_alloc | apply pw_below_drewN | apply below_drew1⟩
    · rw [if_neg c3] at H
      have c3b0 : decide (a0 ≤ 62) = false := decide_eq_false c3
      clear c3
      obtain rfl := Option.some.inj H
      go_enter Tryd.func131, Tryd.ntmps131
      go_wp2
      go_ret
      exact ⟨by first | rfl | (simp [errW_none, errW_some] <;> rfl) | (simp [*, errW_none, errW_some] <;> rfl) | (simp [hy_ne]; done), by repeat first | exact HB.out | apply below_alloc | apply pw_below_drewN | apply below_drew1⟩
  · rw [if_neg c2] at H
    have c2b0 : decide (40 ≤ a0) = false := decide_eq_false c2
    clear c2
    obtain rfl := Option.some.inj H
    go_enter Tryd.func131, Tryd.ntmps131
    go_wp2
    go_ret
    exact ⟨by first | rfl | (simp [errW_none, errW_some] <;> rfl) | (simp [*, errW_none, errW_some] <;> rfl) | (simp [hy_ne]; done), by repeat first | exact HB.out | apply below_alloc | apply pw_below_drewN | apply below_drew1⟩

/-! ### stringslite_HasPrefix: function 116 -/
def stringslite_HasPrefix.f (a0 : ByteArray) (a1 : ByteArray) : Option (Bool) := if (a0.size : Int) ≥ (a1.size : Int) then (if 0 ≤ (a1.size : Int) then (if (a1.size : Int) ≤ (a0.size : Int) then (some ((a0.extract 0 ((a1.size : Int) : Int).toNat).toList == a1.toList)) else (none)) else (none)) else (some false)
set_option maxHeartbeats 8000000 in
set_option maxRecDepth 100000 in
theorem stringslite_HasPrefix.calls (a0 : ByteArray) (a1 : ByteArray) (r : Bool) (w : World) (hG : GG [] w) (h : stringslite_HasPrefix.f a0 a1 = some r) :
    Calls Tryd.prog 116 #[.string a0, .string a1] w fun e w' => e = .returned (.bool r) ∧ Drawn0 w w' := by
  have HG := Aside0.mk hG
  clear hG
  have H : (if (a0.size : Int) ≥ (a1.size : Int) then (if 0 ≤ (a1.size : Int) then (if (a1.size : Int) ≤ (a0.size : Int) then (some ((a0.extract 0 ((a1.size : Int) : Int).toNat).toList == a1.toList)) else (none)) else (none)) else (some false)) = some r := h
  clear h
  by_cases c3 : (a0.size : Int) ≥ (a1.size : Int)
  · rw [if_pos c3] at H
    have c3b0 : decide ((a1.size : Int) ≤ (a0.size : Int)) = true := decide_eq_true c3
    have c3b1 : decide (a1.size ≤ a0.size) = true := decide_eq_true (Int.ofNat_le.mp c3)
    clear c3
    by_cases c4 : 0 ≤ (a1.size : Int)
    · rw [if_pos c4] at H
      have c4b0 := eq_true c4
      have c4b1 : decide (0 ≤ (a1.size : Int)) = true := decide_eq_true c4
      clear c4
      by_cases c5 : (a1.size : Int) ≤ (a0.size : Int)
      · rw [if_pos c5] at H
        have c5b0 := eq_true c5
        have c5b1 : decide ((a1.size : Int) ≤ (a0.size : Int)) = true := decide_eq_true c5
        clear c5
        obtain rfl := Option.some.inj H
        go_enter Tryd.func116, Tryd.ntmps116
        go_wp2
        go_ret
        exact ⟨by first | rfl | (simp; done) | (simp [*]; done), by repeat (first | exact Drawn0.refl _ | apply Drawn0.step)⟩
      · rw [if_neg c5] at H
        exact absurd H (by simp)
    · rw [if_neg c4] at H
      exact absurd H (by simp)
  · rw [if_neg c3] at H
    have c3b0 : decide ((a1.size : Int) ≤ (a0.size : Int)) = false := decide_eq_false c3
    have c3b1 : decide (a1.size ≤ a0.size) = false := decide_eq_false (fun h => c3 (Int.ofNat_le.mpr h))
    clear c3
    obtain rfl := Option.some.inj H
    go_enter Tryd.func116, Tryd.ntmps116
    go_wp2
    go_ret
    exact ⟨by first | rfl | (simp; done) | (simp [*]; done), by repeat (first | exact Drawn0.refl _ | apply Drawn0.step)⟩

/-! ### strings_HasPrefix: function 90 -/
def strings_HasPrefix.f (a0 : ByteArray) (a1 : ByteArray) : Option (Bool) := (stringslite_HasPrefix.f a0 a1).bind fun t147 => (some t147)
set_option maxHeartbeats 8000000 in
set_option maxRecDepth 100000 in
theorem strings_HasPrefix.calls (a0 : ByteArray) (a1 : ByteArray) (r : Bool) (w : World) (hG : GG [] w) (h : strings_HasPrefix.f a0 a1 = some r) :
    Calls Tryd.prog 90 #[.string a0, .string a1] w fun e w' => e = .returned (.bool r) ∧ Drawn0 w w' := by
  have HG := Aside0.mk hG
  clear hG
  have H : ((stringslite_HasPrefix.f a0 a1).bind fun t147 => (some t147)) = some r := h
  clear h
  replace H := Option.bind_eq_some_iff.mp H
  obtain ⟨t147, A30, H⟩ := H
  replace H : (some t147) = some r := H
  have A3 := Aside0.mk A30
  clear A30
  obtain rfl := Option.some.inj H
  go_enter Tryd.func90, Tryd.ntmps90
  go_wp2_with (first | ((with_reducible refine gate_callee (f := 116) rfl ?_); refine goesL_ (some 7) rfl rfl Tryd.func116 (by kernel_rfl) rfl #[.string a0, .string a1] rfl (by (try simp only [List.map_toArray, List.map_cons, List.map_nil]); first | done | rfl | (simp only [List.length_drop, List.length_take]; rfl)) ?_; (with_reducible refine (stringslite_HasPrefix.calls a0 a1 t147 _ ?side1 A3.out).mono ?_); (case side1 => exact GG.nil _); rintro e w' ⟨rfl, ⟨nd, rfl⟩⟩; refine ⟨_, rfl, ?_⟩))
  go_ret
  exact ⟨by first | rfl | (simp; done) | (simp [*]; done), by repeat (first | exact Drawn0.refl _ | apply Drawn0.step)⟩

/-! ### ops_own: function 56 -/
def ops_own.f (a0 : ByteArray) : Option (Int) := (strings_HasPrefix.f a0 (⟨#[105, 54, 52, 46]⟩ : ByteArray)).bind fun t148 => (if t148 = true then (some 126) else (some 127))
set_option maxHeartbeats 8000000 in
set_option maxRecDepth 100000 in
theorem ops_own.calls (a0 : ByteArray) (r : Int) (w : World) (hG : GG [] w) (h : ops_own.f a0 = some r) :
    Calls Tryd.prog 56 #[.string a0] w fun e w' => e = .returned (.int .u8 r) ∧ Drawn0 w w' := by
  have HG := Aside0.mk hG
  clear hG
  have H : ((strings_HasPrefix.f a0 (⟨#[105, 54, 52, 46]⟩ : ByteArray)).bind fun t148 => (if t148 = true then (some 126) else (some 127))) = some r := h
  clear h
  replace H := Option.bind_eq_some_iff.mp H
  obtain ⟨t148, A20, H⟩ := H
  replace H : (if t148 = true then (some 126) else (some 127)) = some r := H
  have A2 := Aside0.mk A20
  clear A20
  by_cases c3 : t148 = true
  · subst c3
    have H1 : (some 126) = some r := by rw [if_pos rfl] at H; exact H
    clear H
    have H := H1
    clear H1
    obtain rfl := Option.some.inj H
    go_enter Tryd.func56, Tryd.ntmps56
    go_wp2_with (first | ((with_reducible refine gate_callee (f := 90) rfl ?_); refine goesL_ (some 4) rfl rfl Tryd.func90 (by kernel_rfl) rfl #[.string a0, .string (⟨#[105, 54, 52, 46]⟩ : ByteArray)] rfl (by (try simp only [List.map_toArray, List.map_cons, List.map_nil]); first | done | rfl | (simp only [List.length_drop, List.length_take]; rfl)) ?_; (with_reducible refine (strings_HasPrefix.calls a0 (⟨#[105, 54, 52, 46]⟩ : ByteArray) true _ ?side1 A2.out).mono ?_); (case side1 => exact GG.nil _); rintro e w' ⟨rfl, ⟨nd, rfl⟩⟩; refine ⟨_, rfl, ?_⟩))
    go_ret
    exact ⟨by first | rfl | (simp; done) | (simp [*]; done), by repeat (first | exact Drawn0.refl _ | apply Drawn0.step)⟩
  · replace c3 := Bool.eq_false_iff.mpr c3
    subst c3
    have H1 : (some 127) = some r := by rw [if_neg (show ¬ (false = true) by decide)] at H; exact H
    clear H
    have H := H1
    clear H1
    obtain rfl := Option.some.inj H
    go_enter Tryd.func56, Tryd.ntmps56
    go_wp2_with (first | ((with_reducible refine gate_callee (f := 90) rfl ?_); refine goesL_ (some 4) rfl rfl Tryd.func90 (by kernel_rfl) rfl #[.string a0, .string (⟨#[105, 54, 52, 46]⟩ : ByteArray)] rfl (by (try simp only [List.map_toArray, List.map_cons, List.map_nil]); first | done | rfl | (simp only [List.length_drop, List.length_take]; rfl)) ?_; (with_reducible refine (strings_HasPrefix.calls a0 (⟨#[105, 54, 52, 46]⟩ : ByteArray) false _ ?side1 A2.out).mono ?_); (case side1 => exact GG.nil _); rintro e w' ⟨rfl, ⟨nd, rfl⟩⟩; refine ⟨_, rfl, ?_⟩))
    go_ret
    exact ⟨by first | rfl | (simp; done) | (simp [*]; done), by repeat (first | exact Drawn0.refl _ | apply Drawn0.step)⟩

/-! ### stringslite_HasSuffix: function 95 -/
def stringslite_HasSuffix.f (a0 : ByteArray) (a1 : ByteArray) : Option (Bool) := if (a0.size : Int) ≥ (a1.size : Int) then (if 0 ≤ (wrap64 ((a0.size : Int) - (a1.size : Int))) then (if (wrap64 ((a0.size : Int) - (a1.size : Int))) ≤ (a0.size : Int) then (some ((a0.extract ((wrap64 ((a0.size : Int) - (a1.size : Int))) : Int).toNat a0.size).toList == a1.toList)) else (none)) else (none)) else (some false)
set_option maxHeartbeats 8000000 in
set_option maxRecDepth 100000 in
theorem stringslite_HasSuffix.calls (a0 : ByteArray) (a1 : ByteArray) (r : Bool) (w : World) (hG : GG [] w) (h : stringslite_HasSuffix.f a0 a1 = some r) :
    Calls Tryd.prog 95 #[.string a0, .string a1] w fun e w' => e = .returned (.bool r) ∧ Drawn0 w w' := by
  have HG := Aside0.mk hG
  clear hG
  have H : (if (a0.size : Int) ≥ (a1.size : Int) then (if 0 ≤ (wrap64 ((a0.size : Int) - (a1.size : Int))) then (if (wrap64 ((a0.size : Int) - (a1.size : Int))) ≤ (a0.size : Int) then (some ((a0.extract ((wrap64 ((a0.size : Int) - (a1.size : Int))) : Int).toNat a0.size).toList == a1.toList)) else (none)) else (none)) else (some false)) = some r := h
  clear h
  by_cases c3 : (a0.size : Int) ≥ (a1.size : Int)
  · rw [if_pos c3] at H
    have c3b0 : decide ((a1.size : Int) ≤ (a0.size : Int)) = true := decide_eq_true c3
    have c3b1 : decide (a1.size ≤ a0.size) = true := decide_eq_true (Int.ofNat_le.mp c3)
    clear c3
    obtain ⟨ji4, hji4⟩ : ∃ j_ : Int, (wrap64 ((a0.size : Int) - (a1.size : Int))) = j_ := ⟨_, rfl⟩
    replace H : (if 0 ≤ (ji4) then (if (ji4) ≤ (a0.size : Int) then (some ((a0.extract ((ji4) : Int).toNat a0.size).toList == a1.toList)) else (none)) else (none)) = some r := by first | (rw [hji4] at H; exact H) | (simp only [hji4] at H ⊢; exact H)
    have hji4w : (IntKind.i64.wrap ((a0.size : Int) - (a1.size : Int))) = ji4 := (i64_w _).trans hji4
    by_cases c5 : 0 ≤ (ji4)
    · rw [if_pos c5] at H
      have c5b0 := eq_true c5
      have c5b1 : decide (0 ≤ (ji4)) = true := decide_eq_true c5
      clear c5
      by_cases c6 : (ji4) ≤ (a0.size : Int)
      · rw [if_pos c6] at H
        have c6b0 := eq_true c6
        have c6b1 : decide ((ji4) ≤ (a0.size : Int)) = true := decide_eq_true c6
        clear c6
        obtain rfl := Option.some.inj H
        go_enter Tryd.func95, Tryd.ntmps95
        go_wp2
        go_ret
        exact ⟨by first | rfl | (simp; done) | (simp only [← hji4] <;> (first | rfl | simp)) | (simp [*]; done), by repeat (first | exact Drawn0.refl _ | apply Drawn0.step)⟩
      · rw [if_neg c6] at H
        exact absurd H (by simp)
    · rw [if_neg c5] at H
      exact absurd H (by simp)
  · rw [if_neg c3] at H
    have c3b0 : decide ((a1.size : Int) ≤ (a0.size : Int)) = false := decide_eq_false c3
    have c3b1 : decide (a1.size ≤ a0.size) = false := decide_eq_false (fun h => c3 (Int.ofNat_le.mpr h))
    clear c3
    obtain rfl := Option.some.inj H
    go_enter Tryd.func95, Tryd.ntmps95
    go_wp2
    go_ret
    exact ⟨by first | rfl | (simp; done) | (simp [*]; done), by repeat (first | exact Drawn0.refl _ | apply Drawn0.step)⟩

/-! ### strings_HasSuffix: function 61 -/
def strings_HasSuffix.f (a0 : ByteArray) (a1 : ByteArray) : Option (Bool) := (stringslite_HasSuffix.f a0 a1).bind fun t149 => (some t149)
set_option maxHeartbeats 8000000 in
set_option maxRecDepth 100000 in
theorem strings_HasSuffix.calls (a0 : ByteArray) (a1 : ByteArray) (r : Bool) (w : World) (hG : GG [] w) (h : strings_HasSuffix.f a0 a1 = some r) :
    Calls Tryd.prog 61 #[.string a0, .string a1] w fun e w' => e = .returned (.bool r) ∧ Drawn0 w w' := by
  have HG := Aside0.mk hG
  clear hG
  have H : ((stringslite_HasSuffix.f a0 a1).bind fun t149 => (some t149)) = some r := h
  clear h
  replace H := Option.bind_eq_some_iff.mp H
  obtain ⟨t149, A30, H⟩ := H
  replace H : (some t149) = some r := H
  have A3 := Aside0.mk A30
  clear A30
  obtain rfl := Option.some.inj H
  go_enter Tryd.func61, Tryd.ntmps61
  go_wp2_with (first | ((with_reducible refine gate_callee (f := 95) rfl ?_); refine goesL_ (some 7) rfl rfl Tryd.func95 (by kernel_rfl) rfl #[.string a0, .string a1] rfl (by (try simp only [List.map_toArray, List.map_cons, List.map_nil]); first | done | rfl | (simp only [List.length_drop, List.length_take]; rfl)) ?_; (with_reducible refine (stringslite_HasSuffix.calls a0 a1 t149 _ ?side1 A3.out).mono ?_); (case side1 => exact GG.nil _); rintro e w' ⟨rfl, ⟨nd, rfl⟩⟩; refine ⟨_, rfl, ?_⟩))
  go_ret
  exact ⟨by first | rfl | (simp; done) | (simp [*]; done), by repeat (first | exact Drawn0.refl _ | apply Drawn0.step)⟩

end Go.Proofs.YthgkeehpoilgaaaDoor.Hv

import Derived.Test.YthgkeehpoilgaaaGreatDoorHwP2
import Derived.Test.YthgkeehpoilgaaaGreatDoorHwP3
import Derived.Test.YthgkeehpoilgaaaGreatDoorHwP4
section
namespace Go.Proofs.YthgkeehpoilgaaaGreatDoor.Hw
open Go.RowKit Go.Proofs.YthgkeehpoilgaaaGreatDoorW.PrintWords Go.Proofs.YthgkeehpoilgaaaGreatDoorW.PrintLast Go.Proofs.YthgkeehpoilgaaaGreatDoorW.PrintMore
attribute [local go_sem] max2_int min2_int max_two min_two max_three min_three max_four min_four
set_option linter.unusedVariables false
set_option linter.unusedSimpArgs false
def mandrelref11_Name.j0 : Nat → Int → Bool → Option (ByteArray)
 | 0, _, _ => none
 | k + 1, x0, x14 => if x14 = true then ((mandrelref04_Name.f k x0).bind fun t140 => (some t140)) else (if x0 ≥ 40 then (if x0 = 65 then (some (⟨#[]⟩ : ByteArray)) else ((mandrelref04_Name.f k x0).bind fun t141 => (some t141))) else (some (⟨#[]⟩ : ByteArray)))
def mandrelref11_Name.f (k : Nat) (a0 : Int) : Option (ByteArray) := if a0 = 66 then (some (⟨#[99, 111, 110, 115, 116]⟩ : ByteArray)) else (if a0 = 192 then (some (⟨#[109, 111, 118, 101]⟩ : ByteArray)) else (if a0 = 193 then (some (⟨#[106, 117, 109, 112]⟩ : ByteArray)) else (if a0 = 194 then (some (⟨#[98, 114, 97, 110, 99, 104]⟩ : ByteArray)) else (if a0 = 195 then (some (⟨#[116, 97, 98, 108, 101]⟩ : ByteArray)) else (if a0 = 15 then (mandrelref11_Name.j0 k a0 (a0 == 15)) else (if a0 = 0 then (mandrelref11_Name.j0 k a0 (a0 == 0)) else (if a0 = 16 then (mandrelref11_Name.j0 k a0 (a0 == 16)) else (if a0 = 17 then (mandrelref11_Name.j0 k a0 (a0 == 17)) else (if a0 = 27 then (mandrelref11_Name.j0 k a0 (a0 == 27)) else (if a0 = 35 then (mandrelref11_Name.j0 k a0 (a0 == 35)) else (mandrelref11_Name.j0 k a0 (a0 == 36))))))))))))
set_option maxHeartbeats 8000000 in
set_option maxRecDepth 100000 in
theorem mandrelref11_Name.calls (k : Nat) (a0 : Int) (r : ByteArray) (w : World) (hG : GG [] w) (h : mandrelref11_Name.f k a0 = some r) :
  Calls Tryz.prog 36 #[.int .u8 a0] w fun e w' => e = .returned (.string r) ∧ Below w.heap.size w w' := by
 have HB := Aside0.mk (Below.refl w.heap.size w)
 have HG := Aside0.mk hG
 clear hG
 have H : (if a0 = 66 then (some (⟨#[99, 111, 110, 115, 116]⟩ : ByteArray)) else (if a0 = 192 then (some (⟨#[109, 111, 118, 101]⟩ : ByteArray)) else (if a0 = 193 then (some (⟨#[106, 117, 109, 112]⟩ : ByteArray)) else (if a0 = 194 then (some (⟨#[98, 114, 97, 110, 99, 104]⟩ : ByteArray)) else (if a0 = 195 then (some (⟨#[116, 97, 98, 108, 101]⟩ : ByteArray)) else (if a0 = 15 then (mandrelref11_Name.j0 k a0 (a0 == 15)) else (if a0 = 0 then (mandrelref11_Name.j0 k a0 (a0 == 0)) else (if a0 = 16 then (mandrelref11_Name.j0 k a0 (a0 == 16)) else (if a0 = 17 then (mandrelref11_Name.j0 k a0 (a0 == 17)) else (if a0 = 27 then (mandrelref11_Name.j0 k a0 (a0 == 27)) else (if a0 = 35 then (mandrelref11_Name.j0 k a0 (a0 == 35)) else (mandrelref11_Name.j0 k a0 (a0 == 36))))))))))))) = some r := h
 clear h
 by_cases c2 : a0 = 66
 ·rw [if_pos c2] at H
  have c2b0 : (a0 == 66) = true := beq_iff_eq.mpr c2
  have c2b1 : (a0 != 66) = false := bne_eq_false_iff_eq.mpr c2
  clear c2
  obtain rfl := Option.some.inj H
  go_enter Tryz.func36, Tryz.ntmps36
  go_wp2
  go_ret
  exact ⟨Q6, Q1⟩
 rw [if_neg c2] at H
 have c2b0 : (a0 == 66) = false := beq_eq_false_iff_ne.mpr c2
 have c2b1 : (a0 != 66) = true := bne_iff_ne.mpr c2
 by_cases c3 : a0 = 192
 ·rw [if_pos c3] at H
  have c3b0 : (a0 == 192) = true := beq_iff_eq.mpr c3
  have c3b1 : (a0 != 192) = false := bne_eq_false_iff_eq.mpr c3
  clear c3
  obtain rfl := Option.some.inj H
  go_enter Tryz.func36, Tryz.ntmps36
  go_wp2
  go_ret
  exact ⟨Q6, Q1⟩
 rw [if_neg c3] at H
 have c3b0 : (a0 == 192) = false := beq_eq_false_iff_ne.mpr c3
 have c3b1 : (a0 != 192) = true := bne_iff_ne.mpr c3
 by_cases c4 : a0 = 193
 ·rw [if_pos c4] at H
  have c4b0 : (a0 == 193) = true := beq_iff_eq.mpr c4
  have c4b1 : (a0 != 193) = false := bne_eq_false_iff_eq.mpr c4
  clear c4
  obtain rfl := Option.some.inj H
  go_enter Tryz.func36, Tryz.ntmps36
  go_wp2
  go_ret
  exact ⟨Q6, Q1⟩
 rw [if_neg c4] at H
 have c4b0 : (a0 == 193) = false := beq_eq_false_iff_ne.mpr c4
 have c4b1 : (a0 != 193) = true := bne_iff_ne.mpr c4
 by_cases c5 : a0 = 194
 ·rw [if_pos c5] at H
  have c5b0 : (a0 == 194) = true := beq_iff_eq.mpr c5
  have c5b1 : (a0 != 194) = false := bne_eq_false_iff_eq.mpr c5
  clear c5
  obtain rfl := Option.some.inj H
  go_enter Tryz.func36, Tryz.ntmps36
  go_wp2
  go_ret
  exact ⟨Q6, Q1⟩
 rw [if_neg c5] at H
 have c5b0 : (a0 == 194) = false := beq_eq_false_iff_ne.mpr c5
 have c5b1 : (a0 != 194) = true := bne_iff_ne.mpr c5
 by_cases c6 : a0 = 195
 ·rw [if_pos c6] at H
  have c6b0 : (a0 == 195) = true := beq_iff_eq.mpr c6
  have c6b1 : (a0 != 195) = false := bne_eq_false_iff_eq.mpr c6
  clear c6
  obtain rfl := Option.some.inj H
  go_enter Tryz.func36, Tryz.ntmps36
  go_wp2
  go_ret
  exact ⟨Q6, Q1⟩
 rw [if_neg c6] at H
 have c6b0 : (a0 == 195) = false := beq_eq_false_iff_ne.mpr c6
 have c6b1 : (a0 != 195) = true := bne_iff_ne.mpr c6
 have HC7 := Aside0.mk H
 clear H
 go_enter Tryz.func36, Tryz.ntmps36
 go_upto_if 14 with (fail)
 go_cut [14] (fun v14 wc => ∃ (kq : Nat) (x14_6 : Bool), v14 = .bool x14_6 ∧ Aside0 (mandrelref11_Name.j0 kq a0 x14_6 = some r) ∧ Aside0 (kq ≤ k) ∧ Aside0 (Below w.heap.size w wc))
 case first =>
  have H := HC7.out
  clear HC7
  by_cases c8 : a0 = 15
  ·rw [if_pos c8] at H
   have c8b0 : (a0 == 15) = true := beq_iff_eq.mpr c8
   have c8b1 : (a0 != 15) = false := bne_eq_false_iff_eq.mpr c8
   clear c8
   (first | rw [c8b0] | (simp only [i64_w, i32_w]; rw [c8b0]) | skip)
   have H' := Aside0.mk H
   clear H
   go_wp2
   go_meet
   case rel => exact ⟨_, ((a0 == 15)), Q3, H', ⟨Q15⟩, ⟨Q1⟩⟩
  rw [if_neg c8] at H
  have c8b0 : (a0 == 15) = false := beq_eq_false_iff_ne.mpr c8
  have c8b1 : (a0 != 15) = true := bne_iff_ne.mpr c8
  (first | rw [c8b0] | (simp only [i64_w, i32_w]; rw [c8b0]) | skip)
  by_cases c9 : a0 = 0
  ·rw [if_pos c9] at H
   have c9b0 : (a0 == 0) = true := beq_iff_eq.mpr c9
   have c9b1 : (a0 != 0) = false := bne_eq_false_iff_eq.mpr c9
   clear c9
   have H' := Aside0.mk H
   clear H
   go_wp2
   go_meet
   case rel => exact ⟨_, ((a0 == 0)), Q3, H', ⟨Q15⟩, ⟨Q1⟩⟩
  rw [if_neg c9] at H
  have c9b0 : (a0 == 0) = false := beq_eq_false_iff_ne.mpr c9
  have c9b1 : (a0 != 0) = true := bne_iff_ne.mpr c9
  by_cases c10 : a0 = 16
  ·rw [if_pos c10] at H
   have c10b0 : (a0 == 16) = true := beq_iff_eq.mpr c10
   have c10b1 : (a0 != 16) = false := bne_eq_false_iff_eq.mpr c10
   clear c10
   have H' := Aside0.mk H
   clear H
   go_wp2
   go_meet
   case rel => exact ⟨_, ((a0 == 16)), Q3, H', ⟨Q15⟩, ⟨Q1⟩⟩
  rw [if_neg c10] at H
  have c10b0 : (a0 == 16) = false := beq_eq_false_iff_ne.mpr c10
  have c10b1 : (a0 != 16) = true := bne_iff_ne.mpr c10
  by_cases c11 : a0 = 17
  ·rw [if_pos c11] at H
   have c11b0 : (a0 == 17) = true := beq_iff_eq.mpr c11
   have c11b1 : (a0 != 17) = false := bne_eq_false_iff_eq.mpr c11
   clear c11
   have H' := Aside0.mk H
   clear H
   go_wp2
   go_meet
   case rel => exact ⟨_, ((a0 == 17)), Q3, H', ⟨Q15⟩, ⟨Q1⟩⟩
  rw [if_neg c11] at H
  have c11b0 : (a0 == 17) = false := beq_eq_false_iff_ne.mpr c11
  have c11b1 : (a0 != 17) = true := bne_iff_ne.mpr c11
  by_cases c12 : a0 = 27
  ·rw [if_pos c12] at H
   have c12b0 : (a0 == 27) = true := beq_iff_eq.mpr c12
   have c12b1 : (a0 != 27) = false := bne_eq_false_iff_eq.mpr c12
   clear c12
   have H' := Aside0.mk H
   clear H
   go_wp2
   go_meet
   case rel => exact ⟨_, ((a0 == 27)), Q3, H', ⟨Q15⟩, ⟨Q1⟩⟩
  rw [if_neg c12] at H
  have c12b0 : (a0 == 27) = false := beq_eq_false_iff_ne.mpr c12
  have c12b1 : (a0 != 27) = true := bne_iff_ne.mpr c12
  by_cases c13 : a0 = 35
  ·rw [if_pos c13] at H
   have c13b0 : (a0 == 35) = true := beq_iff_eq.mpr c13
   have c13b1 : (a0 != 35) = false := bne_eq_false_iff_eq.mpr c13
   clear c13
   have H' := Aside0.mk H
   clear H
   go_wp2
   go_meet
   case rel => exact ⟨_, ((a0 == 35)), Q3, H', ⟨Q15⟩, ⟨Q1⟩⟩
  rw [if_neg c13] at H
  have c13b0 : (a0 == 35) = false := beq_eq_false_iff_ne.mpr c13
  have c13b1 : (a0 != 35) = true := bne_iff_ne.mpr c13
  have H' := Aside0.mk H
  clear H
  go_wp2
  go_meet
  case rel => exact ⟨_, ((a0 == 36)), Q3, H', ⟨Q15⟩, ⟨Q1⟩⟩
 case rest =>
  clear HC7
  try clear c2
  try clear c2b0
  try clear c2b1
  try clear c3
  try clear c3b0
  try clear c3b1
  try clear c4
  try clear c4b0
  try clear c4b1
  try clear c5
  try clear c5b0
  try clear c5b1
  try clear c6
  try clear c6b0
  try clear c6b1
  obtain ⟨kq, x14_6, rfl, HA, HJ6, HB⟩ := hcut
  cases kq with
  | zero => exact absurd HA.out (by simp [mandrelref11_Name.j0])
  | succ kj6 =>
   have H := HA.out
   clear HA
   simp only [mandrelref11_Name.j0] at H
   by_cases c14 : x14_6 = true
   ·subst c14
    have H1 : ((mandrelref04_Name.f kj6 a0).bind fun t140 => (some t140)) = some r := Q14
    clear H
    have H := H1
    clear H1
    replace H := Option.bind_eq_some_iff.mp H
    obtain ⟨t140, A150, H⟩ := H
    replace H : (some t140) = some r := H
    have A15 := Aside0.mk A150
    clear A150
    obtain rfl := Option.some.inj H
    go_wp2_with (first | ((with_reducible refine gate_callee (f := 66) rfl ?_); refine goesL_ (some 23) rfl rfl Tryz.func66 Q0 rfl #[.int .u8 a0] rfl Q9 ?_; (with_reducible refine (mandrelref04_Name.calls kj6 a0 t140 _ ?side1 A15.out).mono ?_); (case side1 => exact GG.nil _); rintro e w16 ⟨rfl, hb⟩; refine ⟨_, rfl, ?_⟩; have n0_ := Aside0.mk (below_step Q1 hb); clear HB; have HB := n0_; clear n0_; (try clear hb); (try clear hb2); (try clear hk); (try clear hi)))
    go_ret
    exact ⟨Q6, Q1⟩
   replace c14 := Bool.eq_false_iff.mpr c14
   subst c14
   have H1 : (if a0 ≥ 40 then (if a0 = 65 then (some (⟨#[]⟩ : ByteArray)) else ((mandrelref04_Name.f kj6 a0).bind fun t141 => (some t141))) else (some (⟨#[]⟩ : ByteArray))) = some r := by rw [if_neg (show ¬ (false = true) by decide)] at H; exact H
   clear H
   have H := H1
   clear H1
   by_cases c17 : a0 ≥ 40
   ·rw [if_pos c17] at H
    have c17b0 : decide (40 ≤ a0) = true := decide_eq_true c17
    clear c17
    by_cases c18 : a0 = 65
    ·rw [if_pos c18] at H
     have c18b0 : (a0 == 65) = true := beq_iff_eq.mpr c18
     have c18b1 : (a0 != 65) = false := bne_eq_false_iff_eq.mpr c18
     clear c18
     obtain rfl := Option.some.inj H
     go_wp2
     go_ret
     exact ⟨Q6, Q1⟩
    rw [if_neg c18] at H
    have c18b0 : (a0 == 65) = false := beq_eq_false_iff_ne.mpr c18
    have c18b1 : (a0 != 65) = true := bne_iff_ne.mpr c18
    replace H := Option.bind_eq_some_iff.mp H
    obtain ⟨t141, A190, H⟩ := H
    replace H : (some t141) = some r := H
    have A19 := Aside0.mk A190
    clear A190
    obtain rfl := Option.some.inj H
    go_wp2_with (first | ((with_reducible refine gate_callee (f := 66) rfl ?_); refine goesL_ (some 31) rfl rfl Tryz.func66 Q0 rfl #[.int .u8 a0] rfl Q9 ?_; (with_reducible refine (mandrelref04_Name.calls kj6 a0 t141 _ ?side1 A19.out).mono ?_); (case side1 => exact GG.nil _); rintro e w20 ⟨rfl, hb⟩; refine ⟨_, rfl, ?_⟩; have n0_ := Aside0.mk (below_step Q1 hb); clear HB; have HB := n0_; clear n0_; (try clear hb); (try clear hb2); (try clear hk); (try clear hi)))
    go_ret
    exact ⟨Q6, Q1⟩
   rw [if_neg c17] at H
   have c17b0 : decide (40 ≤ a0) = false := decide_eq_false c17
   clear c17
   obtain rfl := Option.some.inj H
   go_wp2
   go_ret
   exact ⟨Q6, Q1⟩
def mandrelref04_has.f (a0 : ByteArray) (a1 : ByteArray) : Option (Bool) := if (a0.size : Int) ≥ (a1.size : Int) then (if 0 ≤ (a1.size : Int) then (if (a1.size : Int) ≤ (a0.size : Int) then (some ((a0.extract 0 ((a1.size : Int) : Int).toNat).toList == a1.toList)) else (none)) else (none)) else (some false)
set_option maxHeartbeats 8000000 in
set_option maxRecDepth 100000 in
theorem mandrelref04_has.calls (a0 : ByteArray) (a1 : ByteArray) (r : Bool) (w : World) (hG : GG [] w) (h : mandrelref04_has.f a0 a1 = some r) :
  Calls Tryz.prog 108 #[.string a0, .string a1] w fun e w' => e = .returned (.bool r) ∧ Drawn0 w w' := by
 have HG := Aside0.mk hG
 clear hG
 have H : (if (a0.size : Int) ≥ (a1.size : Int) then (if 0 ≤ (a1.size : Int) then (if (a1.size : Int) ≤ (a0.size : Int) then (some ((a0.extract 0 ((a1.size : Int) : Int).toNat).toList == a1.toList)) else (none)) else (none)) else (some false)) = some r := h
 clear h
 by_cases c3 : (a0.size : Int) ≥ (a1.size : Int)
 ·rw [if_pos c3] at H
  have c3b0 : decide ((a1.size : Int) ≤ (a0.size : Int)) = true := decide_eq_true c3
  have c3b1 : decide (a1.size ≤ a0.size) = true := decide_eq_true (Int.ofNat_le.mp c3)
  clear c3
  by_cases c4 : 0 ≤ (a1.size : Int)
  ·rw [if_pos c4] at H
   have c4b0 := eq_true c4
   have c4b1 : decide (0 ≤ (a1.size : Int)) = true := decide_eq_true c4
   clear c4
   by_cases c5 : (a1.size : Int) ≤ (a0.size : Int)
   ·rw [if_pos c5] at H
    have c5b0 := eq_true c5
    have c5b1 : decide ((a1.size : Int) ≤ (a0.size : Int)) = true := decide_eq_true c5
    clear c5
    obtain rfl := Option.some.inj H
    go_enter Tryz.func108, Tryz.ntmps108
    go_wp2
    go_ret
    exact ⟨Q3, Q29⟩
   rw [if_neg c5] at H
   exact absurd H Q8
  rw [if_neg c4] at H
  exact absurd H Q8
 rw [if_neg c3] at H
 have c3b0 : decide ((a1.size : Int) ≤ (a0.size : Int)) = false := decide_eq_false c3
 have c3b1 : decide (a1.size ≤ a0.size) = false := decide_eq_false (fun h => c3 (Int.ofNat_le.mpr h))
 clear c3
 obtain rfl := Option.some.inj H
 go_enter Tryz.func108, Tryz.ntmps108
 go_wp2
 go_ret
 exact ⟨Q3, Q29⟩
mutual
def mandrelref04_Form.j0 : Nat → ByteArray → ByteArray → Bool → Option (Int × Bool)
 | 0, _, _, _ => none
 | k + 1, x4, x9, x14 => if x14 = true then (some (3, true)) else (if x9.toList = ([109, 101, 109, 111, 114, 121, 46, 115, 105, 122, 101] : List UInt8) then (mandrelref04_Form.j1 k x4 x9 (x9.toList == ([109, 101, 109, 111, 114, 121, 46, 115, 105, 122, 101] : List UInt8))) else (mandrelref04_Form.j1 k x4 x9 (x9.toList == ([109, 101, 109, 111, 114, 121, 46, 103, 114, 111, 119] : List UInt8))))
def mandrelref04_Form.j1 : Nat → ByteArray → ByteArray → Bool → Option (Int × Bool)
 | 0, _, _, _ => none
 | k + 1, x4, x9, x23 => if x23 = true then (some (5, true)) else (if x9.toList = ([98, 108, 111, 99, 107] : List UInt8) then (mandrelref04_Form.j2 k x4 x9 (x9.toList == ([98, 108, 111, 99, 107] : List UInt8))) else (mandrelref04_Form.j2 k x4 x9 (x9.toList == ([108, 111, 111, 112] : List UInt8))))
def mandrelref04_Form.j2 : Nat → ByteArray → ByteArray → Bool → Option (Int × Bool)
 | 0, _, _, _ => none
 | k + 1, x4, x9, x26 => if x26 = true then (some (6, true)) else (if x9.toList = ([105, 102] : List UInt8) then (some (7, true)) else (if x9.toList = ([98, 114, 95, 116, 97, 98, 108, 101] : List UInt8) then (some (8, true)) else (if x9.toList = ([99, 97, 108, 108, 95, 105, 110, 100, 105, 114, 101, 99, 116] : List UInt8) then (some (9, true)) else (if 1 ≤ (x4.size : Int) then ((mandrelref04_has.f (x4.extract 1 x4.size) (⟨#[51, 50, 46, 108, 111, 97, 100]⟩ : ByteArray)).bind fun t143 => (if t143 = true then (some (4, true)) else ((mandrelref04_has.f (x4.extract 1 x4.size) (⟨#[54, 52, 46, 108, 111, 97, 100]⟩ : ByteArray)).bind fun t144 => (if t144 = true then (some (4, true)) else ((mandrelref04_has.f (x4.extract 1 x4.size) (⟨#[51, 50, 46, 115, 116, 111, 114, 101]⟩ : ByteArray)).bind fun t145 => (if t145 = true then (some (4, true)) else ((mandrelref04_has.f (x4.extract 1 x4.size) (⟨#[54, 52, 46, 115, 116, 111, 114, 101]⟩ : ByteArray)).bind fun t146 => (if t146 = true then (some (4, true)) else (some (0, true)))))))))) else (none)))))
end
def mandrelref04_Form.f (k : Nat) (a0 : Int) : Option (Int × Bool) := (mandrelref04_Name.f k a0).bind fun t142 => (if t142.toList = ([] : List UInt8) then (some (0, false)) else (if t142.toList = ([105, 51, 50, 46, 99, 111, 110, 115, 116] : List UInt8) then (some (1, true)) else (if t142.toList = ([105, 54, 52, 46, 99, 111, 110, 115, 116] : List UInt8) then (some (2, true)) else (if t142.toList = ([98, 114] : List UInt8) then (mandrelref04_Form.j0 k t142 t142 (t142.toList == ([98, 114] : List UInt8))) else (if t142.toList = ([98, 114, 95, 105, 102] : List UInt8) then (mandrelref04_Form.j0 k t142 t142 (t142.toList == ([98, 114, 95, 105, 102] : List UInt8))) else (if t142.toList = ([99, 97, 108, 108] : List UInt8) then (mandrelref04_Form.j0 k t142 t142 (t142.toList == ([99, 97, 108, 108] : List UInt8))) else (if t142.toList = ([108, 111, 99, 97, 108, 46, 103, 101, 116] : List UInt8) then (mandrelref04_Form.j0 k t142 t142 (t142.toList == ([108, 111, 99, 97, 108, 46, 103, 101, 116] : List UInt8))) else (if t142.toList = ([108, 111, 99, 97, 108, 46, 115, 101, 116] : List UInt8) then (mandrelref04_Form.j0 k t142 t142 (t142.toList == ([108, 111, 99, 97, 108, 46, 115, 101, 116] : List UInt8))) else (if t142.toList = ([108, 111, 99, 97, 108, 46, 116, 101, 101] : List UInt8) then (mandrelref04_Form.j0 k t142 t142 (t142.toList == ([108, 111, 99, 97, 108, 46, 116, 101, 101] : List UInt8))) else (if t142.toList = ([103, 108, 111, 98, 97, 108, 46, 103, 101, 116] : List UInt8) then (mandrelref04_Form.j0 k t142 t142 (t142.toList == ([103, 108, 111, 98, 97, 108, 46, 103, 101, 116] : List UInt8))) else (mandrelref04_Form.j0 k t142 t142 (t142.toList == ([103, 108, 111, 98, 97, 108, 46, 115, 101, 116] : List UInt8)))))))))))))
set_option maxHeartbeats 8000000 in
set_option maxRecDepth 100000 in
theorem mandrelref04_Form.calls (k : Nat) (a0 : Int) (r1 : Int) (r2 : Bool) (w : World) (hG : GG [] w) (h : mandrelref04_Form.f k a0 = some (r1, r2)) :
  Calls Tryz.prog 92 #[.int .u8 a0] w fun e w' => e = .returned (.tuple #[.int .i64 r1, .bool r2]) ∧ Below w.heap.size w w' := by
 have HB := Aside0.mk (Below.refl w.heap.size w)
 have HG := Aside0.mk hG
 clear hG
 have H : ((mandrelref04_Name.f k a0).bind fun t142 => (if t142.toList = ([] : List UInt8) then (some (0, false)) else (if t142.toList = ([105, 51, 50, 46, 99, 111, 110, 115, 116] : List UInt8) then (some (1, true)) else (if t142.toList = ([105, 54, 52, 46, 99, 111, 110, 115, 116] : List UInt8) then (some (2, true)) else (if t142.toList = ([98, 114] : List UInt8) then (mandrelref04_Form.j0 k t142 t142 (t142.toList == ([98, 114] : List UInt8))) else (if t142.toList = ([98, 114, 95, 105, 102] : List UInt8) then (mandrelref04_Form.j0 k t142 t142 (t142.toList == ([98, 114, 95, 105, 102] : List UInt8))) else (if t142.toList = ([99, 97, 108, 108] : List UInt8) then (mandrelref04_Form.j0 k t142 t142 (t142.toList == ([99, 97, 108, 108] : List UInt8))) else (if t142.toList = ([108, 111, 99, 97, 108, 46, 103, 101, 116] : List UInt8) then (mandrelref04_Form.j0 k t142 t142 (t142.toList == ([108, 111, 99, 97, 108, 46, 103, 101, 116] : List UInt8))) else (if t142.toList = ([108, 111, 99, 97, 108, 46, 115, 101, 116] : List UInt8) then (mandrelref04_Form.j0 k t142 t142 (t142.toList == ([108, 111, 99, 97, 108, 46, 115, 101, 116] : List UInt8))) else (if t142.toList = ([108, 111, 99, 97, 108, 46, 116, 101, 101] : List UInt8) then (mandrelref04_Form.j0 k t142 t142 (t142.toList == ([108, 111, 99, 97, 108, 46, 116, 101, 101] : List UInt8))) else (if t142.toList = ([103, 108, 111, 98, 97, 108, 46, 103, 101, 116] : List UInt8) then (mandrelref04_Form.j0 k t142 t142 (t142.toList == ([103, 108, 111, 98, 97, 108, 46, 103, 101, 116] : List UInt8))) else (mandrelref04_Form.j0 k t142 t142 (t142.toList == ([103, 108, 111, 98, 97, 108, 46, 115, 101, 116] : List UInt8)))))))))))))) = some (r1, r2) := h
 clear h
 replace H := Option.bind_eq_some_iff.mp H
 obtain ⟨t142, A20, H⟩ := H
 replace H : (if t142.toList = ([] : List UInt8) then (some (0, false)) else (if t142.toList = ([105, 51, 50, 46, 99, 111, 110, 115, 116] : List UInt8) then (some (1, true)) else (if t142.toList = ([105, 54, 52, 46, 99, 111, 110, 115, 116] : List UInt8) then (some (2, true)) else (if t142.toList = ([98, 114] : List UInt8) then (mandrelref04_Form.j0 k t142 t142 (t142.toList == ([98, 114] : List UInt8))) else (if t142.toList = ([98, 114, 95, 105, 102] : List UInt8) then (mandrelref04_Form.j0 k t142 t142 (t142.toList == ([98, 114, 95, 105, 102] : List UInt8))) else (if t142.toList = ([99, 97, 108, 108] : List UInt8) then (mandrelref04_Form.j0 k t142 t142 (t142.toList == ([99, 97, 108, 108] : List UInt8))) else (if t142.toList = ([108, 111, 99, 97, 108, 46, 103, 101, 116] : List UInt8) then (mandrelref04_Form.j0 k t142 t142 (t142.toList == ([108, 111, 99, 97, 108, 46, 103, 101, 116] : List UInt8))) else (if t142.toList = ([108, 111, 99, 97, 108, 46, 115, 101, 116] : List UInt8) then (mandrelref04_Form.j0 k t142 t142 (t142.toList == ([108, 111, 99, 97, 108, 46, 115, 101, 116] : List UInt8))) else (if t142.toList = ([108, 111, 99, 97, 108, 46, 116, 101, 101] : List UInt8) then (mandrelref04_Form.j0 k t142 t142 (t142.toList == ([108, 111, 99, 97, 108, 46, 116, 101, 101] : List UInt8))) else (if t142.toList = ([103, 108, 111, 98, 97, 108, 46, 103, 101, 116] : List UInt8) then (mandrelref04_Form.j0 k t142 t142 (t142.toList == ([103, 108, 111, 98, 97, 108, 46, 103, 101, 116] : List UInt8))) else (mandrelref04_Form.j0 k t142 t142 (t142.toList == ([103, 108, 111, 98, 97, 108, 46, 115, 101, 116] : List UInt8))))))))))))) = some (r1, r2) := H
 have A2 := Aside0.mk A20
 clear A20
 by_cases c3 : t142.toList = ([] : List UInt8)
 ·rw [if_pos c3] at H
  have c3b0 : (t142.toList == ([] : List UInt8)) = true := beq_iff_eq.mpr c3
  have c3b1 : (t142.toList != ([] : List UInt8)) = false := bne_eq_false_iff_eq.mpr c3
  clear c3
  simp only [Option.some.injEq, Prod.mk.injEq] at H
  obtain ⟨rfl, rfl⟩ := H
  go_enter Tryz.func92, Tryz.ntmps92
  go_wp2_with (first | ((with_reducible refine gate_callee (f := 66) rfl ?_); refine goesL_ (some 6) rfl rfl Tryz.func66 Q0 rfl #[.int .u8 a0] rfl Q9 ?_; (with_reducible refine (mandrelref04_Name.calls k a0 t142 _ ?side1 A2.out).mono ?_); (case side1 => exact GG.nil _); rintro e w4 ⟨rfl, hb⟩; refine ⟨_, rfl, ?_⟩; have n0_ := Aside0.mk (below_step Q1 hb); clear HB; have HB := n0_; clear n0_; (try clear hb); (try clear hb2); (try clear hk); (try clear hi)))
  go_ret2
  exact ⟨Q6, Q1⟩
 rw [if_neg c3] at H
 have c3b0 : (t142.toList == ([] : List UInt8)) = false := beq_eq_false_iff_ne.mpr c3
 have c3b1 : (t142.toList != ([] : List UInt8)) = true := bne_iff_ne.mpr c3
 by_cases c5 : t142.toList = ([105, 51, 50, 46, 99, 111, 110, 115, 116] : List UInt8)
 ·rw [if_pos c5] at H
  have c5b0 : (t142.toList == ([105, 51, 50, 46, 99, 111, 110, 115, 116] : List UInt8)) = true := beq_iff_eq.mpr c5
  have c5b1 : (t142.toList != ([105, 51, 50, 46, 99, 111, 110, 115, 116] : List UInt8)) = false := bne_eq_false_iff_eq.mpr c5
  clear c5
  simp only [Option.some.injEq, Prod.mk.injEq] at H
  obtain ⟨rfl, rfl⟩ := H
  go_enter Tryz.func92, Tryz.ntmps92
  go_wp2_with (first | ((with_reducible refine gate_callee (f := 66) rfl ?_); refine goesL_ (some 6) rfl rfl Tryz.func66 Q0 rfl #[.int .u8 a0] rfl Q9 ?_; (with_reducible refine (mandrelref04_Name.calls k a0 t142 _ ?side1 A2.out).mono ?_); (case side1 => exact GG.nil _); rintro e w6 ⟨rfl, hb⟩; refine ⟨_, rfl, ?_⟩; have n0_ := Aside0.mk (below_step Q1 hb); clear HB; have HB := n0_; clear n0_; (try clear hb); (try clear hb2); (try clear hk); (try clear hi)))
  go_ret2
  exact ⟨Q6, Q1⟩
 rw [if_neg c5] at H
 have c5b0 : (t142.toList == ([105, 51, 50, 46, 99, 111, 110, 115, 116] : List UInt8)) = false := beq_eq_false_iff_ne.mpr c5
 have c5b1 : (t142.toList != ([105, 51, 50, 46, 99, 111, 110, 115, 116] : List UInt8)) = true := bne_iff_ne.mpr c5
 by_cases c7 : t142.toList = ([105, 54, 52, 46, 99, 111, 110, 115, 116] : List UInt8)
 ·rw [if_pos c7] at H
  have c7b0 : (t142.toList == ([105, 54, 52, 46, 99, 111, 110, 115, 116] : List UInt8)) = true := beq_iff_eq.mpr c7
  have c7b1 : (t142.toList != ([105, 54, 52, 46, 99, 111, 110, 115, 116] : List UInt8)) = false := bne_eq_false_iff_eq.mpr c7
  clear c7
  simp only [Option.some.injEq, Prod.mk.injEq] at H
  obtain ⟨rfl, rfl⟩ := H
  go_enter Tryz.func92, Tryz.ntmps92
  go_wp2_with (first | ((with_reducible refine gate_callee (f := 66) rfl ?_); refine goesL_ (some 6) rfl rfl Tryz.func66 Q0 rfl #[.int .u8 a0] rfl Q9 ?_; (with_reducible refine (mandrelref04_Name.calls k a0 t142 _ ?side1 A2.out).mono ?_); (case side1 => exact GG.nil _); rintro e w8 ⟨rfl, hb⟩; refine ⟨_, rfl, ?_⟩; have n0_ := Aside0.mk (below_step Q1 hb); clear HB; have HB := n0_; clear n0_; (try clear hb); (try clear hb2); (try clear hk); (try clear hi)))
  go_ret2
  exact ⟨Q6, Q1⟩
 rw [if_neg c7] at H
 have c7b0 : (t142.toList == ([105, 54, 52, 46, 99, 111, 110, 115, 116] : List UInt8)) = false := beq_eq_false_iff_ne.mpr c7
 have c7b1 : (t142.toList != ([105, 54, 52, 46, 99, 111, 110, 115, 116] : List UInt8)) = true := bne_iff_ne.mpr c7
 have HC9 := Aside0.mk H
 clear H
 go_enter Tryz.func92, Tryz.ntmps92
 go_upto_if 14 with (first | ((with_reducible refine gate_callee (f := 66) rfl ?_); refine goesL_ (some 6) rfl rfl Tryz.func66 Q0 rfl #[.int .u8 a0] rfl Q9 ?_; (with_reducible refine (mandrelref04_Name.calls k a0 t142 _ ?side1 A2.out).mono ?_); (case side1 => exact GG.nil _); rintro e w10 ⟨rfl, hb⟩; refine ⟨_, rfl, ?_⟩; have n0_ := Aside0.mk (below_step Q1 hb); clear HB; have HB := n0_; clear n0_; (try clear hb); (try clear hb2); (try clear hk); (try clear hi)))
 (try simp only [Act.put, List.setIfInBounds_toArray, List.set_cons_zero, List.set_cons_succ])
 go_cut [14] (fun v14 wc => ∃ (kq : Nat) (x14_8 : Bool), v14 = .bool x14_8 ∧ Aside0 (mandrelref04_Form.j0 kq t142 t142 x14_8 = some (r1, r2)) ∧ Aside0 (kq ≤ k) ∧ Aside0 (Below w.heap.size w wc))
 case first =>
  have H := HC9.out
  clear HC9
  by_cases c11 : t142.toList = ([98, 114] : List UInt8)
  ·rw [if_pos c11] at H
   have c11b0 : (t142.toList == ([98, 114] : List UInt8)) = true := beq_iff_eq.mpr c11
   have c11b1 : (t142.toList != ([98, 114] : List UInt8)) = false := bne_eq_false_iff_eq.mpr c11
   clear c11
   (first | rw [c11b0] | (simp only [i64_w, i32_w]; rw [c11b0]) | skip)
   have H' := Aside0.mk H
   clear H
   go_wp2
   go_meet
   case rel => exact ⟨_, ((t142.toList == ([98, 114] : List UInt8))), Q3, H', ⟨Q15⟩, ⟨Q1⟩⟩
  rw [if_neg c11] at H
  have c11b0 : (t142.toList == ([98, 114] : List UInt8)) = false := beq_eq_false_iff_ne.mpr c11
  have c11b1 : (t142.toList != ([98, 114] : List UInt8)) = true := bne_iff_ne.mpr c11
  (first | rw [c11b0] | (simp only [i64_w, i32_w]; rw [c11b0]) | skip)
  by_cases c12 : t142.toList = ([98, 114, 95, 105, 102] : List UInt8)
  ·rw [if_pos c12] at H
   have c12b0 : (t142.toList == ([98, 114, 95, 105, 102] : List UInt8)) = true := beq_iff_eq.mpr c12
   have c12b1 : (t142.toList != ([98, 114, 95, 105, 102] : List UInt8)) = false := bne_eq_false_iff_eq.mpr c12
   clear c12
   have H' := Aside0.mk H
   clear H
   go_wp2
   go_meet
   case rel => exact ⟨_, ((t142.toList == ([98, 114, 95, 105, 102] : List UInt8))), Q3, H', ⟨Q15⟩, ⟨Q1⟩⟩
  rw [if_neg c12] at H
  have c12b0 : (t142.toList == ([98, 114, 95, 105, 102] : List UInt8)) = false := beq_eq_false_iff_ne.mpr c12
  have c12b1 : (t142.toList != ([98, 114, 95, 105, 102] : List UInt8)) = true := bne_iff_ne.mpr c12
  by_cases c13 : t142.toList = ([99, 97, 108, 108] : List UInt8)
  ·rw [if_pos c13] at H
   have c13b0 : (t142.toList == ([99, 97, 108, 108] : List UInt8)) = true := beq_iff_eq.mpr c13
   have c13b1 : (t142.toList != ([99, 97, 108, 108] : List UInt8)) = false := bne_eq_false_iff_eq.mpr c13
   clear c13
   have H' := Aside0.mk H
   clear H
   go_wp2
   go_meet
   case rel => exact ⟨_, ((t142.toList == ([99, 97, 108, 108] : List UInt8))), Q3, H', ⟨Q15⟩, ⟨Q1⟩⟩
  rw [if_neg c13] at H
  have c13b0 : (t142.toList == ([99, 97, 108, 108] : List UInt8)) = false := beq_eq_false_iff_ne.mpr c13
  have c13b1 : (t142.toList != ([99, 97, 108, 108] : List UInt8)) = true := bne_iff_ne.mpr c13
  by_cases c14 : t142.toList = ([108, 111, 99, 97, 108, 46, 103, 101, 116] : List UInt8)
  ·rw [if_pos c14] at H
   have c14b0 : (t142.toList == ([108, 111, 99, 97, 108, 46, 103, 101, 116] : List UInt8)) = true := beq_iff_eq.mpr c14
   have c14b1 : (t142.toList != ([108, 111, 99, 97, 108, 46, 103, 101, 116] : List UInt8)) = false := bne_eq_false_iff_eq.mpr c14
   clear c14
   have H' := Aside0.mk H
   clear H
   go_wp2
   go_meet
   case rel => exact ⟨_, ((t142.toList == ([108, 111, 99, 97, 108, 46, 103, 101, 116] : List UInt8))), Q3, H', ⟨Q15⟩, ⟨Q1⟩⟩
  rw [if_neg c14] at H
  have c14b0 : (t142.toList == ([108, 111, 99, 97, 108, 46, 103, 101, 116] : List UInt8)) = false := beq_eq_false_iff_ne.mpr c14
  have c14b1 : (t142.toList != ([108, 111, 99, 97, 108, 46, 103, 101, 116] : List UInt8)) = true := bne_iff_ne.mpr c14
  by_cases c15 : t142.toList = ([108, 111, 99, 97, 108, 46, 115, 101, 116] : List UInt8)
  ·rw [if_pos c15] at H
   have c15b0 : (t142.toList == ([108, 111, 99, 97, 108, 46, 115, 101, 116] : List UInt8)) = true := beq_iff_eq.mpr c15
   have c15b1 : (t142.toList != ([108, 111, 99, 97, 108, 46, 115, 101, 116] : List UInt8)) = false := bne_eq_false_iff_eq.mpr c15
   clear c15
   have H' := Aside0.mk H
   clear H
   go_wp2
   go_meet
   case rel => exact ⟨_, ((t142.toList == ([108, 111, 99, 97, 108, 46, 115, 101, 116] : List UInt8))), Q3, H', ⟨Q15⟩, ⟨Q1⟩⟩
  rw [if_neg c15] at H
  have c15b0 : (t142.toList == ([108, 111, 99, 97, 108, 46, 115, 101, 116] : List UInt8)) = false := beq_eq_false_iff_ne.mpr c15
  have c15b1 : (t142.toList != ([108, 111, 99, 97, 108, 46, 115, 101, 116] : List UInt8)) = true := bne_iff_ne.mpr c15
  by_cases c16 : t142.toList = ([108, 111, 99, 97, 108, 46, 116, 101, 101] : List UInt8)
  ·rw [if_pos c16] at H
   have c16b0 : (t142.toList == ([108, 111, 99, 97, 108, 46, 116, 101, 101] : List UInt8)) = true := beq_iff_eq.mpr c16
   have c16b1 : (t142.toList != ([108, 111, 99, 97, 108, 46, 116, 101, 101] : List UInt8)) = false := bne_eq_false_iff_eq.mpr c16
   clear c16
   have H' := Aside0.mk H
   clear H
   go_wp2
   go_meet
   case rel => exact ⟨_, ((t142.toList == ([108, 111, 99, 97, 108, 46, 116, 101, 101] : List UInt8))), Q3, H', ⟨Q15⟩, ⟨Q1⟩⟩
  rw [if_neg c16] at H
  have c16b0 : (t142.toList == ([108, 111, 99, 97, 108, 46, 116, 101, 101] : List UInt8)) = false := beq_eq_false_iff_ne.mpr c16
  have c16b1 : (t142.toList != ([108, 111, 99, 97, 108, 46, 116, 101, 101] : List UInt8)) = true := bne_iff_ne.mpr c16
  by_cases c17 : t142.toList = ([103, 108, 111, 98, 97, 108, 46, 103, 101, 116] : List UInt8)
  ·rw [if_pos c17] at H
   have c17b0 : (t142.toList == ([103, 108, 111, 98, 97, 108, 46, 103, 101, 116] : List UInt8)) = true := beq_iff_eq.mpr c17
   have c17b1 : (t142.toList != ([103, 108, 111, 98, 97, 108, 46, 103, 101, 116] : List UInt8)) = false := bne_eq_false_iff_eq.mpr c17
   clear c17
   have H' := Aside0.mk H
   clear H
   go_wp2
   go_meet
   case rel => exact ⟨_, ((t142.toList == ([103, 108, 111, 98, 97, 108, 46, 103, 101, 116] : List UInt8))), Q3, H', ⟨Q15⟩, ⟨Q1⟩⟩
  rw [if_neg c17] at H
  have c17b0 : (t142.toList == ([103, 108, 111, 98, 97, 108, 46, 103, 101, 116] : List UInt8)) = false := beq_eq_false_iff_ne.mpr c17
  have c17b1 : (t142.toList != ([103, 108, 111, 98, 97, 108, 46, 103, 101, 116] : List UInt8)) = true := bne_iff_ne.mpr c17
  have H' := Aside0.mk H
  clear H
  go_wp2
  go_meet
  case rel => exact ⟨_, ((t142.toList == ([103, 108, 111, 98, 97, 108, 46, 115, 101, 116] : List UInt8))), Q3, H', ⟨Q15⟩, ⟨Q1⟩⟩
 case rest =>
  clear HC9
  try clear c3
  try clear c3b0
  try clear c3b1
  try clear c5
  try clear c5b0
  try clear c5b1
  try clear c7
  try clear c7b0
  try clear c7b1
  obtain ⟨kq, x14_8, rfl, HA, HJ8, HB⟩ := hcut
  cases kq with
  | zero => exact absurd HA.out (by simp [mandrelref04_Form.j0])
  | succ kj8 =>
   have H := HA.out
   clear HA
   simp only [mandrelref04_Form.j0] at H
   by_cases c18 : x14_8 = true
   ·subst c18
    have H1 : (some (3, true)) = some (r1, r2) := Q14
    clear H
    have H := H1
    clear H1
    simp only [Option.some.injEq, Prod.mk.injEq] at H
    obtain ⟨rfl, rfl⟩ := H
    go_wp2
    go_ret2
    exact ⟨Q6, Q1⟩
   replace c18 := Bool.eq_false_iff.mpr c18
   subst c18
   have H1 : (if t142.toList = ([109, 101, 109, 111, 114, 121, 46, 115, 105, 122, 101] : List UInt8) then (mandrelref04_Form.j1 kj8 t142 t142 (t142.toList == ([109, 101, 109, 111, 114, 121, 46, 115, 105, 122, 101] : List UInt8))) else (mandrelref04_Form.j1 kj8 t142 t142 (t142.toList == ([109, 101, 109, 111, 114, 121, 46, 103, 114, 111, 119] : List UInt8)))) = some (r1, r2) := by rw [if_neg (show ¬ (false = true) by decide)] at H; exact H
   clear H
   have H := H1
   clear H1
   have HC19 := Aside0.mk H
   clear H
   go_upto_if 23 with (fail)
   go_cut [23] (fun v23 wc => ∃ (kq : Nat) (x23_18 : Bool), v23 = .bool x23_18 ∧ Aside0 (mandrelref04_Form.j1 kq t142 t142 x23_18 = some (r1, r2)) ∧ Aside0 (kq ≤ kj8) ∧ Aside0 (Below w.heap.size w wc))
   case first =>
    have H := HC19.out
    clear HC19
    by_cases c20 : t142.toList = ([109, 101, 109, 111, 114, 121, 46, 115, 105, 122, 101] : List UInt8)
    ·rw [if_pos c20] at H
     have c20b0 : (t142.toList == ([109, 101, 109, 111, 114, 121, 46, 115, 105, 122, 101] : List UInt8)) = true := beq_iff_eq.mpr c20
     have c20b1 : (t142.toList != ([109, 101, 109, 111, 114, 121, 46, 115, 105, 122, 101] : List UInt8)) = false := bne_eq_false_iff_eq.mpr c20
     clear c20
     (first | rw [c20b0] | (simp only [i64_w, i32_w]; rw [c20b0]) | skip)
     have H' := Aside0.mk H
     clear H
     go_wp2
     go_meet
     case rel => exact ⟨_, ((t142.toList == ([109, 101, 109, 111, 114, 121, 46, 115, 105, 122, 101] : List UInt8))), Q3, H', ⟨by have := HJ8.out; first | omega | exact Nat.le_refl _⟩, ⟨Q1⟩⟩
    rw [if_neg c20] at H
    have c20b0 : (t142.toList == ([109, 101, 109, 111, 114, 121, 46, 115, 105, 122, 101] : List UInt8)) = false := beq_eq_false_iff_ne.mpr c20
    have c20b1 : (t142.toList != ([109, 101, 109, 111, 114, 121, 46, 115, 105, 122, 101] : List UInt8)) = true := bne_iff_ne.mpr c20
    (first | rw [c20b0] | (simp only [i64_w, i32_w]; rw [c20b0]) | skip)
    have H' := Aside0.mk H
    clear H
    go_wp2
    go_meet
    case rel => exact ⟨_, ((t142.toList == ([109, 101, 109, 111, 114, 121, 46, 103, 114, 111, 119] : List UInt8))), Q3, H', ⟨by have := HJ8.out; first | omega | exact Nat.le_refl _⟩, ⟨Q1⟩⟩
   case rest =>
    clear HC19
    try clear c3
    try clear c3b0
    try clear c3b1
    try clear c5
    try clear c5b0
    try clear c5b1
    try clear c7
    try clear c7b0
    try clear c7b1
    try clear c18
    obtain ⟨kq, x23_18, rfl, HA, HJ18, HB⟩ := hcut
    cases kq with
    | zero => exact absurd HA.out (by simp [mandrelref04_Form.j1])
    | succ kj18 =>
     have H := HA.out
     clear HA
     simp only [mandrelref04_Form.j1] at H
     by_cases c21 : x23_18 = true
     ·subst c21
      have H1 : (some (5, true)) = some (r1, r2) := Q14
      clear H
      have H := H1
      clear H1
      simp only [Option.some.injEq, Prod.mk.injEq] at H
      obtain ⟨rfl, rfl⟩ := H
      go_wp2
      go_ret2
      exact ⟨Q6, Q1⟩
     replace c21 := Bool.eq_false_iff.mpr c21
     subst c21
     have H1 : (if t142.toList = ([98, 108, 111, 99, 107] : List UInt8) then (mandrelref04_Form.j2 kj18 t142 t142 (t142.toList == ([98, 108, 111, 99, 107] : List UInt8))) else (mandrelref04_Form.j2 kj18 t142 t142 (t142.toList == ([108, 111, 111, 112] : List UInt8)))) = some (r1, r2) := by rw [if_neg (show ¬ (false = true) by decide)] at H; exact H
     clear H
     have H := H1
     clear H1
     have HC22 := Aside0.mk H
     clear H
     go_upto_if 26 with (fail)
     go_cut [26] (fun v26 wc => ∃ (kq : Nat) (x26_21 : Bool), v26 = .bool x26_21 ∧ Aside0 (mandrelref04_Form.j2 kq t142 t142 x26_21 = some (r1, r2)) ∧ Aside0 (kq ≤ kj18) ∧ Aside0 (Below w.heap.size w wc))
     case first =>
      have H := HC22.out
      clear HC22
      by_cases c23 : t142.toList = ([98, 108, 111, 99, 107] : List UInt8)
      ·rw [if_pos c23] at H
       have c23b0 : (t142.toList == ([98, 108, 111, 99, 107] : List UInt8)) = true := beq_iff_eq.mpr c23
       have c23b1 : (t142.toList != ([98, 108, 111, 99, 107] : List UInt8)) = false := bne_eq_false_iff_eq.mpr c23
       clear c23
       (first | rw [c23b0] | (simp only [i64_w, i32_w]; rw [c23b0]) | skip)
       have H' := Aside0.mk H
       clear H
       go_wp2
       go_meet
       case rel => exact ⟨_, ((t142.toList == ([98, 108, 111, 99, 107] : List UInt8))), Q3, H', ⟨by have := HJ8.out; have := HJ18.out; first | omega | exact Nat.le_refl _⟩, ⟨Q1⟩⟩
      rw [if_neg c23] at H
      have c23b0 : (t142.toList == ([98, 108, 111, 99, 107] : List UInt8)) = false := beq_eq_false_iff_ne.mpr c23
      have c23b1 : (t142.toList != ([98, 108, 111, 99, 107] : List UInt8)) = true := bne_iff_ne.mpr c23
      (first | rw [c23b0] | (simp only [i64_w, i32_w]; rw [c23b0]) | skip)
      have H' := Aside0.mk H
      clear H
      go_wp2
      go_meet
      case rel => exact ⟨_, ((t142.toList == ([108, 111, 111, 112] : List UInt8))), Q3, H', ⟨by have := HJ8.out; have := HJ18.out; first | omega | exact Nat.le_refl _⟩, ⟨Q1⟩⟩
     case rest =>
      clear HC22
      try clear c3
      try clear c3b0
      try clear c3b1
      try clear c5
      try clear c5b0
      try clear c5b1
      try clear c7
      try clear c7b0
      try clear c7b1
      try clear c18
      try clear c21
      obtain ⟨kq, x26_21, rfl, HA, HJ21, HB⟩ := hcut
      cases kq with
      | zero => exact absurd HA.out (by simp [mandrelref04_Form.j2])
      | succ kj21 =>
       have H := HA.out
       clear HA
       simp only [mandrelref04_Form.j2] at H
       by_cases c24 : x26_21 = true
       ·subst c24
        have H1 : (some (6, true)) = some (r1, r2) := Q14
        clear H
        have H := H1
        clear H1
        simp only [Option.some.injEq, Prod.mk.injEq] at H
        obtain ⟨rfl, rfl⟩ := H
        go_wp2
        go_ret2
        exact ⟨Q6, Q1⟩
       replace c24 := Bool.eq_false_iff.mpr c24
       subst c24
       have H1 : (if t142.toList = ([105, 102] : List UInt8) then (some (7, true)) else (if t142.toList = ([98, 114, 95, 116, 97, 98, 108, 101] : List UInt8) then (some (8, true)) else (if t142.toList = ([99, 97, 108, 108, 95, 105, 110, 100, 105, 114, 101, 99, 116] : List UInt8) then (some (9, true)) else (if 1 ≤ (t142.size : Int) then ((mandrelref04_has.f (t142.extract 1 t142.size) (⟨#[51, 50, 46, 108, 111, 97, 100]⟩ : ByteArray)).bind fun t143 => (if t143 = true then (some (4, true)) else ((mandrelref04_has.f (t142.extract 1 t142.size) (⟨#[54, 52, 46, 108, 111, 97, 100]⟩ : ByteArray)).bind fun t144 => (if t144 = true then (some (4, true)) else ((mandrelref04_has.f (t142.extract 1 t142.size) (⟨#[51, 50, 46, 115, 116, 111, 114, 101]⟩ : ByteArray)).bind fun t145 => (if t145 = true then (some (4, true)) else ((mandrelref04_has.f (t142.extract 1 t142.size) (⟨#[54, 52, 46, 115, 116, 111, 114, 101]⟩ : ByteArray)).bind fun t146 => (if t146 = true then (some (4, true)) else (some (0, true)))))))))) else (none))))) = some (r1, r2) := by rw [if_neg (show ¬ (false = true) by decide)] at H; exact H
       clear H
       have H := H1
       clear H1
       by_cases c25 : t142.toList = ([105, 102] : List UInt8)
       ·rw [if_pos c25] at H
        have c25b0 : (t142.toList == ([105, 102] : List UInt8)) = true := beq_iff_eq.mpr c25
        have c25b1 : (t142.toList != ([105, 102] : List UInt8)) = false := bne_eq_false_iff_eq.mpr c25
        clear c25
        simp only [Option.some.injEq, Prod.mk.injEq] at H
        obtain ⟨rfl, rfl⟩ := H
        go_wp2
        go_ret2
        exact ⟨Q6, Q1⟩
       rw [if_neg c25] at H
       have c25b0 : (t142.toList == ([105, 102] : List UInt8)) = false := beq_eq_false_iff_ne.mpr c25
       have c25b1 : (t142.toList != ([105, 102] : List UInt8)) = true := bne_iff_ne.mpr c25
       by_cases c26 : t142.toList = ([98, 114, 95, 116, 97, 98, 108, 101] : List UInt8)
       ·rw [if_pos c26] at H
        have c26b0 : (t142.toList == ([98, 114, 95, 116, 97, 98, 108, 101] : List UInt8)) = true := beq_iff_eq.mpr c26
        have c26b1 : (t142.toList != ([98, 114, 95, 116, 97, 98, 108, 101] : List UInt8)) = false := bne_eq_false_iff_eq.mpr c26
        clear c26
        simp only [Option.some.injEq, Prod.mk.injEq] at H
        obtain ⟨rfl, rfl⟩ := H
        go_wp2
        go_ret2
        exact ⟨Q6, Q1⟩
       rw [if_neg c26] at H
       have c26b0 : (t142.toList == ([98, 114, 95, 116, 97, 98, 108, 101] : List UInt8)) = false := beq_eq_false_iff_ne.mpr c26
       have c26b1 : (t142.toList != ([98, 114, 95, 116, 97, 98, 108, 101] : List UInt8)) = true := bne_iff_ne.mpr c26
       by_cases c27 : t142.toList = ([99, 97, 108, 108, 95, 105, 110, 100, 105, 114, 101, 99, 116] : List UInt8)
       ·rw [if_pos c27] at H
        have c27b0 : (t142.toList == ([99, 97, 108, 108, 95, 105, 110, 100, 105, 114, 101, 99, 116] : List UInt8)) = true := beq_iff_eq.mpr c27
        have c27b1 : (t142.toList != ([99, 97, 108, 108, 95, 105, 110, 100, 105, 114, 101, 99, 116] : List UInt8)) = false := bne_eq_false_iff_eq.mpr c27
        clear c27
        simp only [Option.some.injEq, Prod.mk.injEq] at H
        obtain ⟨rfl, rfl⟩ := H
        go_wp2
        go_ret2
        exact ⟨Q6, Q1⟩
       rw [if_neg c27] at H
       have c27b0 : (t142.toList == ([99, 97, 108, 108, 95, 105, 110, 100, 105, 114, 101, 99, 116] : List UInt8)) = false := beq_eq_false_iff_ne.mpr c27
       have c27b1 : (t142.toList != ([99, 97, 108, 108, 95, 105, 110, 100, 105, 114, 101, 99, 116] : List UInt8)) = true := bne_iff_ne.mpr c27
       by_cases c28 : 1 ≤ (t142.size : Int)
       ·rw [if_pos c28] at H
        have c28b0 := eq_true c28
        have c28b1 : decide (1 ≤ (t142.size : Int)) = true := decide_eq_true c28
        clear c28
        replace H := Option.bind_eq_some_iff.mp H
        obtain ⟨t143, A290, H⟩ := H
        replace H : (if t143 = true then (some (4, true)) else ((mandrelref04_has.f (t142.extract 1 t142.size) (⟨#[54, 52, 46, 108, 111, 97, 100]⟩ : ByteArray)).bind fun t144 => (if t144 = true then (some (4, true)) else ((mandrelref04_has.f (t142.extract 1 t142.size) (⟨#[51, 50, 46, 115, 116, 111, 114, 101]⟩ : ByteArray)).bind fun t145 => (if t145 = true then (some (4, true)) else ((mandrelref04_has.f (t142.extract 1 t142.size) (⟨#[54, 52, 46, 115, 116, 111, 114, 101]⟩ : ByteArray)).bind fun t146 => (if t146 = true then (some (4, true)) else (some (0, true))))))))) = some (r1, r2) := H
        have A29 := Aside0.mk A290
        clear A290
        by_cases c30 : t143 = true
        ·subst c30
         have H1 : (some (4, true)) = some (r1, r2) := Q14
         clear H
         have H := H1
         clear H1
         simp only [Option.some.injEq, Prod.mk.injEq] at H
         obtain ⟨rfl, rfl⟩ := H
         go_wp2_with (first | ((with_reducible refine gate_callee (f := 108) rfl ?_); refine goesL_ (some 37) rfl rfl Tryz.func108 Q0 rfl #[.string (t142.extract 1 t142.size), .string (⟨#[51, 50, 46, 108, 111, 97, 100]⟩ : ByteArray)] rfl Q9 ?_; (with_reducible refine (mandrelref04_has.calls (t142.extract 1 t142.size) (⟨#[51, 50, 46, 108, 111, 97, 100]⟩ : ByteArray) true _ ?side1 A29.out).mono ?_); (case side1 => exact GG.nil _); rintro e w' ⟨rfl, ⟨nd, rfl⟩⟩; refine ⟨_, rfl, ?_⟩))
         go_ret2
         exact ⟨Q6, Q1⟩
        replace c30 := Bool.eq_false_iff.mpr c30
        subst c30
        have H1 : ((mandrelref04_has.f (t142.extract 1 t142.size) (⟨#[54, 52, 46, 108, 111, 97, 100]⟩ : ByteArray)).bind fun t144 => (if t144 = true then (some (4, true)) else ((mandrelref04_has.f (t142.extract 1 t142.size) (⟨#[51, 50, 46, 115, 116, 111, 114, 101]⟩ : ByteArray)).bind fun t145 => (if t145 = true then (some (4, true)) else ((mandrelref04_has.f (t142.extract 1 t142.size) (⟨#[54, 52, 46, 115, 116, 111, 114, 101]⟩ : ByteArray)).bind fun t146 => (if t146 = true then (some (4, true)) else (some (0, true)))))))) = some (r1, r2) := by rw [if_neg (show ¬ (false = true) by decide)] at H; exact H
        clear H
        have H := H1
        clear H1
        have c31b0 := eq_true (of_decide_eq_true Q4 : 1 ≤ (t142.size : Int))
        replace H := Option.bind_eq_some_iff.mp H
        obtain ⟨t144, A320, H⟩ := H
        replace H : (if t144 = true then (some (4, true)) else ((mandrelref04_has.f (t142.extract 1 t142.size) (⟨#[51, 50, 46, 115, 116, 111, 114, 101]⟩ : ByteArray)).bind fun t145 => (if t145 = true then (some (4, true)) else ((mandrelref04_has.f (t142.extract 1 t142.size) (⟨#[54, 52, 46, 115, 116, 111, 114, 101]⟩ : ByteArray)).bind fun t146 => (if t146 = true then (some (4, true)) else (some (0, true))))))) = some (r1, r2) := H
        have A32 := Aside0.mk A320
        clear A320
        by_cases c33 : t144 = true
        ·subst c33
         have H1 : (some (4, true)) = some (r1, r2) := Q14
         clear H
         have H := H1
         clear H1
         simp only [Option.some.injEq, Prod.mk.injEq] at H
         obtain ⟨rfl, rfl⟩ := H
         go_wp2_with (first | ((with_reducible refine gate_callee (f := 108) rfl ?_); refine goesL_ (some 37) rfl rfl Tryz.func108 Q0 rfl #[.string (t142.extract 1 t142.size), .string (⟨#[51, 50, 46, 108, 111, 97, 100]⟩ : ByteArray)] rfl Q9 ?_; (with_reducible refine (mandrelref04_has.calls (t142.extract 1 t142.size) (⟨#[51, 50, 46, 108, 111, 97, 100]⟩ : ByteArray) false _ ?side1 A29.out).mono ?_); (case side1 => exact GG.nil _); rintro e w' ⟨rfl, ⟨nd, rfl⟩⟩; refine ⟨_, rfl, ?_⟩) | (go_at_call 108; (with_reducible refine (mandrelref04_has.calls (t142.extract 1 t142.size) (⟨#[54, 52, 46, 108, 111, 97, 100]⟩ : ByteArray) true _ ?side1 A32.out).mono ?_); (case side1 => exact GG.nil _); rintro e w' ⟨rfl, ⟨nd, rfl⟩⟩))
         go_ret2
         exact ⟨Q6, Q1⟩
        replace c33 := Bool.eq_false_iff.mpr c33
        subst c33
        have H1 : ((mandrelref04_has.f (t142.extract 1 t142.size) (⟨#[51, 50, 46, 115, 116, 111, 114, 101]⟩ : ByteArray)).bind fun t145 => (if t145 = true then (some (4, true)) else ((mandrelref04_has.f (t142.extract 1 t142.size) (⟨#[54, 52, 46, 115, 116, 111, 114, 101]⟩ : ByteArray)).bind fun t146 => (if t146 = true then (some (4, true)) else (some (0, true)))))) = some (r1, r2) := by rw [if_neg (show ¬ (false = true) by decide)] at H; exact H
        clear H
        have H := H1
        clear H1
        have c34b0 := eq_true (of_decide_eq_true Q4 : 1 ≤ (t142.size : Int))
        replace H := Option.bind_eq_some_iff.mp H
        obtain ⟨t145, A350, H⟩ := H
        replace H : (if t145 = true then (some (4, true)) else ((mandrelref04_has.f (t142.extract 1 t142.size) (⟨#[54, 52, 46, 115, 116, 111, 114, 101]⟩ : ByteArray)).bind fun t146 => (if t146 = true then (some (4, true)) else (some (0, true))))) = some (r1, r2) := H
        have A35 := Aside0.mk A350
        clear A350
        by_cases c36 : t145 = true
        ·subst c36
         have H1 : (some (4, true)) = some (r1, r2) := Q14
         clear H
         have H := H1
         clear H1
         simp only [Option.some.injEq, Prod.mk.injEq] at H
         obtain ⟨rfl, rfl⟩ := H
         go_wp2_with (first | ((with_reducible refine gate_callee (f := 108) rfl ?_); refine goesL_ (some 37) rfl rfl Tryz.func108 Q0 rfl #[.string (t142.extract 1 t142.size), .string (⟨#[51, 50, 46, 108, 111, 97, 100]⟩ : ByteArray)] rfl Q9 ?_; (with_reducible refine (mandrelref04_has.calls (t142.extract 1 t142.size) (⟨#[51, 50, 46, 108, 111, 97, 100]⟩ : ByteArray) false _ ?side1 A29.out).mono ?_); (case side1 => exact GG.nil _); rintro e w' ⟨rfl, ⟨nd, rfl⟩⟩; refine ⟨_, rfl, ?_⟩) | (go_at_call 108; (with_reducible refine (mandrelref04_has.calls (t142.extract 1 t142.size) (⟨#[54, 52, 46, 108, 111, 97, 100]⟩ : ByteArray) false _ ?side1 A32.out).mono ?_); (case side1 => exact GG.nil _); rintro e w' ⟨rfl, ⟨nd, rfl⟩⟩) | (go_at_call 108; (with_reducible refine (mandrelref04_has.calls (t142.extract 1 t142.size) (⟨#[51, 50, 46, 115, 116, 111, 114, 101]⟩ : ByteArray) true _ ?side1 A35.out).mono ?_); (case side1 => exact GG.nil _); rintro e w' ⟨rfl, ⟨nd, rfl⟩⟩))
         go_ret2
         exact ⟨Q6, Q1⟩
        replace c36 := Bool.eq_false_iff.mpr c36
        subst c36
        have H1 : ((mandrelref04_has.f (t142.extract 1 t142.size) (⟨#[54, 52, 46, 115, 116, 111, 114, 101]⟩ : ByteArray)).bind fun t146 => (if t146 = true then (some (4, true)) else (some (0, true)))) = some (r1, r2) := by rw [if_neg (show ¬ (false = true) by decide)] at H; exact H
        clear H
        have H := H1
        clear H1
        have c37b0 := eq_true (of_decide_eq_true Q4 : 1 ≤ (t142.size : Int))
        replace H := Option.bind_eq_some_iff.mp H
        obtain ⟨t146, A380, H⟩ := H
        replace H : (if t146 = true then (some (4, true)) else (some (0, true))) = some (r1, r2) := H
        have A38 := Aside0.mk A380
        clear A380
        by_cases c39 : t146 = true
        ·subst c39
         have H1 : (some (4, true)) = some (r1, r2) := Q14
         clear H
         have H := H1
         clear H1
         simp only [Option.some.injEq, Prod.mk.injEq] at H
         obtain ⟨rfl, rfl⟩ := H
         go_wp2_with (first | ((with_reducible refine gate_callee (f := 108) rfl ?_); refine goesL_ (some 37) rfl rfl Tryz.func108 Q0 rfl #[.string (t142.extract 1 t142.size), .string (⟨#[51, 50, 46, 108, 111, 97, 100]⟩ : ByteArray)] rfl Q9 ?_; (with_reducible refine (mandrelref04_has.calls (t142.extract 1 t142.size) (⟨#[51, 50, 46, 108, 111, 97, 100]⟩ : ByteArray) false _ ?side1 A29.out).mono ?_); (case side1 => exact GG.nil _); rintro e w' ⟨rfl, ⟨nd, rfl⟩⟩; refine ⟨_, rfl, ?_⟩) | (go_at_call 108; (with_reducible refine (mandrelref04_has.calls (t142.extract 1 t142.size) (⟨#[54, 52, 46, 108, 111, 97, 100]⟩ : ByteArray) false _ ?side1 A32.out).mono ?_); (case side1 => exact GG.nil _); rintro e w' ⟨rfl, ⟨nd, rfl⟩⟩) | (go_at_call 108; (with_reducible refine (mandrelref04_has.calls (t142.extract 1 t142.size) (⟨#[51, 50, 46, 115, 116, 111, 114, 101]⟩ : ByteArray) false _ ?side1 A35.out).mono ?_); (case side1 => exact GG.nil _); rintro e w' ⟨rfl, ⟨nd, rfl⟩⟩) | (go_at_call 108; (with_reducible refine (mandrelref04_has.calls (t142.extract 1 t142.size) (⟨#[54, 52, 46, 115, 116, 111, 114, 101]⟩ : ByteArray) true _ ?side1 A38.out).mono ?_); (case side1 => exact GG.nil _); rintro e w' ⟨rfl, ⟨nd, rfl⟩⟩))
         go_ret2
         exact ⟨Q6, Q1⟩
        replace c39 := Bool.eq_false_iff.mpr c39
        subst c39
        have H1 : (some (0, true)) = some (r1, r2) := by rw [if_neg (show ¬ (false = true) by decide)] at H; exact H
        clear H
        have H := H1
        clear H1
        simp only [Option.some.injEq, Prod.mk.injEq] at H
        obtain ⟨rfl, rfl⟩ := H
        go_wp2_with (first | ((with_reducible refine gate_callee (f := 108) rfl ?_); refine goesL_ (some 37) rfl rfl Tryz.func108 Q0 rfl #[.string (t142.extract 1 t142.size), .string (⟨#[51, 50, 46, 108, 111, 97, 100]⟩ : ByteArray)] rfl Q9 ?_; (with_reducible refine (mandrelref04_has.calls (t142.extract 1 t142.size) (⟨#[51, 50, 46, 108, 111, 97, 100]⟩ : ByteArray) false _ ?side1 A29.out).mono ?_); (case side1 => exact GG.nil _); rintro e w' ⟨rfl, ⟨nd, rfl⟩⟩; refine ⟨_, rfl, ?_⟩) | (go_at_call 108; (with_reducible refine (mandrelref04_has.calls (t142.extract 1 t142.size) (⟨#[54, 52, 46, 108, 111, 97, 100]⟩ : ByteArray) false _ ?side1 A32.out).mono ?_); (case side1 => exact GG.nil _); rintro e w' ⟨rfl, ⟨nd, rfl⟩⟩) | (go_at_call 108; (with_reducible refine (mandrelref04_has.calls (t142.extract 1 t142.size) (⟨#[51, 50, 46, 115, 116, 111, 114, 101]⟩ : ByteArray) false _ ?side1 A35.out).mono ?_); (case side1 => exact GG.nil _); rintro e w' ⟨rfl, ⟨nd, rfl⟩⟩) | (go_at_call 108; (with_reducible refine (mandrelref04_has.calls (t142.extract 1 t142.size) (⟨#[54, 52, 46, 115, 116, 111, 114, 101]⟩ : ByteArray) false _ ?side1 A38.out).mono ?_); (case side1 => exact GG.nil _); rintro e w' ⟨rfl, ⟨nd, rfl⟩⟩))
        go_ret2
        exact ⟨Q6, Q1⟩
       rw [if_neg c28] at H
       exact absurd H Q8
def mandrelref04_Kind.f (a0 : ByteArray) : Option (Int) := (mandrelref04_has.f a0 (⟨#[105, 54, 52, 46]⟩ : ByteArray)).bind fun t147 => (if t147 = true then (some 126) else (some 127))
set_option maxHeartbeats 8000000 in
set_option maxRecDepth 100000 in
theorem mandrelref04_Kind.calls (a0 : ByteArray) (r : Int) (w : World) (hG : GG [] w) (h : mandrelref04_Kind.f a0 = some r) :
  Calls Tryz.prog 107 #[.string a0] w fun e w' => e = .returned (.int .u8 r) ∧ Drawn0 w w' := by
 have HG := Aside0.mk hG
 clear hG
 have H : ((mandrelref04_has.f a0 (⟨#[105, 54, 52, 46]⟩ : ByteArray)).bind fun t147 => (if t147 = true then (some 126) else (some 127))) = some r := h
 clear h
 replace H := Option.bind_eq_some_iff.mp H
 obtain ⟨t147, A20, H⟩ := H
 replace H : (if t147 = true then (some 126) else (some 127)) = some r := H
 have A2 := Aside0.mk A20
 clear A20
 by_cases c3 : t147 = true
 ·subst c3
  have H1 : (some 126) = some r := Q14
  clear H
  have H := H1
  clear H1
  obtain rfl := Option.some.inj H
  go_enter Tryz.func107, Tryz.ntmps107
  go_wp2_with (first | ((with_reducible refine gate_callee (f := 108) rfl ?_); refine goesL_ (some 4) rfl rfl Tryz.func108 Q0 rfl #[.string a0, .string (⟨#[105, 54, 52, 46]⟩ : ByteArray)] rfl Q9 ?_; (with_reducible refine (mandrelref04_has.calls a0 (⟨#[105, 54, 52, 46]⟩ : ByteArray) true _ ?side1 A2.out).mono ?_); (case side1 => exact GG.nil _); rintro e w' ⟨rfl, ⟨nd, rfl⟩⟩; refine ⟨_, rfl, ?_⟩))
  go_ret
  exact ⟨Q3, Q29⟩
 replace c3 := Bool.eq_false_iff.mpr c3
 subst c3
 have H1 : (some 127) = some r := by rw [if_neg (show ¬ (false = true) by decide)] at H; exact H
 clear H
 have H := H1
 clear H1
 obtain rfl := Option.some.inj H
 go_enter Tryz.func107, Tryz.ntmps107
 go_wp2_with (first | ((with_reducible refine gate_callee (f := 108) rfl ?_); refine goesL_ (some 4) rfl rfl Tryz.func108 Q0 rfl #[.string a0, .string (⟨#[105, 54, 52, 46]⟩ : ByteArray)] rfl Q9 ?_; (with_reducible refine (mandrelref04_has.calls a0 (⟨#[105, 54, 52, 46]⟩ : ByteArray) false _ ?side1 A2.out).mono ?_); (case side1 => exact GG.nil _); rintro e w' ⟨rfl, ⟨nd, rfl⟩⟩; refine ⟨_, rfl, ?_⟩))
 go_ret
 exact ⟨Q3, Q29⟩
mutual
def mandrelref04_Sign.j0 : Nat → Int → ByteArray → Bool → Option (List Int × Int × Bool)
 | 0, _, _, _ => none
 | k + 1, x0, x5, x19 => if x19 = true then (some (([] : List Int), 0, false)) else ((mandrelref04_Kind.f x5).bind fun t149 => ((mandrelref04_Form.f k x0).bind fun bt150 => (if bt150.1 = 1 then (mandrelref04_Sign.j1 k x0 x5 t149 bt150.1 true) else (mandrelref04_Sign.j1 k x0 x5 t149 bt150.1 (bt150.1 == 2)))))
def mandrelref04_Sign.j1 : Nat → Int → ByteArray → Int → Int → Bool → Option (List Int × Int × Bool)
 | 0, _, _, _, _, _ => none
 | k + 1, x0, x5, x6, x7, x27 => if x27 = true then (some (([] : List Int), x6, true)) else (if x5.toList = ([109, 101, 109, 111, 114, 121, 46, 115, 105, 122, 101] : List UInt8) then (some (([] : List Int), 127, true)) else (if x5.toList = ([109, 101, 109, 111, 114, 121, 46, 103, 114, 111, 119] : List UInt8) then (some ((([127] : List Int)), 127, true)) else (if x7 = 4 then (if 4 ≤ (x5.size : Int) then ((mandrelref04_has.f (x5.extract 4 x5.size) (⟨#[108, 111, 97, 100]⟩ : ByteArray)).bind fun t155 => (mandrelref04_Sign.j2 k x0 x6 x7 t155)) else (none)) else (mandrelref04_Sign.j2 k x0 x6 x7 false))))
def mandrelref04_Sign.j2 : Nat → Int → Int → Int → Bool → Option (List Int × Int × Bool)
 | 0, _, _, _, _ => none
 | k + 1, x0, x6, x7, x42 => if x42 = true then (some ((([127] : List Int)), x6, true)) else (if x7 = 4 then (some ((([127, x6] : List Int)), 0, true)) else ((mandrelref02_Name.f k x0).bind fun bt162 => (if bt162.2 = 64 then (mandrelref04_Sign.j3 k bt162.1 126) else (mandrelref04_Sign.j3 k bt162.1 127))))
def mandrelref04_Sign.j3 : Nat → ByteArray → Int → Option (List Int × Int × Bool)
 | 0, _, _ => none
 | k + 1, x9, x11 => if x9.toList = ([119, 114, 97, 112] : List UInt8) then (some ((([126] : List Int)), 127, true)) else (if x9.toList = ([101, 120, 116, 101, 110, 100, 95, 115] : List UInt8) then (mandrelref04_Sign.j4 k x11 x9 (x9.toList == ([101, 120, 116, 101, 110, 100, 95, 115] : List UInt8))) else (mandrelref04_Sign.j4 k x11 x9 (x9.toList == ([101, 120, 116, 101, 110, 100, 95, 117] : List UInt8))))
def mandrelref04_Sign.j4 : Nat → Int → ByteArray → Bool → Option (List Int × Int × Bool)
 | 0, _, _, _ => none
 | k + 1, x11, x64, x68 => if x68 = true then (some ((([127] : List Int)), 126, true)) else (if x64.toList = ([101, 113, 122] : List UInt8) then (some ((([x11] : List Int)), 127, true)) else (if x64.toList = ([99, 108, 122] : List UInt8) then (mandrelref04_Sign.j5 k x11 x64 (x64.toList == ([99, 108, 122] : List UInt8))) else (if x64.toList = ([99, 116, 122] : List UInt8) then (mandrelref04_Sign.j5 k x11 x64 (x64.toList == ([99, 116, 122] : List UInt8))) else (mandrelref04_Sign.j5 k x11 x64 (x64.toList == ([112, 111, 112, 99, 110, 116] : List UInt8))))))
def mandrelref04_Sign.j5 : Nat → Int → ByteArray → Bool → Option (List Int × Int × Bool)
 | 0, _, _, _ => none
 | k + 1, x11, x64, x76 => if x76 = true then (some ((([x11] : List Int)), x11, true)) else (if x64.toList = ([101, 113] : List UInt8) then (some ((([x11, x11] : List Int)), 127, true)) else (if x64.toList = ([110, 101] : List UInt8) then (some ((([x11, x11] : List Int)), 127, true)) else (if x64.toList = ([108, 116, 95, 115] : List UInt8) then (some ((([x11, x11] : List Int)), 127, true)) else (if x64.toList = ([108, 116, 95, 117] : List UInt8) then (some ((([x11, x11] : List Int)), 127, true)) else (if x64.toList = ([103, 116, 95, 115] : List UInt8) then (some ((([x11, x11] : List Int)), 127, true)) else (if x64.toList = ([103, 116, 95, 117] : List UInt8) then (some ((([x11, x11] : List Int)), 127, true)) else (if x64.toList = ([108, 101, 95, 115] : List UInt8) then (some ((([x11, x11] : List Int)), 127, true)) else (if x64.toList = ([108, 101, 95, 117] : List UInt8) then (some ((([x11, x11] : List Int)), 127, true)) else (if x64.toList = ([103, 101, 95, 115] : List UInt8) then (some ((([x11, x11] : List Int)), 127, true)) else (if x64.toList = ([103, 101, 95, 117] : List UInt8) then (some ((([x11, x11] : List Int)), 127, true)) else (some ((([x11, x11] : List Int)), x11, true))))))))))))
end
def mandrelref04_Sign.f (k : Nat) (a0 : Int) : Option (List Int × Int × Bool) := (mandrelref04_Name.f k a0).bind fun t148 => (if t148.toList = ([] : List UInt8) then (mandrelref04_Sign.j0 k a0 t148 true) else (mandrelref04_Sign.j0 k a0 t148 (decide (a0 ≤ 36))))
set_option maxHeartbeats 8000000 in
set_option maxRecDepth 100000 in
theorem mandrelref04_Sign.calls (k : Nat) (a0 : Int) (r1 : List Int) (r2 : Int) (r3 : Bool) (w : World) (hG : GG [] w) (h : mandrelref04_Sign.f k a0 = some (r1, r2, r3)) :
  Calls Tryz.prog 91 #[.int .u8 a0] w fun e w' => ∃ v0_ : Value, e = .returned (.tuple #[v0_, .int .u8 r2, .bool r3]) ∧ Kd.R (Kd.int .u8) 5 w' w.heap.size (fun _ => True) v0_ r1 ∧ Below w.heap.size w w' := by
 have HB := Aside0.mk (Below.refl w.heap.size w)
 have HG := Aside0.mk hG
 clear hG
 have H : ((mandrelref04_Name.f k a0).bind fun t148 => (if t148.toList = ([] : List UInt8) then (mandrelref04_Sign.j0 k a0 t148 true) else (mandrelref04_Sign.j0 k a0 t148 (decide (a0 ≤ 36))))) = some (r1, r2, r3) := h
 clear h
 replace H := Option.bind_eq_some_iff.mp H
 obtain ⟨t148, A20, H⟩ := H
 replace H : (if t148.toList = ([] : List UInt8) then (mandrelref04_Sign.j0 k a0 t148 true) else (mandrelref04_Sign.j0 k a0 t148 (decide (a0 ≤ 36)))) = some (r1, r2, r3) := H
 have A2 := Aside0.mk A20
 clear A20
 have HC3 := Aside0.mk H
 clear H
 go_enter Tryz.func91, Tryz.ntmps91
 go_upto_region 2 with (first | ((with_reducible refine gate_callee (f := 66) rfl ?_); refine goesL_ (some 13) rfl rfl Tryz.func66 Q0 rfl #[.int .u8 a0] rfl Q9 ?_; (with_reducible refine (mandrelref04_Name.calls k a0 t148 _ ?side1 A2.out).mono ?_); (case side1 => exact GG.nil _); rintro e w4 ⟨rfl, hb⟩; refine ⟨_, rfl, ?_⟩; have n0_ := Aside0.mk (below_step Q1 hb); clear HB; have HB := n0_; clear n0_; (try clear hb); (try clear hb2); (try clear hk); (try clear hi)))
 (try simp only [Act.put, List.setIfInBounds_toArray, List.set_cons_zero, List.set_cons_succ])
 go_cut [19] (fun v19 wc => ∃ (kq : Nat) (x19_2 : Bool), v19 = .bool x19_2 ∧ Aside0 (mandrelref04_Sign.j0 kq a0 t148 x19_2 = some (r1, r2, r3)) ∧ Aside0 (kq ≤ k) ∧ Aside0 (Below w.heap.size w wc))
 case first =>
  have H := HC3.out
  clear HC3
  by_cases c5 : t148.toList = ([] : List UInt8)
  ·rw [if_pos c5] at H
   have c5b0 : (t148.toList == ([] : List UInt8)) = true := beq_iff_eq.mpr c5
   have c5b1 : (t148.toList != ([] : List UInt8)) = false := bne_eq_false_iff_eq.mpr c5
   clear c5
   (first | rw [c5b0] | (simp only [i64_w, i32_w]; rw [c5b0]) | skip)
   have H' := Aside0.mk H
   clear H
   go_wp2
   go_meet
   case rel => exact ⟨_, (true), Q3, H', ⟨Q15⟩, ⟨Q1⟩⟩
  rw [if_neg c5] at H
  have c5b0 : (t148.toList == ([] : List UInt8)) = false := beq_eq_false_iff_ne.mpr c5
  have c5b1 : (t148.toList != ([] : List UInt8)) = true := bne_iff_ne.mpr c5
  (first | rw [c5b0] | (simp only [i64_w, i32_w]; rw [c5b0]) | skip)
  have H' := Aside0.mk H
  clear H
  go_wp2
  go_meet
  case rel => exact ⟨_, (decide (a0 ≤ 36)), Q3, H', ⟨Q15⟩, ⟨Q1⟩⟩
 case rest =>
  clear HC3
  obtain ⟨kq, x19_2, rfl, HA, HJ2, HB⟩ := hcut
  cases kq with
  | zero => exact absurd HA.out (by simp [mandrelref04_Sign.j0])
  | succ kj2 =>
   have H := HA.out
   clear HA
   simp only [mandrelref04_Sign.j0] at H
   by_cases c6 : x19_2 = true
   ·subst c6
    have H1 : (some (([] : List Int), 0, false)) = some (r1, r2, r3) := Q14
    clear H
    have H := H1
    clear H1
    simp only [Option.some.injEq, Prod.mk.injEq] at H
    obtain ⟨rfl, rfl, rfl⟩ := H
    go_wp2
    go_ret3
    exact ⟨_, Q6, Q54, Q1⟩
   replace c6 := Bool.eq_false_iff.mpr c6
   subst c6
   have H1 : ((mandrelref04_Kind.f t148).bind fun t149 => ((mandrelref04_Form.f kj2 a0).bind fun bt150 => (if bt150.1 = 1 then (mandrelref04_Sign.j1 kj2 a0 t148 t149 bt150.1 true) else (mandrelref04_Sign.j1 kj2 a0 t148 t149 bt150.1 (bt150.1 == 2))))) = some (r1, r2, r3) := by rw [if_neg (show ¬ (false = true) by decide)] at H; exact H
   clear H
   have H := H1
   clear H1
   replace H := Option.bind_eq_some_iff.mp H
   obtain ⟨t149, A70, H⟩ := H
   replace H : ((mandrelref04_Form.f kj2 a0).bind fun bt150 => (if bt150.1 = 1 then (mandrelref04_Sign.j1 kj2 a0 t148 t149 bt150.1 true) else (mandrelref04_Sign.j1 kj2 a0 t148 t149 bt150.1 (bt150.1 == 2)))) = some (r1, r2, r3) := H
   have A7 := Aside0.mk A70
   clear A70
   replace H := Option.bind_eq_some_iff.mp H
   obtain ⟨⟨t150, t151⟩, A80, H⟩ := H
   replace H : (if t150 = 1 then (mandrelref04_Sign.j1 kj2 a0 t148 t149 t150 true) else (mandrelref04_Sign.j1 kj2 a0 t148 t149 t150 (t150 == 2))) = some (r1, r2, r3) := H
   have A8 := Aside0.mk A80
   clear A80
   have HC9 := Aside0.mk H
   clear H
   go_upto_region 6 with (first | ((with_reducible refine gate_callee (f := 107) rfl ?_); refine goesL_ (some 21) rfl rfl Tryz.func107 Q0 rfl #[.string t148] rfl Q9 ?_; (with_reducible refine (mandrelref04_Kind.calls t148 t149 _ ?side1 A7.out).mono ?_); (case side1 => exact GG.nil _); rintro e w' ⟨rfl, ⟨nd, rfl⟩⟩; refine ⟨_, rfl, ?_⟩) | ((with_reducible refine gate_callee (f := 92) rfl ?_); refine goesL_ (some 24) rfl rfl Tryz.func92 Q0 rfl #[.int .u8 a0] rfl Q9 ?_; (with_reducible refine (mandrelref04_Form.calls kj2 a0 t150 t151 _ ?side1 A8.out).mono ?_); (case side1 => exact GG.nil _); rintro e w10 ⟨rfl, hb⟩; refine ⟨_, rfl, ?_⟩; have n0_ := Aside0.mk (below_step Q1 hb); clear HB; have HB := n0_; clear n0_; (try clear hb); (try clear hb2); (try clear hk); (try clear hi)))
   (try simp only [Act.put, List.setIfInBounds_toArray, List.set_cons_zero, List.set_cons_succ])
   go_cut [27] (fun v27 wc => ∃ (kq : Nat) (x27_8 : Bool), v27 = .bool x27_8 ∧ Aside0 (mandrelref04_Sign.j1 kq a0 t148 t149 t150 x27_8 = some (r1, r2, r3)) ∧ Aside0 (kq ≤ kj2) ∧ Aside0 (Below w.heap.size w wc))
   case first =>
    have H := HC9.out
    clear HC9
    by_cases c11 : t150 = 1
    ·rw [if_pos c11] at H
     have c11b0 : (t150 == 1) = true := beq_iff_eq.mpr c11
     have c11b1 : (t150 != 1) = false := bne_eq_false_iff_eq.mpr c11
     clear c11
     (first | rw [c11b0] | (simp only [i64_w, i32_w]; rw [c11b0]) | skip)
     have H' := Aside0.mk H
     clear H
     go_wp2
     go_meet
     case rel => exact ⟨_, (true), Q3, H', ⟨Q81⟩, ⟨Q1⟩⟩
    rw [if_neg c11] at H
    have c11b0 : (t150 == 1) = false := beq_eq_false_iff_ne.mpr c11
    have c11b1 : (t150 != 1) = true := bne_iff_ne.mpr c11
    (first | rw [c11b0] | (simp only [i64_w, i32_w]; rw [c11b0]) | skip)
    have H' := Aside0.mk H
    clear H
    go_wp2
    go_meet
    case rel => exact ⟨_, ((t150 == 2)), Q3, H', ⟨Q81⟩, ⟨Q1⟩⟩
   case rest =>
    clear HC9
    try clear c6
    obtain ⟨kq, x27_8, rfl, HA, HJ8, HB⟩ := hcut
    cases kq with
    | zero => exact absurd HA.out (by simp [mandrelref04_Sign.j1])
    | succ kj8 =>
     have H := HA.out
     clear HA
     simp only [mandrelref04_Sign.j1] at H
     by_cases c12 : x27_8 = true
     ·subst c12
      have H1 : (some (([] : List Int), t149, true)) = some (r1, r2, r3) := Q14
      clear H
      have H := H1
      clear H1
      simp only [Option.some.injEq, Prod.mk.injEq] at H
      obtain ⟨rfl, rfl, rfl⟩ := H
      go_wp2
      go_ret3
      exact ⟨_, Q6, Q54, Q1⟩
     replace c12 := Bool.eq_false_iff.mpr c12
     subst c12
     have H1 : (if t148.toList = ([109, 101, 109, 111, 114, 121, 46, 115, 105, 122, 101] : List UInt8) then (some (([] : List Int), 127, true)) else (if t148.toList = ([109, 101, 109, 111, 114, 121, 46, 103, 114, 111, 119] : List UInt8) then (some ((([127] : List Int)), 127, true)) else (if t150 = 4 then (if 4 ≤ (t148.size : Int) then ((mandrelref04_has.f (t148.extract 4 t148.size) (⟨#[108, 111, 97, 100]⟩ : ByteArray)).bind fun t155 => (mandrelref04_Sign.j2 kj8 a0 t149 t150 t155)) else (none)) else (mandrelref04_Sign.j2 kj8 a0 t149 t150 false)))) = some (r1, r2, r3) := by rw [if_neg (show ¬ (false = true) by decide)] at H; exact H
     clear H
     have H := H1
     clear H1
     by_cases c13 : t148.toList = ([109, 101, 109, 111, 114, 121, 46, 115, 105, 122, 101] : List UInt8)
     ·rw [if_pos c13] at H
      have c13b0 : (t148.toList == ([109, 101, 109, 111, 114, 121, 46, 115, 105, 122, 101] : List UInt8)) = true := beq_iff_eq.mpr c13
      have c13b1 : (t148.toList != ([109, 101, 109, 111, 114, 121, 46, 115, 105, 122, 101] : List UInt8)) = false := bne_eq_false_iff_eq.mpr c13
      clear c13
      simp only [Option.some.injEq, Prod.mk.injEq] at H
      obtain ⟨rfl, rfl, rfl⟩ := H
      go_wp2
      go_ret3
      exact ⟨_, Q6, Q54, Q1⟩
     rw [if_neg c13] at H
     have c13b0 : (t148.toList == ([109, 101, 109, 111, 114, 121, 46, 115, 105, 122, 101] : List UInt8)) = false := beq_eq_false_iff_ne.mpr c13
     have c13b1 : (t148.toList != ([109, 101, 109, 111, 114, 121, 46, 115, 105, 122, 101] : List UInt8)) = true := bne_iff_ne.mpr c13
     by_cases c14 : t148.toList = ([109, 101, 109, 111, 114, 121, 46, 103, 114, 111, 119] : List UInt8)
     ·rw [if_pos c14] at H
      have c14b0 : (t148.toList == ([109, 101, 109, 111, 114, 121, 46, 103, 114, 111, 119] : List UInt8)) = true := beq_iff_eq.mpr c14
      have c14b1 : (t148.toList != ([109, 101, 109, 111, 114, 121, 46, 103, 114, 111, 119] : List UInt8)) = false := bne_eq_false_iff_eq.mpr c14
      clear c14
      obtain ⟨y152, hy152⟩ : ∃ y_ : List Int, y_ = (([127] : List Int)) := ⟨_, rfl⟩
      replace H : (some (y152, 127, true)) = some (r1, r2, r3) := by first | (rw [hy152]; with_reducible exact H) | (have H2_ := (Option.bind_some _ _).symm.trans H; rw [hy152]; with_reducible exact H2_) | (have H2_ := (Option.bind_some _ _).symm.trans H; with_reducible exact H2_) | with_reducible exact H | (rw [hy152]; exact H) | exact H
      have Ny152 := Aside0.mk hy152
      clear hy152
      simp only [Option.some.injEq, Prod.mk.injEq] at H
      obtain ⟨rfl, rfl, rfl⟩ := H
      go_wp2_with (first | ((with_reducible refine gate_dst (N := 41) rfl ?_); refine Kd.R_lit (Kd.int .u8) _ 5 ?hg (N := 41) ?hd (xs := ([127] : List Int)) (inner := [.int .u8 127]) (ok := fun _ => True) (okp := fun _ => True) ?hr ?hp (fun _ hk => hk) trivial (Below.refl _ _) (Nat.le_refl _) Q8 ?_; (case hd => rfl); (case hg => rfl); (case hr => first | (go_simp; done) | (go_simp; rfl)); (case hp => exact (Reps.one (show Kd.M (Kd.int .u8) _ _ _ 127 [.int .u8 127] from rfl) (Reps.none _ _))); intro v153 w15 ho16 hb hg_ hnew_; clear hg_ hnew_; (first | rw [← Ny152.out] at ho16 | (simp only [Int.reduceToNat] at ho16; rw [← Ny152.out] at ho16)); have n0_ := Aside0.mk (Kd.R_lower ho16 (below_size Q1)); have n1_ := Aside0.mk (below_step Q1 hb); clear HB; have HO154 := n0_; have HB := n1_; clear n0_ n1_; clear hb ho16))
      go_ret3
      exact ⟨_, Q6, by (with_reducible repeat (first | apply Kd.R_alloc | apply Kd.R_drewN | apply Kd.R_drew)); exact HO154.out, Q1⟩
     rw [if_neg c14] at H
     have c14b0 : (t148.toList == ([109, 101, 109, 111, 114, 121, 46, 103, 114, 111, 119] : List UInt8)) = false := beq_eq_false_iff_ne.mpr c14
     have c14b1 : (t148.toList != ([109, 101, 109, 111, 114, 121, 46, 103, 114, 111, 119] : List UInt8)) = true := bne_iff_ne.mpr c14
     have HC17 := Aside0.mk H
     clear H
     go_upto_region 12 with (fail)
     go_cut [42] (fun v42 wc => ∃ (kq : Nat) (x42_16 : Bool), v42 = .bool x42_16 ∧ Aside0 (mandrelref04_Sign.j2 kq a0 t149 t150 x42_16 = some (r1, r2, r3)) ∧ Aside0 (kq ≤ kj8) ∧ Aside0 (Below w.heap.size w wc))
     case first =>
      have H := HC17.out
      clear HC17
      by_cases c18 : t150 = 4
      ·rw [if_pos c18] at H
       have c18b0 : (t150 == 4) = true := beq_iff_eq.mpr c18
       have c18b1 : (t150 != 4) = false := bne_eq_false_iff_eq.mpr c18
       clear c18
       (first | rw [c18b0] | (simp only [i64_w, i32_w]; rw [c18b0]) | skip)
       by_cases c19 : 4 ≤ (t148.size : Int)
       ·rw [if_pos c19] at H
        have c19b0 := eq_true c19
        have c19b1 : decide (4 ≤ (t148.size : Int)) = true := decide_eq_true c19
        clear c19
        replace H := Option.bind_eq_some_iff.mp H
        obtain ⟨t155, A200, H⟩ := H
        replace H : (mandrelref04_Sign.j2 kj8 a0 t149 t150 t155) = some (r1, r2, r3) := H
        have A20 := Aside0.mk A200
        clear A200
        have H' := Aside0.mk H
        clear H
        go_wp2_with (first | (go_at_call 108; (with_reducible refine (mandrelref04_has.calls (t148.extract 4 t148.size) (⟨#[108, 111, 97, 100]⟩ : ByteArray) t155 _ ?side1 A20.out).mono ?_); (case side1 => exact GG.nil _); rintro e w' ⟨rfl, ⟨nd, rfl⟩⟩))
        go_meet
        case rel => exact ⟨_, (t155), Q3, H', ⟨by have := HJ2.out; have := HJ8.out; first | omega | exact Nat.le_refl _⟩, ⟨Q1⟩⟩
       rw [if_neg c19] at H
       exact absurd H Q8
      rw [if_neg c18] at H
      have c18b0 : (t150 == 4) = false := beq_eq_false_iff_ne.mpr c18
      have c18b1 : (t150 != 4) = true := bne_iff_ne.mpr c18
      (first | rw [c18b0] | (simp only [i64_w, i32_w]; rw [c18b0]) | skip)
      have H' := Aside0.mk H
      clear H
      go_wp2
      go_meet
      case rel => exact ⟨_, (false), Q3, H', ⟨by have := HJ2.out; have := HJ8.out; first | omega | exact Nat.le_refl _⟩, ⟨Q1⟩⟩
     case rest =>
      clear HC17
      try clear c6
      try clear c12
      try clear c13
      try clear c13b0
      try clear c13b1
      try clear c14
      try clear c14b0
      try clear c14b1
      obtain ⟨kq, x42_16, rfl, HA, HJ16, HB⟩ := hcut
      cases kq with
      | zero => exact absurd HA.out (by simp [mandrelref04_Sign.j2])
      | succ kj16 =>
       have H := HA.out
       clear HA
       simp only [mandrelref04_Sign.j2] at H
       by_cases c21 : x42_16 = true
       ·subst c21
        have H1 : (some ((([127] : List Int)), t149, true)) = some (r1, r2, r3) := Q14
        clear H
        have H := H1
        clear H1
        obtain ⟨y156, hy156⟩ : ∃ y_ : List Int, y_ = (([127] : List Int)) := ⟨_, rfl⟩
        replace H : (some (y156, t149, true)) = some (r1, r2, r3) := by first | (rw [hy156]; with_reducible exact H) | (have H2_ := (Option.bind_some _ _).symm.trans H; rw [hy156]; with_reducible exact H2_) | (have H2_ := (Option.bind_some _ _).symm.trans H; with_reducible exact H2_) | with_reducible exact H | (rw [hy156]; exact H) | exact H
        have Ny156 := Aside0.mk hy156
        clear hy156
        simp only [Option.some.injEq, Prod.mk.injEq] at H
        obtain ⟨rfl, rfl, rfl⟩ := H
        go_wp2_with (first | ((with_reducible refine gate_dst (N := 50) rfl ?_); refine Kd.R_lit (Kd.int .u8) _ 5 ?hg (N := 50) ?hd (xs := ([127] : List Int)) (inner := [.int .u8 127]) (ok := fun _ => True) (okp := fun _ => True) ?hr ?hp (fun _ hk => hk) trivial (Below.refl _ _) (Nat.le_refl _) Q8 ?_; (case hd => rfl); (case hg => rfl); (case hr => first | (go_simp; done) | (go_simp; rfl)); (case hp => exact (Reps.one (show Kd.M (Kd.int .u8) _ _ _ 127 [.int .u8 127] from rfl) (Reps.none _ _))); intro v157 w22 ho23 hb hg_ hnew_; clear hg_ hnew_; (first | rw [← Ny156.out] at ho23 | (simp only [Int.reduceToNat] at ho23; rw [← Ny156.out] at ho23)); have n0_ := Aside0.mk (Kd.R_lower ho23 (below_size Q1)); have n1_ := Aside0.mk (below_step Q1 hb); clear HB; have HO158 := n0_; have HB := n1_; clear n0_ n1_; clear hb ho23))
        go_ret3
        exact ⟨_, Q6, by (with_reducible repeat (first | apply Kd.R_alloc | apply Kd.R_drewN | apply Kd.R_drew)); exact HO158.out, Q1⟩
       replace c21 := Bool.eq_false_iff.mpr c21
       subst c21
       have H1 : (if t150 = 4 then (some ((([127, t149] : List Int)), 0, true)) else ((mandrelref02_Name.f kj16 a0).bind fun bt162 => (if bt162.2 = 64 then (mandrelref04_Sign.j3 kj16 bt162.1 126) else (mandrelref04_Sign.j3 kj16 bt162.1 127)))) = some (r1, r2, r3) := by rw [if_neg (show ¬ (false = true) by decide)] at H; exact H
       clear H
       have H := H1
       clear H1
       by_cases c24 : t150 = 4
       ·rw [if_pos c24] at H
        have c24b0 : (t150 == 4) = true := beq_iff_eq.mpr c24
        have c24b1 : (t150 != 4) = false := bne_eq_false_iff_eq.mpr c24
        clear c24
        obtain ⟨y159, hy159⟩ : ∃ y_ : List Int, y_ = (([127, t149] : List Int)) := ⟨_, rfl⟩
        replace H : (some (y159, 0, true)) = some (r1, r2, r3) := by first | (rw [hy159]; with_reducible exact H) | (have H2_ := (Option.bind_some _ _).symm.trans H; rw [hy159]; with_reducible exact H2_) | (have H2_ := (Option.bind_some _ _).symm.trans H; with_reducible exact H2_) | with_reducible exact H | (rw [hy159]; exact H) | exact H
        have Ny159 := Aside0.mk hy159
        clear hy159
        simp only [Option.some.injEq, Prod.mk.injEq] at H
        obtain ⟨rfl, rfl, rfl⟩ := H
        go_wp2_with (first | ((with_reducible refine gate_dst (N := 56) rfl ?_); refine Kd.R_lit (Kd.int .u8) _ 5 ?hg (N := 56) ?hd (xs := ([127, t149] : List Int)) (inner := [.int .u8 127, .int .u8 t149]) (ok := fun _ => True) (okp := fun _ => True) ?hr ?hp (fun _ hk => hk) trivial (Below.refl _ _) (Nat.le_refl _) Q8 ?_; (case hd => rfl); (case hg => rfl); (case hr => first | (go_simp; done) | (go_simp; rfl)); (case hp => exact (Reps.one (show Kd.M (Kd.int .u8) _ _ _ 127 [.int .u8 127] from rfl) (Reps.one (show Kd.M (Kd.int .u8) _ _ _ t149 [.int .u8 t149] from rfl) (Reps.none _ _)))); intro v160 w25 ho26 hb hg_ hnew_; clear hg_ hnew_; (first | rw [← Ny159.out] at ho26 | (simp only [Int.reduceToNat] at ho26; rw [← Ny159.out] at ho26)); have n0_ := Aside0.mk (Kd.R_lower ho26 (below_size Q1)); have n1_ := Aside0.mk (below_step Q1 hb); clear HB; have HO161 := n0_; have HB := n1_; clear n0_ n1_; clear hb ho26))
        go_ret3
        exact ⟨_, Q6, by (with_reducible repeat (first | apply Kd.R_alloc | apply Kd.R_drewN | apply Kd.R_drew)); exact HO161.out, Q1⟩
       rw [if_neg c24] at H
       have c24b0 : (t150 == 4) = false := beq_eq_false_iff_ne.mpr c24
       have c24b1 : (t150 != 4) = true := bne_iff_ne.mpr c24
       replace H := Option.bind_eq_some_iff.mp H
       obtain ⟨⟨t162, t163⟩, A270, H⟩ := H
       replace H : (if t163 = 64 then (mandrelref04_Sign.j3 kj16 t162 126) else (mandrelref04_Sign.j3 kj16 t162 127)) = some (r1, r2, r3) := H
       have A27 := Aside0.mk A270
       clear A270
       have HC28 := Aside0.mk H
       clear H
       go_upto_if 63 with (first | ((with_reducible refine gate_callee (f := 93) rfl ?_); refine goesL_ (some 59) rfl rfl Tryz.func93 Q0 rfl #[.int .u8 a0] rfl Q9 ?_; (with_reducible refine (mandrelref02_Name.calls kj16 a0 t162 t163 _ ?side1 A27.out).mono ?_); (case side1 => exact GG.nil _); rintro e w29 ⟨rfl, hb⟩; refine ⟨_, rfl, ?_⟩; have n0_ := Aside0.mk (below_step Q1 hb); clear HB; have HB := n0_; clear n0_; (try clear hb); (try clear hb2); (try clear hk); (try clear hi)))
       (try simp only [Act.put, List.setIfInBounds_toArray, List.set_cons_zero, List.set_cons_succ])
       go_cut [11] (fun v11 wc => ∃ (kq : Nat) (x11_27 : Int), v11 = .int .u8 x11_27 ∧ Aside0 (mandrelref04_Sign.j3 kq t162 x11_27 = some (r1, r2, r3)) ∧ Aside0 (kq ≤ kj16) ∧ Aside0 (Below w.heap.size w wc))
       case first =>
        have H := HC28.out
        clear HC28
        by_cases c30 : t163 = 64
        ·rw [if_pos c30] at H
         have c30b0 : (t163 == 64) = true := beq_iff_eq.mpr c30
         have c30b1 : (t163 != 64) = false := bne_eq_false_iff_eq.mpr c30
         clear c30
         (first | rw [c30b0] | (simp only [i64_w, i32_w]; rw [c30b0]) | skip)
         have H' := Aside0.mk H
         clear H
         go_wp2
         go_meet
         case rel => exact ⟨_, (126), Q3, H', ⟨Q148⟩, ⟨Q1⟩⟩
        rw [if_neg c30] at H
        have c30b0 : (t163 == 64) = false := beq_eq_false_iff_ne.mpr c30
        have c30b1 : (t163 != 64) = true := bne_iff_ne.mpr c30
        (first | rw [c30b0] | (simp only [i64_w, i32_w]; rw [c30b0]) | skip)
        have H' := Aside0.mk H
        clear H
        go_wp2
        go_meet
        case rel => exact ⟨_, (127), Q3, H', ⟨Q148⟩, ⟨Q1⟩⟩
       case rest =>
        clear HC28
        try clear c6
        try clear c12
        try clear c13
        try clear c13b0
        try clear c13b1
        try clear c14
        try clear c14b0
        try clear c14b1
        try clear c21
        try clear c24
        try clear c24b0
        try clear c24b1
        obtain ⟨kq, x11_27, rfl, HA, HJ27, HB⟩ := hcut
        cases kq with
        | zero => exact absurd HA.out (by simp [mandrelref04_Sign.j3])
        | succ kj27 =>
         have H := HA.out
         clear HA
         simp only [mandrelref04_Sign.j3] at H
         by_cases c31 : t162.toList = ([119, 114, 97, 112] : List UInt8)
         ·rw [if_pos c31] at H
          have c31b0 : (t162.toList == ([119, 114, 97, 112] : List UInt8)) = true := beq_iff_eq.mpr c31
          have c31b1 : (t162.toList != ([119, 114, 97, 112] : List UInt8)) = false := bne_eq_false_iff_eq.mpr c31
          clear c31
          obtain ⟨y164, hy164⟩ : ∃ y_ : List Int, y_ = (([126] : List Int)) := ⟨_, rfl⟩
          replace H : (some (y164, 127, true)) = some (r1, r2, r3) := by first | (rw [hy164]; with_reducible exact H) | (have H2_ := (Option.bind_some _ _).symm.trans H; rw [hy164]; with_reducible exact H2_) | (have H2_ := (Option.bind_some _ _).symm.trans H; with_reducible exact H2_) | with_reducible exact H | (rw [hy164]; exact H) | exact H
          have Ny164 := Aside0.mk hy164
          clear hy164
          simp only [Option.some.injEq, Prod.mk.injEq] at H
          obtain ⟨rfl, rfl, rfl⟩ := H
          go_wp2_with (first | ((with_reducible refine gate_dst (N := 67) rfl ?_); refine Kd.R_lit (Kd.int .u8) _ 5 ?hg (N := 67) ?hd (xs := ([126] : List Int)) (inner := [.int .u8 126]) (ok := fun _ => True) (okp := fun _ => True) ?hr ?hp (fun _ hk => hk) trivial (Below.refl _ _) (Nat.le_refl _) Q8 ?_; (case hd => rfl); (case hg => rfl); (case hr => first | (go_simp; done) | (go_simp; rfl)); (case hp => exact (Reps.one (show Kd.M (Kd.int .u8) _ _ _ 126 [.int .u8 126] from rfl) (Reps.none _ _))); intro v165 w32 ho33 hb hg_ hnew_; clear hg_ hnew_; (first | rw [← Ny164.out] at ho33 | (simp only [Int.reduceToNat] at ho33; rw [← Ny164.out] at ho33)); have n0_ := Aside0.mk (Kd.R_lower ho33 (below_size Q1)); have n1_ := Aside0.mk (below_step Q1 hb); clear HB; have HO166 := n0_; have HB := n1_; clear n0_ n1_; clear hb ho33))
          go_ret3
          exact ⟨_, Q6, by (with_reducible repeat (first | apply Kd.R_alloc | apply Kd.R_drewN | apply Kd.R_drew)); exact HO166.out, Q1⟩
         rw [if_neg c31] at H
         have c31b0 : (t162.toList == ([119, 114, 97, 112] : List UInt8)) = false := beq_eq_false_iff_ne.mpr c31
         have c31b1 : (t162.toList != ([119, 114, 97, 112] : List UInt8)) = true := bne_iff_ne.mpr c31
         have HC34 := Aside0.mk H
         clear H
         go_upto_if 68 with (fail)
         go_cut [68] (fun v68 wc => ∃ (kq : Nat) (x68_33 : Bool), v68 = .bool x68_33 ∧ Aside0 (mandrelref04_Sign.j4 kq x11_27 t162 x68_33 = some (r1, r2, r3)) ∧ Aside0 (kq ≤ kj27) ∧ Aside0 (Below w.heap.size w wc))
         case first =>
          have H := HC34.out
          clear HC34
          by_cases c35 : t162.toList = ([101, 120, 116, 101, 110, 100, 95, 115] : List UInt8)
          ·rw [if_pos c35] at H
           have c35b0 : (t162.toList == ([101, 120, 116, 101, 110, 100, 95, 115] : List UInt8)) = true := beq_iff_eq.mpr c35
           have c35b1 : (t162.toList != ([101, 120, 116, 101, 110, 100, 95, 115] : List UInt8)) = false := bne_eq_false_iff_eq.mpr c35
           clear c35
           (first | rw [c35b0] | (simp only [i64_w, i32_w]; rw [c35b0]) | skip)
           have H' := Aside0.mk H
           clear H
           go_wp2
           go_meet
           case rel => exact ⟨_, ((t162.toList == ([101, 120, 116, 101, 110, 100, 95, 115] : List UInt8))), Q3, H', ⟨Q149⟩, ⟨Q1⟩⟩
          rw [if_neg c35] at H
          have c35b0 : (t162.toList == ([101, 120, 116, 101, 110, 100, 95, 115] : List UInt8)) = false := beq_eq_false_iff_ne.mpr c35
          have c35b1 : (t162.toList != ([101, 120, 116, 101, 110, 100, 95, 115] : List UInt8)) = true := bne_iff_ne.mpr c35
          (first | rw [c35b0] | (simp only [i64_w, i32_w]; rw [c35b0]) | skip)
          have H' := Aside0.mk H
          clear H
          go_wp2
          go_meet
          case rel => exact ⟨_, ((t162.toList == ([101, 120, 116, 101, 110, 100, 95, 117] : List UInt8))), Q3, H', ⟨Q149⟩, ⟨Q1⟩⟩
         case rest =>
          clear HC34
          try clear c6
          try clear c12
          try clear c13
          try clear c13b0
          try clear c13b1
          try clear c14
          try clear c14b0
          try clear c14b1
          try clear c21
          try clear c24
          try clear c24b0
          try clear c24b1
          try clear c31
          try clear c31b0
          try clear c31b1
          obtain ⟨kq, x68_33, rfl, HA, HJ33, HB⟩ := hcut
          cases kq with
          | zero => exact absurd HA.out (by simp [mandrelref04_Sign.j4])
          | succ kj33 =>
           have H := HA.out
           clear HA
           simp only [mandrelref04_Sign.j4] at H
           by_cases c36 : x68_33 = true
           ·subst c36
            have H1 : (some ((([127] : List Int)), 126, true)) = some (r1, r2, r3) := Q14
            clear H
            have H := H1
            clear H1
            obtain ⟨y167, hy167⟩ : ∃ y_ : List Int, y_ = (([127] : List Int)) := ⟨_, rfl⟩
            replace H : (some (y167, 126, true)) = some (r1, r2, r3) := by first | (rw [hy167]; with_reducible exact H) | (have H2_ := (Option.bind_some _ _).symm.trans H; rw [hy167]; with_reducible exact H2_) | (have H2_ := (Option.bind_some _ _).symm.trans H; with_reducible exact H2_) | with_reducible exact H | (rw [hy167]; exact H) | exact H
            have Ny167 := Aside0.mk hy167
            clear hy167
            simp only [Option.some.injEq, Prod.mk.injEq] at H
            obtain ⟨rfl, rfl, rfl⟩ := H
            go_wp2_with (first | ((with_reducible refine gate_dst (N := 71) rfl ?_); refine Kd.R_lit (Kd.int .u8) _ 5 ?hg (N := 71) ?hd (xs := ([127] : List Int)) (inner := [.int .u8 127]) (ok := fun _ => True) (okp := fun _ => True) ?hr ?hp (fun _ hk => hk) trivial (Below.refl _ _) (Nat.le_refl _) Q8 ?_; (case hd => rfl); (case hg => rfl); (case hr => first | (go_simp; done) | (go_simp; rfl)); (case hp => exact (Reps.one (show Kd.M (Kd.int .u8) _ _ _ 127 [.int .u8 127] from rfl) (Reps.none _ _))); intro v168 w37 ho38 hb hg_ hnew_; clear hg_ hnew_; (first | rw [← Ny167.out] at ho38 | (simp only [Int.reduceToNat] at ho38; rw [← Ny167.out] at ho38)); have n0_ := Aside0.mk (Kd.R_lower ho38 (below_size Q1)); have n1_ := Aside0.mk (below_step Q1 hb); clear HB; have HO169 := n0_; have HB := n1_; clear n0_ n1_; clear hb ho38))
            go_ret3
            exact ⟨_, Q6, by (with_reducible repeat (first | apply Kd.R_alloc | apply Kd.R_drewN | apply Kd.R_drew)); exact HO169.out, Q1⟩
           replace c36 := Bool.eq_false_iff.mpr c36
           subst c36
           have H1 : (if t162.toList = ([101, 113, 122] : List UInt8) then (some ((([x11_27] : List Int)), 127, true)) else (if t162.toList = ([99, 108, 122] : List UInt8) then (mandrelref04_Sign.j5 kj33 x11_27 t162 (t162.toList == ([99, 108, 122] : List UInt8))) else (if t162.toList = ([99, 116, 122] : List UInt8) then (mandrelref04_Sign.j5 kj33 x11_27 t162 (t162.toList == ([99, 116, 122] : List UInt8))) else (mandrelref04_Sign.j5 kj33 x11_27 t162 (t162.toList == ([112, 111, 112, 99, 110, 116] : List UInt8)))))) = some (r1, r2, r3) := by rw [if_neg (show ¬ (false = true) by decide)] at H; exact H
           clear H
           have H := H1
           clear H1
           by_cases c39 : t162.toList = ([101, 113, 122] : List UInt8)
           ·rw [if_pos c39] at H
            have c39b0 : (t162.toList == ([101, 113, 122] : List UInt8)) = true := beq_iff_eq.mpr c39
            have c39b1 : (t162.toList != ([101, 113, 122] : List UInt8)) = false := bne_eq_false_iff_eq.mpr c39
            clear c39
            obtain ⟨y170, hy170⟩ : ∃ y_ : List Int, y_ = (([x11_27] : List Int)) := ⟨_, rfl⟩
            replace H : (some (y170, 127, true)) = some (r1, r2, r3) := by first | (rw [hy170]; with_reducible exact H) | (have H2_ := (Option.bind_some _ _).symm.trans H; rw [hy170]; with_reducible exact H2_) | (have H2_ := (Option.bind_some _ _).symm.trans H; with_reducible exact H2_) | with_reducible exact H | (rw [hy170]; exact H) | exact H
            have Ny170 := Aside0.mk hy170
            clear hy170
            simp only [Option.some.injEq, Prod.mk.injEq] at H
            obtain ⟨rfl, rfl, rfl⟩ := H
            go_wp2_with (first | ((with_reducible refine gate_dst (N := 75) rfl ?_); refine Kd.R_lit (Kd.int .u8) _ 5 ?hg (N := 75) ?hd (xs := ([x11_27] : List Int)) (inner := [.int .u8 x11_27]) (ok := fun _ => True) (okp := fun _ => True) ?hr ?hp (fun _ hk => hk) trivial (Below.refl _ _) (Nat.le_refl _) Q8 ?_; (case hd => rfl); (case hg => rfl); (case hr => first | (go_simp; done) | (go_simp; rfl)); (case hp => exact (Reps.one (show Kd.M (Kd.int .u8) _ _ _ x11_27 [.int .u8 x11_27] from rfl) (Reps.none _ _))); intro v171 w40 ho41 hb hg_ hnew_; clear hg_ hnew_; (first | rw [← Ny170.out] at ho41 | (simp only [Int.reduceToNat] at ho41; rw [← Ny170.out] at ho41)); have n0_ := Aside0.mk (Kd.R_lower ho41 (below_size Q1)); have n1_ := Aside0.mk (below_step Q1 hb); clear HB; have HO172 := n0_; have HB := n1_; clear n0_ n1_; clear hb ho41))
            go_ret3
            exact ⟨_, Q6, by (with_reducible repeat (first | apply Kd.R_alloc | apply Kd.R_drewN | apply Kd.R_drew)); exact HO172.out, Q1⟩
           rw [if_neg c39] at H
           have c39b0 : (t162.toList == ([101, 113, 122] : List UInt8)) = false := beq_eq_false_iff_ne.mpr c39
           have c39b1 : (t162.toList != ([101, 113, 122] : List UInt8)) = true := bne_iff_ne.mpr c39
           have HC42 := Aside0.mk H
           clear H
           go_upto_if 76 with (fail)
           go_cut [76] (fun v76 wc => ∃ (kq : Nat) (x76_41 : Bool), v76 = .bool x76_41 ∧ Aside0 (mandrelref04_Sign.j5 kq x11_27 t162 x76_41 = some (r1, r2, r3)) ∧ Aside0 (kq ≤ kj33) ∧ Aside0 (Below w.heap.size w wc))
           case first =>
            have H := HC42.out
            clear HC42
            by_cases c43 : t162.toList = ([99, 108, 122] : List UInt8)
            ·rw [if_pos c43] at H
             have c43b0 : (t162.toList == ([99, 108, 122] : List UInt8)) = true := beq_iff_eq.mpr c43
             have c43b1 : (t162.toList != ([99, 108, 122] : List UInt8)) = false := bne_eq_false_iff_eq.mpr c43
             clear c43
             (first | rw [c43b0] | (simp only [i64_w, i32_w]; rw [c43b0]) | skip)
             have H' := Aside0.mk H
             clear H
             go_wp2
             go_meet
             case rel => exact ⟨_, ((t162.toList == ([99, 108, 122] : List UInt8))), Q3, H', ⟨Q91⟩, ⟨Q1⟩⟩
            rw [if_neg c43] at H
            have c43b0 : (t162.toList == ([99, 108, 122] : List UInt8)) = false := beq_eq_false_iff_ne.mpr c43
            have c43b1 : (t162.toList != ([99, 108, 122] : List UInt8)) = true := bne_iff_ne.mpr c43
            (first | rw [c43b0] | (simp only [i64_w, i32_w]; rw [c43b0]) | skip)
            by_cases c44 : t162.toList = ([99, 116, 122] : List UInt8)
            ·rw [if_pos c44] at H
             have c44b0 : (t162.toList == ([99, 116, 122] : List UInt8)) = true := beq_iff_eq.mpr c44
             have c44b1 : (t162.toList != ([99, 116, 122] : List UInt8)) = false := bne_eq_false_iff_eq.mpr c44
             clear c44
             have H' := Aside0.mk H
             clear H
             go_wp2
             go_meet
             case rel => exact ⟨_, ((t162.toList == ([99, 116, 122] : List UInt8))), Q3, H', ⟨Q91⟩, ⟨Q1⟩⟩
            rw [if_neg c44] at H
            have c44b0 : (t162.toList == ([99, 116, 122] : List UInt8)) = false := beq_eq_false_iff_ne.mpr c44
            have c44b1 : (t162.toList != ([99, 116, 122] : List UInt8)) = true := bne_iff_ne.mpr c44
            have H' := Aside0.mk H
            clear H
            go_wp2
            go_meet
            case rel => exact ⟨_, ((t162.toList == ([112, 111, 112, 99, 110, 116] : List UInt8))), Q3, H', ⟨Q91⟩, ⟨Q1⟩⟩
           case rest =>
            clear HC42
            try clear c6
            try clear c12
            try clear c13
            try clear c13b0
            try clear c13b1
            try clear c14
            try clear c14b0
            try clear c14b1
            try clear c21
            try clear c24
            try clear c24b0
            try clear c24b1
            try clear c31
            try clear c31b0
            try clear c31b1
            try clear c36
            try clear c39
            try clear c39b0
            try clear c39b1
            obtain ⟨kq, x76_41, rfl, HA, HJ41, HB⟩ := hcut
            cases kq with
            | zero => exact absurd HA.out (by simp [mandrelref04_Sign.j5])
            | succ kj41 =>
             have H := HA.out
             clear HA
             simp only [mandrelref04_Sign.j5] at H
             by_cases c45 : x76_41 = true
             ·subst c45
              have H1 : (some ((([x11_27] : List Int)), x11_27, true)) = some (r1, r2, r3) := Q14
              clear H
              have H := H1
              clear H1
              obtain ⟨y173, hy173⟩ : ∃ y_ : List Int, y_ = (([x11_27] : List Int)) := ⟨_, rfl⟩
              replace H : (some (y173, x11_27, true)) = some (r1, r2, r3) := by first | (rw [hy173]; with_reducible exact H) | (have H2_ := (Option.bind_some _ _).symm.trans H; rw [hy173]; with_reducible exact H2_) | (have H2_ := (Option.bind_some _ _).symm.trans H; with_reducible exact H2_) | with_reducible exact H | (rw [hy173]; exact H) | exact H
              have Ny173 := Aside0.mk hy173
              clear hy173
              simp only [Option.some.injEq, Prod.mk.injEq] at H
              obtain ⟨rfl, rfl, rfl⟩ := H
              go_wp2_with (first | ((with_reducible refine gate_dst (N := 81) rfl ?_); refine Kd.R_lit (Kd.int .u8) _ 5 ?hg (N := 81) ?hd (xs := ([x11_27] : List Int)) (inner := [.int .u8 x11_27]) (ok := fun _ => True) (okp := fun _ => True) ?hr ?hp (fun _ hk => hk) trivial (Below.refl _ _) (Nat.le_refl _) Q8 ?_; (case hd => rfl); (case hg => rfl); (case hr => first | (go_simp; done) | (go_simp; rfl)); (case hp => exact (Reps.one (show Kd.M (Kd.int .u8) _ _ _ x11_27 [.int .u8 x11_27] from rfl) (Reps.none _ _))); intro v174 w46 ho47 hb hg_ hnew_; clear hg_ hnew_; (first | rw [← Ny173.out] at ho47 | (simp only [Int.reduceToNat] at ho47; rw [← Ny173.out] at ho47)); have n0_ := Aside0.mk (Kd.R_lower ho47 (below_size Q1)); have n1_ := Aside0.mk (below_step Q1 hb); clear HB; have HO175 := n0_; have HB := n1_; clear n0_ n1_; clear hb ho47))
              go_ret3
              exact ⟨_, Q6, by (with_reducible repeat (first | apply Kd.R_alloc | apply Kd.R_drewN | apply Kd.R_drew)); exact HO175.out, Q1⟩
             replace c45 := Bool.eq_false_iff.mpr c45
             subst c45
             have H1 : (if t162.toList = ([101, 113] : List UInt8) then (some ((([x11_27, x11_27] : List Int)), 127, true)) else (if t162.toList = ([110, 101] : List UInt8) then (some ((([x11_27, x11_27] : List Int)), 127, true)) else (if t162.toList = ([108, 116, 95, 115] : List UInt8) then (some ((([x11_27, x11_27] : List Int)), 127, true)) else (if t162.toList = ([108, 116, 95, 117] : List UInt8) then (some ((([x11_27, x11_27] : List Int)), 127, true)) else (if t162.toList = ([103, 116, 95, 115] : List UInt8) then (some ((([x11_27, x11_27] : List Int)), 127, true)) else (if t162.toList = ([103, 116, 95, 117] : List UInt8) then (some ((([x11_27, x11_27] : List Int)), 127, true)) else (if t162.toList = ([108, 101, 95, 115] : List UInt8) then (some ((([x11_27, x11_27] : List Int)), 127, true)) else (if t162.toList = ([108, 101, 95, 117] : List UInt8) then (some ((([x11_27, x11_27] : List Int)), 127, true)) else (if t162.toList = ([103, 101, 95, 115] : List UInt8) then (some ((([x11_27, x11_27] : List Int)), 127, true)) else (if t162.toList = ([103, 101, 95, 117] : List UInt8) then (some ((([x11_27, x11_27] : List Int)), 127, true)) else (some ((([x11_27, x11_27] : List Int)), x11_27, true)))))))))))) = some (r1, r2, r3) := by rw [if_neg (show ¬ (false = true) by decide)] at H; exact H
             clear H
             have H := H1
             clear H1
             by_cases c48 : t162.toList = ([101, 113] : List UInt8)
             ·rw [if_pos c48] at H
              have c48b0 : (t162.toList == ([101, 113] : List UInt8)) = true := beq_iff_eq.mpr c48
              have c48b1 : (t162.toList != ([101, 113] : List UInt8)) = false := bne_eq_false_iff_eq.mpr c48
              clear c48
              obtain ⟨y176, hy176⟩ : ∃ y_ : List Int, y_ = (([x11_27, x11_27] : List Int)) := ⟨_, rfl⟩
              replace H : (some (y176, 127, true)) = some (r1, r2, r3) := by first | (rw [hy176]; with_reducible exact H) | (have H2_ := (Option.bind_some _ _).symm.trans H; rw [hy176]; with_reducible exact H2_) | (have H2_ := (Option.bind_some _ _).symm.trans H; with_reducible exact H2_) | with_reducible exact H | (rw [hy176]; exact H) | exact H
              have Ny176 := Aside0.mk hy176
              clear hy176
              simp only [Option.some.injEq, Prod.mk.injEq] at H
              obtain ⟨rfl, rfl, rfl⟩ := H
              go_wp2_with (first | ((with_reducible refine gate_dst (N := 96) rfl ?_); refine Kd.R_lit (Kd.int .u8) _ 5 ?hg (N := 96) ?hd (xs := ([x11_27, x11_27] : List Int)) (inner := [.int .u8 x11_27, .int .u8 x11_27]) (ok := fun _ => True) (okp := fun _ => True) ?hr ?hp (fun _ hk => hk) trivial (Below.refl _ _) (Nat.le_refl _) Q8 ?_; (case hd => rfl); (case hg => rfl); (case hr => first | (go_simp; done) | (go_simp; rfl)); (case hp => exact (Reps.one (show Kd.M (Kd.int .u8) _ _ _ x11_27 [.int .u8 x11_27] from rfl) (Reps.one (show Kd.M (Kd.int .u8) _ _ _ x11_27 [.int .u8 x11_27] from rfl) (Reps.none _ _)))); intro v177 w49 ho50 hb hg_ hnew_; clear hg_ hnew_; (first | rw [← Ny176.out] at ho50 | (simp only [Int.reduceToNat] at ho50; rw [← Ny176.out] at ho50)); have n0_ := Aside0.mk (Kd.R_lower ho50 (below_size Q1)); have n1_ := Aside0.mk (below_step Q1 hb); clear HB; have HO178 := n0_; have HB := n1_; clear n0_ n1_; clear hb ho50))
              go_ret3
              exact ⟨_, Q6, by (with_reducible repeat (first | apply Kd.R_alloc | apply Kd.R_drewN | apply Kd.R_drew)); exact HO178.out, Q1⟩
             rw [if_neg c48] at H
             have c48b0 : (t162.toList == ([101, 113] : List UInt8)) = false := beq_eq_false_iff_ne.mpr c48
             have c48b1 : (t162.toList != ([101, 113] : List UInt8)) = true := bne_iff_ne.mpr c48
             by_cases c51 : t162.toList = ([110, 101] : List UInt8)
             ·rw [if_pos c51] at H
              have c51b0 : (t162.toList == ([110, 101] : List UInt8)) = true := beq_iff_eq.mpr c51
              have c51b1 : (t162.toList != ([110, 101] : List UInt8)) = false := bne_eq_false_iff_eq.mpr c51
              clear c51
              obtain ⟨y179, hy179⟩ : ∃ y_ : List Int, y_ = (([x11_27, x11_27] : List Int)) := ⟨_, rfl⟩
              replace H : (some (y179, 127, true)) = some (r1, r2, r3) := by first | (rw [hy179]; with_reducible exact H) | (have H2_ := (Option.bind_some _ _).symm.trans H; rw [hy179]; with_reducible exact H2_) | (have H2_ := (Option.bind_some _ _).symm.trans H; with_reducible exact H2_) | with_reducible exact H | (rw [hy179]; exact H) | exact H
              have Ny179 := Aside0.mk hy179
              clear hy179
              simp only [Option.some.injEq, Prod.mk.injEq] at H
              obtain ⟨rfl, rfl, rfl⟩ := H
              go_wp2_with (first | ((with_reducible refine gate_dst (N := 96) rfl ?_); refine Kd.R_lit (Kd.int .u8) _ 5 ?hg (N := 96) ?hd (xs := ([x11_27, x11_27] : List Int)) (inner := [.int .u8 x11_27, .int .u8 x11_27]) (ok := fun _ => True) (okp := fun _ => True) ?hr ?hp (fun _ hk => hk) trivial (Below.refl _ _) (Nat.le_refl _) Q8 ?_; (case hd => rfl); (case hg => rfl); (case hr => first | (go_simp; done) | (go_simp; rfl)); (case hp => exact (Reps.one (show Kd.M (Kd.int .u8) _ _ _ x11_27 [.int .u8 x11_27] from rfl) (Reps.one (show Kd.M (Kd.int .u8) _ _ _ x11_27 [.int .u8 x11_27] from rfl) (Reps.none _ _)))); intro v180 w52 ho53 hb hg_ hnew_; clear hg_ hnew_; (first | rw [← Ny179.out] at ho53 | (simp only [Int.reduceToNat] at ho53; rw [← Ny179.out] at ho53)); have n0_ := Aside0.mk (Kd.R_lower ho53 (below_size Q1)); have n1_ := Aside0.mk (below_step Q1 hb); clear HB; have HO181 := n0_; have HB := n1_; clear n0_ n1_; clear hb ho53))
              go_ret3
              exact ⟨_, Q6, by (with_reducible repeat (first | apply Kd.R_alloc | apply Kd.R_drewN | apply Kd.R_drew)); exact HO181.out, Q1⟩
             rw [if_neg c51] at H
             have c51b0 : (t162.toList == ([110, 101] : List UInt8)) = false := beq_eq_false_iff_ne.mpr c51
             have c51b1 : (t162.toList != ([110, 101] : List UInt8)) = true := bne_iff_ne.mpr c51
             by_cases c54 : t162.toList = ([108, 116, 95, 115] : List UInt8)
             ·rw [if_pos c54] at H
              have c54b0 : (t162.toList == ([108, 116, 95, 115] : List UInt8)) = true := beq_iff_eq.mpr c54
              have c54b1 : (t162.toList != ([108, 116, 95, 115] : List UInt8)) = false := bne_eq_false_iff_eq.mpr c54
              clear c54
              obtain ⟨y182, hy182⟩ : ∃ y_ : List Int, y_ = (([x11_27, x11_27] : List Int)) := ⟨_, rfl⟩
              replace H : (some (y182, 127, true)) = some (r1, r2, r3) := by first | (rw [hy182]; with_reducible exact H) | (have H2_ := (Option.bind_some _ _).symm.trans H; rw [hy182]; with_reducible exact H2_) | (have H2_ := (Option.bind_some _ _).symm.trans H; with_reducible exact H2_) | with_reducible exact H | (rw [hy182]; exact H) | exact H
              have Ny182 := Aside0.mk hy182
              clear hy182
              simp only [Option.some.injEq, Prod.mk.injEq] at H
              obtain ⟨rfl, rfl, rfl⟩ := H
              go_wp2_with (first | ((with_reducible refine gate_dst (N := 96) rfl ?_); refine Kd.R_lit (Kd.int .u8) _ 5 ?hg (N := 96) ?hd (xs := ([x11_27, x11_27] : List Int)) (inner := [.int .u8 x11_27, .int .u8 x11_27]) (ok := fun _ => True) (okp := fun _ => True) ?hr ?hp (fun _ hk => hk) trivial (Below.refl _ _) (Nat.le_refl _) Q8 ?_; (case hd => rfl); (case hg => rfl); (case hr => first | (go_simp; done) | (go_simp; rfl)); (case hp => exact (Reps.one (show Kd.M (Kd.int .u8) _ _ _ x11_27 [.int .u8 x11_27] from rfl) (Reps.one (show Kd.M (Kd.int .u8) _ _ _ x11_27 [.int .u8 x11_27] from rfl) (Reps.none _ _)))); intro v183 w55 ho56 hb hg_ hnew_; clear hg_ hnew_; (first | rw [← Ny182.out] at ho56 | (simp only [Int.reduceToNat] at ho56; rw [← Ny182.out] at ho56)); have n0_ := Aside0.mk (Kd.R_lower ho56 (below_size Q1)); have n1_ := Aside0.mk (below_step Q1 hb); clear HB; have HO184 := n0_; have HB := n1_; clear n0_ n1_; clear hb ho56))
              go_ret3
              exact ⟨_, Q6, by (with_reducible repeat (first | apply Kd.R_alloc | apply Kd.R_drewN | apply Kd.R_drew)); exact HO184.out, Q1⟩
             rw [if_neg c54] at H
             have c54b0 : (t162.toList == ([108, 116, 95, 115] : List UInt8)) = false := beq_eq_false_iff_ne.mpr c54
             have c54b1 : (t162.toList != ([108, 116, 95, 115] : List UInt8)) = true := bne_iff_ne.mpr c54
             by_cases c57 : t162.toList = ([108, 116, 95, 117] : List UInt8)
             ·rw [if_pos c57] at H
              have c57b0 : (t162.toList == ([108, 116, 95, 117] : List UInt8)) = true := beq_iff_eq.mpr c57
              have c57b1 : (t162.toList != ([108, 116, 95, 117] : List UInt8)) = false := bne_eq_false_iff_eq.mpr c57
              clear c57
              obtain ⟨y185, hy185⟩ : ∃ y_ : List Int, y_ = (([x11_27, x11_27] : List Int)) := ⟨_, rfl⟩
              replace H : (some (y185, 127, true)) = some (r1, r2, r3) := by first | (rw [hy185]; with_reducible exact H) | (have H2_ := (Option.bind_some _ _).symm.trans H; rw [hy185]; with_reducible exact H2_) | (have H2_ := (Option.bind_some _ _).symm.trans H; with_reducible exact H2_) | with_reducible exact H | (rw [hy185]; exact H) | exact H
              have Ny185 := Aside0.mk hy185
              clear hy185
              simp only [Option.some.injEq, Prod.mk.injEq] at H
              obtain ⟨rfl, rfl, rfl⟩ := H
              go_wp2_with (first | ((with_reducible refine gate_dst (N := 96) rfl ?_); refine Kd.R_lit (Kd.int .u8) _ 5 ?hg (N := 96) ?hd (xs := ([x11_27, x11_27] : List Int)) (inner := [.int .u8 x11_27, .int .u8 x11_27]) (ok := fun _ => True) (okp := fun _ => True) ?hr ?hp (fun _ hk => hk) trivial (Below.refl _ _) (Nat.le_refl _) Q8 ?_; (case hd => rfl); (case hg => rfl); (case hr => first | (go_simp; done) | (go_simp; rfl)); (case hp => exact (Reps.one (show Kd.M (Kd.int .u8) _ _ _ x11_27 [.int .u8 x11_27] from rfl) (Reps.one (show Kd.M (Kd.int .u8) _ _ _ x11_27 [.int .u8 x11_27] from rfl) (Reps.none _ _)))); intro v186 w58 ho59 hb hg_ hnew_; clear hg_ hnew_; (first | rw [← Ny185.out] at ho59 | (simp only [Int.reduceToNat] at ho59; rw [← Ny185.out] at ho59)); have n0_ := Aside0.mk (Kd.R_lower ho59 (below_size Q1)); have n1_ := Aside0.mk (below_step Q1 hb); clear HB; have HO187 := n0_; have HB := n1_; clear n0_ n1_; clear hb ho59))
              go_ret3
              exact ⟨_, Q6, by (with_reducible repeat (first | apply Kd.R_alloc | apply Kd.R_drewN | apply Kd.R_drew)); exact HO187.out, Q1⟩
             rw [if_neg c57] at H
             have c57b0 : (t162.toList == ([108, 116, 95, 117] : List UInt8)) = false := beq_eq_false_iff_ne.mpr c57
             have c57b1 : (t162.toList != ([108, 116, 95, 117] : List UInt8)) = true := bne_iff_ne.mpr c57
             by_cases c60 : t162.toList = ([103, 116, 95, 115] : List UInt8)
             ·rw [if_pos c60] at H
              have c60b0 : (t162.toList == ([103, 116, 95, 115] : List UInt8)) = true := beq_iff_eq.mpr c60
              have c60b1 : (t162.toList != ([103, 116, 95, 115] : List UInt8)) = false := bne_eq_false_iff_eq.mpr c60
              clear c60
              obtain ⟨y188, hy188⟩ : ∃ y_ : List Int, y_ = (([x11_27, x11_27] : List Int)) := ⟨_, rfl⟩
              replace H : (some (y188, 127, true)) = some (r1, r2, r3) := by first | (rw [hy188]; with_reducible exact H) | (have H2_ := (Option.bind_some _ _).symm.trans H; rw [hy188]; with_reducible exact H2_) | (have H2_ := (Option.bind_some _ _).symm.trans H; with_reducible exact H2_) | with_reducible exact H | (rw [hy188]; exact H) | exact H
              have Ny188 := Aside0.mk hy188
              clear hy188
              simp only [Option.some.injEq, Prod.mk.injEq] at H
              obtain ⟨rfl, rfl, rfl⟩ := H
              go_wp2_with (first | ((with_reducible refine gate_dst (N := 96) rfl ?_); refine Kd.R_lit (Kd.int .u8) _ 5 ?hg (N := 96) ?hd (xs := ([x11_27, x11_27] : List Int)) (inner := [.int .u8 x11_27, .int .u8 x11_27]) (ok := fun _ => True) (okp := fun _ => True) ?hr ?hp (fun _ hk => hk) trivial (Below.refl _ _) (Nat.le_refl _) Q8 ?_; (case hd => rfl); (case hg => rfl); (case hr => first | (go_simp; done) | (go_simp; rfl)); (case hp => exact (Reps.one (show Kd.M (Kd.int .u8) _ _ _ x11_27 [.int .u8 x11_27] from rfl) (Reps.one (show Kd.M (Kd.int .u8) _ _ _ x11_27 [.int .u8 x11_27] from rfl) (Reps.none _ _)))); intro v189 w61 ho62 hb hg_ hnew_; clear hg_ hnew_; (first | rw [← Ny188.out] at ho62 | (simp only [Int.reduceToNat] at ho62; rw [← Ny188.out] at ho62)); have n0_ := Aside0.mk (Kd.R_lower ho62 (below_size Q1)); have n1_ := Aside0.mk (below_step Q1 hb); clear HB; have HO190 := n0_; have HB := n1_; clear n0_ n1_; clear hb ho62))
              go_ret3
              exact ⟨_, Q6, by (with_reducible repeat (first | apply Kd.R_alloc | apply Kd.R_drewN | apply Kd.R_drew)); exact HO190.out, Q1⟩
             rw [if_neg c60] at H
             have c60b0 : (t162.toList == ([103, 116, 95, 115] : List UInt8)) = false := beq_eq_false_iff_ne.mpr c60
             have c60b1 : (t162.toList != ([103, 116, 95, 115] : List UInt8)) = true := bne_iff_ne.mpr c60
             by_cases c63 : t162.toList = ([103, 116, 95, 117] : List UInt8)
             ·rw [if_pos c63] at H
              have c63b0 : (t162.toList == ([103, 116, 95, 117] : List UInt8)) = true := beq_iff_eq.mpr c63
              have c63b1 : (t162.toList != ([103, 116, 95, 117] : List UInt8)) = false := bne_eq_false_iff_eq.mpr c63
              clear c63
              obtain ⟨y191, hy191⟩ : ∃ y_ : List Int, y_ = (([x11_27, x11_27] : List Int)) := ⟨_, rfl⟩
              replace H : (some (y191, 127, true)) = some (r1, r2, r3) := by first | (rw [hy191]; with_reducible exact H) | (have H2_ := (Option.bind_some _ _).symm.trans H; rw [hy191]; with_reducible exact H2_) | (have H2_ := (Option.bind_some _ _).symm.trans H; with_reducible exact H2_) | with_reducible exact H | (rw [hy191]; exact H) | exact H
              have Ny191 := Aside0.mk hy191
              clear hy191
              simp only [Option.some.injEq, Prod.mk.injEq] at H
              obtain ⟨rfl, rfl, rfl⟩ := H
              go_wp2_with (first | ((with_reducible refine gate_dst (N := 96) rfl ?_); refine Kd.R_lit (Kd.int .u8) _ 5 ?hg (N := 96) ?hd (xs := ([x11_27, x11_27] : List Int)) (inner := [.int .u8 x11_27, .int .u8 x11_27]) (ok := fun _ => True) (okp := fun _ => True) ?hr ?hp (fun _ hk => hk) trivial (Below.refl _ _) (Nat.le_refl _) Q8 ?_; (case hd => rfl); (case hg => rfl); (case hr => first | (go_simp; done) | (go_simp; rfl)); (case hp => exact (Reps.one (show Kd.M (Kd.int .u8) _ _ _ x11_27 [.int .u8 x11_27] from rfl) (Reps.one (show Kd.M (Kd.int .u8) _ _ _ x11_27 [.int .u8 x11_27] from rfl) (Reps.none _ _)))); intro v192 w64 ho65 hb hg_ hnew_; clear hg_ hnew_; (first | rw [← Ny191.out] at ho65 | (simp only [Int.reduceToNat] at ho65; rw [← Ny191.out] at ho65)); have n0_ := Aside0.mk (Kd.R_lower ho65 (below_size Q1)); have n1_ := Aside0.mk (below_step Q1 hb); clear HB; have HO193 := n0_; have HB := n1_; clear n0_ n1_; clear hb ho65))
              go_ret3
              exact ⟨_, Q6, by (with_reducible repeat (first | apply Kd.R_alloc | apply Kd.R_drewN | apply Kd.R_drew)); exact HO193.out, Q1⟩
             rw [if_neg c63] at H
             have c63b0 : (t162.toList == ([103, 116, 95, 117] : List UInt8)) = false := beq_eq_false_iff_ne.mpr c63
             have c63b1 : (t162.toList != ([103, 116, 95, 117] : List UInt8)) = true := bne_iff_ne.mpr c63
             by_cases c66 : t162.toList = ([108, 101, 95, 115] : List UInt8)
             ·rw [if_pos c66] at H
              have c66b0 : (t162.toList == ([108, 101, 95, 115] : List UInt8)) = true := beq_iff_eq.mpr c66
              have c66b1 : (t162.toList != ([108, 101, 95, 115] : List UInt8)) = false := bne_eq_false_iff_eq.mpr c66
              clear c66
              obtain ⟨y194, hy194⟩ : ∃ y_ : List Int, y_ = (([x11_27, x11_27] : List Int)) := ⟨_, rfl⟩
              replace H : (some (y194, 127, true)) = some (r1, r2, r3) := by first | (rw [hy194]; with_reducible exact H) | (have H2_ := (Option.bind_some _ _).symm.trans H; rw [hy194]; with_reducible exact H2_) | (have H2_ := (Option.bind_some _ _).symm.trans H; with_reducible exact H2_) | with_reducible exact H | (rw [hy194]; exact H) | exact H
              have Ny194 := Aside0.mk hy194
              clear hy194
              simp only [Option.some.injEq, Prod.mk.injEq] at H
              obtain ⟨rfl, rfl, rfl⟩ := H
              go_wp2_with (first | ((with_reducible refine gate_dst (N := 96) rfl ?_); refine Kd.R_lit (Kd.int .u8) _ 5 ?hg (N := 96) ?hd (xs := ([x11_27, x11_27] : List Int)) (inner := [.int .u8 x11_27, .int .u8 x11_27]) (ok := fun _ => True) (okp := fun _ => True) ?hr ?hp (fun _ hk => hk) trivial (Below.refl _ _) (Nat.le_refl _) Q8 ?_; (case hd => rfl); (case hg => rfl); (case hr => first | (go_simp; done) | (go_simp; rfl)); (case hp => exact (Reps.one (show Kd.M (Kd.int .u8) _ _ _ x11_27 [.int .u8 x11_27] from rfl) (Reps.one (show Kd.M (Kd.int .u8) _ _ _ x11_27 [.int .u8 x11_27] from rfl) (Reps.none _ _)))); intro v195 w67 ho68 hb hg_ hnew_; clear hg_ hnew_; (first | rw [← Ny194.out] at ho68 | (simp only [Int.reduceToNat] at ho68; rw [← Ny194.out] at ho68)); have n0_ := Aside0.mk (Kd.R_lower ho68 (below_size Q1)); have n1_ := Aside0.mk (below_step Q1 hb); clear HB; have HO196 := n0_; have HB := n1_; clear n0_ n1_; clear hb ho68))
              go_ret3
              exact ⟨_, Q6, by (with_reducible repeat (first | apply Kd.R_alloc | apply Kd.R_drewN | apply Kd.R_drew)); exact HO196.out, Q1⟩
             rw [if_neg c66] at H
             have c66b0 : (t162.toList == ([108, 101, 95, 115] : List UInt8)) = false := beq_eq_false_iff_ne.mpr c66
             have c66b1 : (t162.toList != ([108, 101, 95, 115] : List UInt8)) = true := bne_iff_ne.mpr c66
             by_cases c69 : t162.toList = ([108, 101, 95, 117] : List UInt8)
             ·rw [if_pos c69] at H
              have c69b0 : (t162.toList == ([108, 101, 95, 117] : List UInt8)) = true := beq_iff_eq.mpr c69
              have c69b1 : (t162.toList != ([108, 101, 95, 117] : List UInt8)) = false := bne_eq_false_iff_eq.mpr c69
              clear c69
              obtain ⟨y197, hy197⟩ : ∃ y_ : List Int, y_ = (([x11_27, x11_27] : List Int)) := ⟨_, rfl⟩
              replace H : (some (y197, 127, true)) = some (r1, r2, r3) := by first | (rw [hy197]; with_reducible exact H) | (have H2_ := (Option.bind_some _ _).symm.trans H; rw [hy197]; with_reducible exact H2_) | (have H2_ := (Option.bind_some _ _).symm.trans H; with_reducible exact H2_) | with_reducible exact H | (rw [hy197]; exact H) | exact H
              have Ny197 := Aside0.mk hy197
              clear hy197
              simp only [Option.some.injEq, Prod.mk.injEq] at H
              obtain ⟨rfl, rfl, rfl⟩ := H
              go_wp2_with (first | ((with_reducible refine gate_dst (N := 96) rfl ?_); refine Kd.R_lit (Kd.int .u8) _ 5 ?hg (N := 96) ?hd (xs := ([x11_27, x11_27] : List Int)) (inner := [.int .u8 x11_27, .int .u8 x11_27]) (ok := fun _ => True) (okp := fun _ => True) ?hr ?hp (fun _ hk => hk) trivial (Below.refl _ _) (Nat.le_refl _) Q8 ?_; (case hd => rfl); (case hg => rfl); (case hr => first | (go_simp; done) | (go_simp; rfl)); (case hp => exact (Reps.one (show Kd.M (Kd.int .u8) _ _ _ x11_27 [.int .u8 x11_27] from rfl) (Reps.one (show Kd.M (Kd.int .u8) _ _ _ x11_27 [.int .u8 x11_27] from rfl) (Reps.none _ _)))); intro v198 w70 ho71 hb hg_ hnew_; clear hg_ hnew_; (first | rw [← Ny197.out] at ho71 | (simp only [Int.reduceToNat] at ho71; rw [← Ny197.out] at ho71)); have n0_ := Aside0.mk (Kd.R_lower ho71 (below_size Q1)); have n1_ := Aside0.mk (below_step Q1 hb); clear HB; have HO199 := n0_; have HB := n1_; clear n0_ n1_; clear hb ho71))
              go_ret3
              exact ⟨_, Q6, by (with_reducible repeat (first | apply Kd.R_alloc | apply Kd.R_drewN | apply Kd.R_drew)); exact HO199.out, Q1⟩
             rw [if_neg c69] at H
             have c69b0 : (t162.toList == ([108, 101, 95, 117] : List UInt8)) = false := beq_eq_false_iff_ne.mpr c69
             have c69b1 : (t162.toList != ([108, 101, 95, 117] : List UInt8)) = true := bne_iff_ne.mpr c69
             by_cases c72 : t162.toList = ([103, 101, 95, 115] : List UInt8)
             ·rw [if_pos c72] at H
              have c72b0 : (t162.toList == ([103, 101, 95, 115] : List UInt8)) = true := beq_iff_eq.mpr c72
              have c72b1 : (t162.toList != ([103, 101, 95, 115] : List UInt8)) = false := bne_eq_false_iff_eq.mpr c72
              clear c72
              obtain ⟨y200, hy200⟩ : ∃ y_ : List Int, y_ = (([x11_27, x11_27] : List Int)) := ⟨_, rfl⟩
              replace H : (some (y200, 127, true)) = some (r1, r2, r3) := by first | (rw [hy200]; with_reducible exact H) | (have H2_ := (Option.bind_some _ _).symm.trans H; rw [hy200]; with_reducible exact H2_) | (have H2_ := (Option.bind_some _ _).symm.trans H; with_reducible exact H2_) | with_reducible exact H | (rw [hy200]; exact H) | exact H
              have Ny200 := Aside0.mk hy200
              clear hy200
              simp only [Option.some.injEq, Prod.mk.injEq] at H
              obtain ⟨rfl, rfl, rfl⟩ := H
              go_wp2_with (first | ((with_reducible refine gate_dst (N := 96) rfl ?_); refine Kd.R_lit (Kd.int .u8) _ 5 ?hg (N := 96) ?hd (xs := ([x11_27, x11_27] : List Int)) (inner := [.int .u8 x11_27, .int .u8 x11_27]) (ok := fun _ => True) (okp := fun _ => True) ?hr ?hp (fun _ hk => hk) trivial (Below.refl _ _) (Nat.le_refl _) Q8 ?_; (case hd => rfl); (case hg => rfl); (case hr => first | (go_simp; done) | (go_simp; rfl)); (case hp => exact (Reps.one (show Kd.M (Kd.int .u8) _ _ _ x11_27 [.int .u8 x11_27] from rfl) (Reps.one (show Kd.M (Kd.int .u8) _ _ _ x11_27 [.int .u8 x11_27] from rfl) (Reps.none _ _)))); intro v201 w73 ho74 hb hg_ hnew_; clear hg_ hnew_; (first | rw [← Ny200.out] at ho74 | (simp only [Int.reduceToNat] at ho74; rw [← Ny200.out] at ho74)); have n0_ := Aside0.mk (Kd.R_lower ho74 (below_size Q1)); have n1_ := Aside0.mk (below_step Q1 hb); clear HB; have HO202 := n0_; have HB := n1_; clear n0_ n1_; clear hb ho74))
              go_ret3
              exact ⟨_, Q6, by (with_reducible repeat (first | apply Kd.R_alloc | apply Kd.R_drewN | apply Kd.R_drew)); exact HO202.out, Q1⟩
             rw [if_neg c72] at H
             have c72b0 : (t162.toList == ([103, 101, 95, 115] : List UInt8)) = false := beq_eq_false_iff_ne.mpr c72
             have c72b1 : (t162.toList != ([103, 101, 95, 115] : List UInt8)) = true := bne_iff_ne.mpr c72
             by_cases c75 : t162.toList = ([103, 101, 95, 117] : List UInt8)
             ·rw [if_pos c75] at H
              have c75b0 : (t162.toList == ([103, 101, 95, 117] : List UInt8)) = true := beq_iff_eq.mpr c75
              have c75b1 : (t162.toList != ([103, 101, 95, 117] : List UInt8)) = false := bne_eq_false_iff_eq.mpr c75
              clear c75
              obtain ⟨y203, hy203⟩ : ∃ y_ : List Int, y_ = (([x11_27, x11_27] : List Int)) := ⟨_, rfl⟩
              replace H : (some (y203, 127, true)) = some (r1, r2, r3) := by first | (rw [hy203]; with_reducible exact H) | (have H2_ := (Option.bind_some _ _).symm.trans H; rw [hy203]; with_reducible exact H2_) | (have H2_ := (Option.bind_some _ _).symm.trans H; with_reducible exact H2_) | with_reducible exact H | (rw [hy203]; exact H) | exact H
              have Ny203 := Aside0.mk hy203
              clear hy203
              simp only [Option.some.injEq, Prod.mk.injEq] at H
              obtain ⟨rfl, rfl, rfl⟩ := H
              go_wp2_with (first | ((with_reducible refine gate_dst (N := 96) rfl ?_); refine Kd.R_lit (Kd.int .u8) _ 5 ?hg (N := 96) ?hd (xs := ([x11_27, x11_27] : List Int)) (inner := [.int .u8 x11_27, .int .u8 x11_27]) (ok := fun _ => True) (okp := fun _ => True) ?hr ?hp (fun _ hk => hk) trivial (Below.refl _ _) (Nat.le_refl _) Q8 ?_; (case hd => rfl); (case hg => rfl); (case hr => first | (go_simp; done) | (go_simp; rfl)); (case hp => exact (Reps.one (show Kd.M (Kd.int .u8) _ _ _ x11_27 [.int .u8 x11_27] from rfl) (Reps.one (show Kd.M (Kd.int .u8) _ _ _ x11_27 [.int .u8 x11_27] from rfl) (Reps.none _ _)))); intro v204 w76 ho77 hb hg_ hnew_; clear hg_ hnew_; (first | rw [← Ny203.out] at ho77 | (simp only [Int.reduceToNat] at ho77; rw [← Ny203.out] at ho77)); have n0_ := Aside0.mk (Kd.R_lower ho77 (below_size Q1)); have n1_ := Aside0.mk (below_step Q1 hb); clear HB; have HO205 := n0_; have HB := n1_; clear n0_ n1_; clear hb ho77))
              go_ret3
              exact ⟨_, Q6, by (with_reducible repeat (first | apply Kd.R_alloc | apply Kd.R_drewN | apply Kd.R_drew)); exact HO205.out, Q1⟩
             rw [if_neg c75] at H
             have c75b0 : (t162.toList == ([103, 101, 95, 117] : List UInt8)) = false := beq_eq_false_iff_ne.mpr c75
             have c75b1 : (t162.toList != ([103, 101, 95, 117] : List UInt8)) = true := bne_iff_ne.mpr c75
             obtain ⟨y206, hy206⟩ : ∃ y_ : List Int, y_ = (([x11_27, x11_27] : List Int)) := ⟨_, rfl⟩
             replace H : (some (y206, x11_27, true)) = some (r1, r2, r3) := by first | (rw [hy206]; with_reducible exact H) | (have H2_ := (Option.bind_some _ _).symm.trans H; rw [hy206]; with_reducible exact H2_) | (have H2_ := (Option.bind_some _ _).symm.trans H; with_reducible exact H2_) | with_reducible exact H | (rw [hy206]; exact H) | exact H
             have Ny206 := Aside0.mk hy206
             clear hy206
             simp only [Option.some.injEq, Prod.mk.injEq] at H
             obtain ⟨rfl, rfl, rfl⟩ := H
             go_wp2_with (first | ((with_reducible refine gate_dst (N := 99) rfl ?_); refine Kd.R_lit (Kd.int .u8) _ 5 ?hg (N := 99) ?hd (xs := ([x11_27, x11_27] : List Int)) (inner := [.int .u8 x11_27, .int .u8 x11_27]) (ok := fun _ => True) (okp := fun _ => True) ?hr ?hp (fun _ hk => hk) trivial (Below.refl _ _) (Nat.le_refl _) Q8 ?_; (case hd => rfl); (case hg => rfl); (case hr => first | (go_simp; done) | (go_simp; rfl)); (case hp => exact (Reps.one (show Kd.M (Kd.int .u8) _ _ _ x11_27 [.int .u8 x11_27] from rfl) (Reps.one (show Kd.M (Kd.int .u8) _ _ _ x11_27 [.int .u8 x11_27] from rfl) (Reps.none _ _)))); intro v207 w78 ho79 hb hg_ hnew_; clear hg_ hnew_; (first | rw [← Ny206.out] at ho79 | (simp only [Int.reduceToNat] at ho79; rw [← Ny206.out] at ho79)); have n0_ := Aside0.mk (Kd.R_lower ho79 (below_size Q1)); have n1_ := Aside0.mk (below_step Q1 hb); clear HB; have HO208 := n0_; have HB := n1_; clear n0_ n1_; clear hb ho79))
             go_ret3
             exact ⟨_, Q6, by (with_reducible repeat (first | apply Kd.R_alloc | apply Kd.R_drewN | apply Kd.R_drew)); exact HO208.out, Q1⟩
end Go.Proofs.YthgkeehpoilgaaaGreatDoor.Hw
end
